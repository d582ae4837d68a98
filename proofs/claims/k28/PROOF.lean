import PyProof.Rows.All
import PySem.Challenge.RW_themomentitturned_k28_whole_powers_and_r
import HandS.ForMost
import HandS.Wide
import HandS.IsInst
import HandS.TupMul
import HandS.TupAny
import HandS.Deep
import HandS.DeepEq
import HandS.SortInts
import HandS.Conv
import KE.GoesEnum
import KE.GoesMore
import KE.GoesZip
import KE.KRevSl
set_option Elab.async false
set_option linter.all false
set_option maxRecDepth 100000
set_option autoImplicit false
set_option maxHeartbeats 4000000
/-! DL: readings over plain data (values without a heap): frozen data, lists that a slot owns. -/
namespace DL
open PySem PySem.Spec PyProof.Rows L2

abbrev D := PyData

/-- a list that nobody changes any more -/
def FrL (H : Hp) (a : Addr) (xs : List V) : Prop := ∃ o, H a = some (.frz o (.lst xs))
theorem FrL.rd {H : Hp} {a : Addr} {xs : List V} (h : FrL H a xs) : Rd H a (.lst xs) := .inr h
theorem FrL.sq {K : PySem.W.Frag} {H : Hp} {a : Addr} {xs : List V} (h : FrL H a xs) : SqL K H a xs := .inl h.rd
mutual
/-- data that lies at a value and stays -/
inductive Fz (K : PySem.W.Frag) (H : Hp) : V → D → Prop
  | non : Fz K H .non .none
  | bl (b : Bool) : Fz K H (.bl b) (.bool b)
  | int (i : Int) : Fz K H (.int i) (.int i)
  | str (x : Str) : Fz K H (.str x) (.str x)
  | lst {a : Addr} {xs : List V} {ds : List D} : FrL H a xs → FzA K H xs ds → Fz K H (.ref a) (.list ds)
  | tup {a : Addr} {xs : List V} {ds : List D} : SqT K H a xs → FzA K H xs ds → Fz K H (.ref a) (.tuple ds)
inductive FzA (K : PySem.W.Frag) (H : Hp) : List V → List D → Prop
  | nil : FzA K H [] []
  | cons {v : V} {vs : List V} {d : D} {ds : List D} : Fz K H v d → FzA K H vs ds → FzA K H (v :: vs) (d :: ds)
end
/-- tuples and frozen things stay -/
structure FE (H H' : Hp) : Prop where
  tup : ∀ a xs, H a = some (.tup xs) → H' a = some (.tup xs)
  frz : ∀ a o u, H a = some (.frz o u) → H' a = some (.frz o u)
theorem FE.refl (H : Hp) : FE H H := ⟨fun _ _ h => h, fun _ _ _ h => h⟩
theorem FE.trans {H H1 H2 : Hp} (a : FE H H1) (b : FE H1 H2) : FE H H2 := ⟨fun x y h => b.tup x y (a.tup x y h), fun x y z h => b.frz x y z (a.frz x y z h)⟩
section
variable {K : PySem.W.Frag} {H H' : Hp}
theorem FrL.mono (e : FE H H') {a : Addr} {xs : List V} (h : FrL H a xs) : FrL H' a xs := by
  cases h with
  | intro o h => exact ⟨o, e.frz _ _ _ h⟩
theorem SqT.mono' (e : FE H H') {a : Addr} {xs : List V} (h : SqT K H a xs) : SqT K H' a xs := by
  rcases h with (h | ⟨o, h⟩) | h
  · exact .inl (.inl (e.tup _ _ h))
  · exact .inl (.inr ⟨o, e.frz _ _ _ h⟩)
  · exact .inr h
mutual
theorem Fz.mono (e : FE H H') : ∀ {v : V} {d : D}, Fz K H v d → Fz K H' v d
  | _, _, .non => .non
  | _, _, .bl b => .bl b
  | _, _, .int i => .int i
  | _, _, .str x => .str x
  | _, _, .lst h a => .lst (h.mono e) (FzA.mono e a)
  | _, _, .tup h a => .tup (SqT.mono' e h) (FzA.mono e a)
theorem FzA.mono (e : FE H H') : ∀ {vs : List V} {ds : List D}, FzA K H vs ds → FzA K H' vs ds
  | _, _, .nil => .nil
  | _, _, .cons h t => .cons (Fz.mono e h) (FzA.mono e t)
end
mutual
theorem Fz.dp : ∀ {v : V} {d : D}, Fz K H v d → Dp K H v d
  | _, _, .non => .non
  | _, _, .bl b => .bl b
  | _, _, .int i => .int i
  | _, _, .str x => .str x
  | _, _, .lst h a => .lst h.sq (FzA.dp a)
  | _, _, .tup h a => .tup h (FzA.dp a)
theorem FzA.dp : ∀ {vs : List V} {ds : List D}, FzA K H vs ds → DpAll K H vs ds
  | _, _, .nil => .nil
  | _, _, .cons h t => .cons (Fz.dp h) (FzA.dp t)
end
theorem FzA.length : ∀ {vs : List V} {ds : List D}, FzA K H vs ds → vs.length = ds.length
  | _, _, .nil => rfl
  | _, _, .cons _ t => by simp [FzA.length t]
theorem FzA.get : ∀ {vs : List V} {ds : List D} {i : Nat} {d : D}, FzA K H vs ds → ds[i]? = some d → ∃ v, vs[i]? = some v ∧ Fz K H v d
  | _, _, _, _, .nil, e => by simp at e
  | _, _, 0, _, .cons h _, e => by simp at e; subst e; exact ⟨_, rfl, h⟩
  | _, _, i + 1, d, .cons _ t, e => by
    obtain ⟨v, h1, h2⟩ := FzA.get (i := i) (d := d) t (by simpa using e)
    exact ⟨v, by simpa using h1, h2⟩
theorem FzA.get' : ∀ {vs : List V} {ds : List D} {i : Nat} {v : V}, FzA K H vs ds → vs[i]? = some v → ∃ d, ds[i]? = some d ∧ Fz K H v d
  | _, _, _, _, .nil, e => by simp at e
  | _, _, 0, _, .cons h _, e => by simp at e; subst e; exact ⟨_, rfl, h⟩
  | _, _, i + 1, d, .cons _ t, e => by
    obtain ⟨v, h1, h2⟩ := FzA.get' (i := i) (v := d) t (by simpa using e)
    exact ⟨v, by simpa using h1, h2⟩
theorem FzA.append : ∀ {xs ys : List V} {ds es : List D}, FzA K H xs ds → FzA K H ys es → FzA K H (xs ++ ys) (ds ++ es)
  | _, _, _, _, .nil, s => s
  | _, _, _, _, .cons r t, s => .cons r (FzA.append t s)
theorem FzA.take : ∀ {xs : List V} {ds : List D} (n : Nat), FzA K H xs ds → FzA K H (xs.take n) (ds.take n)
  | _, _, 0, _ => .nil
  | _, _, _ + 1, .nil => .nil
  | _, _, n + 1, .cons r t => .cons r (FzA.take n t)
theorem FzA.drop : ∀ {xs : List V} {ds : List D} (n : Nat), FzA K H xs ds → FzA K H (xs.drop n) (ds.drop n)
  | _, _, 0, r => r
  | _, _, _ + 1, .nil => .nil
  | _, _, n + 1, .cons _ t => FzA.drop n t
theorem FzA.set {x : V} {d : D} (r : Fz K H x d) : ∀ {xs : List V} {ds : List D} (i : Nat), FzA K H xs ds → FzA K H (xs.set i x) (ds.set i d)
  | _, _, _, .nil => .nil
  | _, _, 0, .cons _ t => .cons r t
  | _, _, i + 1, .cons q t => .cons q (FzA.set r i t)
theorem FzA.eraseIdx : ∀ {xs : List V} {ds : List D} (i : Nat), FzA K H xs ds → FzA K H (xs.eraseIdx i) (ds.eraseIdx i)
  | _, _, _, .nil => .nil
  | _, _, 0, .cons _ t => t
  | _, _, i + 1, .cons q t => .cons q (FzA.eraseIdx i t)
theorem FzA.reverse {xs : List V} {ds : List D} (h : FzA K H xs ds) : FzA K H xs.reverse ds.reverse := by
  induction xs generalizing ds with
  | nil => cases h; exact .nil
  | cons x r ih =>
    cases h with
    | cons a t =>
      rw [List.reverse_cons, List.reverse_cons]
      exact (ih t).append (.cons a .nil)
theorem FzA.ints : ∀ {vs : List V} {ns : List Int}, FzA K H vs (ns.map PyData.int) → vs = ns.map V.int
  | _, [], h => by cases h; rfl
  | _, n :: ns, h => by
    cases h with
    | cons a t =>
      cases a
      rw [FzA.ints t]; rfl
theorem FzA.of_ints : ∀ (ns : List Int), FzA K H (ns.map V.int) (ns.map PyData.int)
  | [] => .nil
  | n :: ns => .cons (.int n) (FzA.of_ints ns)
theorem FzA.bools : ∀ {vs : List V} {ns : List Bool}, FzA K H vs (ns.map PyData.bool) → vs = ns.map V.bl
  | _, [], h => by cases h; rfl
  | _, n :: ns, h => by
    cases h with
    | cons a t =>
      cases a
      rw [FzA.bools t]; rfl
theorem FzA.mapped {α : Type} {f : α → V} {g : α → D} (h : ∀ a, Fz K H (f a) (g a)) : ∀ (l : List α), FzA K H (l.map f) (l.map g)
  | [] => .nil
  | a :: l => .cons (h a) (FzA.mapped h l)
end

/-! ### slots -/
/-- what a slot holds: nothing that is known, data, a list that it alone holds, a list that nobody changes (the script) -/
inductive Sl where
  | un | val (d : D) | own (ds : List D) | frn (ds : List D)
abbrev SD := List Sl

def RelSl (K : PySem.W.Frag) (H : Hp) : Option V → Sl → Prop
  | _, .un => True
  | some v, .val d => Fz K H v d
  | some v, .own ds => ∃ a xs, v = .ref a ∧ H a = some (.lst xs) ∧ FzA K H xs ds
  | some v, .frn ds => ∃ a xs, v = .ref a ∧ (FrL H a xs ∨ ∃ (o : Obj) (its : Array Value) (n : Nat), K.lookup a = some o ∧ o.cls = .type "list" ∧ o.dict = none ∧ o.data = .seq its n ∧ its.size ≤ sizeLine ∧ Vals xs its.toList) ∧ FzA K H xs ds
  | none, _ => False
/-- the addresses of the lists that slots own -/
def Ow (σ : L2.St) (τ : SD) (a : Addr) : Prop := ∃ (i : Nat) (ds : List D), τ[i]? = some (Sl.own ds) ∧ σ[i]? = some (some (V.ref a))
structure RelS (K : PySem.W.Frag) (σ : L2.St) (H : Hp) (τ : SD) : Prop where
  len : σ.length = τ.length
  at_ : ∀ (i : Nat) (ov : Option V) (sl : Sl), σ[i]? = some ov → τ[i]? = some sl → RelSl K H ov sl
  apart : ∀ (i j : Nat) (ds es : List D) (a : Addr), τ[i]? = some (.own ds) → τ[j]? = some (.own es) → σ[i]? = some (some (.ref a)) → σ[j]? = some (some (.ref a)) → i = j
/-- all but what O names stays -/
def Fr (O : Addr → Prop) (H H' : Hp) : Prop := ∀ a o, H a = some o → ¬ O a → H' a = some o
section
variable {K : PySem.W.Frag} {σ σ' σ2 : L2.St} {H H' H1 H2 : Hp} {τ τ' τ1 τ2 : SD}
theorem RelS.σat (R : RelS K σ H τ) {i : Nat} {sl : Sl} (e : τ[i]? = some sl) : ∃ ov, σ[i]? = some ov ∧ RelSl K H ov sl := by
  have h : i < σ.length := by
    rw [R.len]
    exact (List.getElem?_eq_some_iff.mp e).1
  exact ⟨σ[i], List.getElem?_eq_getElem h, R.at_ i _ _ (List.getElem?_eq_getElem h) e⟩
theorem RelS.val (R : RelS K σ H τ) {i : Nat} {d : D} (e : τ[i]? = some (.val d)) : ∃ v, σ[i]? = some (some v) ∧ Fz K H v d := by
  obtain ⟨ov, e1, r⟩ := R.σat e
  cases ov with
  | none => exact r.elim
  | some v => exact ⟨v, e1, r⟩
theorem RelS.own (R : RelS K σ H τ) {i : Nat} {ds : List D} (e : τ[i]? = some (.own ds)) : ∃ a xs, σ[i]? = some (some (.ref a)) ∧ H a = some (.lst xs) ∧ FzA K H xs ds := by
  obtain ⟨ov, e1, r⟩ := R.σat e
  cases ov with
  | none => exact r.elim
  | some v =>
    obtain ⟨a, xs, rfl, h1, h2⟩ := r
    exact ⟨a, xs, e1, h1, h2⟩
theorem RelS.ow (R : RelS K σ H τ) {a : Addr} (h : Ow σ τ a) : ∃ xs, H a = some (.lst xs) := by
  obtain ⟨i, ds, e1, e2⟩ := h
  obtain ⟨b, xs, e3, h1, _⟩ := R.own e1
  rw [e2] at e3
  cases e3
  exact ⟨xs, h1⟩
theorem RelS.fe (R : RelS K σ H τ) (f : Fr (Ow σ τ) H H') : FE H H' := by
  refine ⟨fun a xs h => f a _ h fun o => ?_, fun a o u h => f a _ h fun o' => ?_⟩
  · obtain ⟨ys, e⟩ := R.ow o
    rw [h] at e; cases e
  · obtain ⟨ys, e⟩ := R.ow o'
    rw [h] at e; cases e
/-- behind an expression: the slots stand, fewer are owned -/
structure PostE (K : PySem.W.Frag) (σ : L2.St) (H : Hp) (τ : SD) (H' : Hp) (τ' : SD) : Prop where
  rel0 : RelS K σ H τ
  rel : RelS K σ H' τ'
  fr : Fr (Ow σ τ) H H'
  sub : ∀ (j : Nat) (ds : List D), τ'[j]? = some (.own ds) → ∃ ds0, τ[j]? = some (.own ds0)
  live : ∀ a o, H a = some o → ∃ o', H' a = some o'
theorem PostE.ow (p : PostE K σ H τ H' τ') {a : Addr} (h : Ow σ τ' a) : Ow σ τ a := by
  obtain ⟨j, ds, e1, e2⟩ := h
  obtain ⟨ds0, e3⟩ := p.sub j ds e1
  exact ⟨j, ds0, e3, e2⟩
theorem PostE.refl (R : RelS K σ H τ) : PostE K σ H τ H τ := ⟨R, R, fun _ _ h _ => h, fun _ ds h => ⟨ds, h⟩, fun _ o h => ⟨o, h⟩⟩
theorem PostE.trans (a : PostE K σ H τ H1 τ1) (b : PostE K σ H1 τ1 H2 τ2) : PostE K σ H τ H2 τ2 :=
  ⟨a.rel0, b.rel, fun x o h n => b.fr x o (a.fr x o h n) fun z => n (a.ow z), fun j ds h => let ⟨d1, h1⟩ := b.sub j ds h; a.sub j d1 h1, fun x o h => let ⟨o', h'⟩ := a.live x o h; b.live x o' h'⟩
theorem PostE.fe (a : PostE K σ H τ H' τ') : FE H H' := a.rel0.fe a.fr
/-- what an expression gives: data, or a new list that nobody else holds -/
inductive Res where
  | val (d : D) | own (ds : List D)
def Res.toD : Res → D
  | .val d => d
  | .own ds => .list ds
def RelR (K : PySem.W.Frag) (H H' : Hp) (v : V) : Res → Prop
  | .val d => Fz K H' v d
  | .own ds => ∃ a xs, v = .ref a ∧ H a = none ∧ H' a = some (.lst xs) ∧ FzA K H' xs ds
end
end DL

namespace DL
open PySem PySem.Spec PyProof.Rows L2
abbrev DV := SD → (D → SD → Prop) → Prop
abbrev DE := SD → (Res → SD → Prop) → Prop
abbrev DT := SD → (Bool → SD → Prop) → Prop
abbrev DA := SD → (List D → SD → Prop) → Prop
def okV (K : PySem.W.Frag) (σ : L2.St) (H : Hp) (τ : SD) (Q : D → SD → Prop) : VK := fun v H' => ∃ d τ', PostE K σ H τ H' τ' ∧ Fz K H' v d ∧ Q d τ'
def okE (K : PySem.W.Frag) (σ : L2.St) (H : Hp) (τ : SD) (Q : Res → SD → Prop) : VK := fun v H' => ∃ r τ', PostE K σ H τ H' τ' ∧ RelR K H H' v r ∧ Q r τ'
def okT (K : PySem.W.Frag) (σ : L2.St) (H : Hp) (τ : SD) (Q : Bool → SD → Prop) : Bool → Hp → Prop := fun b H' => ∃ τ', PostE K σ H τ H' τ' ∧ Q b τ'
def okA (K : PySem.W.Frag) (σ : L2.St) (H : Hp) (τ : SD) (Q : List D → SD → Prop) : List V → Hp → Prop := fun vs H' => ∃ ds τ', PostE K σ H τ H' τ' ∧ FzA K H' vs ds ∧ Q ds τ'
/-- an expression, frozen | an expression | a test | an argument list, frozen -/
structure PV (X : Cx) (e : Expr) (de : DV) : Prop where
  run : ∀ (pins : List (Addr × Obj)) (s : Shared) (σ : L2.St) (H : Hp) (τ : SD) (Q : D → SD → Prop), Inv X pins σ H s → RelS X.K σ H τ → de τ Q → wpAny (model X.prog X.w) X.A (eval e X.env) (EP X pins σ (okV X.K σ H τ Q)) X.xe s
structure PD (X : Cx) (e : Expr) (de : DE) : Prop where
  run : ∀ (pins : List (Addr × Obj)) (s : Shared) (σ : L2.St) (H : Hp) (τ : SD) (Q : Res → SD → Prop), Inv X pins σ H s → RelS X.K σ H τ → de τ Q → wpAny (model X.prog X.w) X.A (eval e X.env) (EP X pins σ (okE X.K σ H τ Q)) X.xe s
structure PTD (X : Cx) (e : Expr) (dt : DT) : Prop where
  run : ∀ (pins : List (Addr × Obj)) (s : Shared) (σ : L2.St) (H : Hp) (τ : SD) (Q : Bool → SD → Prop), Inv X pins σ H s → RelS X.K σ H τ → dt τ Q → wpAny (model X.prog X.w) X.A (isTrue e X.env (eval e X.env)) (TP X pins σ (okT X.K σ H τ Q)) X.xe s
structure PAD (X : Cx) (es : List Expr) (da : DA) : Prop where
  run : ∀ (pos : Pos) (pins : List (Addr × Obj)) (s : Shared) (σ : L2.St) (H : Hp) (τ : SD) (Q : List D → SD → Prop), Inv X pins σ H s → RelS X.K σ H τ → da τ Q → wpAny (model X.prog X.w) X.A (spliced (backTo pos (starEach es X.env))) (AP X pins σ (okA X.K σ H τ Q)) X.xe s

def LV (K : PySem.W.Frag) (de : DV) : TE := fun σ H Q' => ∃ τ Q, RelS K σ H τ ∧ de τ Q ∧ ∀ v H', okV K σ H τ Q v H' → Q' v H'
def LE (K : PySem.W.Frag) (de : DE) : TE := fun σ H Q' => ∃ τ Q, RelS K σ H τ ∧ de τ Q ∧ ∀ v H', okE K σ H τ Q v H' → Q' v H'
def LT (K : PySem.W.Frag) (de : DT) : TT := fun σ H Q' => ∃ τ Q, RelS K σ H τ ∧ de τ Q ∧ ∀ v H', okT K σ H τ Q v H' → Q' v H'
def LA (K : PySem.W.Frag) (de : DA) : TA := fun σ H Q' => ∃ τ Q, RelS K σ H τ ∧ de τ Q ∧ ∀ v H', okA K σ H τ Q v H' → Q' v H'
section
variable {X : Cx} {e a b : Expr} {es : List Expr} {de da db : DV} {dE : DE} {dt : DT} {dA : DA} {pos : Pos}
theorem PV.pe (h : PV X e de) : PE X e (LV X.K de) := ⟨fun pins s σ H Q' I ⟨τ, Q, R, hd, k⟩ => thn (h.run pins s σ H τ Q I R hd) fun _ _ ⟨v, H', I', r, q⟩ => ⟨v, H', I', r, k v H' q⟩⟩
theorem PD.pe (h : PD X e dE) : PE X e (LE X.K dE) := ⟨fun pins s σ H Q' I ⟨τ, Q, R, hd, k⟩ => thn (h.run pins s σ H τ Q I R hd) fun _ _ ⟨v, H', I', r, q⟩ => ⟨v, H', I', r, k v H' q⟩⟩
theorem PTD.pt (h : PTD X e dt) : PT X e (LT X.K dt) := ⟨fun pins s σ H Q' I ⟨τ, Q, R, hd, k⟩ => thn (h.run pins s σ H τ Q I R hd) fun _ _ ⟨H', I', q⟩ => ⟨H', I', k _ H' q⟩⟩
theorem PAD.pa (h : PAD X es dA) : PA X es (LA X.K dA) := ⟨fun pos pins s σ H Q' I ⟨τ, Q, R, hd, k⟩ => thn (h.run pos pins s σ H τ Q I R hd) fun _ _ ⟨v, H', I', r, q⟩ => ⟨v, H', I', r, k v H' q⟩⟩
theorem pv_of {t : TE} (h : PE X e t) (c : ∀ σ H τ Q, RelS X.K σ H τ → de τ Q → t σ H (okV X.K σ H τ Q)) : PV X e de := ⟨fun pins s σ H τ Q I R hd => h.run pins s σ H _ I (c σ H τ Q R hd)⟩
theorem pd_of {t : TE} (h : PE X e t) (c : ∀ σ H τ Q, RelS X.K σ H τ → dE τ Q → t σ H (okE X.K σ H τ Q)) : PD X e dE := ⟨fun pins s σ H τ Q I R hd => h.run pins s σ H _ I (c σ H τ Q R hd)⟩
theorem ptd_of {t : TT} (h : PT X e t) (c : ∀ σ H τ Q, RelS X.K σ H τ → dt τ Q → t σ H (okT X.K σ H τ Q)) : PTD X e dt := ⟨fun pins s σ H τ Q I R hd => h.run pins s σ H _ I (c σ H τ Q R hd)⟩
theorem pad_of {t : TA} (h : PA X es t) (c : ∀ σ H τ Q, RelS X.K σ H τ → dA τ Q → t σ H (okA X.K σ H τ Q)) : PAD X es dA := ⟨fun pos pins s σ H τ Q I R hd => h.run pos pins s σ H _ I (c σ H τ Q R hd)⟩
end
section
variable {K : PySem.W.Frag} {σ : L2.St} {H H' H1 H2 : Hp} {τ τ' τ1 τ2 : SD} {de da db : DV} {dE : DE} {dt : DT} {dA : DA}
theorem lv {Q : D → SD → Prop} {Q' : VK} (R : RelS K σ H τ) (h : de τ Q) (k : ∀ v H' d τ', PostE K σ H τ H' τ' → Fz K H' v d → Q d τ' → Q' v H') : LV K de σ H Q' := ⟨τ, Q, R, h, fun v H' ⟨d, τ', p, f, q⟩ => k v H' d τ' p f q⟩
theorem le' {Q : Res → SD → Prop} {Q' : VK} (R : RelS K σ H τ) (h : dE τ Q) (k : ∀ v H' d τ', PostE K σ H τ H' τ' → RelR K H H' v d → Q d τ' → Q' v H') : LE K dE σ H Q' := ⟨τ, Q, R, h, fun v H' ⟨d, τ', p, f, q⟩ => k v H' d τ' p f q⟩
theorem lt' {Q : Bool → SD → Prop} {Q' : Bool → Hp → Prop} (R : RelS K σ H τ) (h : dt τ Q) (k : ∀ v H' τ', PostE K σ H τ H' τ' → Q v τ' → Q' v H') : LT K dt σ H Q' := ⟨τ, Q, R, h, fun v H' ⟨τ', p, q⟩ => k v H' τ' p q⟩
theorem la {Q : List D → SD → Prop} {Q' : List V → Hp → Prop} (R : RelS K σ H τ) (h : dA τ Q) (k : ∀ v H' d τ', PostE K σ H τ H' τ' → FzA K H' v d → Q d τ' → Q' v H') : LA K dA σ H Q' := ⟨τ, Q, R, h, fun v H' ⟨d, τ', p, f, q⟩ => k v H' d τ' p f q⟩

/-! ### heaps that grow -/
theorem Same.fe (e : Same H H') : FE H H' := ⟨fun a _ h => e a _ h, fun a _ _ h => e a _ h⟩
theorem RelSl.mono (e : FE H H') {ov : Option V} {sl : Sl} (h : RelSl K H ov sl) (k : ∀ a xs ds, ov = some (.ref a) → sl = .own ds → H a = some (.lst xs) → H' a = some (.lst xs)) : RelSl K H' ov sl := by
  cases sl with
  | un => cases ov <;> trivial
  | val d =>
    cases ov with
    | none => exact h
    | some v => exact Fz.mono e h
  | own ds =>
    cases ov with
    | none => exact h
    | some v =>
      obtain ⟨a, xs, rfl, h1, h2⟩ := h
      exact ⟨a, xs, rfl, k a xs ds rfl rfl h1, FzA.mono e h2⟩
  | frn ds =>
    cases ov with
    | none => exact h
    | some v =>
      obtain ⟨a, xs, rfl, h1, h2⟩ := h
      refine ⟨a, xs, rfl, ?_, FzA.mono e h2⟩
      rcases h1 with h1 | h1
      · exact .inl (h1.mono e)
      · exact .inr h1
theorem RelS.same (R : RelS K σ H τ) (e : Same H H') : RelS K σ H' τ :=
  ⟨R.len, fun i ov sl h1 h2 => (R.at_ i ov sl h1 h2).mono (Same.fe e) fun a xs _ _ _ h => e a _ h, R.apart⟩
theorem PostE.same (p : PostE K σ H τ H1 τ1) (e : Same H1 H2) : PostE K σ H τ H2 τ1 :=
  p.trans ⟨p.rel, p.rel.same e, fun a o h _ => e a o h, fun _ ds h => ⟨ds, h⟩, fun a o h => ⟨o, e a o h⟩⟩
theorem same_new {p : Addr} {o : HO} (h : H p = none) : Same H (upd H p o) := fun b x e => by
  rw [upd_ne (ne_of_none e h)]
  exact e
theorem PostE.fresh (p : PostE K σ H τ H' τ') {a : Addr} (h : H' a = none) : H a = none := by
  cases e : H a with
  | none => rfl
  | some o =>
    obtain ⟨o', e'⟩ := p.live a o e
    rw [h] at e'; cases e'

/-! ### freezing -/
theorem fe_frz {a : Addr} {xs : List V} {o : Obj} (h : H a = some (.lst xs)) : FE H (upd H a (.frz o (.lst xs))) := by
  refine ⟨fun b ys e => ?_, fun b q u e => ?_⟩
  · rw [upd_ne (ne_of e h (by intro z; cases z))]; exact e
  · rw [upd_ne (ne_of e h (by intro z; cases z))]; exact e
theorem RelS.frzSlot (R : RelS K σ H τ) {i : Nat} {ds : List D} {a : Addr} {xs : List V} {o : Obj} (e : τ[i]? = some (.own ds)) (es : σ[i]? = some (some (.ref a))) (h : H a = some (.lst xs)) (f : FzA K H xs ds) :
    PostE K σ H τ (upd H a (.frz o (.lst xs))) (τ.set i (.val (.list ds))) := by
  have hi : i < τ.length := (List.getElem?_eq_some_iff.mp e).1
  refine ⟨R, ⟨by rw [List.length_set]; exact R.len, fun j ov sl e1 e2 => ?_, fun j k es' fs b e1 e2 e3 e4 => ?_⟩, fun b u hb no => ?_, fun j fs e1 => ?_, fun b u hb => ?_⟩
  · by_cases hj : j = i
    · subst hj
      rw [List.getElem?_set_self hi] at e2
      cases e2
      rw [es] at e1
      cases e1
      exact Fz.lst ⟨o, upd_same⟩ (FzA.mono (fe_frz h) f)
    · rw [List.getElem?_set_ne (Ne.symm hj)] at e2
      refine (R.at_ j ov sl e1 e2).mono (fe_frz h) fun b ys es2 ov' sl' hb => ?_
      subst sl'
      subst ov'
      rw [upd_ne ?_]
      · exact hb
      · intro z
        subst z
        exact hj (R.apart j i _ _ _ e2 e e1 es)
  · have hj : j ≠ i := by
      intro z; subst z
      rw [List.getElem?_set_self hi] at e1; cases e1
    have hk : k ≠ i := by
      intro z; subst z
      rw [List.getElem?_set_self hi] at e2; cases e2
    rw [List.getElem?_set_ne (Ne.symm hj)] at e1
    rw [List.getElem?_set_ne (Ne.symm hk)] at e2
    exact R.apart j k _ _ _ e1 e2 e3 e4
  · rw [upd_ne]
    · exact hb
    · intro z; subst z
      exact no ⟨i, ds, e, es⟩
  · have hj : j ≠ i := by
      intro z; subst z
      rw [List.getElem?_set_self hi] at e1; cases e1
    rw [List.getElem?_set_ne (Ne.symm hj)] at e1
    exact ⟨fs, e1⟩
  · by_cases z : b = a
    · subst z; exact ⟨_, upd_same⟩
    · exact ⟨u, by rw [upd_ne z]; exact hb⟩
/-- a new list of ours is frozen -/
theorem PostE.frzNew (p : PostE K σ H τ H' τ') {a : Addr} {xs : List V} {o : Obj} (n : H a = none) (h : H' a = some (.lst xs)) : PostE K σ H τ (upd H' a (.frz o (.lst xs))) τ' := by
  have na : ¬ Ow σ τ a := fun z => by
    obtain ⟨ys, e⟩ := p.rel0.ow z
    rw [n] at e; cases e
  have ke : ∀ b, Ow σ τ' b → b ≠ a := fun b z q => by subst q; exact na (p.ow z)
  refine ⟨p.rel0, ⟨p.rel.len, fun j ov sl e1 e2 => (p.rel.at_ j ov sl e1 e2).mono (fe_frz h) fun b ys es ov' sl' hb => ?_, p.rel.apart⟩, fun b u hb no => ?_, p.sub, fun b u hb => ?_⟩
  · subst sl' ov'
    rw [upd_ne (ke b ⟨j, es, e2, e1⟩)]
    exact hb
  · rw [upd_ne (ne_of_none hb n)]
    exact p.fr b u hb no
  · rw [upd_ne (ne_of_none hb n)]
    exact p.live b u hb
end
end DL

namespace DL
open PySem PySem.Spec PyProof.Rows L2
/-! ### names, constants -/
def dC (d : D) : DV := fun τ Q => Q d τ
/-- a name: what it holds is frozen -/
def dName (i : Nat) : DV := fun τ Q => match τ[i]? with
  | some (.val d) => Q d τ
  | some (.own ds) => Q (.list ds) (τ.set i (.val (.list ds)))
  | _ => False
section
variable {X : Cx} {e a b c : Expr} {es : List Expr} {de da db dc : DV} {dE : DE} {dt : DT} {dA : DA} {pos : Pos}
theorem pv_int {i j} : PV X (.Constant (.int i) j pos) (dC (.int i)) := pv_of pe_int fun σ H τ Q R h => ⟨_, τ, .refl R, .int i, h⟩
theorem pv_bl {i j} : PV X (.Constant (.bool i) j pos) (dC (.bool i)) := pv_of pe_bl fun σ H τ Q R h => ⟨_, τ, .refl R, .bl i, h⟩
theorem pv_non {j} : PV X (.Constant .none j pos) (dC .none) := pv_of pe_non fun σ H τ Q R h => ⟨_, τ, .refl R, .non, h⟩
theorem pv_str {x j} : PV X (.Constant (.str x) j pos) (dC (.str x)) := pv_of pe_str fun σ H τ Q R h => ⟨_, τ, .refl R, .str x, h⟩
theorem pv_name (i : Nat) {x : Str} (hN : X.N[i]? = some x := by rfl) (hv : Vis X.env.scope x := by first | exact Or.inl rfl | exact Or.inr (Or.inl rfl) | exact Or.inr (Or.inr rfl)) (hd : (x == ("__debug__" : Str)) = false := by decide)
    (hcd : (x == ("__classdict__" : Str)) = false := by decide) : PV X (.Name x pos) (dName i) := by
  refine ⟨fun pins s σ H τ Q I R h => ?_⟩
  unfold dName at h
  have pe := pe_var (X := X) (pos := pos) hN hv hd hcd
  split at h
  · rename_i d e
    obtain ⟨v, e1, f⟩ := R.val e
    exact pe.run pins s σ H _ I ⟨v, e1, d, τ, .refl R, f, h⟩
  · rename_i ds e
    obtain ⟨p, xs, e1, h1, f⟩ := R.own e
    obtain ⟨o, I'⟩ := I.lock h1 trivial
    exact pe.run pins s σ _ _ I' ⟨.ref p, e1, _, _, R.frzSlot e e1 h1 f, .lst ⟨o, upd_same⟩ (FzA.mono (fe_frz h1) f), h⟩
  · exact h.elim
/-- a constant of the module -/
structure Gc (K : PySem.W.Frag) (mg : Str → Option Value) (x : Str) (d : D) : Prop where
  ex : ∃ v u, mg x = some u ∧ RelV v u ∧ ∀ H, Fz K H v d
theorem pv_glob {x : Str} {d : D} (g : Gc X.K X.mg x d) (hg : Gl X x := by rfl) (hd : (x == ("__debug__" : Str)) = false := by decide) : PV X (.Name x pos) (dC d) := by
  obtain ⟨v, u, h1, h2, h3⟩ := g.ex
  exact pv_of (pe_glob hg h1 h2 hd) fun σ H τ Q R h => ⟨_, τ, .refl R, h3 H, h⟩

/-! ### from one judgement to another -/
def dVal (de : DV) : DE := fun τ Q => de τ fun d τ' => Q (.val d) τ'
theorem pd_val (h : PV X e de) : PD X e (dVal de) := ⟨fun pins s σ H τ Q I R hd => thn (h.run pins s σ H τ _ I R hd) fun _ _ ⟨v, H', I', r, d, τ', p, f, q⟩ => ⟨v, H', I', r, .val d, τ', p, f, q⟩⟩
def dFrz (dE : DE) : DV := fun τ Q => dE τ fun r τ' => Q r.toD τ'
theorem pv_frz (h : PD X e dE) : PV X e (dFrz dE) := by
  refine ⟨fun pins s σ H τ Q I R hd => ?_⟩
  refine thn (h.run pins s σ H τ _ I R hd) fun u s' ⟨v, H', I', r, w, τ', p, f, q⟩ => ?_
  cases w with
  | val d => exact ⟨v, H', I', r, d, τ', p, f, q⟩
  | own ds =>
    obtain ⟨a, xs, rfl, n, h1, f⟩ := f
    obtain ⟨o, I2⟩ := I'.lock h1 trivial
    exact ⟨.ref a, _, I2, r, .list ds, τ', p.frzNew n h1, .lst ⟨o, upd_same⟩ (FzA.mono (fe_frz h1) f), q⟩
/-- a bool's expression as a test -/
def dTest (de : DV) : DT := fun τ Q => de τ fun d τ' => ∃ b, d = .bool b ∧ Q b τ'
theorem ptd_val (h : PV X e de) (he : ∀ whole, isTrue e X.env whole = (do let v ← whole; standAt e.pos; holding [v] (truthy v)) := by intro _; rfl) : PTD X e (dTest de) := by
  refine ptd_of (pt_val h.pe he) fun σ H τ Q R hd => ?_
  refine lv R hd fun v H' d τ' p f ⟨b, e, q⟩ => ?_
  subst e
  cases f
  exact ⟨b, rfl, τ', p, q⟩

/-! ### arguments, displays -/
def dNil : DA := fun τ Q => Q [] τ
def dCons (de : DV) (da : DA) : DA := fun τ Q => de τ fun d τ1 => da τ1 fun ds τ2 => Q (d :: ds) τ2
theorem pad_nil : PAD X [] dNil := pad_of pa_nil fun σ H τ Q R h => ⟨[], τ, .refl R, .nil, h⟩
theorem pad_cons (ha : PV X e de) (hr : PAD X es dA) (hs : starEach (e :: es) X.env = (false, eval e X.env) :: starEach es X.env := by rfl) : PAD X (e :: es) (dCons de dA) := by
  refine pad_of (pa_cons ha.pe hr.pa hs) fun σ H τ Q R h => ?_
  refine lv R h fun v H1 d τ1 p1 f1 q1 => la p1.rel q1 fun vs H2 ds τ2 p2 f2 q2 => ?_
  exact ⟨d :: ds, τ2, p1.trans p2, .cons (Fz.mono p2.fe f1) f2, q2⟩
/-- a length that any display has -/
theorem sz_of {n : Nat} (h : n ≤ 100000) : n ≤ sizeLine := Nat.le_trans h (by decide)
theorem sz_lt {n : Nat} (h : n < 100000) : n < sizeLine := Nat.lt_of_lt_of_le h (by decide)
def dTup (da : DA) : DV := fun τ Q => da τ fun ds τ' => ds.length ≤ 100000 ∧ Q (.tuple ds) τ'
theorem pv_tup {k} (h : PAD X es dA) : PV X (.Tuple es k pos) (dTup dA) := by
  refine pv_of (pe_tup h.pa) fun σ H τ Q R hd => ?_
  refine la R hd fun vs H1 ds τ1 p f ⟨z, q⟩ => ⟨by rw [f.length]; exact sz_of z, fun a n => ?_⟩
  have s := same_new (o := .tup vs) n
  exact ⟨.tuple ds, τ1, p.same s, .tup (.inl (.inl upd_same)) (FzA.mono (Same.fe s) f), q⟩
def dLst (da : DA) : DE := fun τ Q => da τ fun ds τ' => ds.length ≤ 100000 ∧ Q (.own ds) τ'
theorem pd_lst (h : PAD X es dA) : PD X (.List es pos) (dLst dA) := by
  refine pd_of (pe_lst h.pa) fun σ H τ Q R hd => ?_
  refine la R hd fun vs H1 ds τ1 p f ⟨z, q⟩ => ⟨by rw [f.length]; exact sz_of z, fun a n => ?_⟩
  have s := same_new (o := .lst vs) n
  exact ⟨.own ds, τ1, p.same s, ⟨a, vs, rfl, p.fresh n, upd_same, FzA.mono (Same.fe s) f⟩, q⟩

/-! ### operators -/
/-- data that may be read at a value: frozen, or a list that somebody owns -/
inductive Rv (K : PySem.W.Frag) (H : Hp) : V → D → Prop
  | fz {v : V} {d : D} : Fz K H v d → Rv K H v d
  | own {a : Addr} {xs : List V} {ds : List D} : SqL K H a xs → FzA K H xs ds → Rv K H (.ref a) (.list ds)
theorem Rv.dp {K : PySem.W.Frag} {H : Hp} {v : V} {d : D} : Rv K H v d → Dp K H v d
  | .fz f => f.dp
  | .own h f => .lst h f.dp
theorem Fz.listR {K : PySem.W.Frag} {H : Hp} {v : V} {ds : List D} (h : Fz K H v (.list ds)) : ∃ a xs, v = .ref a ∧ Rd H a (.lst xs) ∧ FzA K H xs ds := by
  cases h with | lst h f => exact ⟨_, _, rfl, h.rd, f⟩
theorem Rv.list {K : PySem.W.Frag} {H : Hp} {v : V} {ds : List D} (h : Rv K H v (.list ds)) : ∃ a xs, v = .ref a ∧ SqL K H a xs ∧ FzA K H xs ds := by
  cases h with
  | fz f =>
    obtain ⟨a, xs, e, r, f⟩ := f.listR
    exact ⟨a, xs, e, .inl r, f⟩
  | own h f => exact ⟨_, _, rfl, h, f⟩
theorem Rv.tuple {K : PySem.W.Frag} {H : Hp} {v : V} {ds : List D} (h : Rv K H v (.tuple ds)) : ∃ a xs, v = .ref a ∧ SqT K H a xs ∧ FzA K H xs ds := by
  cases h with
  | fz f => cases f with | tup h f => exact ⟨_, _, rfl, h, f⟩
theorem Rv.int {K : PySem.W.Frag} {H : Hp} {v : V} {i : Int} (h : Rv K H v (.int i)) : v = .int i := by
  cases h with | fz f => cases f; rfl
theorem Rv.bl {K : PySem.W.Frag} {H : Hp} {v : V} {i : Bool} (h : Rv K H v (.bool i)) : v = .bl i := by
  cases h with | fz f => cases f; rfl
theorem Rv.str {K : PySem.W.Frag} {H : Hp} {v : V} {i : Str} (h : Rv K H v (.str i)) : v = .str i := by
  cases h with | fz f => cases f; rfl
theorem Rv.non {K : PySem.W.Frag} {H : Hp} {v : V} (h : Rv K H v .none) : v = .non := by
  cases h with | fz f => cases f; rfl
/-- the data of a slot -/
def slD : Sl → Option D
  | .val d => some d
  | .own ds => some (.list ds)
  | .frn ds => some (.list ds)
  | .un => none
theorem RelS.rv {K : PySem.W.Frag} {σ : L2.St} {H : Hp} {τ : SD} (R : RelS K σ H τ) {i : Nat} {sl : Sl} {d : D} (e : τ[i]? = some sl) (es : slD sl = some d) : ∃ v, σ[i]? = some (some v) ∧ Rv K H v d := by
  cases sl with
  | un => cases es
  | val c =>
    cases es
    obtain ⟨v, e1, f⟩ := R.val e
    exact ⟨v, e1, .fz f⟩
  | own ds =>
    cases es
    obtain ⟨a, xs, e1, h1, f⟩ := R.own e
    exact ⟨_, e1, .own (.inl (.inl h1)) f⟩
  | frn ds =>
    cases es
    obtain ⟨ov, e1, r⟩ := R.σat e
    cases ov with
    | none => exact r.elim
    | some v =>
      obtain ⟨a, xs, rfl, h1, f⟩ := r
      refine ⟨_, e1, .own ?_ f⟩
      rcases h1 with h1 | h1
      · exact h1.sq
      · exact .inr h1
abbrev DOp := D → D → (D → Prop) → Prop
/-- what an operator does to data is what its rule asks of values -/
def OpD (K : PySem.W.Frag) (r : R2) (f : DOp) : Prop := ∀ (H : Hp) (x y : V) (d e : D) (Q : D → Prop) (Q' : VK), Rv K H x d → Rv K H y e → f d e Q → (∀ z H' c, Same H H' → Fz K H' z c → Q c → Q' z H') → r x y H Q'
def dOp (f : DOp) (da db : DV) : DV := fun τ Q => da τ fun x τ1 => db τ1 fun y τ2 => f x y fun z => Q z τ2
theorem top_of {K : PySem.W.Frag} {r : R2} {f : DOp} (hf : OpD K r f) {σ : L2.St} {H : Hp} {τ : SD} {Q : D → SD → Prop} {Q' : VK} (R : RelS K σ H τ) (h : dOp f da db τ Q) (k : ∀ v H', okV K σ H τ Q v H' → Q' v H') : tOp r (LV K da) (LV K db) σ H Q' :=
  lv R h fun x H1 d τ1 p1 f1 q1 => lv p1.rel q1 fun y H2 e τ2 p2 f2 q2 => hf H2 x y d e _ _ (.fz (Fz.mono p2.fe f1)) (.fz f2) q2 fun z H' c s fz q => k z H' ⟨c, τ2, (p1.trans p2).same s, fz, q⟩
theorem test_end {K : PySem.W.Frag} {σ : L2.St} {H : Hp} {τ : SD} {Q : Bool → SD → Prop} {v : V} {H' : Hp} (h : okV K σ H τ (fun d τ' => ∃ b, d = .bool b ∧ Q b τ') v H') : ∃ k, v = .bl k ∧ okT K σ H τ Q k H' := by
  obtain ⟨d, τ', p, f, b, e, q⟩ := h
  subst e
  cases f
  exact ⟨b, rfl, τ', p, q⟩
theorem pv_op {op : Operator} {r : R2} {f : DOp} (ho : OpR X (binaryOp op) r) (hf : OpD X.K r f) (ha : PV X a da) (hb : PV X b db) : PV X (.BinOp a op b pos) (dOp f da db) :=
  pv_of (pe_op ho ha.pe hb.pe) fun σ H τ Q R h => top_of hf R h fun _ _ z => z
theorem pv_cmp {op : CmpOp} {r : R2} {f : DOp} (ho : OpR X (compareOp op) r) (hf : OpD X.K r f) (ha : PV X a da) (hb : PV X b db) (hm : behindInMarks op b = false) : PV X (.Compare a [op] [b] pos) (dOp f da db) :=
  pv_of (pe_cmpR ho ha.pe hb.pe hm) fun σ H τ Q R h => top_of hf R h fun _ _ z => z
/-- a comparison as a test -/
theorem ptd_cmp {op : CmpOp} {r : R2} {f : DOp} (ho : OpR X (compareOp op) r) (hf : OpD X.K r f) (ha : PV X a da) (hb : PV X b db) (hm : behindInMarks op b = false) : PTD X (.Compare a [op] [b] pos) (dTest (dOp f da db)) :=
  ptd_of (pt_cmpR ho ha.pe hb.pe hm) fun σ H τ Q R h => top_of hf R h fun _ _ z => test_end z
/-- two ints -/
def fI (C : Int → Int → Prop) (g : Int → Int → D) : DOp := fun x y Q => match x, y with
  | .int i, .int j => C i j ∧ Q (g i j)
  | _, _ => False
def fI0 (g : Int → Int → D) : DOp := fun x y Q => match x, y with
  | .int i, .int j => Q (g i j)
  | _, _ => False
theorem opD_I {K : PySem.W.Frag} {C : Int → Int → Prop} {g : Int → Int → D} {g' : Int → Int → V} (hg : ∀ H i j, Fz K H (g' i j) (g i j)) : OpD K (rI C g') (fI C g) := by
  intro H x y d e Q Q' fx fy h k
  unfold fI at h
  split at h
  · cases fx.int; cases fy.int
    exact ⟨_, _, rfl, rfl, h.1, k _ H _ (Same.refl H) (hg H _ _) h.2⟩
  · exact h.elim
theorem opD_I0 {K : PySem.W.Frag} {g : Int → Int → D} {g' : Int → Int → V} (hg : ∀ H i j, Fz K H (g' i j) (g i j)) : OpD K (rI0 g') (fI0 g) := by
  intro H x y d e Q Q' fx fy h k
  unfold fI0 at h
  split at h
  · cases fx.int; cases fy.int
    exact ⟨_, _, rfl, rfl, k _ H _ (Same.refl H) (hg H _ _) h⟩
  · exact h.elim
/-- how great ints may be: both together below a million bits -/
def okMul (i j : Int) : Prop := i.natAbs.log2 + j.natAbs.log2 < 1000000
def okDiv (_ j : Int) : Prop := 0 < j ∧ j.natAbs.log2 < 9000
def fMul : DOp := fI okMul fun i j => .int (i * j)
def fDiv : DOp := fI okDiv fun i j => .int (i / j)
def fMod : DOp := fI (fun _ j => 0 < j) fun i j => .int (i % j)
def fPow : DOp := fI CPow fun i j => .int (i ^ j.toNat)
def fSub : DOp := fI0 fun i j => .int (i - j)
def fAdd : DOp := fun x y Q => match x, y with
  | .int i, .int j => Q (.int (i + j))
  | .tuple xs, .tuple ys => xs.length + ys.length ≤ 100000 ∧ Q (.tuple (xs ++ ys))
  | _, _ => False
def fLt : DOp := fI0 fun i j => .bool (decide (i < j))
def fLe : DOp := fI0 fun i j => .bool (decide (i ≤ j))
def fGt : DOp := fI0 fun i j => .bool (decide (j < i))
def fGe : DOp := fI0 fun i j => .bool (decide (j ≤ i))
theorem pv_mul (ha : PV X a da) (hb : PV X b db) : PV X (.BinOp a .Mult b pos) (dOp fMul da db) := pv_op op_mulW (opD_I fun _ _ _ => .int _) ha hb
theorem pv_fdiv (ha : PV X a da) (hb : PV X b db) : PV X (.BinOp a .FloorDiv b pos) (dOp fDiv da db) := pv_op op_fdivW (opD_I fun _ _ _ => .int _) ha hb
theorem pv_mod (ha : PV X a da) (hb : PV X b db) : PV X (.BinOp a .Mod b pos) (dOp fMod da db) := pv_op op_mod (opD_I fun _ _ _ => .int _) ha hb
theorem pv_pow (ha : PV X a da) (hb : PV X b db) : PV X (.BinOp a .Pow b pos) (dOp fPow da db) := pv_op op_pow (opD_I fun _ _ _ => .int _) ha hb
theorem pv_sub (ha : PV X a da) (hb : PV X b db) : PV X (.BinOp a .Sub b pos) (dOp fSub da db) := pv_op op_sub (opD_I0 fun _ _ _ => .int _) ha hb
theorem pv_add (ha : PV X a da) (hb : PV X b db) : PV X (.BinOp a .Add b pos) (dOp fAdd da db) := by
  refine pv_op (op_add.or op_catA) (fun H x y d e Q Q' fx fy h k => ?_) ha hb
  unfold fAdd at h
  split at h
  · cases fx.int; cases fy.int
    exact .inl ⟨_, _, rfl, rfl, k _ H _ (Same.refl H) (.int _) h⟩
  · obtain ⟨_, _, rfl, hx, ax⟩ := fx.tuple
    obtain ⟨_, _, rfl, hy, ay⟩ := fy.tuple
    · · refine .inr ⟨_, _, _, _, rfl, rfl, hx, hy, by rw [ax.length, ay.length]; exact sz_of h.1, fun e => ?_, fun _ e => ?_, fun _ _ p n => ?_⟩
        · subst e
          cases ax
          exact k _ H _ (Same.refl H) (.tup hy ay) h.2
        · subst e
          cases ay
          exact k _ H _ (Same.refl H) (.tup hx ax) (by have q := h.2; rw [List.append_nil] at q; exact q)
        · exact k _ _ _ (same_new n) (.tup (.inl (.inl upd_same)) (FzA.mono (Same.fe (same_new n)) (ax.append ay))) h.2
  · exact h.elim
theorem pv_lt (ha : PV X a da) (hb : PV X b db) : PV X (.Compare a [.Lt] [b] pos) (dOp fLt da db) := pv_cmp op_lt (opD_I0 fun _ _ _ => .bl _) ha hb (nomark _)
theorem pv_le (ha : PV X a da) (hb : PV X b db) : PV X (.Compare a [.LtE] [b] pos) (dOp fLe da db) := pv_cmp op_le (opD_I0 fun _ _ _ => .bl _) ha hb (nomark _)
theorem pv_gt (ha : PV X a da) (hb : PV X b db) : PV X (.Compare a [.Gt] [b] pos) (dOp fGt da db) := pv_cmp op_gt (opD_I0 fun _ _ _ => .bl _) ha hb (nomark _)
theorem pv_ge (ha : PV X a da) (hb : PV X b db) : PV X (.Compare a [.GtE] [b] pos) (dOp fGe da db) := pv_cmp op_ge (opD_I0 fun _ _ _ => .bl _) ha hb (nomark _)
theorem t_lt (ha : PV X a da) (hb : PV X b db) : PTD X (.Compare a [.Lt] [b] pos) (dTest (dOp fLt da db)) := ptd_cmp op_lt (opD_I0 fun _ _ _ => .bl _) ha hb (nomark _)
theorem t_le (ha : PV X a da) (hb : PV X b db) : PTD X (.Compare a [.LtE] [b] pos) (dTest (dOp fLe da db)) := ptd_cmp op_le (opD_I0 fun _ _ _ => .bl _) ha hb (nomark _)
theorem t_gt (ha : PV X a da) (hb : PV X b db) : PTD X (.Compare a [.Gt] [b] pos) (dTest (dOp fGt da db)) := ptd_cmp op_gt (opD_I0 fun _ _ _ => .bl _) ha hb (nomark _)
theorem t_ge (ha : PV X a da) (hb : PV X b db) : PTD X (.Compare a [.GtE] [b] pos) (dTest (dOp fGe da db)) := ptd_cmp op_ge (opD_I0 fun _ _ _ => .bl _) ha hb (nomark _)
end
end DL

namespace DL
open PySem PySem.Spec PyProof.Rows L2
section
variable {X : Cx} {e a b c : Expr} {es : List Expr} {de da db dc : DV} {dE : DE} {dt du : DT} {dA : DA} {pos : Pos} {K : PySem.W.Frag}
/-! ### == and != of data -/
def okEq (d e : D) : Prop := SeqAt.shaped d = true ∧ SeqAt.shaped e = true
def fEq : DOp := fun d e Q => okEq d e ∧ Q (.bool (PyData.eqv d e))
def fNe : DOp := fun d e Q => okEq d e ∧ Q (.bool (!PyData.eqv d e))
theorem opD_eq : OpD K (rEqD K) fEq := fun H x y d e Q Q' fx fy h k => ⟨d, e, fx.dp, fy.dp, h.1.1, h.1.2, k _ H _ (Same.refl H) (.bl _) h.2⟩
theorem opD_ne : OpD K (rNeD K) fNe := fun H x y d e Q Q' fx fy h k => ⟨d, e, fx.dp, fy.dp, h.1.1, h.1.2, k _ H _ (Same.refl H) (.bl _) h.2⟩
/-- the left operand a name that is read as it stands when the right one is known -/
def dOpN (f : DOp) (i : Nat) (db : DV) : DV := fun τ Q => db τ fun y τ2 => ∃ sl x, τ2[i]? = some sl ∧ slD sl = some x ∧ f x y fun z => Q z τ2
def dOpR (f : DOp) (da : DV) (i : Nat) : DV := fun τ Q => da τ fun x τ2 => ∃ sl y, τ2[i]? = some sl ∧ slD sl = some y ∧ f x y fun z => Q z τ2
def dOpNN (f : DOp) (i j : Nat) : DV := fun τ Q => ∃ sl x sl' y, τ[i]? = some sl ∧ slD sl = some x ∧ τ[j]? = some sl' ∧ slD sl' = some y ∧ f x y fun z => Q z τ
theorem topN_of {r : R2} {f : DOp} (hf : OpD K r f) {i : Nat} {σ : L2.St} {H : Hp} {τ : SD} {Q : D → SD → Prop} {Q' : VK} (R : RelS K σ H τ) (h : dOpN f i db τ Q) (hi : ∃ v, σ[i]? = some (some v)) (k : ∀ v H', okV K σ H τ Q v H' → Q' v H') : tOp r (tVar i) (LV K db) σ H Q' := by
  obtain ⟨v, e1⟩ := hi
  refine ⟨v, e1, lv R h fun y H2 e τ2 p2 f2 ⟨sl, x, es, ed, q2⟩ => ?_⟩
  obtain ⟨v', e2, rv⟩ := p2.rel.rv es ed
  rw [e1] at e2
  cases e2
  exact hf H2 v y x e _ _ rv (.fz f2) q2 fun z H' c s fz q => k z H' ⟨c, τ2, p2.same s, fz, q⟩
theorem topR_of {r : R2} {f : DOp} (hf : OpD K r f) {i : Nat} {σ : L2.St} {H : Hp} {τ : SD} {Q : D → SD → Prop} {Q' : VK} (R : RelS K σ H τ) (h : dOpR f da i τ Q) (k : ∀ v H', okV K σ H τ Q v H' → Q' v H') : tOp r (LV K da) (tVar i) σ H Q' := by
  refine lv R h fun x H2 d τ2 p2 f2 ⟨sl, y, es, ed, q2⟩ => ?_
  obtain ⟨v', e2, rv⟩ := p2.rel.rv es ed
  exact ⟨v', e2, hf H2 x v' d y _ _ (.fz f2) rv q2 fun z H' c s fz q => k z H' ⟨c, τ2, p2.same s, fz, q⟩⟩
theorem topNN_of {r : R2} {f : DOp} (hf : OpD K r f) {i j : Nat} {σ : L2.St} {H : Hp} {τ : SD} {Q : D → SD → Prop} {Q' : VK} (R : RelS K σ H τ) (h : dOpNN f i j τ Q) (k : ∀ v H', okV K σ H τ Q v H' → Q' v H') : tOp r (tVar i) (tVar j) σ H Q' := by
  obtain ⟨sl, x, sl', y, e1, e2, e3, e4, q⟩ := h
  obtain ⟨v, f1, r1⟩ := R.rv e1 e2
  obtain ⟨w, f2, r2⟩ := R.rv e3 e4
  exact ⟨v, f1, w, f2, hf H v w x y _ _ r1 r2 q fun z H' c s fz q => k z H' ⟨c, τ, (PostE.refl R).same s, fz, q⟩⟩
/-- a name that is known to be set -/
def isSet (τ : SD) (i : Nat) : Prop := ∃ sl d, τ[i]? = some sl ∧ slD sl = some d
theorem RelS.isSet {σ : L2.St} {H : Hp} {τ : SD} (R : RelS K σ H τ) {i : Nat} (h : isSet τ i) : ∃ v, σ[i]? = some (some v) := by
  obtain ⟨sl, d, e1, e2⟩ := h
  obtain ⟨v, e, _⟩ := R.rv e1 e2
  exact ⟨v, e⟩
/-- .. with the name's being set said ahead -/
def dOpNs (f : DOp) (i : Nat) (db : DV) : DV := fun τ Q => isSet τ i ∧ dOpN f i db τ Q
section
variable {op : CmpOp} {r : R2} {f : DOp} {x y : Str} {px py : Pos}
theorem pv_cmpN (i : Nat) (ho : OpR X (compareOp op) r) (hf : OpD X.K r f) (hb : PV X b db) (hm : behindInMarks op b = false) (hN : X.N[i]? = some x := by rfl) (hv : Vis X.env.scope x := by first | exact Or.inl rfl | exact Or.inr (Or.inl rfl) | exact Or.inr (Or.inr rfl)) (hd : (x == ("__debug__" : Str)) = false := by decide) (hcd : (x == ("__classdict__" : Str)) = false := by decide) : PV X (.Compare (.Name x px) [op] [b] pos) (dOpNs f i db) :=
  pv_of (pe_cmpR ho (pe_var hN hv hd hcd) hb.pe hm) fun σ H τ Q R h => topN_of hf R h.2 (R.isSet h.1) fun _ _ z => z
theorem pv_cmpR (i : Nat) (ho : OpR X (compareOp op) r) (hf : OpD X.K r f) (ha : PV X a da) (hm : behindInMarks op (.Name x px) = false) (hN : X.N[i]? = some x := by rfl) (hv : Vis X.env.scope x := by first | exact Or.inl rfl | exact Or.inr (Or.inl rfl) | exact Or.inr (Or.inr rfl)) (hd : (x == ("__debug__" : Str)) = false := by decide) (hcd : (x == ("__classdict__" : Str)) = false := by decide) : PV X (.Compare a [op] [.Name x px] pos) (dOpR f da i) :=
  pv_of (pe_cmpR ho ha.pe (pe_var hN hv hd hcd) hm) fun σ H τ Q R h => topR_of hf R h fun _ _ z => z
theorem pv_cmpNN (i j : Nat) (ho : OpR X (compareOp op) r) (hf : OpD X.K r f) (hm : behindInMarks op (.Name y py) = false) (hN : X.N[i]? = some x := by rfl) (hv : Vis X.env.scope x := by first | exact Or.inl rfl | exact Or.inr (Or.inl rfl) | exact Or.inr (Or.inr rfl)) (hd : (x == ("__debug__" : Str)) = false := by decide) (hcd : (x == ("__classdict__" : Str)) = false := by decide) (hN2 : X.N[j]? = some y := by rfl) (hv2 : Vis X.env.scope y := by first | exact Or.inl rfl | exact Or.inr (Or.inl rfl) | exact Or.inr (Or.inr rfl)) (hd2 : (y == ("__debug__" : Str)) = false := by decide) (hcd2 : (y == ("__classdict__" : Str)) = false := by decide) : PV X (.Compare (.Name x px) [op] [.Name y py] pos) (dOpNN f i j) :=
  pv_of (pe_cmpR ho (pe_var hN hv hd hcd) (pe_var hN2 hv2 hd2 hcd2) hm) fun σ H τ Q R h => topNN_of hf R h fun _ _ z => z
theorem ptd_cmpN (i : Nat) (ho : OpR X (compareOp op) r) (hf : OpD X.K r f) (hb : PV X b db) (hm : behindInMarks op b = false) (hN : X.N[i]? = some x := by rfl) (hv : Vis X.env.scope x := by first | exact Or.inl rfl | exact Or.inr (Or.inl rfl) | exact Or.inr (Or.inr rfl)) (hd : (x == ("__debug__" : Str)) = false := by decide) (hcd : (x == ("__classdict__" : Str)) = false := by decide) : PTD X (.Compare (.Name x px) [op] [b] pos) (dTest (dOpNs f i db)) :=
  ptd_of (pt_cmpR ho (pe_var hN hv hd hcd) hb.pe hm) fun σ H τ Q R h => topN_of hf R h.2 (R.isSet h.1) fun _ _ z => test_end z
theorem ptd_cmpR (i : Nat) (ho : OpR X (compareOp op) r) (hf : OpD X.K r f) (ha : PV X a da) (hm : behindInMarks op (.Name x px) = false) (hN : X.N[i]? = some x := by rfl) (hv : Vis X.env.scope x := by first | exact Or.inl rfl | exact Or.inr (Or.inl rfl) | exact Or.inr (Or.inr rfl)) (hd : (x == ("__debug__" : Str)) = false := by decide) (hcd : (x == ("__classdict__" : Str)) = false := by decide) : PTD X (.Compare a [op] [.Name x px] pos) (dTest (dOpR f da i)) :=
  ptd_of (pt_cmpR ho ha.pe (pe_var hN hv hd hcd) hm) fun σ H τ Q R h => topR_of hf R h fun _ _ z => test_end z
theorem ptd_cmpNN (i j : Nat) (ho : OpR X (compareOp op) r) (hf : OpD X.K r f) (hm : behindInMarks op (.Name y py) = false) (hN : X.N[i]? = some x := by rfl) (hv : Vis X.env.scope x := by first | exact Or.inl rfl | exact Or.inr (Or.inl rfl) | exact Or.inr (Or.inr rfl)) (hd : (x == ("__debug__" : Str)) = false := by decide) (hcd : (x == ("__classdict__" : Str)) = false := by decide) (hN2 : X.N[j]? = some y := by rfl) (hv2 : Vis X.env.scope y := by first | exact Or.inl rfl | exact Or.inr (Or.inl rfl) | exact Or.inr (Or.inr rfl)) (hd2 : (y == ("__debug__" : Str)) = false := by decide) (hcd2 : (y == ("__classdict__" : Str)) = false := by decide) : PTD X (.Compare (.Name x px) [op] [.Name y py] pos) (dTest (dOpNN f i j)) :=
  ptd_of (pt_cmpR ho (pe_var hN hv hd hcd) (pe_var hN2 hv2 hd2 hcd2) hm) fun σ H τ Q R h => topNN_of hf R h fun _ _ z => test_end z
end
/-! ### and, or, not -/
def dAnd (t u : DT) : DT := fun τ Q => t τ fun b τ1 => if b = true then u τ1 Q else Q false τ1
def dOr (t u : DT) : DT := fun τ Q => t τ fun b τ1 => if b = true then Q true τ1 else u τ1 Q
def dNot (t : DT) : DT := fun τ Q => t τ fun b τ1 => Q (!b) τ1
structure PWD (X : Cx) (e : Expr) (dt : DT) : Prop where
  run : ∀ (wh : Sem Value) (pins : List (Addr × Obj)) (s : Shared) (σ : L2.St) (H : Hp) (τ : SD) (Q : Bool → SD → Prop), Inv X pins σ H s → RelS X.K σ H τ → dt τ Q → wpAny (model X.prog X.w) X.A (isTrue e X.env wh) (TP X pins σ (okT X.K σ H τ Q)) X.xe s
theorem PWD.pw (h : PWD X e dt) : PW X e (LT X.K dt) := ⟨fun wh pins s σ H Q' I ⟨τ, Q, R, hd, k⟩ => thn (h.run wh pins s σ H τ Q I R hd) fun _ _ ⟨H', I', q⟩ => ⟨H', I', k _ H' q⟩⟩
theorem pwd_of {t : TT} (h : PW X e t) (c : ∀ σ H τ Q, RelS X.K σ H τ → dt τ Q → t σ H (okT X.K σ H τ Q)) : PWD X e dt := ⟨fun wh pins s σ H τ Q I R hd => h.run wh pins s σ H _ I (c σ H τ Q R hd)⟩
theorem PWD.ptd (h : PWD X e dt) : PTD X e dt := ⟨fun pins s σ H τ Q I R hd => h.run _ pins s σ H τ Q I R hd⟩
theorem okT.trans {σ : L2.St} {H H1 : Hp} {τ τ1 : SD} {Q : Bool → SD → Prop} {b : Bool} {H' : Hp} (p : PostE K σ H τ H1 τ1) (h : okT K σ H1 τ1 Q b H') : okT K σ H τ Q b H' := by
  obtain ⟨τ', p', q⟩ := h
  exact ⟨τ', p.trans p', q⟩
theorem okV.trans {σ : L2.St} {H H1 : Hp} {τ τ1 : SD} {Q : D → SD → Prop} {b : V} {H' : Hp} (p : PostE K σ H τ H1 τ1) (h : okV K σ H1 τ1 Q b H') : okV K σ H τ Q b H' := by
  obtain ⟨d, τ', p', f, q⟩ := h
  exact ⟨d, τ', p.trans p', f, q⟩
theorem okE.trans {σ : L2.St} {H H1 : Hp} {τ τ1 : SD} {Q : Res → SD → Prop} {b : V} {H' : Hp} (p : PostE K σ H τ H1 τ1) (h : okE K σ H1 τ1 Q b H') : okE K σ H τ Q b H' := by
  obtain ⟨d, τ', p', f, q⟩ := h
  refine ⟨d, τ', p.trans p', ?_, q⟩
  cases d with
  | val d => exact f
  | own ds =>
    obtain ⟨a, xs, e, n, h1, f1⟩ := f
    exact ⟨a, xs, e, p.fresh n, h1, f1⟩
theorem pwd_and1 (ha : PTD X a dt) : PWD X (.BoolOp .And [a] pos) dt := pwd_of (pw_and1 ha.pt) fun σ H τ Q R h => ⟨τ, Q, R, h, fun _ _ q => q⟩
theorem pwd_or1 (ha : PTD X a dt) : PWD X (.BoolOp .Or [a] pos) dt := pwd_of (pw_or1 ha.pt) fun σ H τ Q R h => ⟨τ, Q, R, h, fun _ _ q => q⟩
theorem pwd_and {rest : List Expr} (ha : PTD X a dt) (hb : PWD X (.BoolOp .And (b :: rest) pos) du) : PWD X (.BoolOp .And (a :: b :: rest) pos) (dAnd dt du) := by
  refine pwd_of (pw_and ha.pt hb.pw) fun σ H τ Q R h => ?_
  refine lt' R h fun c H1 τ1 p q => ?_
  cases c with
  | true => exact ⟨τ1, Q, p.rel, q, fun _ _ z => z.trans p⟩
  | false => exact ⟨τ1, p, q⟩
theorem pwd_or {rest : List Expr} (ha : PTD X a dt) (hb : PWD X (.BoolOp .Or (b :: rest) pos) du) : PWD X (.BoolOp .Or (a :: b :: rest) pos) (dOr dt du) := by
  refine pwd_of (pw_or ha.pt hb.pw) fun σ H τ Q R h => ?_
  refine lt' R h fun c H1 τ1 p q => ?_
  cases c with
  | true => exact ⟨τ1, p, q⟩
  | false => exact ⟨τ1, Q, p.rel, q, fun _ _ z => z.trans p⟩
theorem ptd_not (ha : PTD X a dt) : PTD X (.UnaryOp .Not a pos) (dNot dt) := by
  refine ptd_of (pt_not ha.pt) fun σ H τ Q R h => ?_
  exact lt' R h fun c H1 τ1 p q => ⟨τ1, p, q⟩
/-- .. as values (bools) -/
def dAndV (da db : DV) : DV := fun τ Q => da τ fun x τ1 => ∃ k, x = .bool k ∧ if k = true then db τ1 Q else Q (.bool false) τ1
def dOrV (da db : DV) : DV := fun τ Q => da τ fun x τ1 => ∃ k, x = .bool k ∧ if k = true then Q (.bool true) τ1 else db τ1 Q
def dNotV (da : DV) : DV := fun τ Q => da τ fun x τ1 => ∃ k, x = .bool k ∧ Q (.bool (!k)) τ1
theorem pv_one {op} (h : PV X a da) : PV X (.BoolOp op [a] pos) da := pv_of (pe_one h.pe) fun σ H τ Q R h => ⟨τ, Q, R, h, fun _ _ q => q⟩
theorem pv_and {rest : List Expr} (ha : PV X a da) (hb : PV X (.BoolOp .And (b :: rest) pos) db) : PV X (.BoolOp .And (a :: b :: rest) pos) (dAndV da db) := by
  refine pv_of (pe_and ha.pe hb.pe) fun σ H τ Q R h => ?_
  refine lv R h fun x H1 d τ1 p f ⟨k, ek, q⟩ => ?_
  subst ek
  cases f
  refine ⟨k, rfl, ?_⟩
  cases k with
  | true => exact ⟨τ1, Q, p.rel, q, fun _ _ z => z.trans p⟩
  | false => exact ⟨_, τ1, p, .bl _, q⟩
theorem pv_or {rest : List Expr} (ha : PV X a da) (hb : PV X (.BoolOp .Or (b :: rest) pos) db) : PV X (.BoolOp .Or (a :: b :: rest) pos) (dOrV da db) := by
  refine pv_of (pe_or ha.pe hb.pe) fun σ H τ Q R h => ?_
  refine lv R h fun x H1 d τ1 p f ⟨k, ek, q⟩ => ?_
  subst ek
  cases f
  refine ⟨k, rfl, ?_⟩
  cases k with
  | true => exact ⟨_, τ1, p, .bl _, q⟩
  | false => exact ⟨τ1, Q, p.rel, q, fun _ _ z => z.trans p⟩
theorem pv_not (ha : PV X a da) : PV X (.UnaryOp .Not a pos) (dNotV da) := by
  refine pv_of (pe_not ha.pe) fun σ H τ Q R h => ?_
  refine lv R h fun x H1 d τ1 p f ⟨k, ek, q⟩ => ?_
  subst ek
  cases f
  exact ⟨k, rfl, _, τ1, p, .bl _, q⟩
/-- a if t else b -/
def dIf (t : DT) (da db : DV) : DV := fun τ Q => t τ fun k τ1 => if k = true then da τ1 Q else db τ1 Q
def dIfE (t : DT) (da db : DE) : DE := fun τ Q => t τ fun k τ1 => if k = true then da τ1 Q else db τ1 Q
theorem pv_if (hc : PTD X c dt) (ha : PV X a da) (hb : PV X b db) : PV X (.IfExp c a b pos) (dIf dt da db) := by
  refine pv_of (pe_ifExp hc.pt ha.pe hb.pe) fun σ H τ Q R h => ?_
  refine lt' R h fun k H1 τ1 p q => ?_
  cases k with
  | true => exact ⟨τ1, Q, p.rel, q, fun _ _ z => z.trans p⟩
  | false => exact ⟨τ1, Q, p.rel, q, fun _ _ z => z.trans p⟩
theorem pd_if {da db : DE} (hc : PTD X c dt) (ha : PD X a da) (hb : PD X b db) : PD X (.IfExp c a b pos) (dIfE dt da db) := by
  refine pd_of (pe_ifExp hc.pt ha.pe hb.pe) fun σ H τ Q R h => ?_
  refine lt' R h fun k H1 τ1 p q => ?_
  cases k with
  | true => exact ⟨τ1, Q, p.rel, q, fun _ _ z => z.trans p⟩
  | false => exact ⟨τ1, Q, p.rel, q, fun _ _ z => z.trans p⟩
/-! ### a chain a < b < c -/
def dChain (f g : DOp) (da db dc : DV) : DV := fun τ Q => da τ fun x τ1 => db τ1 fun y τ2 => f x y fun z => ∃ k, z = .bool k ∧ if k = true then dc τ2 fun w τ3 => g y w fun z => Q z τ3 else Q (.bool false) τ2
theorem tchain_of {r r' : R2} {f g : DOp} (hf : OpD K r f) (hg : OpD K r' g) {σ : L2.St} {H : Hp} {τ : SD} {Q : D → SD → Prop} {Q' : VK} (R : RelS K σ H τ) (h : dChain f g da db dc τ Q) (kk : ∀ v H', okV K σ H τ Q v H' → Q' v H') : tChain r r' (LV K da) (LV K db) (LV K dc) σ H Q' := by
  refine lv R h fun x H1 d τ1 p1 f1 q1 => lv p1.rel q1 fun y H2 e τ2 p2 f2 q2 => hf H2 x y d e _ _ (.fz (Fz.mono p2.fe f1)) (.fz f2) q2 fun z H' cc s fz ⟨k, ek, q⟩ => ?_
  subst ek
  cases fz
  refine ⟨k, rfl, ?_⟩
  have p3 := (p1.trans p2).same s
  cases k with
  | false => exact kk _ _ ⟨_, τ2, p3, .bl _, q⟩
  | true => exact lv p3.rel q fun w H4 e4 τ4 p4 f4 q4 => hg H4 y w e e4 _ _ (.fz (Fz.mono ((Same.fe s).trans p4.fe) f2)) (.fz f4) q4 fun z H5 c5 s5 fz5 q5 => kk _ _ ⟨c5, τ4, (p3.trans p4).same s5, fz5, q5⟩
theorem pv_chain {op op' : CmpOp} {r r' : R2} {f g : DOp} (ho : OpR X (compareOp op) r) (ho' : OpR X (compareOp op') r') (hf : OpD X.K r f) (hg : OpD X.K r' g) (ha : PV X a da) (hb : PV X b db) (hc : PV X c dc) (hm : lastMarks [op, op'] [b, c] = false := by with_unfolding_all rfl) :
    PV X (.Compare a [op, op'] [b, c] pos) (dChain f g da db dc) :=
  pv_of (pe_chain ho ho' ha.pe hb.pe hc.pe hm) fun σ H τ Q R h => tchain_of hf hg R h fun _ _ z => z
/-- a chain as a test -/
theorem ptd_chain {op op' : CmpOp} {r r' : R2} {f g : DOp} (ho : OpR X (compareOp op) r) (ho' : OpR X (compareOp op') r') (hf : OpD X.K r f) (hg : OpD X.K r' g) (ha : PV X a da) (hb : PV X b db) (hc : PV X c dc) (hm : lastMarks [op, op'] [b, c] = false := by with_unfolding_all rfl) :
    PTD X (.Compare a [op, op'] [b, c] pos) (dTest (dChain f g da db dc)) :=
  ptd_of (pt_chain ho ho' ha.pe hb.pe hc.pe hm) fun σ H τ Q R h => tchain_of hf hg R h fun _ _ z => test_end z
end
end DL

namespace DL
open PySem PySem.Spec PyProof.Rows L2
/-! ### x[i] -/
def at' {α : Type} (xs : List α) (i : Int) : Option α := if 0 ≤ i then xs[i.toNat]? else if -(xs.length : Int) ≤ i then xs[(i + xs.length).toNat]? else none
theorem atI_eq {α : Type} (xs : List α) (i : Int) : atI xs i = at' xs i := by
  unfold atI ixN at'
  by_cases h : 0 ≤ i
  · rw [if_pos h, if_pos h]
    by_cases h2 : i < xs.length
    · rw [if_pos h2]; rfl
    · rw [if_neg h2]
      exact (List.getElem?_eq_none (by omega)).symm
  · rw [if_neg h, if_neg h]
    by_cases h2 : -(xs.length : Int) ≤ i
    · rw [if_pos h2, if_pos h2]; rfl
    · rw [if_neg h2, if_neg h2]; rfl
def fIx : DOp := fun x y Q => match x, y with
  | .list ds, .int k => ∃ d, at' ds k = some d ∧ Q d
  | .tuple ds, .int k => ∃ d, at' ds k = some d ∧ Q d
  | _, _ => False
section
variable {X : Cx} {e a b c : Expr} {es : List Expr} {de da db dc : DV} {dE : DE} {dt du : DT} {dA : DA} {pos : Pos} {K : PySem.W.Frag}
theorem FzA.at' {H : Hp} {xs : List V} {ds : List D} {k : Int} {d : D} (f : FzA K H xs ds) (h : DL.at' ds k = some d) : ∃ v, atI xs k = some v ∧ Fz K H v d := by
  rw [atI_eq]
  unfold DL.at' at h ⊢
  rw [f.length]
  split
  · rename_i h0
    rw [if_pos h0] at h
    exact f.get h
  · rename_i h0
    rw [if_neg h0] at h
    split
    · rename_i h1
      rw [if_pos h1] at h
      exact f.get h
    · rename_i h1
      rw [if_neg h1] at h; cases h
theorem opD_ix : OpD K (rIx K) fIx := by
  intro H x y d e Q Q' fx fy h k
  unfold fIx at h
  split at h
  · obtain ⟨d', e1, q⟩ := h
    obtain ⟨p, xs, rfl, hs, f⟩ := fx.list
    cases fy.int
    obtain ⟨v, e2, fv⟩ := f.at' e1
    exact .inl ⟨p, xs, _, v, rfl, rfl, hs, e2, k v H d' (Same.refl H) fv q⟩
  · obtain ⟨d', e1, q⟩ := h
    obtain ⟨p, xs, rfl, hs, f⟩ := fx.tuple
    cases fy.int
    obtain ⟨v, e2, fv⟩ := f.at' e1
    exact .inr (.inl ⟨p, xs, _, v, rfl, rfl, hs, e2, k v H d' (Same.refl H) fv q⟩)
  · exact h.elim
theorem pv_ix (ha : PV X a da) (hb : PV X b db) (hs : PlainIx b := by exact fun _ _ => rfl) : PV X (.Subscript a b pos) (dOp fIx da db) := pv_of (pe_ix ix_seq ha.pe hb.pe hs) fun σ H τ Q R h => top_of opD_ix R h fun _ _ z => z
theorem pv_ixN {x : Str} {px : Pos} (i : Nat) (hb : PV X b db) (hs : PlainIx b := by exact fun _ _ => rfl) (hN : X.N[i]? = some x := by rfl) (hv : Vis X.env.scope x := by first | exact Or.inl rfl | exact Or.inr (Or.inl rfl) | exact Or.inr (Or.inr rfl)) (hd : (x == ("__debug__" : Str)) = false := by decide)
    (hcd : (x == ("__classdict__" : Str)) = false := by decide) : PV X (.Subscript (.Name x px) b pos) (dOpNs fIx i db) :=
  pv_of (pe_ix ix_seq (pe_var hN hv hd hcd) hb.pe hs) fun σ H τ Q R h => topN_of opD_ix R h.2 (R.isSet h.1) fun _ _ z => z
/-! ### - x -/
def dUn (f : D → (D → Prop) → Prop) (da : DV) : DV := fun τ Q => da τ fun x τ1 => f x fun z => Q z τ1
def fNeg : D → (D → Prop) → Prop := fun x Q => match x with
  | .int i => Q (.int (-i))
  | _ => False
theorem pv_neg (ha : PV X a da) : PV X (.UnaryOp .USub a pos) (dUn fNeg da) := by
  refine pv_of (pe_un un_neg ha.pe) fun σ H τ Q R h => ?_
  refine lv R h fun x H1 d τ1 p f q => ?_
  unfold fNeg at q
  split at q
  · cases f
    exact ⟨_, rfl, _, τ1, p, .int _, q⟩
  · exact q.elim
/-! ### in -/
def fIn (neg : Bool) : DOp := fun d e Q => match e with
  | .list ds => okEq d (.list ds) ∧ Q (.bool (neg != ds.any fun z => PyData.eqv z d))
  | .tuple ds => okEq d (.tuple ds) ∧ Q (.bool (neg != ds.any fun z => PyData.eqv z d))
  | _ => False
/-! ### calls of built-in functions -/
abbrev DCall := List D → (D → Prop) → Prop
inductive RvA (K : PySem.W.Frag) (H : Hp) : List V → List D → Prop
  | nil : RvA K H [] []
  | cons {v : V} {vs : List V} {d : D} {ds : List D} : Rv K H v d → RvA K H vs ds → RvA K H (v :: vs) (d :: ds)
theorem FzA.rvA {H : Hp} : ∀ {vs : List V} {ds : List D}, FzA K H vs ds → RvA K H vs ds
  | _, _, .nil => .nil
  | _, _, .cons h t => .cons (.fz h) (FzA.rvA t)
def CallD (K : PySem.W.Frag) (r : List V → Hp → VK → Prop) (f : DCall) : Prop := ∀ (H : Hp) (xs : List V) (ds : List D) (Q : D → Prop) (Q' : VK), RvA K H xs ds → f ds Q → (∀ z H' c, Same H H' → Fz K H' z c → Q c → Q' z H') → r xs H Q'
/-- one that gives a new list -/
abbrev DCallE := List D → (List D → Prop) → Prop
def CallE (K : PySem.W.Frag) (r : List V → Hp → VK → Prop) (f : DCallE) : Prop := ∀ (H : Hp) (xs : List V) (ds : List D) (Q : List D → Prop) (Q' : VK), RvA K H xs ds → f ds Q →
  (∀ p ys H' cs, H p = none → Same H H' → H' p = some (.lst ys) → FzA K H' ys cs → Q cs → Q' (.ref p) H') → r xs H Q'
def dCB (f : DCall) (da : DA) : DV := fun τ Q => da τ fun ds τ1 => f ds fun z => Q z τ1
def dCBE (f : DCallE) (da : DA) : DE := fun τ Q => da τ fun ds τ1 => f ds fun z => Q (.own z) τ1
/-- the only argument a name, read as it stands -/
def dCBN (f : DCall) (i : Nat) : DV := fun τ Q => ∃ sl d, τ[i]? = some sl ∧ slD sl = some d ∧ f [d] fun z => Q z τ
def dCBEN (f : DCallE) (i : Nat) : DE := fun τ Q => ∃ sl d, τ[i]? = some sl ∧ slD sl = some d ∧ f [d] fun z => Q (.own z) τ
theorem cb_of {r : List V → Hp → VK → Prop} {f : DCall} (hf : CallD K r f) {σ : L2.St} {H : Hp} {τ : SD} {Q : D → SD → Prop} (R : RelS K σ H τ) (h : dCB f dA τ Q) : tCB r (LA K dA) σ H (okV K σ H τ Q) :=
  la R h fun vs H1 ds τ1 p f1 q => hf H1 vs ds _ _ f1.rvA q fun z H' c s fz q' => ⟨c, τ1, p.same s, fz, q'⟩
theorem cbE_of {r : List V → Hp → VK → Prop} {f : DCallE} (hf : CallE K r f) {σ : L2.St} {H : Hp} {τ : SD} {Q : Res → SD → Prop} (R : RelS K σ H τ) (h : dCBE f dA τ Q) : tCB r (LA K dA) σ H (okE K σ H τ Q) :=
  la R h fun vs H1 ds τ1 p f1 q => hf H1 vs ds _ _ f1.rvA q fun a ys H' cs n s h' fz q' => ⟨.own cs, τ1, p.same s, ⟨a, ys, rfl, p.fresh n, h', fz⟩, q'⟩
theorem cbN_of {r : List V → Hp → VK → Prop} {f : DCall} (hf : CallD K r f) {i : Nat} {σ : L2.St} {H : Hp} {τ : SD} {Q : D → SD → Prop} (R : RelS K σ H τ) (h : dCBN f i τ Q) : tCB r (tCons (tVar i) tNil) σ H (okV K σ H τ Q) := by
  obtain ⟨sl, d, e1, e2, q⟩ := h
  obtain ⟨v, e3, rv⟩ := R.rv e1 e2
  exact ⟨v, e3, hf H [v] [d] _ _ (.cons rv .nil) q fun z H' c s fz q' => ⟨c, τ, (PostE.refl R).same s, fz, q'⟩⟩
theorem cbEN_of {r : List V → Hp → VK → Prop} {f : DCallE} (hf : CallE K r f) {i : Nat} {σ : L2.St} {H : Hp} {τ : SD} {Q : Res → SD → Prop} (R : RelS K σ H τ) (h : dCBEN f i τ Q) : tCB r (tCons (tVar i) tNil) σ H (okE K σ H τ Q) := by
  obtain ⟨sl, d, e1, e2, q⟩ := h
  obtain ⟨v, e3, rv⟩ := R.rv e1 e2
  exact ⟨v, e3, hf H [v] [d] _ _ (.cons rv .nil) q fun a ys H' cs n s h' fz q' => ⟨.own cs, τ, (PostE.refl R).same s, ⟨a, ys, rfl, n, h', fz⟩, q'⟩⟩
section
variable {id : String} {r : List V → Hp → VK → Prop} {f : DCall} {g : DCallE} {x y : Str} {p py : Pos} {u : Value}
theorem pv_blt (hc : CallR X (.builtin id) r) (hf : CallD X.K r f) (ha : PAD X (e :: es) dA) (hm : X.mg x = none) (hv : bootBuiltins x = some (.builtin id) := by decide +kernel) (hg : Gl X x := by rfl) (hn : x ≠ "__name__" := by decide) (hdb : (x == ("__debug__" : Str)) = false := by decide)
    (he : starEach (e :: es) X.env = (false, eval e X.env) :: starEach es X.env := by rfl) (hpl : (backTo pos (starEach es X.env)).any (·.1) = false := by rfl) : PV X (.Call (.Name x p) (e :: es) [] pos) (dCB f dA) :=
  pv_of (pe_callB hc hg hm hv ha.pa hn hdb he hpl) fun σ H τ Q R h => cb_of hf R h
theorem pd_blt (hc : CallR X (.builtin id) r) (hf : CallE X.K r g) (ha : PAD X (e :: es) dA) (hm : X.mg x = none) (hv : bootBuiltins x = some (.builtin id) := by decide +kernel) (hg : Gl X x := by rfl) (hn : x ≠ "__name__" := by decide) (hdb : (x == ("__debug__" : Str)) = false := by decide)
    (he : starEach (e :: es) X.env = (false, eval e X.env) :: starEach es X.env := by rfl) (hpl : (backTo pos (starEach es X.env)).any (·.1) = false := by rfl) : PD X (.Call (.Name x p) (e :: es) [] pos) (dCBE g dA) :=
  pd_of (pe_callB hc hg hm hv ha.pa hn hdb he hpl) fun σ H τ Q R h => cbE_of hf R h
theorem pv_bty (hc : CallR X (.type id) r) (hf : CallD X.K r f) (ha : PAD X (e :: es) dA) (hm : X.mg x = none) (hv : bootBuiltins x = some (.type id) := by decide +kernel) (hg : Gl X x := by rfl) (hn : x ≠ "__name__" := by decide) (hdb : (x == ("__debug__" : Str)) = false := by decide)
    (he : starEach (e :: es) X.env = (false, eval e X.env) :: starEach es X.env := by rfl) (hpl : (backTo pos (starEach es X.env)).any (·.1) = false := by rfl) : PV X (.Call (.Name x p) (e :: es) [] pos) (dCB f dA) :=
  pv_of (pe_callTy hc hg hm hv ha.pa hn hdb he hpl) fun σ H τ Q R h => cb_of hf R h
theorem pd_bty (hc : CallR X (.type id) r) (hf : CallE X.K r g) (ha : PAD X (e :: es) dA) (hm : X.mg x = none) (hv : bootBuiltins x = some (.type id) := by decide +kernel) (hg : Gl X x := by rfl) (hn : x ≠ "__name__" := by decide) (hdb : (x == ("__debug__" : Str)) = false := by decide)
    (he : starEach (e :: es) X.env = (false, eval e X.env) :: starEach es X.env := by rfl) (hpl : (backTo pos (starEach es X.env)).any (·.1) = false := by rfl) : PD X (.Call (.Name x p) (e :: es) [] pos) (dCBE g dA) :=
  pd_of (pe_callTy hc hg hm hv ha.pa hn hdb he hpl) fun σ H τ Q R h => cbE_of hf R h
theorem pv_bltN (i : Nat) (hc : CallR X (.builtin id) r) (hf : CallD X.K r f) (hm : X.mg x = none) (hv : bootBuiltins x = some (.builtin id) := by decide +kernel) (hg : Gl X x := by rfl) (hN : X.N[i]? = some y := by rfl) (hvy : Vis X.env.scope y := by first | exact Or.inl rfl | exact Or.inr (Or.inl rfl) | exact Or.inr (Or.inr rfl)) (hn : x ≠ "__name__" := by decide) (hdb : (x == ("__debug__" : Str)) = false := by decide)
    (hd : (y == ("__debug__" : Str)) = false := by decide) (hcd : (y == ("__classdict__" : Str)) = false := by decide) (he : starEach [.Name y py] X.env = (false, eval (.Name y py) X.env) :: starEach [] X.env := by rfl) (hpl : (backTo pos (starEach [] X.env)).any (·.1) = false := by rfl) : PV X (.Call (.Name x p) [.Name y py] [] pos) (dCBN f i) :=
  pv_of (pe_callB hc hg hm hv (pa_cons (pe_var hN hvy hd hcd) pa_nil he) hn hdb he hpl) fun σ H τ Q R h => cbN_of hf R h
theorem pd_bltN (i : Nat) (hc : CallR X (.builtin id) r) (hf : CallE X.K r g) (hm : X.mg x = none) (hv : bootBuiltins x = some (.builtin id) := by decide +kernel) (hg : Gl X x := by rfl) (hN : X.N[i]? = some y := by rfl) (hvy : Vis X.env.scope y := by first | exact Or.inl rfl | exact Or.inr (Or.inl rfl) | exact Or.inr (Or.inr rfl)) (hn : x ≠ "__name__" := by decide) (hdb : (x == ("__debug__" : Str)) = false := by decide)
    (hd : (y == ("__debug__" : Str)) = false := by decide) (hcd : (y == ("__classdict__" : Str)) = false := by decide) (he : starEach [.Name y py] X.env = (false, eval (.Name y py) X.env) :: starEach [] X.env := by rfl) (hpl : (backTo pos (starEach [] X.env)).any (·.1) = false := by rfl) : PD X (.Call (.Name x p) [.Name y py] [] pos) (dCBEN g i) :=
  pd_of (pe_callB hc hg hm hv (pa_cons (pe_var hN hvy hd hcd) pa_nil he) hn hdb he hpl) fun σ H τ Q R h => cbEN_of hf R h
theorem pv_btyN (i : Nat) (hc : CallR X (.type id) r) (hf : CallD X.K r f) (hm : X.mg x = none) (hv : bootBuiltins x = some (.type id) := by decide +kernel) (hg : Gl X x := by rfl) (hN : X.N[i]? = some y := by rfl) (hvy : Vis X.env.scope y := by first | exact Or.inl rfl | exact Or.inr (Or.inl rfl) | exact Or.inr (Or.inr rfl)) (hn : x ≠ "__name__" := by decide) (hdb : (x == ("__debug__" : Str)) = false := by decide)
    (hd : (y == ("__debug__" : Str)) = false := by decide) (hcd : (y == ("__classdict__" : Str)) = false := by decide) (he : starEach [.Name y py] X.env = (false, eval (.Name y py) X.env) :: starEach [] X.env := by rfl) (hpl : (backTo pos (starEach [] X.env)).any (·.1) = false := by rfl) : PV X (.Call (.Name x p) [.Name y py] [] pos) (dCBN f i) :=
  pv_of (pe_callTy hc hg hm hv (pa_cons (pe_var hN hvy hd hcd) pa_nil he) hn hdb he hpl) fun σ H τ Q R h => cbN_of hf R h
theorem pd_btyN (i : Nat) (hc : CallR X (.type id) r) (hf : CallE X.K r g) (hm : X.mg x = none) (hv : bootBuiltins x = some (.type id) := by decide +kernel) (hg : Gl X x := by rfl) (hN : X.N[i]? = some y := by rfl) (hvy : Vis X.env.scope y := by first | exact Or.inl rfl | exact Or.inr (Or.inl rfl) | exact Or.inr (Or.inr rfl)) (hn : x ≠ "__name__" := by decide) (hdb : (x == ("__debug__" : Str)) = false := by decide)
    (hd : (y == ("__debug__" : Str)) = false := by decide) (hcd : (y == ("__classdict__" : Str)) = false := by decide) (he : starEach [.Name y py] X.env = (false, eval (.Name y py) X.env) :: starEach [] X.env := by rfl) (hpl : (backTo pos (starEach [] X.env)).any (·.1) = false := by rfl) : PD X (.Call (.Name x p) [.Name y py] [] pos) (dCBEN g i) :=
  pd_of (pe_callTy hc hg hm hv (pa_cons (pe_var hN hvy hd hcd) pa_nil he) hn hdb he hpl) fun σ H τ Q R h => cbEN_of hf R h
end
/-! ### the built-in functions over data -/
def fAbs : DCall := fun ds Q => match ds with
  | [.int i] => Q (.int i.natAbs)
  | _ => False
theorem cd_abs : CallD K (fun xs H Q => ∃ i, xs = [.int i] ∧ Q (.int (if i < 0 then -i else i)) H) fAbs := by
  intro H xs ds Q Q' f h k
  unfold fAbs at h
  split at h
  · rename_i i
    cases f with
    | cons fv ft =>
      cases ft
      cases fv.int
      refine ⟨i, rfl, k _ H _ (Same.refl H) ?_ h⟩
      rw [show (if i < 0 then -i else i) = (i.natAbs : Int) by split <;> omega]
      exact .int _
  · exact h.elim
def fInt : DCall := fun ds Q => match ds with
  | [.int i] => Q (.int i)
  | [.bool b] => Q (.int (if b then 1 else 0))
  | _ => False
theorem cd_int : CallD K (fun xs H Q => (∃ i, xs = [.int i] ∧ Q (.int i) H) ∨ ∃ k, xs = [.bl k] ∧ Q (.int (if k then 1 else 0)) H) fInt := by
  intro H xs ds Q Q' f h k
  unfold fInt at h
  split at h
  · cases f with
    | cons fv ft =>
      cases ft
      cases fv.int
      exact .inl ⟨_, rfl, k _ H _ (Same.refl H) (.int _) h⟩
  · cases f with
    | cons fv ft =>
      cases ft
      cases fv.bl
      exact .inr ⟨_, rfl, k _ H _ (Same.refl H) (.int _) h⟩
  · exact h.elim
def fLen : DCall := fun ds Q => match ds with
  | [.list xs] => Q (.int xs.length)
  | [.tuple xs] => Q (.int xs.length)
  | _ => False
theorem cd_len : CallD K (fun xs H Q => ∃ p ys, xs = [.ref p] ∧ (SqL K H p ys ∨ SqT K H p ys) ∧ Q (.int ys.length) H) fLen := by
  intro H xs ds Q Q' f h k
  unfold fLen at h
  split at h
  · cases f with
    | cons fv ft =>
      cases ft
      obtain ⟨p, ys, rfl, hs, fa⟩ := fv.list
      refine ⟨p, ys, rfl, .inl hs, k _ H _ (Same.refl H) ?_ h⟩
      rw [fa.length]; exact .int _
  · cases f with
    | cons fv ft =>
      cases ft
      obtain ⟨p, ys, rfl, hs, fa⟩ := fv.tuple
      refine ⟨p, ys, rfl, .inr hs, k _ H _ (Same.refl H) ?_ h⟩
      rw [fa.length]; exact .int _
  · exact h.elim
/-- ints, bools of a list of data -/
def intsOf : List D → Option (List Int)
  | [] => some []
  | .int i :: r => (intsOf r).map (i :: ·)
  | _ :: _ => none
def boolsOf : List D → Option (List Bool)
  | [] => some []
  | .bool i :: r => (boolsOf r).map (i :: ·)
  | _ :: _ => none
theorem intsOf_eq : ∀ {ds : List D} {ns : List Int}, intsOf ds = some ns → ds = ns.map PyData.int
  | [], ns, h => by cases h; rfl
  | .int i :: r, ns, h => by
    unfold intsOf at h
    cases e : intsOf r with
    | none => rw [e] at h; cases h
    | some ms => rw [e] at h; cases h; rw [intsOf_eq e]; rfl
  | .none :: _, _, h | .bool _ :: _, _, h | .str _ :: _, _, h | .list _ :: _, _, h | .tuple _ :: _, _, h | .dict _ :: _, _, h => by simp [intsOf] at h
theorem boolsOf_eq : ∀ {ds : List D} {ns : List Bool}, boolsOf ds = some ns → ds = ns.map PyData.bool
  | [], ns, h => by cases h; rfl
  | .bool i :: r, ns, h => by
    unfold boolsOf at h
    cases e : boolsOf r with
    | none => rw [e] at h; cases h
    | some ms => rw [e] at h; cases h; rw [boolsOf_eq e]; rfl
  | .none :: _, _, h | .int _ :: _, _, h | .str _ :: _, _, h | .list _ :: _, _, h | .tuple _ :: _, _, h | .dict _ :: _, _, h => by simp [boolsOf] at h
theorem intsOf_map (ns : List Int) : intsOf (ns.map PyData.int) = some ns := by
  induction ns with
  | nil => rfl
  | cons n r ih => simp [intsOf, ih]
theorem boolsOf_map (ns : List Bool) : boolsOf (ns.map PyData.bool) = some ns := by
  induction ns with
  | nil => rfl
  | cons n r ih => simp [boolsOf, ih]
def fSum : DCall := fun ds Q => match ds with
  | [.list xs] => ∃ ns, intsOf xs = some ns ∧ Q (.int ns.sum)
  | _ => False
theorem cd_sum : CallD K (rSum K) fSum := by
  intro H xs ds Q Q' f h k
  unfold fSum at h
  split at h
  · obtain ⟨ns, e, q⟩ := h
    cases intsOf_eq e
    cases f with
    | cons fv ft =>
      cases ft
      obtain ⟨p, ys, rfl, hs, fa⟩ := fv.list
      rw [fa.ints] at hs
      exact ⟨p, ns, rfl, hs, k _ H _ (Same.refl H) (.int _) q⟩
  · exact h.elim
def fAny : DCall := fun ds Q => match ds with
  | [.list xs] => ∃ ns, boolsOf xs = some ns ∧ Q (.bool (ns.any id))
  | _ => False
def fAll : DCall := fun ds Q => match ds with
  | [.list xs] => ∃ ns, boolsOf xs = some ns ∧ Q (.bool (ns.all id))
  | _ => False
theorem cd_any : CallD K (rAny K) fAny := by
  intro H xs ds Q Q' f h k
  unfold fAny at h
  split at h
  · obtain ⟨ns, e, q⟩ := h
    cases boolsOf_eq e
    cases f with
    | cons fv ft =>
      cases ft
      obtain ⟨p, ys, rfl, hs, fa⟩ := fv.list
      rw [fa.bools] at hs
      exact ⟨p, ns, rfl, hs, k _ H _ (Same.refl H) (.bl _) q⟩
  · exact h.elim
theorem cd_all : CallD K (rAll K) fAll := by
  intro H xs ds Q Q' f h k
  unfold fAll at h
  split at h
  · obtain ⟨ns, e, q⟩ := h
    cases boolsOf_eq e
    cases f with
    | cons fv ft =>
      cases ft
      obtain ⟨p, ys, rfl, hs, fa⟩ := fv.list
      rw [fa.bools] at hs
      exact ⟨p, ns, rfl, hs, k _ H _ (Same.refl H) (.bl _) q⟩
  · exact h.elim
def fMax2 : DCall := fun ds Q => match ds with
  | [.int i, .int j] => Q (.int (max i j))
  | _ => False
def fMin2 : DCall := fun ds Q => match ds with
  | [.int i, .int j] => Q (.int (min i j))
  | _ => False
theorem cd_max2 : CallD K (fun xs H Q => ∃ i j, xs = [.int i, .int j] ∧ Q (.int (if j > i then j else i)) H) fMax2 := by
  intro H xs ds Q Q' f h k
  unfold fMax2 at h
  split at h
  · rename_i i j
    cases f with
    | cons fv ft =>
      cases ft with
      | cons fw ft =>
        cases ft
        cases fv.int; cases fw.int
        refine ⟨i, j, rfl, k _ H _ (Same.refl H) ?_ h⟩
        rw [show (if j > i then j else i) = max i j by split <;> omega]
        exact .int _
  · exact h.elim
theorem cd_min2 : CallD K (fun xs H Q => ∃ i j, xs = [.int i, .int j] ∧ Q (.int (if j < i then j else i)) H) fMin2 := by
  intro H xs ds Q Q' f h k
  unfold fMin2 at h
  split at h
  · rename_i i j
    cases f with
    | cons fv ft =>
      cases ft with
      | cons fw ft =>
        cases ft
        cases fv.int; cases fw.int
        refine ⟨i, j, rfl, k _ H _ (Same.refl H) ?_ h⟩
        rw [show (if j < i then j else i) = min i j by split <;> omega]
        exact .int _
  · exact h.elim
/-- tuple(..) of a list or a tuple -/
def fTuple : DCall := fun ds Q => match ds with
  | [.list xs] => Q (.tuple xs)
  | [.tuple xs] => Q (.tuple xs)
  | _ => False
theorem cd_tuple : CallD K (fun xs H Q => ∃ p ys, xs = [.ref p] ∧ ((SqL K H p ys ∧ ∀ l, H l = none → Q (.ref l) (upd H l (.tup ys))) ∨ (SqT K H p ys ∧ Q (.ref p) H))) fTuple := by
  intro H xs ds Q Q' f h k
  unfold fTuple at h
  split at h
  · cases f with
    | cons fv ft =>
      cases ft
      obtain ⟨p, ys, rfl, hs, fa⟩ := fv.list
      exact ⟨p, ys, rfl, .inl ⟨hs, fun l n => k _ _ _ (same_new n) (.tup (.inl (.inl upd_same)) (FzA.mono (Same.fe (same_new n)) fa)) h⟩⟩
  · cases f with
    | cons fv ft =>
      cases ft
      obtain ⟨p, ys, rfl, hs, fa⟩ := fv.tuple
      exact ⟨p, ys, rfl, .inr ⟨hs, k _ H _ (Same.refl H) (.tup hs fa) h⟩⟩
  · exact h.elim
/-- list(..) of a list or a tuple: a new list -/
def fList : DCallE := fun ds Q => match ds with
  | [.list xs] => Q xs
  | [.tuple xs] => Q xs
  | _ => False
theorem ce_list : CallE K (fun xs H Q => ∃ p ys, xs = [.ref p] ∧ (SqL K H p ys ∨ SqT K H p ys) ∧ ∀ l, H l = none → Q (.ref l) (upd H l (.lst ys))) fList := by
  intro H xs ds Q Q' f h k
  unfold fList at h
  split at h
  · cases f with
    | cons fv ft =>
      cases ft
      obtain ⟨p, ys, rfl, hs, fa⟩ := fv.list
      exact ⟨p, ys, rfl, .inl hs, fun l n => k l ys _ _ n (same_new n) upd_same (FzA.mono (Same.fe (same_new n)) fa) h⟩
  · cases f with
    | cons fv ft =>
      cases ft
      obtain ⟨p, ys, rfl, hs, fa⟩ := fv.tuple
      exact ⟨p, ys, rfl, .inr hs, fun l n => k l ys _ _ n (same_new n) upd_same (FzA.mono (Same.fe (same_new n)) fa) h⟩
  · exact h.elim
/-- sorted(..) of ints -/
def fSortedI : DCallE := fun ds Q => match ds with
  | [.list xs] => ∃ ns, intsOf xs = some ns ∧ ∀ ms : List Int, ms.Perm ns → ms.Pairwise (· ≤ ·) → Q (ms.map PyData.int)
  | _ => False
theorem ce_sortedI : CallE K (rSortedI K) fSortedI := by
  intro H xs ds Q Q' f h k
  unfold fSortedI at h
  split at h
  · obtain ⟨ns, e, q⟩ := h
    cases intsOf_eq e
    cases f with
    | cons fv ft =>
      cases ft
      obtain ⟨p, ys, rfl, hs, fa⟩ := fv.list
      rw [fa.ints] at hs
      exact ⟨p, ns, rfl, hs, fun ms l hp hw n => k l _ _ _ n (same_new n) upd_same (FzA.of_ints ms) (q ms hp hw)⟩
  · exact h.elim
end
end DL

namespace DL
open PySem PySem.Spec PyProof.Rows L2
section
variable {X : Cx}
/-! ### lists that may be read -/
theorem Inv.rdl {pins : List (Addr × Obj)} {s : Shared} {σ : L2.St} {H : Hp} {l : Addr} {xs : List V} (I : Inv X pins σ H s) (hH : Rd H l (.lst xs)) : xs.length ≤ sizeLine ∧ ∃ (its : List Value) (n : Nat), Vals xs its ∧ xs.length = its.length ∧ s.heap.get? l = some { cls := .type "list", data := .seq its.toArray n } := by
  obtain ⟨z, its, n, r, e⟩ := hH.ok I.hok
  exact ⟨z, its, n, r, r.length, e⟩
def rCatL : R2 := fun x y H Q => ∃ l b xs zs, x = .ref l ∧ y = .ref b ∧ Rd H l (.lst xs) ∧ Rd H b (.lst zs) ∧ xs.length + zs.length ≤ sizeLine ∧ ∀ p, H p = none → Q (.ref p) (upd H p (.lst (xs ++ zs)))
theorem op_catL : OpR X (binaryOp .Add) rCatL := by
  intro pins s σ H x y v u Q I rx ry h
  obtain ⟨l, b, xs, zs, rfl, rfl, hH, hB, hz, q⟩ := h
  cases rx
  cases ry
  obtain ⟨z, its, n, r, hl, e⟩ := Inv.rdl I hH
  obtain ⟨z2, its2, n2, r2, hl2, e2⟩ := Inv.rdl I hB
  refine PySem.P.add_list e e2 ?_ (by rw [List.size_toArray, List.size_toArray]; omega)
  have ea : its.toArray ++ its2.toArray = (its ++ its2).toArray := by simp
  rw [ea]
  exact ⟨.ref _, _, I.lnew (t' := s.toks) (r.append r2) (by rw [List.length_append]; omega), rfl, q _ I.fresh⟩
def rRepL : R2 := fun x y H Q => ∃ l k xs, x = .ref l ∧ y = .int k ∧ Rd H l (.lst xs) ∧ -(2 ^ 63) ≤ k ∧ k < 2 ^ 63 ∧ xs.length * k.toNat ≤ sizeLine ∧
  ∀ p, H p = none → Q (.ref p) (upd H p (.lst (List.replicate k.toNat xs).flatten))
theorem op_repL : OpR X (binaryOp .Mult) rRepL := by
  intro pins s σ H x y v u Q I rx ry h
  obtain ⟨l, k, xs, rfl, rfl, hH, h1, h2, hz, q⟩ := h
  cases rx
  obtain ⟨t, rfl⟩ := ry
  obtain ⟨z, its, n, r, hl, e⟩ := Inv.rdl I hH
  have hlen : its.toArray.size * k.toNat ≤ sizeLine := by rw [List.size_toArray, ← hl]; exact hz
  have hcap : ¬ its.toArray.size * k.toNat > (2 ^ 63 - 1) / 8 := by
    have : (sizeLine : Nat) ≤ (2 ^ 63 - 1) / 8 := by decide
    omega
  have hfit : ¬ (!Builtin.List.listFitsIndex k) = true := by
    rw [fitsIndex_both h1 h2]
    exact Bool.false_ne_true
  have hlong : ¬ Builtin.List.listTooLong (its.toArray.size * k.toNat) = true := by
    rw [notLongL hlen]
    exact Bool.false_ne_true
  have hnew : List.foldl (fun x1 x2 => x1 ++ x2) #[] (List.replicate (if its.toArray.isEmpty = true then 0 else k.toNat) its.toArray) = (List.replicate k.toNat its).flatten.toArray := by
    have f0 : ∀ m : Nat, List.foldl (fun x1 x2 => x1 ++ x2) #[] (List.replicate m its.toArray) = (List.replicate m its).flatten.toArray := fun m => by
      have := foldl_rep its m []
      rw [List.nil_append] at this
      exact this
    rw [f0]
    cases its with
    | nil => simp
    | cons a r' => rw [if_neg (by simp)]
  refine wpAny_binaryOp_repeat_ref (T := "list") (U := "int") (by decide) ⟨_, e, rfl⟩ (fun s' => typeIs_int s' k t) noFill_list_mul F.fills_int_mul F.slot_int_rmul repeat_list F.slot_int_index.lookup
    (call_meets F.slot_int_rmul (typeIs_int s k t) F.entry_int_rmul (F.args_int_rmul_2 _ _) (int___rmul___int_list k t l its.toArray n)
      ⟨e, rfl, ⟨_, e, rfl⟩, call_meets F.slot_list_mul ⟨_, e, rfl⟩ F.entry_list_mul (F.args_list_mul_2 _ _) (AutoListH.list___mul___list_int_3 l its.toArray n k t hfit hcap hlong) ⟨e, ?_⟩⟩)
  rw [hnew]
  exact ⟨.ref _, _, I.lnew (t' := s.toks) (r.rep k.toNat) (by rw [PyProof.Rows.lm_len_rep_flat, Nat.mul_comm]; exact hz), rfl, q _ I.fresh⟩
def rExtendL : V → List V → Hp → VK → Prop := fun x vs H Q => ∃ l b xs zs, x = .ref l ∧ vs = [.ref b] ∧ H l = some (.lst xs) ∧ Rd H b (.lst zs) ∧ xs.length + zs.length ≤ sizeLine ∧ Q .non (upd H l (.lst (xs ++ zs)))
theorem mt_extendL : MtM X "list.extend" rExtendL := by
  intro pins s σ H x vs v us Q I rx rv h
  obtain ⟨l, b, xs, zs, rfl, rfl, hH, hB, hz, q⟩ := h
  cases rx
  obtain ⟨u, rfl, ru⟩ := rv.one
  cases ru
  obtain ⟨z, its, n, r, hl, e⟩ := I.lstM hH
  obtain ⟨z2, its2, n2, r2, hl2, e2⟩ := Inv.rdl I hB
  have hsz : its.toArray.size + its2.toArray.size ≤ sizeLine := by rw [List.size_toArray, List.size_toArray]; omega
  have hlong : ¬ (!its.toArray.isEmpty && Builtin.List.listTooLong (its.toArray.size + its2.toArray.size)) = true := by
    rw [notLongL hsz, Bool.and_false]
    exact Bool.false_ne_true
  refine call_meets F.slot_list_extend ⟨_, e, rfl⟩ F.entry_list_extend (F.args_list_extend_2 _ _)
    (AutoSeq1.list_extend_list_list_0 l its.toArray n b its2.toArray n2 hlong (by rw [List.size_toArray]; omega) (by omega)) ⟨e, e2, ?_⟩
  refine ⟨.non, _, I.lset (its' := its ++ its2) hH e (by simp) (r.append r2) ?_, rfl, q⟩
  rw [List.length_append]
  omega
end
section
variable {X : Cx} {e a b c : Expr} {es : List Expr} {de da db dc : DV} {dE : DE} {dt du : DT} {dA : DA} {pos : Pos} {K : PySem.W.Frag}
/-! ### list + list, list * int, tuple * int: new ones -/
def dCat (da db : DV) : DE := fun τ Q => da τ fun x τ1 => db τ1 fun y τ2 => ∃ xs ys, x = .list xs ∧ y = .list ys ∧ xs.length + ys.length ≤ 100000 ∧ Q (.own (xs ++ ys)) τ2
theorem pd_cat (ha : PV X a da) (hb : PV X b db) : PD X (.BinOp a .Add b pos) (dCat da db) := by
  refine pd_of (pe_op op_catL ha.pe hb.pe) fun σ H τ Q R h => ?_
  refine lv R h fun x H1 d τ1 p1 f1 q1 => lv p1.rel q1 fun y H2 e τ2 p2 f2 ⟨xs, ys, e1, e2, z, q⟩ => ?_
  subst e1 e2
  obtain ⟨l, us, rfl, r1, g1⟩ := (Fz.mono p2.fe f1).listR
  obtain ⟨m, ws, rfl, r2, g2⟩ := f2.listR
  refine ⟨l, m, us, ws, rfl, rfl, r1, r2, by rw [g1.length, g2.length]; exact sz_of z, fun p n => ?_⟩
  have s := same_new (o := .lst (us ++ ws)) n
  exact ⟨.own _, τ2, (p1.trans p2).same s, ⟨p, _, rfl, (p1.trans p2).fresh n, upd_same, FzA.mono (Same.fe s) (g1.append g2)⟩, q⟩
theorem FzA.rep {H : Hp} {xs : List V} {ds : List D} (f : FzA K H xs ds) : ∀ k : Nat, FzA K H (List.replicate k xs).flatten (List.replicate k ds).flatten
  | 0 => .nil
  | k + 1 => by
    rw [List.replicate_succ, List.replicate_succ, List.flatten_cons, List.flatten_cons]
    exact f.append (FzA.rep f k)
def dRepL (da db : DV) : DE := fun τ Q => da τ fun x τ1 => db τ1 fun y τ2 => ∃ xs k, x = .list xs ∧ y = .int k ∧ (-(2 ^ 63) ≤ k ∧ k < 2 ^ 63 ∧ xs.length * k.toNat ≤ 100000) ∧ Q (.own (List.replicate k.toNat xs).flatten) τ2
theorem pd_repL (ha : PV X a da) (hb : PV X b db) : PD X (.BinOp a .Mult b pos) (dRepL da db) := by
  refine pd_of (pe_op op_repL ha.pe hb.pe) fun σ H τ Q R h => ?_
  refine lv R h fun x H1 d τ1 p1 f1 q1 => lv p1.rel q1 fun y H2 e τ2 p2 f2 ⟨xs, k, e1, e2, ⟨k1, k2, z⟩, q⟩ => ?_
  subst e1 e2
  obtain ⟨l, us, rfl, r1, g1⟩ := (Fz.mono p2.fe f1).listR
  cases f2
  refine ⟨l, k, us, rfl, rfl, r1, k1, k2, by rw [g1.length]; exact sz_of z, fun p n => ?_⟩
  have s := same_new (o := .lst (List.replicate k.toNat us).flatten) n
  exact ⟨.own _, τ2, (p1.trans p2).same s, ⟨p, _, rfl, (p1.trans p2).fresh n, upd_same, FzA.mono (Same.fe s) (g1.rep _)⟩, q⟩

/-! ### the owned list of a slot is changed -/
theorem RelS.setOwn {σ : L2.St} {H : Hp} {τ : SD} (R : RelS K σ H τ) {i : Nat} {ds ds' : List D} {p : Addr} {xs' : List V} (e : τ[i]? = some (.own ds)) (es : σ[i]? = some (some (.ref p))) (f : FzA K H xs' ds') :
    PostE K σ H τ (upd H p (.lst xs')) (τ.set i (.own ds')) := by
  have hi : i < τ.length := (List.getElem?_eq_some_iff.mp e).1
  obtain ⟨p', xs, e2, h, _⟩ := R.own e
  rw [es] at e2
  cases e2
  have fe : FE H (upd H p (.lst xs')) := by
    refine ⟨fun b ys q => ?_, fun b o u q => ?_⟩
    · rw [upd_ne (ne_of q h (by intro z; cases z))]; exact q
    · rw [upd_ne (ne_of q h (by intro z; cases z))]; exact q
  refine ⟨R, ⟨by rw [List.length_set]; exact R.len, fun j ov sl e1 e2 => ?_, fun j k es' fs b e1 e2 e3 e4 => ?_⟩, fun b u hb no => ?_, fun j fs e1 => ?_, fun b u hb => ?_⟩
  · by_cases hj : j = i
    · subst hj
      rw [List.getElem?_set_self hi] at e2
      cases e2
      rw [es] at e1
      cases e1
      exact ⟨p, xs', rfl, upd_same, FzA.mono fe f⟩
    · rw [List.getElem?_set_ne (Ne.symm hj)] at e2
      refine (R.at_ j ov sl e1 e2).mono fe fun b ys es2 ov' sl' hb => ?_
      subst sl'
      subst ov'
      rw [upd_ne ?_]
      · exact hb
      · intro z
        subst z
        exact hj (R.apart j i _ _ _ e2 e e1 es)
  · by_cases hj : j = i
    · by_cases hk : k = i
      · rw [hj, hk]
      · subst hj
        rw [List.getElem?_set_ne (Ne.symm hk)] at e2
        exact R.apart j k _ _ _ e e2 e3 e4
    · rw [List.getElem?_set_ne (Ne.symm hj)] at e1
      by_cases hk : k = i
      · subst hk
        exact R.apart j k _ _ _ e1 e e3 e4
      · rw [List.getElem?_set_ne (Ne.symm hk)] at e2
        exact R.apart j k _ _ _ e1 e2 e3 e4
  · rw [upd_ne]
    · exact hb
    · intro z; subst z
      exact no ⟨i, ds, e, es⟩
  · by_cases hj : j = i
    · subst hj
      exact ⟨ds, e⟩
    · rw [List.getElem?_set_ne (Ne.symm hj)] at e1
      exact ⟨fs, e1⟩
  · by_cases z : b = p
    · subst z; exact ⟨_, upd_same⟩
    · exact ⟨u, by rw [upd_ne z]; exact hb⟩
def isOwn (τ : SD) (i : Nat) : Prop := ∃ ds, τ[i]? = some (.own ds)
/-- methods of the list that slot i owns -/
abbrev DMet := List D → List D → (D → List D → Prop) → Prop
def MetD (K : PySem.W.Frag) (r : V → List V → Hp → VK → Prop) (f : DMet) : Prop := ∀ (H : Hp) (p : Addr) (xs : List V) (ds : List D) (vs : List V) (as : List D) (Q : D → List D → Prop) (Q' : VK), H p = some (.lst xs) → FzA K H xs ds → FzA K H vs as → f ds as Q →
  (∀ z xs' c ds', FzA K H xs' ds' → Fz K H z c → Q c ds' → Q' z (upd H p (.lst xs'))) → r (.ref p) vs H Q'
def dMet (f : DMet) (i : Nat) (da : DA) : DV := fun τ Q => isOwn τ i ∧ da τ fun as τ1 => ∃ ds, τ1[i]? = some (.own ds) ∧ f ds as fun z ds' => Q z (τ1.set i (.own ds'))
def dMet0 (f : DMet) (i : Nat) : DV := fun τ Q => ∃ ds, τ[i]? = some (.own ds) ∧ f ds [] fun z ds' => Q z (τ.set i (.own ds'))
theorem fe_lst {H : Hp} {p : Addr} {xs xs' : List V} (h : H p = some (.lst xs)) : FE H (upd H p (.lst xs')) := by
  refine ⟨fun b ys q => ?_, fun b o u q => ?_⟩
  · rw [upd_ne (ne_of q h (by intro z; cases z))]; exact q
  · rw [upd_ne (ne_of q h (by intro z; cases z))]; exact q
section
variable {y name : Str} {id : String} {py apos cpos : Pos} {r : V → List V → Hp → VK → Prop} {f : DMet}
theorem pv_met (i : Nat) (hm : MtM X id r) (hf : MetD X.K r f) (ha : PAD X (e :: es) dA) (slot : Slot "list" name id) (hty : typeOf (.builtin id) = pure (.type "method_descriptor")) (hN : X.N[i]? = some y := by rfl) (hv : Vis X.env.scope y := by first | exact Or.inl rfl | exact Or.inr (Or.inl rfl) | exact Or.inr (Or.inr rfl)) (hd : (y == ("__debug__" : Str)) = false := by decide)
    (hcd : (y == ("__classdict__" : Str)) = false := by decide)
    (hpe : ∀ {to : TE} {t : TA}, PE X (.Name y py) to → PA X (e :: es) t → PE X (.Call (.Attribute (.Name y py) name apos) (e :: es) [] cpos) (tBM X.K "list" r to t)) :
    PV X (.Call (.Attribute (.Name y py) name apos) (e :: es) [] cpos) (dMet f i dA) := by
  refine pv_of (hpe (pe_var hN hv hd hcd) ha.pa) fun σ H τ Q R h => ?_
  obtain ⟨⟨ds0, e0⟩, h⟩ := h
  obtain ⟨p, xs0, e1, h1, f1⟩ := R.own e0
  refine ⟨.ref p, e1, .inl ⟨rfl, xs0, .inl (.inl h1)⟩, ?_⟩
  refine la R h fun vs H1 as τ1 p1 g1 ⟨ds, e2, q⟩ => ?_
  obtain ⟨p', xs, e3, h2, f2⟩ := p1.rel.own e2
  rw [e1] at e3
  cases e3
  exact hf H1 p xs ds vs as _ _ h2 f2 g1 q fun z xs' c ds' g fz q' => ⟨c, _, p1.trans (p1.rel.setOwn e2 e1 g), Fz.mono (fe_lst h2) fz, q'⟩
theorem pv_met0 (i : Nat) (hm : MtM X id r) (hf : MetD X.K r f) (slot : Slot "list" name id) (hty : typeOf (.builtin id) = pure (.type "method_descriptor")) (hN : X.N[i]? = some y := by rfl) (hv : Vis X.env.scope y := by first | exact Or.inl rfl | exact Or.inr (Or.inl rfl) | exact Or.inr (Or.inr rfl)) (hd : (y == ("__debug__" : Str)) = false := by decide)
    (hcd : (y == ("__classdict__" : Str)) = false := by decide)
    (hpe : ∀ {to : TE}, PE X (.Name y py) to → PE X (.Call (.Attribute (.Name y py) name apos) [] [] cpos) (tBM0 X.K "list" r to)) :
    PV X (.Call (.Attribute (.Name y py) name apos) [] [] cpos) (dMet0 f i) := by
  refine pv_of (hpe (pe_var hN hv hd hcd)) fun σ H τ Q R h => ?_
  obtain ⟨ds, e0, q⟩ := h
  obtain ⟨p, xs, e1, h1, f1⟩ := R.own e0
  exact ⟨.ref p, e1, .inl ⟨rfl, xs, .inl (.inl h1)⟩, hf H p xs ds [] [] _ _ h1 f1 .nil q fun z xs' c ds' g fz q' => ⟨c, _, R.setOwn e0 e1 g, Fz.mono (fe_lst h1) fz, q'⟩⟩
end
def fAppend : DMet := fun ds as Q => match as with
  | [d] => ds.length < 100000 ∧ Q .none (ds ++ [d])
  | _ => False
theorem md_append : MetD K rAppend fAppend := by
  intro H p xs ds vs as Q Q' h f g q k
  unfold fAppend at q
  split at q
  · cases g with
    | cons g1 g2 =>
      cases g2
      exact ⟨p, xs, _, rfl, rfl, h, by rw [f.length]; exact sz_lt q.1, k _ _ _ _ (f.append (.cons g1 .nil)) .non q.2⟩
  · exact q.elim
def fExtend : DMet := fun ds as Q => match as with
  | [.list es] => ds.length + es.length ≤ 100000 ∧ Q .none (ds ++ es)
  | _ => False
theorem md_extend : MetD K rExtendL fExtend := by
  intro H p xs ds vs as Q Q' h f g q k
  unfold fExtend at q
  split at q
  · cases g with
    | cons g1 g2 =>
      cases g2
      obtain ⟨b, zs, rfl, r, g3⟩ := g1.listR
      exact ⟨p, b, xs, zs, rfl, rfl, h, r, by rw [f.length, g3.length]; exact sz_of q.1, k _ _ _ _ (f.append g3) .non q.2⟩
  · exact q.elim
/-- pop(), pop(i) -/
def fPop : DMet := fun ds as Q => match as with
  | [] => ∃ d, ds[ds.length - 1]? = some d ∧ Q d ds.dropLast
  | _ => False
theorem FzA.dropLast {H : Hp} {xs : List V} {ds : List D} (f : FzA K H xs ds) : FzA K H xs.dropLast ds.dropLast := by
  rw [List.dropLast_eq_take, List.dropLast_eq_take, f.length]
  exact f.take _
theorem md_pop : MetD K rPop fPop := by
  intro H p xs ds vs as Q Q' h f g q k
  unfold fPop at q
  split at q
  · cases g
    obtain ⟨d, e, q⟩ := q
    obtain ⟨v, e2, fv⟩ := f.get e
    exact ⟨p, xs, v, rfl, rfl, h, by rw [f.length]; exact e2, k _ _ _ _ f.dropLast fv q⟩
  · exact q.elim
def fPopAt : DMet := fun ds as Q => match as with
  | [.int i] => 0 ≤ i ∧ i < 2 ^ 63 ∧ ∃ d, ds[i.toNat]? = some d ∧ Q d (ds.eraseIdx i.toNat)
  | _ => False
theorem seqIx_nat {i : Int} {n : Nat} (h : 0 ≤ i) (hn : i.toNat < n) : seqIndex? i n = some i.toNat := by
  have e : ixN n i = some i.toNat := by
    unfold ixN
    rw [if_pos h, if_pos (by omega)]
  exact (ixN_seq e).1
theorem md_popAt : MetD K rPopAt fPopAt := by
  intro H p xs ds vs as Q Q' h f g q k
  unfold fPopAt at q
  split at q
  · cases g with
    | cons g1 g2 =>
      cases g2
      cases g1
      obtain ⟨h0, h1, d, e, q⟩ := q
      obtain ⟨v, e2, fv⟩ := f.get e
      have hl : _ < xs.length := (List.getElem?_eq_some_iff.mp e2).1
      exact ⟨p, xs, _, _, v, rfl, rfl, h, by omega, h1, seqIx_nat h0 hl, e2, k _ _ _ _ (f.eraseIdx _) fv q⟩
  · exact q.elim
end
end DL

namespace DL
open PySem PySem.Spec PyProof.Rows L2
/-! ### statements -/
structure DEnds where
  nx : SD → Prop
  rt : Res → SD → Prop
  bk : SD → Prop := fun _ => False
  ct : SD → Prop := fun _ => False
abbrev DS := DEnds → SD → Prop
/-- behind a statement: the slots of P still hold what they held -/
structure PostS (P : List Nat) (K : PySem.W.Frag) (σ : L2.St) (H : Hp) (τ : SD) (σ' : L2.St) (H' : Hp) (τ' : SD) : Prop where
  rel0 : RelS K σ H τ
  rel : RelS K σ' H' τ'
  fr : Fr (Ow σ τ) H H'
  sub : ∀ (j : Nat) (ds : List D) (a : Addr), τ'[j]? = some (.own ds) → σ'[j]? = some (some (.ref a)) → (∃ ds0, τ[j]? = some (.own ds0) ∧ σ[j]? = some (some (.ref a))) ∨ (H a = none ∧ j ∉ P)
  len : σ'.length = σ.length
  live : ∀ a o, H a = some o → ∃ o', H' a = some o'
  pin : ∀ i ∈ P, σ'[i]? = σ[i]?
section
variable {P : List Nat} {K : PySem.W.Frag} {σ σ1 σ2 : L2.St} {H H1 H2 : Hp} {τ τ1 τ2 : SD}
theorem PostE.st (p : PostE K σ H τ H1 τ1) : PostS P K σ H τ σ H1 τ1 := ⟨p.rel0, p.rel, p.fr, fun j ds a h e => let ⟨d0, h0⟩ := p.sub j ds h; .inl ⟨d0, h0, e⟩, rfl, p.live, fun _ _ => rfl⟩
theorem PostS.ow (p : PostS P K σ H τ σ1 H1 τ1) {a : Addr} (h : Ow σ1 τ1 a) : Ow σ τ a ∨ H a = none := by
  obtain ⟨j, ds, e1, e2⟩ := h
  rcases p.sub j ds a e1 e2 with ⟨d0, h0, h1⟩ | ⟨h, _⟩
  · exact .inl ⟨j, d0, h0, h1⟩
  · exact .inr h
theorem PostS.trans (a : PostS P K σ H τ σ1 H1 τ1) (b : PostS P K σ1 H1 τ1 σ2 H2 τ2) : PostS P K σ H τ σ2 H2 τ2 := by
  refine ⟨a.rel0, b.rel, fun x o h n => b.fr x o (a.fr x o h n) fun z => ?_, fun j ds x h e => ?_, b.len.trans a.len, fun x o h => let ⟨o', h'⟩ := a.live x o h; b.live x o' h', fun i hi => (b.pin i hi).trans (a.pin i hi)⟩
  · rcases a.ow z with z | z
    · exact n z
    · rw [h] at z; cases z
  · rcases b.sub j ds x h e with ⟨d0, h0, h1⟩ | ⟨z, hj⟩
    · exact a.sub j d0 x h0 h1
    · cases e : H x with
      | none => exact .inr ⟨rfl, hj⟩
      | some o =>
        obtain ⟨o', e'⟩ := a.live x o e
        rw [z] at e'; cases e'
theorem PostS.fresh (p : PostS P K σ H τ σ1 H1 τ1) {a : Addr} (h : H1 a = none) : H a = none := by
  cases e : H a with
  | none => rfl
  | some o =>
    obtain ⟨o', e'⟩ := p.live a o e
    rw [h] at e'; cases e'
theorem PostS.fe (a : PostS P K σ H τ σ1 H1 τ1) : FE H H1 := a.rel0.fe a.fr
theorem RelR.before {v : V} {r : Res} (f : RelR K H1 H2 v r) (n : ∀ a, H1 a = none → H a = none) : RelR K H H2 v r := by
  cases r with
  | val d => exact f
  | own ds =>
    obtain ⟨a, xs, e, h, q⟩ := f
    exact ⟨a, xs, e, n a h, q⟩
/-- what is handed back: data, or a list that is new or was a slot's own that is not of P -/
def RelT (P : List Nat) (K : PySem.W.Frag) (σ : L2.St) (H : Hp) (τ : SD) (H' : Hp) (v : V) : Res → Prop
  | .val d => Fz K H' v d
  | .own ds => ∃ a xs, v = .ref a ∧ H' a = some (.lst xs) ∧ FzA K H' xs ds ∧ (H a = none ∨ ∃ (j : Nat) (ds0 : List D), j ∉ P ∧ τ[j]? = some (.own ds0) ∧ σ[j]? = some (some (.ref a)))
theorem RelT.before {v : V} {r : Res} (f : RelT P K σ1 H1 τ1 H2 v r) (p : PostS P K σ H τ σ1 H1 τ1) : RelT P K σ H τ H2 v r := by
  cases r with
  | val d => exact f
  | own ds =>
    obtain ⟨a, xs, e, h, q, o⟩ := f
    refine ⟨a, xs, e, h, q, ?_⟩
    rcases o with o | ⟨j, ds0, hj, h1, h2⟩
    · exact .inl (p.fresh o)
    · rcases p.sub j ds0 a h1 h2 with ⟨d1, h3, h4⟩ | ⟨h3, _⟩
      · exact .inr ⟨j, d1, hj, h3, h4⟩
      · exact .inl h3
theorem RelR.t {v : V} {r : Res} (f : RelR K H H2 v r) : RelT P K σ H τ H2 v r := by
  cases r with
  | val d => exact f
  | own ds =>
    obtain ⟨a, xs, e, n, h, q⟩ := f
    exact ⟨a, xs, e, h, q, .inl n⟩
/-- the ends over values, from those over data -/
def upE (P : List Nat) (K : PySem.W.Frag) (σ : L2.St) (H : Hp) (τ : SD) (D : DEnds) : Ends where
  nx := fun σ' H' => ∃ τ', PostS P K σ H τ σ' H' τ' ∧ D.nx τ'
  rt := fun v H' => ∃ σ' r τ', PostS P K σ H τ σ' H' τ' ∧ RelT P K σ H τ H' v r ∧ D.rt r τ'
  bk := fun σ' H' => ∃ τ', PostS P K σ H τ σ' H' τ' ∧ D.bk τ'
  ct := fun σ' H' => ∃ τ', PostS P K σ H τ σ' H' τ' ∧ D.ct τ'
end
structure PSD (X : Cx) (P : List Nat) (st : Stmt) (ds : DS) : Prop where
  run : ∀ (pins : List (Addr × Obj)) (s : Shared) (σ : L2.St) (H : Hp) (τ : SD) (D : DEnds), Inv X pins σ H s → RelS X.K σ H τ → ds D τ → wpAny (model X.prog X.w) X.A (exec st X.env) (SP X pins (upE P X.K σ H τ D)) X.xe s
structure PSsD (X : Cx) (P : List Nat) (st : List Stmt) (ds : DS) : Prop where
  run : ∀ (pins : List (Addr × Obj)) (s : Shared) (σ : L2.St) (H : Hp) (τ : SD) (D : DEnds), Inv X pins σ H s → RelS X.K σ H τ → ds D τ → wpAny (model X.prog X.w) X.A (execs st X.env) (SP X pins (upE P X.K σ H τ D)) X.xe s
/-- weaker ends -/
structure EndsLe (D D' : Ends) : Prop where
  nx : ∀ σ H, D.nx σ H → D'.nx σ H
  rt : ∀ v H, D.rt v H → D'.rt v H
  bk : ∀ σ H, D.bk σ H → D'.bk σ H
  ct : ∀ σ H, D.ct σ H → D'.ct σ H
theorem SP.mono {X : Cx} {pins : List (Addr × Obj)} {D D' : Ends} {f : Flow} {s : Shared} (l : EndsLe D D') (h : SP X pins D f s) : SP X pins D' f s := by
  cases f with
  | next => obtain ⟨σ, H, I, q⟩ := h; exact ⟨σ, H, I, l.nx _ _ q⟩
  | brk => obtain ⟨σ, H, I, q⟩ := h; exact ⟨σ, H, I, l.bk _ _ q⟩
  | cont => obtain ⟨σ, H, I, q⟩ := h; exact ⟨σ, H, I, l.ct _ _ q⟩
  | ret u => obtain ⟨v, σ, H, I, r, q⟩ := h; exact ⟨v, σ, H, I, r, l.rt _ _ q⟩
def LS (P : List Nat) (K : PySem.W.Frag) (ds : DS) : TS := fun D' σ H => ∃ τ D, RelS K σ H τ ∧ ds D τ ∧ EndsLe (upE P K σ H τ D) D'
section
variable {X : Cx} {P : List Nat} {st : Stmt} {sts : List Stmt} {e c : Expr} {ds du : DS} {de : DV} {dE : DE} {dt : DT} {pos : Pos} {K : PySem.W.Frag}
theorem PSD.ps (h : PSD X P st ds) : PS X st (LS P X.K ds) := ⟨fun pins s σ H D' I ⟨τ, D, R, hd, l⟩ => thn (h.run pins s σ H τ D I R hd) fun _ _ q => SP.mono l q⟩
theorem PSsD.ps (h : PSsD X P sts ds) : PSs X sts (LS P X.K ds) := ⟨fun pins s σ H D' I ⟨τ, D, R, hd, l⟩ => thn (h.run pins s σ H τ D I R hd) fun _ _ q => SP.mono l q⟩
theorem psd_of {t : TS} (h : PS X st t) (c : ∀ σ H τ D, RelS X.K σ H τ → ds D τ → t (upE P X.K σ H τ D) σ H) : PSD X P st ds := ⟨fun pins s σ H τ D I R hd => h.run pins s σ H _ I (c σ H τ D R hd)⟩
theorem pssd_of {t : TS} (h : PSs X sts t) (c : ∀ σ H τ D, RelS X.K σ H τ → ds D τ → t (upE P X.K σ H τ D) σ H) : PSsD X P sts ds := ⟨fun pins s σ H τ D I R hd => h.run pins s σ H _ I (c σ H τ D R hd)⟩
/-- the ends of what follows a part -/
theorem upE_trans {σ σ1 : L2.St} {H H1 : Hp} {τ τ1 : SD} {D : DEnds} (p : PostS P K σ H τ σ1 H1 τ1) : EndsLe (upE P K σ1 H1 τ1 D) (upE P K σ H τ D) :=
  ⟨fun _ _ ⟨τ', q, h⟩ => ⟨τ', p.trans q, h⟩, fun _ _ ⟨σ', r, τ', q, f, h⟩ => ⟨σ', r, τ', p.trans q, f.before p, h⟩, fun _ _ ⟨τ', q, h⟩ => ⟨τ', p.trans q, h⟩, fun _ _ ⟨τ', q, h⟩ => ⟨τ', p.trans q, h⟩⟩
def sNext : DS := fun D τ => D.nx τ
def sSeq (t u : DS) : DS := fun D τ => t { D with nx := u D } τ
theorem ss_nil : PSsD X P [] sNext := pssd_of pss_nil fun σ H τ D R h => ⟨τ, (PostE.refl R).st, h⟩
theorem ss_one (h : PSD X P st ds) : PSsD X P [st] ds := pssd_of (pss_one h.ps) fun σ H τ D R hd => ⟨τ, D, R, hd, fun _ _ q => q, fun _ _ q => q, fun _ _ q => q, fun _ _ q => q⟩
theorem ss_cons (h1 : PSD X P st ds) (h2 : PSsD X P sts du) : PSsD X P (st :: sts) (sSeq ds du) := by
  refine pssd_of (pss_cons h1.ps h2.ps) fun σ H τ D R hd => ?_
  refine ⟨τ, _, R, hd, fun σ' H' ⟨τ', p, q⟩ => ?_, fun _ _ q => q, fun _ _ q => q, fun _ _ q => q⟩
  exact ⟨τ', D, p.rel, q, upE_trans p⟩
def sBreak : DS := fun D τ => D.bk τ
def sCont : DS := fun D τ => D.ct τ
theorem s_pass : PSD X P (.Pass pos) sNext := psd_of ps_pass fun σ H τ D R h => ⟨τ, (PostE.refl R).st, h⟩
theorem s_break : PSD X P (.Break pos) sBreak := psd_of ps_break fun σ H τ D R h => ⟨τ, (PostE.refl R).st, h⟩
theorem s_cont : PSD X P (.Continue pos) sCont := psd_of ps_continue fun σ H τ D R h => ⟨τ, (PostE.refl R).st, h⟩
def sDrop (de : DV) : DS := fun D τ => de τ fun _ τ' => D.nx τ'
theorem s_expr (h : PV X e de) (hs : swapsWith e none pos.line X.env = pure false := by rfl) : PSD X P (.Expr e pos) (sDrop de) :=
  psd_of (ps_expr h.pe hs) fun σ H τ D R hd => lv R hd fun v H' d τ' p f q => ⟨τ', p.st, q⟩
def sRet (dE : DE) : DS := fun D τ => dE τ fun r τ' => D.rt r τ'
theorem s_ret (h : PD X e dE) : PSD X P (.Return (some e) pos) (sRet dE) :=
  psd_of (ps_ret h.pe) fun σ H τ D R hd => le' R hd fun v H' r τ' p f q => ⟨σ, r, τ', p.st, f.t, q⟩
def sIf (t : DT) (a b : DS) : DS := fun D τ => t τ fun k τ' => if k = true then a D τ' else b D τ'
theorem s_if {ba bb : List Stmt} (hc : PTD X c dt) (ha : PSsD X P ba ds) (hb : PSsD X P bb du) : PSD X P (.If c ba bb pos) (sIf dt ds du) := by
  refine psd_of (ps_if hc.pt ha.ps hb.ps) fun σ H τ D R hd => ?_
  refine lt' R hd fun k H' τ' p q => ?_
  cases k with
  | true => exact ⟨τ', D, p.rel, q, upE_trans p.st⟩
  | false => exact ⟨τ', D, p.rel, q, upE_trans p.st⟩
/-- code that is never come to -/
def sNever : DS := fun _ _ => False
theorem s_never : PSD X P st sNever := psd_of ps_never fun _ _ _ _ _ h => h
theorem ss_never : PSsD X P sts sNever := pssd_of pss_never fun _ _ _ _ _ h => h
/-! ### name = e -/
def Res.sl : Res → Sl
  | .val d => .val d
  | .own ds => .own ds
/-- a value that is stored: what it owns nobody owns yet -/
theorem PostS.store {σ σ0 : L2.St} {H H0 : Hp} {τ τ0 : SD} (p : PostS P K σ0 H0 τ0 σ H τ) {i : Nat} {v : V} {r : Res} (f : RelR K H0 H v r) (na : ∀ a ds, v = .ref a → r = .own ds → ¬ Ow σ τ a) (hi : i < τ.length) (hP : i ∉ P) : PostS P K σ0 H0 τ0 (σ.set i (some v)) H (τ.set i r.sl) := by
  have R := p.rel
  have hiσ : i < σ.length := by rw [R.len]; exact hi
  have ow : ∀ j es a, (τ.set i r.sl)[j]? = some (Sl.own es) → (σ.set i (some v))[j]? = some (some (V.ref a)) → (j ≠ i ∧ Ow σ τ a) ∨ (j = i ∧ v = .ref a ∧ r = .own es) := fun j es a e1 e2 => by
    by_cases hj : j = i
    · subst hj
      rw [List.getElem?_set_self hi] at e1
      rw [List.getElem?_set_self hiσ] at e2
      cases e2
      cases r with
      | val d => cases e1
      | own ds => cases e1; exact .inr ⟨rfl, rfl, rfl⟩
    · rw [List.getElem?_set_ne (Ne.symm hj)] at e1 e2
      exact .inl ⟨hj, j, es, e1, e2⟩
  refine ⟨p.rel0, ⟨by rw [List.length_set, List.length_set]; exact R.len, fun j ov sl e1 e2 => ?_, fun j k es fs a e1 e2 e3 e4 => ?_⟩, p.fr, fun j es a e1 e2 => ?_, by rw [List.length_set]; exact p.len, p.live, fun j hj => by rw [List.getElem?_set_ne (by rintro rfl; exact hP hj)]; exact p.pin j hj⟩
  · by_cases hj : j = i
    · subst hj
      rw [List.getElem?_set_self hi] at e2
      rw [List.getElem?_set_self hiσ] at e1
      cases e1; cases e2
      cases r with
      | val d => exact f
      | own ds =>
        obtain ⟨a, xs, e, _, h1, h2⟩ := f
        exact ⟨a, xs, e, h1, h2⟩
    · rw [List.getElem?_set_ne (Ne.symm hj)] at e1 e2
      exact R.at_ j ov sl e1 e2
  · rcases ow j es a e1 e3 with ⟨hj, o1⟩ | ⟨hj, e5, e6⟩
    · rcases ow k fs a e2 e4 with ⟨hk, o2⟩ | ⟨hk, e7, e8⟩
      · rw [List.getElem?_set_ne (Ne.symm hj)] at e1 e3
        rw [List.getElem?_set_ne (Ne.symm hk)] at e2 e4
        exact R.apart j k _ _ a e1 e2 e3 e4
      · exact absurd o1 (na a fs e7 e8)
    · rcases ow k fs a e2 e4 with ⟨hk, o2⟩ | ⟨hk, e7, e8⟩
      · exact absurd o2 (na a es e5 e6)
      · rw [hj, hk]
  · by_cases hj : j = i
    · rcases ow j es a e1 e2 with ⟨hj', _⟩ | ⟨_, e5, e6⟩
      · exact absurd hj hj'
      · subst e6 e5
        obtain ⟨b, xs, e, n, _⟩ := f
        cases e
        exact .inr ⟨n, by rw [hj]; exact hP⟩
    · rw [List.getElem?_set_ne (Ne.symm hj)] at e1 e2
      exact p.sub j es a e1 e2
theorem PostE.store {σ : L2.St} {H H0 : Hp} {τ τ0 : SD} (p : PostE K σ H0 τ0 H τ) {i : Nat} {v : V} {r : Res} (f : RelR K H0 H v r) (hi : i < τ.length) (hP : i ∉ P) : PostS P K σ H0 τ0 (σ.set i (some v)) H (τ.set i r.sl) :=
  p.st.store f (fun a ds e1 e2 o => by
    subst e1 e2
    obtain ⟨b, xs, e, n, _⟩ := f
    cases e
    obtain ⟨ys, e⟩ := p.rel0.ow (p.ow o)
    rw [n] at e; cases e) hi hP
theorem PostE.storeV {σ : L2.St} {H H0 : Hp} {τ τ0 : SD} (p : PostE K σ H0 τ0 H τ) {i : Nat} {v : V} {d : D} (f : Fz K H v d) (hi : i < τ.length) (hP : i ∉ P) : PostS P K σ H0 τ0 (σ.set i (some v)) H (τ.set i (.val d)) := p.store (r := .val d) f hi hP
def sSet (i : Nat) (dE : DE) : DS := fun D τ => dE τ fun r τ' => i < τ'.length ∧ D.nx (τ'.set i r.sl)
theorem s_set (i : Nat) {x : Str} {pos' : Pos} (nd : X.N.Nodup) (h : PD X e dE) (hi : X.N[i]? = some x := by rfl) (hx : Loc X.env.scope x := by first | exact Or.inl rfl | exact Or.inr rfl) (hP : i ∉ P := by decide) (hs : swapsWith e (some (.Name x pos')) pos.line X.env = pure false := by rfl) (hf : X.fn x = true ∨ X.env.scope.names.lookup x = some .local := by first | exact .inl rfl | exact .inr rfl | assumption) :
    PSD X P (.Assign [.Name x pos'] e pos) (sSet i dE) :=
  psd_of (ps_set nd hi hx h.pe hs hf) fun σ H τ D R hd => le' R hd fun v H' r τ' p f ⟨hi', q⟩ => ⟨_, p.store f hi' hP, q⟩
/-! ### targets that take data apart -/
abbrev DG := D → SD → (SD → Prop) → Prop
abbrev DGs := List D → SD → (SD → Prop) → Prop
/-- from any earlier state of the slots -/
structure PGD (X : Cx) (P : List Nat) (tg : Expr) (dg : DG) : Prop where
  run : ∀ (pins : List (Addr × Obj)) (s : Shared) (σ : L2.St) (H : Hp) (τ : SD) (v : V) (u : Value) (d : D) (Q : SD → Prop), Inv X pins σ H s → RelS X.K σ H τ → RelV v u → Fz X.K H v d → dg d τ Q →
    wpAny (model X.prog X.w) X.A (assign tg X.env u) (fun _ s' => ∃ σ' H', Inv X pins σ' H' s' ∧ ∃ τ', PostS P X.K σ H τ σ' H' τ' ∧ Q τ') X.xe s
def LG (P : List Nat) (K : PySem.W.Frag) (dg : DG) : TG := fun v σ H Q' => ∃ τ d Q, RelS K σ H τ ∧ Fz K H v d ∧ dg d τ Q ∧ ∀ σ' H' τ', PostS P K σ H τ σ' H' τ' → Q τ' → Q' σ' H'
theorem PGD.pg {tg : Expr} {dg : DG} (h : PGD X P tg dg) : PG X tg (LG P X.K dg) := ⟨fun pins s σ H v u Q' I r ⟨τ, d, Q, R, f, hd, k⟩ => thn (h.run pins s σ H τ v u d Q I R r f hd) fun _ _ ⟨σ', H', I', τ', p, q⟩ => ⟨σ', H', I', k σ' H' τ' p q⟩⟩
theorem pgd_of {tg : Expr} {t : TG} {dg : DG} (h : PG X tg t) (c : ∀ σ H τ v d Q, RelS X.K σ H τ → Fz X.K H v d → dg d τ Q → t v σ H fun σ' H' => ∃ τ', PostS P X.K σ H τ σ' H' τ' ∧ Q τ') : PGD X P tg dg := ⟨fun pins s σ H τ v u d Q I R r f hd => h.run pins s σ H v u _ I r (c σ H τ v d Q R f hd)⟩
structure PGsD (X : Cx) (P : List Nat) (ts : List Expr) (dg : DGs) : Prop where
  run : ∀ (pins : List (Addr × Obj)) (s : Shared) (σ : L2.St) (H : Hp) (τ : SD) (vs : List V) (us : List Value) (ds : List D) (Q : SD → Prop), Inv X pins σ H s → RelS X.K σ H τ → Vals vs us → FzA X.K H vs ds → dg ds τ Q →
    wpAny (model X.prog X.w) X.A (assignInOrder ((assignEach ts X.env).map (·.2)) us) (fun _ s' => ∃ σ' H', Inv X pins σ' H' s' ∧ ∃ τ', PostS P X.K σ H τ σ' H' τ' ∧ Q τ') X.xe s
def LGs (P : List Nat) (K : PySem.W.Frag) (dg : DGs) : TGs := fun vs σ H Q' => ∃ τ ds Q, RelS K σ H τ ∧ FzA K H vs ds ∧ dg ds τ Q ∧ ∀ σ' H' τ', PostS P K σ H τ σ' H' τ' → Q τ' → Q' σ' H'
theorem PGsD.pg {ts : List Expr} {dg : DGs} (h : PGsD X P ts dg) : PGs X ts (LGs P X.K dg) := ⟨fun pins s σ H v u Q' I r ⟨τ, d, Q, R, f, hd, k⟩ => thn (h.run pins s σ H τ v u d Q I R r f hd) fun _ _ ⟨σ', H', I', τ', p, q⟩ => ⟨σ', H', I', k σ' H' τ' p q⟩⟩
theorem pgsd_of {ts : List Expr} {t : TGs} {dg : DGs} (h : PGs X ts t) (c : ∀ σ H τ vs ds Q, RelS X.K σ H τ → FzA X.K H vs ds → dg ds τ Q → t vs σ H fun σ' H' => ∃ τ', PostS P X.K σ H τ σ' H' τ' ∧ Q τ') : PGsD X P ts dg := ⟨fun pins s σ H τ v u d Q I R r f hd => h.run pins s σ H v u _ I r (c σ H τ v d Q R f hd)⟩
def dgName (i : Nat) : DG := fun d τ Q => i < τ.length ∧ Q (τ.set i (.val d))
theorem g_name (i : Nat) {x : Str} (nd : X.N.Nodup) (hi : X.N[i]? = some x := by rfl) (hx : Loc X.env.scope x := by first | exact Or.inl rfl | exact Or.inr rfl) (hP : i ∉ P := by decide) (hf : X.fn x = true ∨ X.env.scope.names.lookup x = some .local := by first | exact .inl rfl | exact .inr rfl | assumption) : PGD X P (.Name x pos) (dgName i) :=
  pgd_of (pg_name nd hi hx hf) fun σ H τ v d Q R f ⟨h, q⟩ => ⟨_, (PostE.refl R).storeV f h hP, q⟩
def dgNil : DGs := fun ds τ Q => ds = [] ∧ Q τ
def dgCons (g : DG) (gs : DGs) : DGs := fun ds τ Q => ∃ d r, ds = d :: r ∧ g d τ fun τ' => gs r τ' Q
theorem gs_nil : PGsD X P [] dgNil := pgsd_of pgs_nil fun σ H τ vs ds Q R f ⟨h, q⟩ => by
  subst h
  cases f
  exact ⟨rfl, τ, (PostE.refl R).st, q⟩
theorem gs_cons {es : List Expr} {g : DG} {gs : DGs} (h1 : PGD X P e g) (h2 : PGsD X P es gs) (hs : (assignEach (e :: es) X.env).map (·.2) = assign e X.env :: (assignEach es X.env).map (·.2) := by rfl) : PGsD X P (e :: es) (dgCons g gs) := by
  refine pgsd_of (pgs_cons h1.pg h2.pg hs) fun σ H τ vs ds Q R f ⟨d, r, ed, h⟩ => ?_
  subst ed
  cases f with
  | cons f1 f2 =>
    refine ⟨_, _, rfl, τ, d, _, R, f1, h, fun σ' H' τ' p q => ⟨τ', r, _, p.rel, FzA.mono p.fe f2, q, fun σ2 H2 τ2 p2 q2 => ⟨τ2, p.trans p2, q2⟩⟩⟩
/-- a, b, .. = a tuple of so many -/
def dgTup (n : Nat) (gs : DGs) : DG := fun d τ Q => ∃ ds, d = .tuple ds ∧ ds.length = n ∧ gs ds τ Q
theorem g_tup {es : List Expr} {k : Nat} {gs : DGs} {n : Nat} (h : PGsD X P es gs) (hc : X.calm = true := by rfl) (hn : (assignEach es X.env).length = n := by rfl) (hst : (assignEach es X.env).findIdx? (·.1) = none := by rfl) : PGD X P (.Tuple es k pos) (dgTup n gs) := by
  refine pgd_of (pg_tup hc h.pg hn hst) fun σ H τ v d Q R f ⟨ds, ed, hl, q⟩ => ?_
  subst ed
  obtain ⟨a, xs, rfl, hs, fa⟩ := (Rv.fz f).tuple
  exact ⟨a, xs, rfl, hs, by rw [fa.length]; exact hl, τ, ds, Q, R, fa, q, fun σ' H' τ' p q => ⟨τ', p, q⟩⟩
/-- target = e, the target not a plain name -/
def sAsg (de : DV) (g : DG) : DS := fun D τ => de τ fun d τ' => g d τ' D.nx
theorem s_asg {tg : Expr} {g : DG} (he : PV X e de) (hg : PGD X P tg g) (hs : swapsWithSole [tg] e pos.line X.env = pure false := by rfl) (hw : swappedStores [tg] e X.env = pure none := by rfl) (h1 : (assignEach [tg] X.env).map (·.2) = [assign tg X.env] := by rfl) :
    PSD X P (.Assign [tg] e pos) (sAsg de g) := by
  refine psd_of (ps_asg he.pe hg.pg hs hw h1) fun σ H τ D R hd => ?_
  exact lv R hd fun v H' d τ' p f q => ⟨τ', d, _, p.rel, f, q, fun σ' H' τ2 p2 q2 => ⟨τ2, p.st.trans p2, q2⟩⟩
end
end DL

namespace DL
open PySem PySem.Spec PyProof.Rows L2
/-! ### several values at once -/
section
variable {P : List Nat} {K : PySem.W.Frag} {σ σ0 : L2.St} {H H0 H1 H2 : Hp} {τ τ0 τ1 τ2 : SD}
end
abbrev DR := SD → (List Res → SD → Prop) → Prop
/-- values with what they give; what one owns no later one owns -/
inductive RelRA (K : PySem.W.Frag) (H0 H' : Hp) : List V → List Res → Prop
  | nil : RelRA K H0 H' [] []
  | cons {v : V} {vs : List V} {r : Res} {rs : List Res} : RelR K H0 H' v r → RelRA K H0 H' vs rs → (∀ a ds, v = .ref a → r = .own ds → ∀ (j : Nat) es, rs[j]? = some (.own es) → vs[j]? ≠ some (.ref a)) → RelRA K H0 H' (v :: vs) (r :: rs)
def okR (K : PySem.W.Frag) (σ : L2.St) (H : Hp) (τ : SD) (Q : List Res → SD → Prop) : List V → Hp → Prop := fun vs H' => ∃ rs τ', PostE K σ H τ H' τ' ∧ RelRA K H H' vs rs ∧ Q rs τ'
structure PRD (X : Cx) (es : List Expr) (dr : DR) : Prop where
  run : ∀ (pos : Pos) (pins : List (Addr × Obj)) (s : Shared) (σ : L2.St) (H : Hp) (τ : SD) (Q : List Res → SD → Prop), Inv X pins σ H s → RelS X.K σ H τ → dr τ Q → wpAny (model X.prog X.w) X.A (spliced (backTo pos (starEach es X.env))) (AP X pins σ (okR X.K σ H τ Q)) X.xe s
def LR (K : PySem.W.Frag) (dr : DR) : TA := fun σ H Q' => ∃ τ Q, RelS K σ H τ ∧ dr τ Q ∧ ∀ v H', okR K σ H τ Q v H' → Q' v H'
section
variable {X : Cx} {P : List Nat} {e a b c : Expr} {es : List Expr} {dE : DE} {dr : DR} {pos : Pos} {K : PySem.W.Frag}
theorem PRD.pa (h : PRD X es dr) : PA X es (LR X.K dr) := ⟨fun pos pins s σ H Q' I ⟨τ, Q, R, hd, k⟩ => thn (h.run pos pins s σ H τ Q I R hd) fun _ _ ⟨v, H', I', r, q⟩ => ⟨v, H', I', r, k v H' q⟩⟩
theorem prd_of {t : TA} (h : PA X es t) (c : ∀ σ H τ Q, RelS X.K σ H τ → dr τ Q → t σ H (okR X.K σ H τ Q)) : PRD X es dr := ⟨fun pos pins s σ H τ Q I R hd => h.run pos pins s σ H _ I (c σ H τ Q R hd)⟩
theorem lr {σ : L2.St} {H : Hp} {τ : SD} {Q : List Res → SD → Prop} {Q' : List V → Hp → Prop} (R : RelS K σ H τ) (h : dr τ Q) (k : ∀ v H' d τ', PostE K σ H τ H' τ' → RelRA K H H' v d → Q d τ' → Q' v H') : LR K dr σ H Q' := ⟨τ, Q, R, h, fun v H' ⟨d, τ', p, f, q⟩ => k v H' d τ' p f q⟩
def drNil : DR := fun τ Q => Q [] τ
def drCons (de : DE) (da : DR) : DR := fun τ Q => de τ fun d τ1 => da τ1 fun ds τ2 => Q (d :: ds) τ2
theorem pr_nil : PRD X [] drNil := prd_of pa_nil fun σ H τ Q R h => ⟨[], τ, .refl R, .nil, h⟩
theorem RelR.keep {σ : L2.St} {H H1 H2 : Hp} {τ τ1 τ2 : SD} {v : V} {r : Res} (p : PostE K σ H τ H1 τ1) (p2 : PostE K σ H1 τ1 H2 τ2) (f : RelR K H H1 v r) : RelR K H H2 v r := by
  cases r with
  | val d => exact Fz.mono p2.fe f
  | own ds =>
    obtain ⟨a, xs, e, n, h, g⟩ := f
    refine ⟨a, xs, e, n, p2.fr a _ h fun z => ?_, FzA.mono p2.fe g⟩
    obtain ⟨ys, e2⟩ := p.rel0.ow (p.ow z)
    rw [n] at e2; cases e2
theorem RelRA.before {H H1 H2 : Hp} (n : ∀ a, H1 a = none → H a = none) : ∀ {vs : List V} {rs : List Res}, RelRA K H1 H2 vs rs → RelRA K H H2 vs rs
  | _, _, .nil => .nil
  | _, _, .cons f t u => .cons (f.before n) (RelRA.before n t) u
theorem RelRA.fresh {H1 H2 : Hp} : ∀ {vs : List V} {rs : List Res}, RelRA K H1 H2 vs rs → ∀ (j : Nat) es a, rs[j]? = some (.own es) → vs[j]? = some (.ref a) → H1 a = none
  | _, _, .nil, _, _, _, h, _ => by simp at h
  | _, _, .cons f t u, 0, es, a, h, h2 => by
    simp at h h2
    subst h h2
    obtain ⟨b, xs, e, n, _⟩ := f
    cases e
    exact n
  | _, _, .cons f t u, j + 1, es, a, h, h2 => RelRA.fresh t j es a (by simpa using h) (by simpa using h2)
theorem pr_cons (ha : PD X e dE) (hr : PRD X es dr) (hs : starEach (e :: es) X.env = (false, eval e X.env) :: starEach es X.env := by rfl) : PRD X (e :: es) (drCons dE dr) := by
  refine prd_of (pa_cons ha.pe hr.pa hs) fun σ H τ Q R h => ?_
  refine le' R h fun v H1 d τ1 p1 f1 q1 => lr p1.rel q1 fun vs H2 ds τ2 p2 f2 q2 => ?_
  refine ⟨d :: ds, τ2, p1.trans p2, .cons (RelR.keep p1 p2 f1) (RelRA.before (fun _ z => p1.fresh z) f2) fun a es' e1 e2 j fs e3 e4 => ?_, q2⟩
  have n := RelRA.fresh f2 j fs a e3 e4
  subst e1 e2
  obtain ⟨b, xs, e, _, h1, _⟩ := f1
  cases e
  rw [h1] at n; cases n
/-- storing them one by one -/
def putAll : List Nat → List Res → SD → SD
  | i :: is, r :: rs, τ => putAll is rs (τ.set i r.sl)
  | _, _, τ => τ
theorem PostS.storeAll {σ0 : L2.St} {H0 H : Hp} {τ0 : SD} : ∀ {is : List Nat} {vs : List V} {rs : List Res} {σ : L2.St} {τ : SD}, RelRA K H0 H vs rs → PostS P K σ0 H0 τ0 σ H τ → is.length = rs.length → (∀ i ∈ is, i < τ.length ∧ i ∉ P) → (∀ (j : Nat) es a, rs[j]? = some (.own es) → vs[j]? = some (.ref a) → ¬ Ow σ τ a) →
    ∃ σ', PostS P K σ0 H0 τ0 σ' H (putAll is rs τ) ∧ σ' = (is.zip vs).foldl (fun s p => s.set p.1 (some p.2)) σ
  | [], _, _, σ, τ, .nil, p, _, _, _ => ⟨σ, p, rfl⟩
  | [], _, _, _, _, .cons _ _ _, _, h, _, _ => by simp at h
  | _ :: _, _, _, _, _, .nil, _, h, _, _ => by simp at h
  | i :: is, v :: vs, r :: rs, σ, τ, .cons f t u, p, hl, hi, no => by
    have h0 := hi i List.mem_cons_self
    have p1 := p.store f (fun a ds e1 e2 => no 0 ds a (by simp [e2]) (by simp [e1])) h0.1 h0.2
    have hiσ : i < σ.length := by rw [p.rel.len]; exact h0.1
    obtain ⟨σ', q, e⟩ := PostS.storeAll t p1 (by simpa using hl) (fun j hj => ⟨by rw [List.length_set]; exact (hi j (List.mem_cons_of_mem _ hj)).1, (hi j (List.mem_cons_of_mem _ hj)).2⟩) fun j es a e1 e2 ⟨k, fs, e3, e4⟩ => by
      by_cases hk : k = i
      · subst hk
        rw [List.getElem?_set_self h0.1] at e3
        rw [List.getElem?_set_self hiσ] at e4
        cases e4
        cases r with
        | val d => cases e3
        | own ds => exact u a ds rfl rfl j es e1 e2
      · rw [List.getElem?_set_ne (Ne.symm hk)] at e3 e4
        exact no (j + 1) es a (by simpa using e1) (by simpa using e2) ⟨k, fs, e3, e4⟩
    exact ⟨σ', q, e⟩
theorem RelRA.len {H H' : Hp} : ∀ {vs : List V} {rs : List Res}, RelRA K H H' vs rs → vs.length = rs.length
  | _, _, .nil => rfl
  | _, _, .cons _ t _ => by simp [RelRA.len t]
/-- .. from behind an expression -/
theorem PostE.storeAll {σ0 : L2.St} {H0 H : Hp} {τ0 τ : SD} {is : List Nat} {vs : List V} {rs : List Res} (p : PostE K σ0 H0 τ0 H τ) (f : RelRA K H0 H vs rs) (hl : is.length = rs.length) (hi : ∀ i ∈ is, i < τ.length ∧ i ∉ P) :
    PostS P K σ0 H0 τ0 ((is.zip vs).foldl (fun s p => s.set p.1 (some p.2)) σ0) H (putAll is rs τ) := by
  obtain ⟨σ', q, e⟩ := PostS.storeAll (σ := σ0) (τ := τ) f p.st hl hi fun j es a e1 e2 o => by
    have n := RelRA.fresh f j es a e1 e2
    obtain ⟨xs, e⟩ := p.rel0.ow (p.ow o)
    rw [n] at e; cases e
  rw [← e]; exact q
def sPar (is : List Nat) (dr : DR) : DS := fun D τ => dr τ fun rs τ' => is.length = rs.length ∧ (∀ i ∈ is, i < τ'.length) ∧ D.nx (putAll is rs τ')
/-- a, b = x, y with plain local names -/
theorem s_par (i j : Nat) {x y : Str} {px py pt : Pos} {kt k2 pt2} (nd : X.N.Nodup) (ha : PRD X [a, b] dr) (hc : X.calm = true := by rfl) (hi : X.N[i]? = some x := by rfl) (hj : X.N[j]? = some y := by rfl) (hij : i ≠ j := by decide)
    (hx : X.env.scope.names.lookup x = some .local := by rfl) (hy : X.env.scope.names.lookup y = some .local := by rfl) (hP : i ∉ P ∧ j ∉ P := by decide)
    (hw : swappedStores [.Tuple [.Name x px, .Name y py] kt pt] (.Tuple [a, b] k2 pt2) X.env = pure (some [x, y]) := by rfl)
    (hs : swapsWithSole [.Tuple [.Name x px, .Name y py] kt pt] (.Tuple [a, b] k2 pt2) pos.line X.env = pure false := by rfl) :
    PSD X P (.Assign [.Tuple [.Name x px, .Name y py] kt pt] (.Tuple [a, b] k2 pt2) pos) (sPar [i, j] dr) := by
  refine psd_of (ps_par hc nd hi hj hij hx hy ha.pa hw hs) fun σ H τ D R hd => ?_
  refine lr R hd fun vs H' rs τ' p f ⟨hl, hlt, q⟩ => ?_
  match vs, rs, f, hl with
  | [v, w], [r, r'], f, _ =>
    exact ⟨v, w, rfl, _, PostE.storeAll (is := [i, j]) p f rfl (fun k hk => ⟨hlt k hk, by simp at hk; rcases hk with rfl | rfl; exact hP.1; exact hP.2⟩), q⟩
  | [], [_, _], f, _ => cases f
  | [_], [_, _], f, _ => cases f with | cons _ t _ => cases t
  | _ :: _ :: _ :: _, [_, _], f, _ => cases f with | cons _ t _ => cases t with | cons _ t _ => cases t
/-- three names -/
def tPar3 (i j k : Nat) (ta : TA) : TS := fun D σ H => ta σ H fun vs H1 => ∃ u v w, vs = [u, v, w] ∧ D.nx (((σ.set i (some u)).set j (some v)).set k (some w)) H1
theorem ps_par3 {i j k : Nat} {x y z : Str} {ta : TA} {px py pz pt : Pos} {kt k2 pt2} (hc : X.calm = true) (hN : X.N.Nodup) (hi : X.N[i]? = some x) (hj : X.N[j]? = some y) (hk : X.N[k]? = some z) (hij : i ≠ j) (hik : i ≠ k) (hjk : j ≠ k)
    (hx : X.env.scope.names.lookup x = some .local) (hy : X.env.scope.names.lookup y = some .local) (hz : X.env.scope.names.lookup z = some .local) (ha : PA X [a, b, c] ta)
    (hw : swappedStores [.Tuple [.Name x px, .Name y py, .Name z pz] kt pt] (.Tuple [a, b, c] k2 pt2) X.env = pure (some [x, y, z]))
    (hs : swapsWithSole [.Tuple [.Name x px, .Name y py, .Name z pz] kt pt] (.Tuple [a, b, c] k2 pt2) pos.line X.env = pure false := by rfl) :
    PS X (.Assign [.Tuple [.Name x px, .Name y py, .Name z pz] kt pt] (.Tuple [a, b, c] k2 pt2) pos) (tPar3 i j k ta) := by
  refine ⟨fun pins s σ H D I h => ?_⟩
  rw [exec_Assign_arm]
  refine wpAny_bind (wpAny_standAt ?_)
  rw [hs]
  refine wpAny_bind (wpAny_pure ?_)
  rw [if_neg (by decide)]
  refine wpAny_bind (Tuple_ (thn (ha.run _ pins s σ H _ I h) fun us s1 ⟨vs, H1, I1, r1, q1⟩ => ?_))
  obtain ⟨v, w, w3, e1, q1⟩ := q1
  subst e1
  obtain ⟨u1, u2, u3, rfl, rv, rw', rw3⟩ : ∃ u1 u2 u3, us = [u1, u2, u3] ∧ RelV v u1 ∧ RelV w u2 ∧ RelV w3 u3 := by
    cases r1 with
    | cons p q =>
      cases q with
      | cons p' q' =>
        cases q' with
        | cons p'' q'' =>
          cases q''
          exact ⟨_, _, _, rfl, p, p', p''⟩
  refine wpAny_newObj_type ?_ (by show 3 ≤ sizeLine; decide)
  have I2 : Inv X pins σ H1 { s1 with heap := s1.heap.push { cls := .type "tuple", data := .seq [u1, u2, u3].toArray } } := I1.kept (t' := s1.toks) fun b o e => Heap.get?_push_of_some _ e
  rw [hw]
  refine wpAny_bind (wpAny_pure ?_)
  show wpAny (model X.prog X.w) X.A (do rule "assign.swapped-stores"; let items ← unpackItems (.ref s1.heap.objs.size) 3 none; assignInOrder [fun v => bindName X.env z v, fun v => bindName X.env y v, fun v => bindName X.env x v] items.reverse; pure Flow.next) _ _ _
  refine wpAny_bind (wpAny_rule (wpAny_bind (unpackItems_tuple (items := #[u1, u2, u3]) (I.ok.hd hc) (IsTup.new s1.heap _) fun h' hx' => ?_)))
  have I3 := I2.kept (h' := h') (t' := s1.toks) fun b o e => hx' b o (Nat.ne_of_lt (Heap.lt_size e)) e
  show wpAny _ _ (assignInOrder [fun v => bindName X.env z v, fun v => bindName X.env y v, fun v => bindName X.env x v] [u3, u2, u1] >>= fun _ => pure Flow.next) _ _ _
  refine wpAny_bind (assignInOrder_cons (wpAny_bindName (store_ok I3 hN hk (.inl hz) rw3 (fun s2 I4 => ?_) (.inr hz))))
  refine assignInOrder_cons (wpAny_bindName (store_ok I4 hN hj (.inl hy) rw' (fun s3 I5 => ?_) (.inr hy)))
  refine assignInOrder_cons (wpAny_bindName (store_ok I5 hN hi (.inl hx) rv (fun s4 I6 => assignInOrder_nil (wpAny_pure ?_)) (.inr hx)))
  rw [List.set_comm _ _ (Ne.symm hjk), List.set_comm _ _ (Ne.symm hik), List.set_comm _ _ (Ne.symm hij)] at I6
  exact ⟨_, H1, I6, q1⟩
theorem s_par3 (i j k : Nat) {x y z : Str} {px py pz pt : Pos} {kt k2 pt2} (nd : X.N.Nodup) (ha : PRD X [a, b, c] dr) (hc : X.calm = true := by rfl) (hi : X.N[i]? = some x := by rfl) (hj : X.N[j]? = some y := by rfl) (hk : X.N[k]? = some z := by rfl) (hd : i ≠ j ∧ i ≠ k ∧ j ≠ k := by decide)
    (hx : X.env.scope.names.lookup x = some .local := by rfl) (hy : X.env.scope.names.lookup y = some .local := by rfl) (hz : X.env.scope.names.lookup z = some .local := by rfl) (hP : i ∉ P ∧ j ∉ P ∧ k ∉ P := by decide)
    (hw : swappedStores [.Tuple [.Name x px, .Name y py, .Name z pz] kt pt] (.Tuple [a, b, c] k2 pt2) X.env = pure (some [x, y, z]) := by rfl)
    (hs : swapsWithSole [.Tuple [.Name x px, .Name y py, .Name z pz] kt pt] (.Tuple [a, b, c] k2 pt2) pos.line X.env = pure false := by rfl) :
    PSD X P (.Assign [.Tuple [.Name x px, .Name y py, .Name z pz] kt pt] (.Tuple [a, b, c] k2 pt2) pos) (sPar [i, j, k] dr) := by
  refine psd_of (ps_par3 hc nd hi hj hk hd.1 hd.2.1 hd.2.2 hx hy hz ha.pa hw hs) fun σ H τ D R hd => ?_
  refine lr R hd fun vs H' rs τ' p f ⟨hl, hlt, q⟩ => ?_
  match vs, rs, f, hl with
  | [v, w, u], [r, r', r''], f, _ =>
    exact ⟨v, w, u, rfl, _, PostE.storeAll (is := [i, j, k]) p f rfl (fun k hk => ⟨hlt k hk, by simp at hk; rcases hk with rfl | rfl | rfl; exact hP.1; exact hP.2.1; exact hP.2.2⟩), q⟩
  | [], [_, _, _], f, _ => cases f
  | [_], [_, _, _], f, _ => cases f with | cons _ t _ => cases t
  | [_, _], [_, _, _], f, _ => cases f with | cons _ t _ => cases t with | cons _ t _ => cases t
  | _ :: _ :: _ :: _ :: _, [_, _, _], f, _ => cases f with | cons _ t _ => cases t with | cons _ t _ => cases t with | cons _ t _ => cases t
/-! ### x[i] = e, the list that slot j owns -/
def dgSub (j : Nat) (di : DV) : DG := fun d τ Q => isSet τ j ∧ di τ fun k τ1 => ∃ i ds, k = .int i ∧ τ1[j]? = some (.own ds) ∧ (0 ≤ i ∧ i.toNat < ds.length) ∧ Q (τ1.set j (.own (ds.set i.toNat d)))
theorem g_sub (j : Nat) {x : Str} {px : Pos} {i : Expr} {di : DV} (hi : PV X i di) (hN : X.N[j]? = some x := by rfl) (hv : Vis X.env.scope x := by first | exact Or.inl rfl | exact Or.inr (Or.inl rfl) | exact Or.inr (Or.inr rfl)) (hd : (x == ("__debug__" : Str)) = false := by decide)
    (hcd : (x == ("__classdict__" : Str)) = false := by decide) (ha : ∀ v, assign (.Subscript (.Name x px) i pos) X.env v = (do
      let ov ← holding [v] (eval (.Name x px) X.env)
      let iv ← holding [v, ov] (eval i X.env)
      standAt pos
      holding [v, ov, iv] (setItem ov iv v)
      release [v, ov, iv] []) := by intro _; rfl) : PGD X P (.Subscript (.Name x px) i pos) (dgSub j di) := by
  refine pgd_of (pg_sub (pe_var hN hv hd hcd) hi.pe set_list ha) fun σ H τ v d Q R f ⟨h0, h⟩ => ?_
  obtain ⟨w, e0⟩ := R.isSet h0
  refine ⟨w, e0, lv R h fun y H1 k τ1 p g ⟨i, ds, ek, e1, hb, q⟩ => ?_⟩
  subst ek
  cases g
  obtain ⟨a, xs, e2, h1, fa⟩ := p.rel.own e1
  rw [e0] at e2
  cases e2
  have hix : ixN xs.length i = some i.toNat := by
    unfold ixN
    rw [if_pos hb.1, if_pos (by rw [fa.length]; omega)]
  exact ⟨a, xs, i, i.toNat, rfl, rfl, h1, hix, _, (p.trans (p.rel.setOwn e1 e0 (fa.set (Fz.mono p.fe f) _))).st, q⟩
end
end DL

/-! DLit: enumerate and zip over lists and tuples in any mix. -/
namespace DL
open PySem PySem.Spec PyProof.Rows L2
/-- a list (false), a tuple (true) -/
def SqK (k : Bool) (K : PySem.W.Frag) (H : Hp) (a : Addr) (xs : List V) : Prop := match k with
  | false => SqL K H a xs
  | true => SqT K H a xs
def IsK (k : Bool) (h : Heap) (a : Addr) (items : Array Value) : Prop := match k with
  | false => h.IsList a items
  | true => h.IsTuple a items
def ItK (k : Bool) (h : Heap) (it a : Addr) (i : Nat) : Prop := match k with
  | false => h.IsListIter it a i
  | true => h.IsTupleIter it a i
def objK (k : Bool) (a : Addr) : Obj := match k with
  | false => { cls := .type "list_iterator", data := .fields #[.ref a, .int 0 0] }
  | true => { cls := .type "tuple_iterator", data := .fields #[.ref a, .int 0 0] }
theorem beginsK (k : Bool) (a : Addr) (items : Array Value) : Begins (.ref a) (objK k a) (fun h => IsK k h a items) := by
  cases k
  · exact begins_list a items
  · exact begins_tuple a items
theorem drawsK {prog : Program} {w : World} {A : Around} (hh : A.handled = none) (k : Bool) (it a : Addr) (hne : a ≠ it) (items : Array Value) :
    Draws prog w A it [it, a] items.size (fun i v => items[i]? = some v) (fun i h => ItK k h it a i ∧ IsK k h a items) := by
  cases k
  · exact Draws.list hh it a hne items
  · exact Draws.tuple hh it a hne items
theorem itK_obj {k : Bool} {h : Heap} {it a : Addr} {i : Nat} (x : ItK k h it a i) : ∃ o, h.get? it = some o ∧ ∀ v, o.data ≠ .cell v := by
  cases k
  · obtain ⟨o, e, _, d⟩ := x
    exact ⟨o, e, fun v q => by rw [d] at q; cases q⟩
  · obtain ⟨o, e, _, d⟩ := x
    exact ⟨o, e, fun v q => by rw [d] at q; cases q⟩
theorem itK_at {k : Bool} {h h' : Heap} {it a : Addr} {i : Nat} (x : ItK k h it a i) (e : ∀ o, h.get? it = some o → h'.get? it = some o) : ItK k h' it a i := by
  cases k
  · exact Heap.IsListIter.at x e
  · exact Heap.IsTupleIter.at x e
theorem itK_new {k : Bool} {h : Heap} {it a : Addr} (e : h.get? it = some (objK k a)) : ItK k h it a 0 := by
  cases k
  · exact ⟨_, e, rfl, rfl⟩
  · exact ⟨_, e, rfl, rfl⟩
section
variable {X : Cx} {pins : List (Addr × Obj)} {σ : L2.St} {H : Hp} {s : Shared} {a : Addr} {xs ys : List V} {k : Bool}
theorem Inv.seqK (I : Inv X pins σ H s) (h : SqK k X.K H a xs) : ∃ its : List Value, Vals xs its ∧ IsK k s.heap a its.toArray ∧ a < s.heap.objs.size := by
  cases k
  · obtain ⟨its, rv, p, _⟩ := I.list h
    exact ⟨its, rv, p.isList, p.lt⟩
  · obtain ⟨its, rv, p, _⟩ := I.tuple h
    exact ⟨its, rv, show s.heap.IsTuple a its.toArray from p, p.lt⟩
theorem Inv.seqK_inj (I : Inv X pins σ H s) (h : SqK k X.K H a xs) (h' : SqK k X.K H a ys) : xs = ys := by
  cases k
  · exact I.list_inj h h'
  · exact I.tuple_inj h h'
end
/-! ### enumerate(v), one argument -/
theorem meets_enumerate_new1 {v : Value} {o : Obj} {H : Heap → Prop} (B : Begins v o H) :
    Meets (Builtin.«enumerate.__new__» ⟨[.type "enumerate", v], []⟩) (fun _ R s => H s.heap ∧
      R (.ok (.ret (.ref (s.heap.push o).objs.size))) { s with heap := (s.heap.push o).push { cls := .type "enumerate", data := .fields #[.none, .bool false, .ref s.heap.objs.size, rawInt 0, .none, .none] } }) :=
  .of_wp fun prog w A R s h => by
    obtain ⟨hp, g, d, tk, os⟩ := s; obtain ⟨h1, h⟩ := h
    have hsub := sub_enumerate
    have q1 : ∀ {A' : Around} {E : Value → Shared → Prop} {Q : Value → Shared → Prop}, Q (.ref hp.objs.size) ⟨hp.push o, g, d, tk, os⟩ → wpAny (model prog w) A' (pyIter v) Q E ⟨hp, g, d, tk, os⟩ :=
      fun q => B.iter prog w _ _ ⟨hp, g, d, tk, os⟩ _ h1 q
    wp_walk using q1
    refine wpAny_stack_any fun st => wpAny_pure ?_
    split
    · rename_i c _ _ _ _ _
      cases (c == Value.type "enumerate")
      · wp_walk using q1
        exact ⟨_, rfl, h⟩
      · wp_walk using q1
        exact ⟨_, rfl, h⟩
    · wp_walk using q1
      exact ⟨_, rfl, h⟩
theorem enum_begins1 {prog : Program} {w : World} {A : Around} {E : Value → Shared → Prop} {s : Shared} {v : Value} {o : Obj} {H : Heap → Prop} {Q : Value → Shared → Prop} (B : Begins v o H) (h1 : H s.heap)
    (h : ∀ h', IsEnum h' (s.heap.objs.size + 1) s.heap.objs.size 0 .none → h'.get? s.heap.objs.size = some o → h'.objs.size = s.heap.objs.size + 2 →
      (∀ b o, s.heap.get? b = some o → h'.get? b = some o) → Q (.ref (s.heap.objs.size + 1)) { s with heap := h' }) :
    wpAny (model prog w) A (call (.type "enumerate") [v]) Q E s := by
  refine callType_new F.called_enumerate (by decide) (F.typeCall_enumerate_1 _) (F.newCall_enumerate_1 _) (fun obj => F.args_object_init_2 obj _) F.entry_enumerate_new
    (meets_enumerate_new1 B) ⟨h1, ?_⟩
  have hz : (s.heap.push o).objs.size = s.heap.objs.size + 1 := Heap.size_push ..
  show _ ∧ _
  rw [hz]
  have he : IsEnum ((s.heap.push o).push { cls := .type "enumerate", data := .fields #[.none, .bool false, .ref s.heap.objs.size, rawInt 0, .none, .none] }) (s.heap.objs.size + 1) s.heap.objs.size 0 .none := by
    have := Heap.get?_push_size (s.heap.push o) (o := { cls := .type "enumerate", data := .fields #[.none, .bool false, .ref s.heap.objs.size, rawInt 0, .none, .none] }) rfl
    rw [hz] at this; exact this
  refine ⟨⟨_, he, rfl⟩, h _ he (Heap.get?_push_of_some _ (Heap.get?_push_size _ B.free)) (by rw [Heap.size_push, hz]) fun b o x => Heap.get?_push_of_some _ (Heap.get?_push_of_some _ x)⟩
/-- the list or tuple at a, each item in a new pair -/
def IteK (k : Bool) (K : PySem.W.Frag) (a : Addr) : It :=
  ⟨fun i H => ∃ (xs : List V) (x : V), SqK k K H a xs ∧ xs[i]? = some x, fun i H v H' => ∃ T x, v = .ref T ∧ H T = none ∧ H' = upd H T (.tup [.int (i : Nat), x]) ∧ ∀ xs, SqK k K H a xs → xs[i]? = some x, fun i H => ∃ xs : List V, SqK k K H a xs ∧ xs.length = i⟩
theorem turn_enumK {P : Program} {w : World} {K : PySem.W.Frag} {elts : List Expr} {kk : Nat} {tpos : Pos} (k : Bool) (a e it : Addr) (hai : a ≠ it) (hae : a ≠ e) :
    Turn P w K (.Tuple elts kk tpos) (IteK k K a) [e, it] e (fun i h => (∃ old, IsEnum h e it ((i : Nat) : Int) old) ∧ ItK k h it a i ∧ e ≠ it) where
  mem := by simp
  obj := fun i h st b hb => by
    obtain ⟨⟨old, he⟩, hi, _⟩ := st
    have e' : b = e ∨ b = it := by simpa using hb
    rcases e' with z | z
    · rw [z]; exact ⟨_, he, fun v q => nomatch q⟩
    · rw [z]; exact itK_obj hi
  keep := fun i h h' st k => let ⟨⟨old, he⟩, hi, hne⟩ := st; ⟨⟨old, k e (by simp) _ he⟩, itK_at hi fun o q => k it (by simp) o q, hne⟩
  item := by
    intro X hP hw hK hc i pins s σ H E I hf st hg
    subst hP hw hK
    obtain ⟨⟨old, he⟩, hit, hne⟩ := st
    obtain ⟨xs, x, hq, hx⟩ := hg
    obtain ⟨its, rv, p, _⟩ := Inv.seqK I hq
    obtain ⟨u, hu, ru⟩ := rv.get hx
    have hel : e < s.heap.objs.size := Heap.lt_size he
    have hil : it < s.heap.objs.size := by obtain ⟨_, q, _⟩ := itK_obj hit; exact Heap.lt_size q
    have hlt : i < its.toArray.size := by
      have := (List.getElem?_eq_some_iff.mp hu).1
      simpa using this
    refine wpAny_pyNext_enum_itemC (drawsK (k := k) (by exact I.ok.hd hc) it a hai its.toArray) he ⟨hit, p⟩ hlt hne (by simp; exact ⟨hne, Ne.symm hae⟩) fun z h' tk hz ho st' hT hsz hk => ?_
    have ez : z = u := by
      have : its[i]? = some z := by simpa using hz
      rw [hu] at this
      exact (Option.some.inj this).symm
    subst ez
    refine ⟨_, rfl, wpAny_letOwnedTupleGo_enum (s := { s with heap := h', toks := tk + 1 }) ho fun h'' he' sb => ?_⟩
    have hT2 : h''.get? s.heap.objs.size = some { cls := .type "tuple", data := .seq #[.int i tk, z] } := (sb.2 _ (Nat.ne_of_gt hel)).trans hT
    have new : ObjOk X.prog X.w (upd H s.heap.objs.size (.tup [.int (i : Nat), x])) h'' s.heap.objs.size (.tup [.int (i : Nat), x]) :=
      ⟨by show 2 ≤ sizeLine; decide, [.int i tk, z], .cons ⟨_, rfl⟩ (.cons ru .nil), ⟨_, hT2, rfl, _, rfl⟩⟩
    have I1 : Inv X pins σ (upd H s.heap.objs.size (.tup [.int (i : Nat), x])) { s with heap := h'', toks := tk + 1 } :=
      I.turnedNew (ch := [e, it]) (fun b ob hb q => (sb.2 b (fun z => hb (by simp [z]))).trans (hk b ob (fun z => hb (by simp [z])) (fun z => hb (by simp [z])) q)) hf (Nat.le_refl _) new
    refine ⟨.ref s.heap.objs.size, _, I1, rfl, ⟨_, x, rfl, I.hok.fresh (Nat.le_refl _), rfl, fun ys hy => by rw [Inv.seqK_inj I hy hq]; exact hx⟩, ⟨⟨z, ?_⟩, itK_at st'.1 fun o q => (sb.2 it (Ne.symm hne)).trans q, hne⟩, fun b hb => ?_⟩
    · have e1 : ((i + 1 : Nat) : Int) = (i : Int) + 1 := by omega
      rw [e1]; exact he'
    · have hb' : b < s.heap.objs.size := by
        have e' : b = e ∨ b = it := by simpa using hb
        rcases e' with z | z
        · rw [z]; exact hel
        · rw [z]; exact hil
      rw [upd_ne (Nat.ne_of_lt hb')]
      exact (hf b hb).1
  done := by
    intro X hP hw hK hc i pins s σ H E I hf st hg
    subst hP hw hK
    obtain ⟨⟨old, he⟩, hit, hne⟩ := st
    obtain ⟨xs, hq, hx⟩ := hg
    obtain ⟨its, rv, p, _⟩ := Inv.seqK I hq
    have hl := rv.length
    have hi : i = its.toArray.size := by simp; omega
    subst hi
    exact wpAny_pyNext_enum_endD (drawsK (A := X.A.in1) (by exact I.ok.hd hc) k it a hai its.toArray) he ⟨hit, p⟩ fun h' hx => ⟨rfl, I.turnedL (t' := s.toks) (ch := [e, it]) (fun b o hb q => hx b o (fun z => hb (by simp [z])) q) hf⟩
  self := fun A i s Q E st h => let ⟨⟨_, he⟩, _⟩ := st; wpAny_pyIter_enum he h
def iEnumK (K : PySem.W.Frag) (ta : TA) : TI := fun σ H R => ta σ H fun vs H1 => ∃ k a xs, vs = [.ref a] ∧ SqK k K H1 a xs ∧ R (IteK k K a) H1
theorem pi_enumK {X : Cx} {e : Expr} {ta : TA} {p pos tpos : Pos} {elts : List Expr} {kk : Nat} (hg : Gl X "enumerate") (hm : X.mg "enumerate" = none) (ha : PA X [e] ta) (hs : starEach [e] X.env = [(false, eval e X.env)] := by rfl) :
    PI X (.Tuple elts kk tpos) (.Call (.Name "enumerate" p) [e] [] pos) (iEnumK X.K ta) := by
  refine ⟨fun pins s σ H R I h => ?_⟩
  refine Call_ (ld_blt I hg hm boot_enumerate (PyProof.Rows.callWith_type1 (thn (ha.run pos pins s σ H _ I h) fun us s1 ⟨vs, H1, I1, r1, q1⟩ => ?_) hs rfl))
  obtain ⟨k, a, xs, ex, hq, q⟩ := q1
  subst ex
  cases r1 with
  | cons r rr =>
    cases rr
    cases r
    obtain ⟨its, rv, p', la⟩ := Inv.seqK I1 hq
    refine enum_begins1 (beginsK k a its.toArray) p' fun h' he hit hsz hk => wpAny_pyIter_enum he ?_
    have I2 : Inv X pins σ H1 { s1 with heap := h' } := I1.kept (t' := s1.toks) hk
    refine ⟨s1.heap.objs.size + 1, [s1.heap.objs.size + 1, s1.heap.objs.size], _, _, H1, rfl, I2, turn_enumK k a (s1.heap.objs.size + 1) s1.heap.objs.size (Nat.ne_of_lt la) (Nat.ne_of_lt (Nat.lt_succ_of_lt la)), ⟨⟨.none, he⟩, itK_new hit, Nat.succ_ne_self _⟩, fun b hb => ?_, q⟩
    have e' : b = s1.heap.objs.size + 1 ∨ b = s1.heap.objs.size := by simpa using hb
    have hle : s1.heap.objs.size ≤ b := by
      rcases e' with z | z
      · rw [z]; exact Nat.le_add_right _ _
      · rw [z]; exact Nat.le_refl _
    exact I1.fpOk hle (I1.hok.fresh hle)
/-! ### zip -/
def ItzK (k1 k2 : Bool) (K : PySem.W.Frag) (a b : Addr) : It :=
  ⟨fun i H => ∃ (xs ys : List V) (x y : V), SqK k1 K H a xs ∧ SqK k2 K H b ys ∧ xs[i]? = some x ∧ ys[i]? = some y,
    fun i H v H' => ∃ T x y, v = .ref T ∧ H T = none ∧ H' = upd H T (.tup [x, y]) ∧ (∀ xs, SqK k1 K H a xs → xs[i]? = some x) ∧ ∀ ys, SqK k2 K H b ys → ys[i]? = some y,
    fun i H => ∃ xs ys : List V, SqK k1 K H a xs ∧ SqK k2 K H b ys ∧ i ≤ xs.length ∧ i ≤ ys.length ∧ (i = xs.length ∨ i = ys.length)⟩
theorem turn_zipK {P : Program} {w : World} {K : PySem.W.Frag} {elts : List Expr} {kk : Nat} {tpos : Pos} {k1 k2 : Bool} {a b z TI TO i1 i2 : Addr} (D : ZipSep2 z TI TO i1 i2 [i1, a] [i2, b]) :
    Turn P w K (.Tuple elts kk tpos) (ItzK k1 k2 K a b) [z, TI, TO, i1, i2] z (fun i h => IsZip h z TI TO .none ∧ IsTupOf2 h TI (.ref i1) (.ref i2) ∧ (∃ x y, IsTupOf2 h TO x y) ∧ ItK k1 h i1 a i ∧ ItK k2 h i2 b i) where
  mem := by simp
  obj := fun i h st c hc => by
    obtain ⟨hz, hTI, ⟨x, y, hTO⟩, h1, h2⟩ := st
    have e' : c = z ∨ c = TI ∨ c = TO ∨ c = i1 ∨ c = i2 := by simpa using hc
    rcases e' with q | q | q | q | q
    · rw [q]; exact ⟨_, hz, fun v q => nomatch q⟩
    · rw [q]; exact ⟨_, hTI, fun v q => nomatch q⟩
    · rw [q]; exact ⟨_, hTO, fun v q => nomatch q⟩
    · rw [q]; exact itK_obj h1
    · rw [q]; exact itK_obj h2
  keep := fun i h h' st k => by
    obtain ⟨hz, hTI, ⟨x, y, hTO⟩, h1, h2⟩ := st
    exact ⟨k z (by simp) _ hz, k TI (by simp) _ hTI, ⟨x, y, k TO (by simp) _ hTO⟩, itK_at h1 fun o q => k i1 (by simp) o q, itK_at h2 fun o q => k i2 (by simp) o q⟩
  item := by
    intro X hP hw hK hc i pins s σ H E I hf st hg
    subst hP hw hK
    obtain ⟨hz, hTI, ⟨x0, y0, hTO⟩, h1, h2⟩ := st
    obtain ⟨xs, ys, x, y, hqx, hqy, hx, hy⟩ := hg
    obtain ⟨its, rv, p, _⟩ := Inv.seqK I hqx
    obtain ⟨its2, rv2, p2, _⟩ := Inv.seqK I hqy
    obtain ⟨u, hu, ru⟩ := rv.get hx
    obtain ⟨u2, hu2, ru2⟩ := rv2.get hy
    have hzl : z < s.heap.objs.size := Heap.lt_size hz
    have lt1 : i < its.toArray.size := by
      have := (List.getElem?_eq_some_iff.mp hu).1
      simpa using this
    have lt2 : i < its2.toArray.size := by
      have := (List.getElem?_eq_some_iff.mp hu2).1
      simpa using this
    have ha1 : a ≠ i1 := fun q => by
      have : z ∉ [i1, a] := D.zf1
      have t1 := D.TIi1
      subst q
      obtain ⟨o, e, _⟩ := itK_obj h1
      cases k1
      · obtain ⟨o1, e1, c1, _⟩ := h1
        obtain ⟨o2, e2, c2, _⟩ := p
        rw [e1] at e2; cases e2; rw [c1] at c2; exact absurd (Value.type.inj c2) (by decide)
      · obtain ⟨o1, e1, c1, _⟩ := h1
        obtain ⟨o2, e2, c2, _⟩ := p
        rw [e1] at e2; cases e2; rw [c1] at c2; exact absurd (Value.type.inj c2) (by decide)
    have hb2 : b ≠ i2 := fun q => by
      subst q
      cases k2
      · obtain ⟨o1, e1, c1, _⟩ := h2
        obtain ⟨o2, e2, c2, _⟩ := p2
        rw [e1] at e2; cases e2; rw [c1] at c2; exact absurd (Value.type.inj c2) (by decide)
      · obtain ⟨o1, e1, c1, _⟩ := h2
        obtain ⟨o2, e2, c2, _⟩ := p2
        rw [e1] at e2; cases e2; rw [c1] at c2; exact absurd (Value.type.inj c2) (by decide)
    refine wpAny_pyNext_zipD2_item D (drawsK (A := X.A.in1) (by exact I.ok.hd hc) k1 i1 a ha1 its.toArray) (drawsK (A := X.A.in1) (by exact I.ok.hd hc) k2 i2 b hb2 its2.toArray) hz hTI hTO ⟨h1, p⟩ ⟨h2, p2⟩ lt1 lt2 fun w1 w2 h' tk q1 q2 z' TO' h1' h2' hT hsz hk => ?_
    have e1 : w1 = u := by
      have : its[i]? = some w1 := by simpa using q1
      rw [hu] at this
      exact (Option.some.inj this).symm
    have e2 : w2 = u2 := by
      have : its2[i]? = some w2 := by simpa using q2
      rw [hu2] at this
      exact (Option.some.inj this).symm
    subst e1 e2
    refine ⟨_, rfl, wpAny_letOwnedTupleGo_zip (s := { s with heap := h', toks := tk }) z' fun h'' z'' sb => ?_⟩
    have hT2 : h''.get? s.heap.objs.size = some { cls := .type "tuple", data := .seq #[w1, w2] } := (sb.2 _ (Nat.ne_of_gt hzl)).trans hT
    have new : ObjOk X.prog X.w (upd H s.heap.objs.size (.tup [x, y])) h'' s.heap.objs.size (.tup [x, y]) :=
      ⟨by show 2 ≤ sizeLine; decide, [w1, w2], .cons ru (.cons ru2 .nil), ⟨_, hT2, rfl, _, rfl⟩⟩
    have I1 : Inv X pins σ (upd H s.heap.objs.size (.tup [x, y])) { s with heap := h'', toks := tk } :=
      I.turnedNew (ch := [z, TI, TO, i1, i2]) (fun c o hb q => (sb.2 c (fun q' => hb (by simp [q']))).trans (hk c o (fun q' => hb (by simp [q'])) (fun q' => hb (by simp [q'])) (fun q' => hb (by simp [q'])) (fun q' => hb (by simp [q'])) q)) hf (Nat.le_refl _) new
    refine ⟨.ref s.heap.objs.size, _, I1, rfl, ⟨_, x, y, rfl, I.hok.fresh (Nat.le_refl _), rfl, fun l hl => by rw [Inv.seqK_inj I hl hqx]; exact hx, fun l hl => by rw [Inv.seqK_inj I hl hqy]; exact hy⟩, ⟨z'', ?_, ⟨w1, w2, ?_⟩, ?_, ?_⟩, fun c hcm => ?_⟩
    · exact (sb.2 _ D.TIz).trans (hk _ _ D.TIz D.TITO D.TIi1 D.TIi2 hTI)
    · exact (sb.2 _ D.TOz).trans TO'
    · exact itK_at h1'.1 fun o q => (sb.2 _ (Ne.symm D.zi1)).trans q
    · exact itK_at h2'.1 fun o q => (sb.2 _ (Ne.symm D.zi2)).trans q
    · have hlt : c < s.heap.objs.size := by
        have e' : c = z ∨ c = TI ∨ c = TO ∨ c = i1 ∨ c = i2 := by simpa using hcm
        rcases e' with q | q | q | q | q
        · rw [q]; exact hzl
        · rw [q]; exact Heap.lt_size hTI
        · rw [q]; exact Heap.lt_size hTO
        · rw [q]; obtain ⟨_, e1, _⟩ := itK_obj h1; exact Heap.lt_size e1
        · rw [q]; obtain ⟨_, e2, _⟩ := itK_obj h2; exact Heap.lt_size e2
      rw [upd_ne (Nat.ne_of_lt hlt)]
      exact (hf c hcm).1
  done := by
    intro X hP hw hK hc i pins s σ H E I hf st hg
    subst hP hw hK
    obtain ⟨hz, hTI, ⟨x0, y0, hTO⟩, h1, h2⟩ := st
    obtain ⟨xs, ys, hqx, hqy, hle1, hle2, hend⟩ := hg
    obtain ⟨its, rv, p, _⟩ := Inv.seqK I hqx
    obtain ⟨its2, rv2, p2, _⟩ := Inv.seqK I hqy
    have l1 := rv.length
    have l2 := rv2.length
    have ha1 : a ≠ i1 := fun q => by
      subst q
      cases k1
      · obtain ⟨o1, e1, c1, _⟩ := h1
        obtain ⟨o2, e2, c2, _⟩ := p
        rw [e1] at e2; cases e2; rw [c1] at c2; exact absurd (Value.type.inj c2) (by decide)
      · obtain ⟨o1, e1, c1, _⟩ := h1
        obtain ⟨o2, e2, c2, _⟩ := p
        rw [e1] at e2; cases e2; rw [c1] at c2; exact absurd (Value.type.inj c2) (by decide)
    have hb2 : b ≠ i2 := fun q => by
      subst q
      cases k2
      · obtain ⟨o1, e1, c1, _⟩ := h2
        obtain ⟨o2, e2, c2, _⟩ := p2
        rw [e1] at e2; cases e2; rw [c1] at c2; exact absurd (Value.type.inj c2) (by decide)
      · obtain ⟨o1, e1, c1, _⟩ := h2
        obtain ⟨o2, e2, c2, _⟩ := p2
        rw [e1] at e2; cases e2; rw [c1] at c2; exact absurd (Value.type.inj c2) (by decide)
    refine wpAny_pyNext_zipD2_end D (drawsK (A := X.A.in1) (by exact I.ok.hd hc) k1 i1 a ha1 its.toArray) (drawsK (A := X.A.in1) (by exact I.ok.hd hc) k2 i2 b hb2 its2.toArray) hz hTI hTO ⟨h1, p⟩ ⟨h2, p2⟩ (by simp; omega) (by simp; omega) (by simp; omega) fun h' tk hk => ⟨rfl, I.turnedL (ch := [z, TI, TO, i1, i2]) (fun c o hb q =>
      hk c o (fun q' => hb (by simp [q'])) (fun q' => hb (by simp [q'])) (fun q' => hb (by simp [q'])) (fun q' => hb (by simp [q'])) q) hf⟩
  self := fun A i s Q E st h => wpAny_pyIter_zip st.1 h
def iZipK (K : PySem.W.Frag) (ta : TA) : TI := fun σ H R => ta σ H fun vs H1 => ∃ k1 k2 a b xs ys, vs = [.ref a, .ref b] ∧ SqK k1 K H1 a xs ∧ SqK k2 K H1 b ys ∧ R (ItzK k1 k2 K a b) H1
theorem pi_zipK {X : Cx} {e e2 : Expr} {ta : TA} {p pos tpos : Pos} {elts : List Expr} {kk : Nat} (hg : Gl X "zip") (hm : X.mg "zip" = none) (ha : PA X [e, e2] ta)
    (hs : starEach [e, e2] X.env = (false, eval e X.env) :: starEach [e2] X.env := by rfl) (hpl : (backTo pos (starEach [e2] X.env)).any (·.1) = false := by rfl) :
    PI X (.Tuple elts kk tpos) (.Call (.Name "zip" p) [e, e2] [] pos) (iZipK X.K ta) := by
  refine ⟨fun pins s σ H R I h => ?_⟩
  refine Call_ (ld_blt I hg hm PyProof.Rows.boot_zip (PyProof.Rows.callWith_type1 (thn (ha.run pos pins s σ H _ I h) fun us s1 ⟨vs, H1, I1, r1, q1⟩ => ?_) hs hpl))
  obtain ⟨k1, k2, a, b, xs, ys, ex, hqx, hqy, q⟩ := q1
  subst ex
  cases r1 with
  | cons r rr =>
    cases rr with
    | cons r' rr =>
      cases rr
      cases r
      cases r'
      obtain ⟨its, rv, p1, la⟩ := Inv.seqK I1 hqx
      obtain ⟨its2, rv2, p2, lb⟩ := Inv.seqK I1 hqy
      refine zip_begins2 (beginsK k1 a its.toArray) (beginsK k2 b its2.toArray) p1 p2 fun h' hz hTI hTO h1 h2 hsz hk => wpAny_pyIter_zip hz ?_
      have I2 : Inv X pins σ H1 { s1 with heap := h' } := I1.kept (t' := s1.toks) hk
      refine ⟨s1.heap.objs.size + 4, [s1.heap.objs.size + 4, s1.heap.objs.size + 2, s1.heap.objs.size + 3, s1.heap.objs.size, s1.heap.objs.size + 1], _, _, H1, rfl, I2,
        turn_zipK (zip_sep2 (fp1 := [a]) (fp2 := [b]) (fun c hc => by rw [List.mem_singleton.mp hc]; exact la) (fun c hc => by rw [List.mem_singleton.mp hc]; exact lb)), ⟨hz, hTI, ⟨_, _, hTO⟩, itK_new h1, itK_new h2⟩, fun c hcm => ?_, q⟩
      have e' : c = s1.heap.objs.size + 4 ∨ c = s1.heap.objs.size + 2 ∨ c = s1.heap.objs.size + 3 ∨ c = s1.heap.objs.size ∨ c = s1.heap.objs.size + 1 := by simpa using hcm
      have hle : s1.heap.objs.size ≤ c := by
        rcases e' with z | z | z | z | z
        · rw [z]; exact Nat.le_add_right _ _
        · rw [z]; exact Nat.le_add_right _ _
        · rw [z]; exact Nat.le_add_right _ _
        · rw [z]; exact Nat.le_refl _
        · rw [z]; exact Nat.le_add_right _ _
      exact I1.fpOk hle (I1.hok.fresh hle)
end DL

namespace DL
open PySem PySem.Spec PyProof.Rows L2
/-! ### what is walked -/
/-- J gives the items, wherever what is frozen at H1 still is so -/
def Good (K : PySem.W.Frag) (J : It) (H1 : Hp) (its : List D) : Prop := ∀ (i : Nat) (H : Hp), FE H1 H →
  (i < its.length → J.go i H ∧ ∀ x H', J.yld i H x H' → Same H H' ∧ ∃ d, its[i]? = some d ∧ Fz K H' x d) ∧ (i = its.length → J.stop i H)
abbrev DI := SD → (List D → SD → Prop) → Prop
structure PID (X : Cx) (tg iter : Expr) (di : DI) : Prop where
  run : ∀ (pins : List (Addr × Obj)) (s : Shared) (σ : L2.St) (H : Hp) (τ : SD) (Q : List D → SD → Prop), Inv X pins σ H s → RelS X.K σ H τ → di τ Q →
    wpAny (model X.prog X.w) X.A (eval iter X.env) (fun v s1 => wpAny (model X.prog X.w) X.A (pyIter v) (PIE X pins σ tg fun J H' => ∃ its τ', PostE X.K σ H τ H' τ' ∧ Good X.K J H' its ∧ Q its τ') X.xe s1) X.xe s
def LI (K : PySem.W.Frag) (di : DI) : TI := fun σ H R => ∃ τ Q, RelS K σ H τ ∧ di τ Q ∧ ∀ J H' its τ', PostE K σ H τ H' τ' → Good K J H' its → Q its τ' → R J H'
section
variable {X : Cx} {P : List Nat} {tg iter e a b : Expr} {es : List Expr} {di : DI} {de da db : DV} {dE : DE} {dA : DA} {dr : DR} {pos : Pos} {K : PySem.W.Frag}
theorem PID.pi (h : PID X tg iter di) : PI X tg iter (LI X.K di) := ⟨fun pins s σ H R I ⟨τ, Q, Rs, hd, k⟩ => thn (h.run pins s σ H τ Q I Rs hd) fun _ _ h1 => thn h1 fun _ _ ⟨it, fp, tn, J, H', e, I', T, st, f, its, τ', p, g, q⟩ => ⟨it, fp, tn, J, H', e, I', T, st, f, k J H' its τ' p g q⟩⟩
theorem pid_of {wi : TI} (h : PI X tg iter wi) (c : ∀ σ H τ Q, RelS X.K σ H τ → di τ Q → wi σ H fun J H' => ∃ its τ', PostE X.K σ H τ H' τ' ∧ Good X.K J H' its ∧ Q its τ') : PID X tg iter di := ⟨fun pins s σ H τ Q I R hd => h.run pins s σ H _ I (c σ H τ Q R hd)⟩
/-- a value, data -/
def itemsOf : D → Option (List D)
  | .list xs => some xs
  | .tuple xs => some xs
  | _ => none
def SqF (k : Bool) (K : PySem.W.Frag) (H : Hp) (a : Addr) (xs : List V) : Prop := match k with
  | false => FrL H a xs
  | true => SqT K H a xs
theorem SqF.sq {k : Bool} {H : Hp} {a : Addr} {xs : List V} (h : SqF k K H a xs) : SqK k K H a xs := by
  cases k
  · exact FrL.sq h
  · exact h
theorem SqF.mono {k : Bool} {H H' : Hp} {a : Addr} {xs : List V} (e : FE H H') (h : SqF k K H a xs) : SqF k K H' a xs := by
  cases k
  · exact FrL.mono e h
  · exact SqT.mono' e h
theorem Fz.items {H : Hp} {v : V} {d : D} {xs : List D} (f : Fz K H v d) (e : itemsOf d = some xs) : ∃ k a vs, v = .ref a ∧ SqF k K H a vs ∧ FzA K H vs xs := by
  cases f with
  | lst h g => cases e; exact ⟨false, _, _, rfl, h, g⟩
  | tup h g => cases e; exact ⟨true, _, _, rfl, h, g⟩
  | _ => cases e
/-- list or tuple, whichever the data is: the kit's two walks as one -/
def iSeq (K : PySem.W.Frag) (tl : TE) : TI := fun σ H R => tl σ H fun x H1 => ∃ k a xs, x = .ref a ∧ SqK k K H1 a xs ∧ R (if k then Itt K a else Itl K a) H1
theorem pi_seq {l : Expr} {tl : TE} (hl : PE X l tl) : PI X tg l (iSeq X.K tl) := by
  refine ⟨fun pins s σ H R I h => ?_⟩
  refine thn (hl.run pins s σ H _ I h) fun v s1 ⟨x, H1, I1, r1, k, a, xs, e, hq, q⟩ => ?_
  subst e
  cases r1
  cases k with
  | false =>
    obtain ⟨its, rv, p, hz⟩ := I1.list hq
    refine wpAny_pyIter_list p.isList ?_
    refine ⟨s1.heap.objs.size, [s1.heap.objs.size], _, _, H1, rfl, I1.kept (t' := s1.toks) fun b o e => Heap.get?_push_of_some _ e, turn_list a _, ⟨_, Heap.get?_push_size _ rfl, rfl, rfl⟩, fun b hb => ?_, q⟩
    have e : b = s1.heap.objs.size := by simpa using hb
    subst e
    exact I1.fpOk (Nat.le_refl _) (I1.hok.fresh (Nat.le_refl _))
  | true =>
    obtain ⟨its, rv, p, hz⟩ := I1.tuple hq
    refine wpAny_pyIter_tuple (show s1.heap.IsTuple a its.toArray from p) ?_
    refine ⟨s1.heap.objs.size, [s1.heap.objs.size], _, _, H1, rfl, I1.kept (t' := s1.toks) fun b o e => Heap.get?_push_of_some _ e, turn_tuple a _, ⟨_, Heap.get?_push_size _ rfl, rfl, rfl⟩, fun b hb => ?_, q⟩
    have e : b = s1.heap.objs.size := by simpa using hb
    subst e
    exact I1.fpOk (Nat.le_refl _) (I1.hok.fresh (Nat.le_refl _))
theorem good_seq {k : Bool} {H1 : Hp} {a : Addr} {vs : List V} {xs : List D} (h : SqF k K H1 a vs) (f : FzA K H1 vs xs) : Good K (if k then Itt K a else Itl K a) H1 xs := by
  intro i H fe
  have hs := (h.mono fe).sq
  have fa := FzA.mono fe f
  refine ⟨fun hi => ?_, fun hi => ?_⟩
  · obtain ⟨v, e, fv⟩ := fa.get (List.getElem?_eq_getElem hi)
    cases k with
    | false => exact ⟨⟨vs, v, hs, e⟩, fun x H' ⟨eH, y⟩ => by subst eH; have := y vs hs; rw [e] at this; cases this; exact ⟨Same.refl _, _, List.getElem?_eq_getElem hi, fv⟩⟩
    | true => exact ⟨⟨vs, v, hs, e⟩, fun x H' ⟨eH, y⟩ => by subst eH; have := y vs hs; rw [e] at this; cases this; exact ⟨Same.refl _, _, List.getElem?_eq_getElem hi, fv⟩⟩
  · have hl : vs.length ≤ i := by rw [fa.length]; omega
    cases k with
    | false => exact ⟨vs, hs, hl⟩
    | true => exact ⟨vs, hs, hl⟩
def diV (de : DV) : DI := fun τ Q => de τ fun d τ' => ∃ xs, itemsOf d = some xs ∧ Q xs τ'
theorem it_val (h : PV X iter de) : PID X tg iter (diV de) := by
  refine pid_of (pi_seq h.pe) fun σ H τ Q R hd => ?_
  refine lv R hd fun v H1 d τ1 p f ⟨xs, e, q⟩ => ?_
  obtain ⟨k, a, vs, rfl, hs, fa⟩ := f.items e
  exact ⟨k, a, vs, rfl, hs.sq, xs, τ1, p, good_seq hs fa, q⟩
/-- range(n), range(m, n) -/
def rangeD (lo : Int) (n : Nat) : List D := (List.range n).map fun (i : Nat) => PyData.int (lo + (i : Int))
theorem rangeD_len (lo : Int) (n : Nat) : (rangeD lo n).length = n := by unfold rangeD; rw [List.length_map, List.length_range]
theorem rangeD_get {lo : Int} {n i : Nat} (h : i < n) : (rangeD lo n)[i]? = some (.int (lo + (i : Int))) := by
  unfold rangeD
  rw [List.getElem?_map, List.getElem?_range h]
  rfl
theorem good_range {lo : Int} {n : Nat} {H1 : Hp} : Good K (Itr lo n) H1 (rangeD lo n) := by
  intro i H fe
  refine ⟨fun hi => ?_, fun hi => ?_⟩
  · rw [rangeD_len] at hi
    exact ⟨hi, fun x H' ⟨e1, e2⟩ => by subst e1 e2; exact ⟨Same.refl _, _, rangeD_get hi, .int _⟩⟩
  · rw [rangeD_len] at hi
    show n ≤ i
    omega
def diRng (dA : DA) : DI := fun τ Q => dA τ fun ds τ' => ∃ j : Int, ds = [.int j] ∧ (-(2 ^ 62) ≤ j ∧ j < 2 ^ 62) ∧ Q (rangeD 0 j.toNat) τ'
theorem it_range1 {p : Pos} (ha : PAD X [a] dA) (hm : X.mg "range" = none) (hg : Gl X "range" := by rfl) (hs : starEach [a] X.env = [(false, eval a X.env)] := by rfl) : PID X tg (.Call (.Name "range" p) [a] [] pos) (diRng dA) := by
  refine pid_of (pi_range1 hg hm ha.pa hs) fun σ H τ Q R hd => ?_
  refine la R hd fun vs H1 ds τ1 p f ⟨j, e, hb, q⟩ => ?_
  subst e
  cases f with
  | cons f1 f2 =>
    cases f1; cases f2
    exact ⟨j, rfl, hb.1, hb.2, _, τ1, p, good_range, q⟩
def diRng2 (dA : DA) : DI := fun τ Q => dA τ fun ds τ' => ∃ i j : Int, ds = [.int i, .int j] ∧ (-(2 ^ 62) ≤ i ∧ i < 2 ^ 62 ∧ -(2 ^ 62) ≤ j ∧ j < 2 ^ 62) ∧ Q (rangeD i (j - i).toNat) τ'
theorem it_range2 {p : Pos} (ha : PAD X [a, b] dA) (hm : X.mg "range" = none) (hg : Gl X "range" := by rfl) (hs : starEach [a, b] X.env = [(false, eval a X.env), (false, eval b X.env)] := by rfl) (hs2 : starEach [b] X.env = [(false, eval b X.env)] := by rfl) : PID X tg (.Call (.Name "range" p) [a, b] [] pos) (diRng2 dA) := by
  refine pid_of (pi_range2 hg hm ha.pa hs hs2) fun σ H τ Q R hd => ?_
  refine la R hd fun vs H1 ds τ1 p f ⟨i, j, e, hb, q⟩ => ?_
  subst e
  cases f with
  | cons f1 f2 =>
    cases f2 with
    | cons f3 f4 =>
      cases f1; cases f3; cases f4
      exact ⟨i, j, rfl, hb, _, τ1, p, good_range, q⟩
/-- enumerate(xs) -/
def enumD (xs : List D) : List D := (List.range xs.length).map fun (i : Nat) => PyData.tuple [.int (i : Int), xs.getD i .none]
theorem enumD_len (xs : List D) : (enumD xs).length = xs.length := by unfold enumD; rw [List.length_map, List.length_range]
theorem enumD_get {xs : List D} {i : Nat} {d : D} (h : xs[i]? = some d) : (enumD xs)[i]? = some (.tuple [.int (i : Int), d]) := by
  have hi : i < xs.length := (List.getElem?_eq_some_iff.mp h).1
  unfold enumD
  rw [List.getElem?_map, List.getElem?_range hi, Option.map_some, List.getD_eq_getElem?_getD, h]
  rfl
theorem good_enum {k : Bool} {H1 : Hp} {a : Addr} {vs : List V} {xs : List D} (h : SqF k K H1 a vs) (f : FzA K H1 vs xs) : Good K (IteK k K a) H1 (enumD xs) := by
  intro i H fe
  have hs := (h.mono fe).sq
  have fa := FzA.mono fe f
  rw [enumD_len]
  refine ⟨fun hi => ?_, fun hi => ⟨vs, hs, by rw [fa.length]; exact hi.symm⟩⟩
  obtain ⟨v, e, fv⟩ := fa.get (List.getElem?_eq_getElem hi)
  refine ⟨⟨vs, v, hs, e⟩, fun x H' ⟨T, y, ex, n, eH, hy⟩ => ?_⟩
  have e2 := hy vs hs
  rw [e] at e2
  cases e2
  subst eH ex
  have s := same_new (o := .tup [V.int (i : Nat), v]) n
  exact ⟨s, _, enumD_get (List.getElem?_eq_getElem hi), .tup (.inl (.inl upd_same)) (.cons (.int _) (.cons (Fz.mono (Same.fe s) fv) .nil))⟩
def diEnum (dA : DA) : DI := fun τ Q => dA τ fun ds τ' => ∃ d xs, ds = [d] ∧ itemsOf d = some xs ∧ Q (enumD xs) τ'
theorem it_enum {p tpos : Pos} {elts : List Expr} {kk : Nat} (ha : PAD X [a] dA) (hm : X.mg "enumerate" = none) (hg : Gl X "enumerate" := by rfl) (hs : starEach [a] X.env = [(false, eval a X.env)] := by rfl) : PID X (.Tuple elts kk tpos) (.Call (.Name "enumerate" p) [a] [] pos) (diEnum dA) := by
  refine pid_of (pi_enumK hg hm ha.pa hs) fun σ H τ Q R hd => ?_
  refine la R hd fun vs H1 ds τ1 p f ⟨d, xs, e, ei, q⟩ => ?_
  subst e
  cases f with
  | cons f1 f2 =>
    cases f2
    obtain ⟨k, a, us, rfl, hs, fa⟩ := f1.items ei
    exact ⟨k, a, us, rfl, hs.sq, _, τ1, p, good_enum hs fa, q⟩
/-- zip(xs, ys) -/
def zipD (xs ys : List D) : List D := (xs.zip ys).map fun p => PyData.tuple [p.1, p.2]
theorem good_zip {k1 k2 : Bool} {H1 : Hp} {a b : Addr} {vs ws : List V} {xs ys : List D} (h : SqF k1 K H1 a vs) (f : FzA K H1 vs xs) (h2 : SqF k2 K H1 b ws) (f2 : FzA K H1 ws ys) : Good K (ItzK k1 k2 K a b) H1 (zipD xs ys) := by
  intro i H fe
  have hs := (h.mono fe).sq
  have fa := FzA.mono fe f
  have hs2 := (h2.mono fe).sq
  have fa2 := FzA.mono fe f2
  have hl : (zipD xs ys).length = min xs.length ys.length := by unfold zipD; rw [List.length_map, List.length_zip]
  rw [hl]
  refine ⟨fun hi => ?_, fun hi => ⟨vs, ws, hs, hs2, by rw [fa.length]; omega, by rw [fa2.length]; omega, by rw [fa.length, fa2.length]; omega⟩⟩
  have hi1 : i < xs.length := by omega
  have hi2 : i < ys.length := by omega
  obtain ⟨v, e, fv⟩ := fa.get (List.getElem?_eq_getElem hi1)
  obtain ⟨w, e', fw⟩ := fa2.get (List.getElem?_eq_getElem hi2)
  refine ⟨⟨vs, ws, v, w, hs, hs2, e, e'⟩, fun x H' ⟨T, y, z, ex, n, eH, hy, hz⟩ => ?_⟩
  have e2 := hy vs hs
  have e3 := hz ws hs2
  rw [e] at e2
  rw [e'] at e3
  cases e2; cases e3
  subst eH ex
  have s := same_new (o := .tup [v, w]) n
  refine ⟨s, _, ?_, .tup (.inl (.inl upd_same)) (.cons (Fz.mono (Same.fe s) fv) (.cons (Fz.mono (Same.fe s) fw) .nil))⟩
  unfold zipD
  rw [List.getElem?_map, List.getElem?_eq_getElem (by rw [List.length_zip]; exact hi), Option.map_some, List.getElem_zip]
def diZip (dA : DA) : DI := fun τ Q => dA τ fun ds τ' => ∃ d e xs ys, ds = [d, e] ∧ itemsOf d = some xs ∧ itemsOf e = some ys ∧ Q (zipD xs ys) τ'
theorem it_zip {p tpos : Pos} {elts : List Expr} {kk : Nat} (ha : PAD X [a, b] dA) (hm : X.mg "zip" = none) (hg : Gl X "zip" := by rfl) (hs : starEach [a, b] X.env = (false, eval a X.env) :: starEach [b] X.env := by rfl) (hpl : (backTo pos (starEach [b] X.env)).any (·.1) = false := by rfl) : PID X (.Tuple elts kk tpos) (.Call (.Name "zip" p) [a, b] [] pos) (diZip dA) := by
  refine pid_of (pi_zipK hg hm ha.pa hs hpl) fun σ H τ Q R hd => ?_
  refine la R hd fun vs H1 ds τ1 p f ⟨d, e, xs, ys, ed, e1, e2, q⟩ => ?_
  subst ed
  cases f with
  | cons f1 f2 =>
    cases f2 with
    | cons f3 f4 =>
      cases f4
      obtain ⟨k1, a, us, rfl, hs, fa⟩ := f1.items e1
      obtain ⟨k2, b, ws, rfl, hs2, fb⟩ := f3.items e2
      exact ⟨k1, k2, a, b, us, ws, rfl, hs.sq, hs2.sq, _, τ1, p, good_zip hs fa hs2 fb, q⟩

/-! ### for -/
def forGo (g : DG) (body : DS) (D : DEnds) : List PyData → SD → Prop
  | [], τ => D.nx τ
  | x :: xs, τ => g x τ fun τ2 => body { nx := forGo g body D xs, rt := D.rt, bk := D.nx, ct := forGo g body D xs } τ2
def sFor (di : DI) (g : DG) (body : DS) : DS := fun D τ => di τ fun its τ1 => forGo g body D its τ1
theorem s_for {body : List Stmt} {g : DG} {ds : DS} (hi : PID X tg iter di) (hg : PGD X P tg g) (hb : PSsD X P body ds) (hp : PassesOwn (model X.prog X.w) X.A X.env X.xe := by exact PassesOwn.never) (hc : X.calm = true := by rfl) (hs : ∀ x, foldedSetIterable iter X.env x = pure x := by intro _; rfl) :
    PSD X P (.For tg iter body [] pos) (sFor di g ds) := by
  refine psd_of (ps_for hp hc hi.pi hg.pg hb.ps hs) fun σ H τ D R hd => ?_
  refine ⟨τ, _, R, hd, fun J H1 its τ1 p1 good q1 => ?_⟩
  have st1 : PostS P X.K σ H τ σ H1 τ1 := p1.st
  refine ⟨fun i m σ' H' => m = its.length - i ∧ i ≤ its.length ∧ ∃ τ', PostS P X.K σ H1 τ1 σ' H' τ' ∧ forGo g ds D (its.drop i) τ', ⟨its.length, rfl, Nat.zero_le _, τ1, (PostE.refl p1.rel).st, q1⟩, fun i m σ' H' hW => ?_⟩
  obtain ⟨em, hi, τ', p', q'⟩ := hW
  by_cases hlt : i < its.length
  · obtain ⟨go, yl⟩ := (good i H' p'.fe).1 hlt
    rw [List.drop_eq_getElem_cons hlt] at q'
    refine .inr ⟨go, fun σ'' H'' => ∃ τ'', PostS P X.K σ H1 τ1 σ'' H'' τ'' ∧ forGo g ds D (its.drop (i + 1)) τ'', fun σ'' H'' ⟨τ'', p'', q''⟩ => ⟨its.length - (i + 1), by omega, rfl, hlt, τ'', p'', q''⟩, fun x H2 hy => ?_⟩
    obtain ⟨s2, d, ed, fd⟩ := yl x H2 hy
    rw [List.getElem?_eq_getElem hlt] at ed
    cases ed
    have p2 : PostS P X.K σ H1 τ1 σ' H2 τ' := p'.trans ((PostE.refl p'.rel).same s2).st
    refine ⟨τ', _, _, p2.rel, fd, q', fun σ3 H3 τ3 p3 q3 => ?_⟩
    have p4 := p2.trans p3
    refine ⟨τ3, _, p3.rel, q3, fun _ _ ⟨τ5, p5, q5⟩ => ⟨τ5, p4.trans p5, q5⟩, fun v H5 ⟨σ5, r5, τ5, p5, f5, q5⟩ => ?_, fun _ _ ⟨τ5, p5, q5⟩ => ⟨τ5, (st1.trans p4).trans p5, q5⟩, fun _ _ ⟨τ5, p5, q5⟩ => ⟨τ5, p4.trans p5, q5⟩⟩
    exact ⟨σ5, r5, τ5, (st1.trans p4).trans p5, f5.before (st1.trans p4), q5⟩
  · have e : i = its.length := by omega
    subst e
    rw [List.drop_length] at q'
    exact .inl ⟨(good _ H' p'.fe).2 rfl, τ', st1.trans p', q'⟩
/-! ### while -/
def sWhile (t : DT) (body : DS) : DS := fun D τ => ∃ W : Nat → SD → Prop, (∃ m, W m τ) ∧ ∀ m τ, W m τ → t τ fun k τ1 => if k = true then body { nx := fun τ' => ∃ m', m' < m ∧ W m' τ', rt := D.rt, bk := D.nx, ct := fun τ' => ∃ m', m' < m ∧ W m' τ' } τ1 else D.nx τ1
theorem s_while {body : List Stmt} {c : Expr} {t : DT} {ds : DS} (hc : PTD X c t) (hb : PSsD X P body ds) (hp : PassesOwn (model X.prog X.w) X.A X.env X.xe := by exact PassesOwn.never) : PSD X P (.While c body [] pos) (sWhile t ds) := by
  refine psd_of (ps_while hp hc.pt hb.ps) fun σ H τ D R hd => ?_
  obtain ⟨W, ⟨m0, w0⟩, turn⟩ := hd
  refine ⟨fun m σ' H' => ∃ τ', PostS P X.K σ H τ σ' H' τ' ∧ W m τ', ⟨m0, τ, (PostE.refl R).st, w0⟩, fun m σ' H' ⟨τ', p', w'⟩ => ?_⟩
  refine lt' p'.rel (turn m τ' w') fun k H2 τ2 p2 q2 => ?_
  have p3 := p'.trans p2.st
  cases k with
  | false => exact ⟨τ2, p3, q2⟩
  | true =>
    refine ⟨fun σ'' H'' => ∃ m', m' < m ∧ ∃ τ'', PostS P X.K σ H τ σ'' H'' τ'' ∧ W m' τ'', fun σ'' H'' ⟨m', hm, τ'', p'', w''⟩ => ⟨m', hm, τ'', p'', w''⟩, τ2, _, p2.rel, q2, fun _ _ ⟨τ5, p5, m', hm, w5⟩ => ⟨m', hm, τ5, p3.trans p5, w5⟩, fun v H5 ⟨σ5, r5, τ5, p5, f5, q5⟩ => ?_, fun _ _ ⟨τ5, p5, q5⟩ => ⟨τ5, p3.trans p5, q5⟩, fun _ _ ⟨τ5, p5, m', hm, w5⟩ => ⟨m', hm, τ5, p3.trans p5, w5⟩⟩
    exact ⟨σ5, r5, τ5, p3.trans p5, f5.before p3, q5⟩
/-! ### [elt for target in iter if ..] -/
def wipeD (τ : SD) : List Nat → SD
  | [] => τ
  | v :: vs => (wipeD τ vs).set v .un
theorem wipeD_length (τ : SD) : ∀ vs : List Nat, (wipeD τ vs).length = τ.length
  | [] => rfl
  | v :: vs => by unfold wipeD; rw [List.length_set, wipeD_length τ vs]
theorem wipeD_out {τ : SD} {i : Nat} : ∀ {vs : List Nat}, i ∉ vs → (wipeD τ vs)[i]? = τ[i]?
  | [], _ => rfl
  | v :: vs, h => by
    unfold wipeD
    rw [List.getElem?_set_ne (fun z => h (by rw [z]; exact List.mem_cons_self))]
    exact wipeD_out fun z => h (List.mem_cons_of_mem _ z)
theorem wipeD_in {τ : SD} {i : Nat} {sl : Sl} : ∀ {vs : List Nat}, i ∈ vs → (wipeD τ vs)[i]? = some sl → sl = .un
  | v :: vs, h, e => by
    unfold wipeD at e
    by_cases z : v = i
    · subst z
      rw [List.getElem?_set] at e
      simp only [if_true] at e
      split at e
      · cases e; rfl
      · cases e
    · rw [List.getElem?_set_ne z] at e
      exact wipeD_in ((List.mem_cons.mp h).resolve_left fun q => z q.symm) e
  | [], h, _ => by cases h
theorem RelS.wipe {σ : L2.St} {H : Hp} {τ : SD} (R : RelS K σ H τ) (vs : List Nat) : RelS K (wipe σ vs) H (wipeD τ vs) := by
  refine ⟨by rw [wipe_length, wipeD_length]; exact R.len, fun i ov sl e1 e2 => ?_, fun i j ds es a e1 e2 e3 e4 => ?_⟩
  · by_cases h : i ∈ vs
    · rw [wipeD_in h e2]
      cases ov <;> trivial
    · rw [wipe_out h] at e1
      rw [wipeD_out h] at e2
      exact R.at_ i ov sl e1 e2
  · have hi : i ∉ vs := fun h => by cases wipeD_in h e1
    have hj : j ∉ vs := fun h => by cases wipeD_in h e2
    rw [wipeD_out hi] at e1
    rw [wipeD_out hj] at e2
    rw [wipe_out hi] at e3
    rw [wipe_out hj] at e4
    exact R.apart i j ds es a e1 e2 e3 e4
theorem Ow.wipe {σ : L2.St} {τ : SD} {vs : List Nat} {a : Addr} (h : Ow (wipe σ vs) (wipeD τ vs) a) : Ow σ τ a := by
  obtain ⟨i, ds, e1, e2⟩ := h
  have hi : i ∉ vs := fun h => by cases wipeD_in h e1
  rw [wipeD_out hi] at e1
  rw [wipe_out hi] at e2
  exact ⟨i, ds, e1, e2⟩
/-- the slots that are not the block's own -/
def others (n : Nat) (vs : List Nat) : List Nat := (List.range n).filter fun i => !vs.contains i
/-- back from the block: the slots as they were, its own ones not told -/
theorem unwipe {σ : L2.St} {H : Hp} {τ : SD} {vs : List Nat} (R : RelS K (wipe σ vs) H τ) (un : ∀ i ∈ vs, ∀ sl, τ[i]? = some sl → sl = .un) : RelS K σ H τ := by
  refine ⟨by rw [← R.len, wipe_length], fun i ov sl e1 e2 => ?_, fun i j ds es a e1 e2 e3 e4 => ?_⟩
  · by_cases h : i ∈ vs
    · rw [un i h sl e2]
      cases ov <;> trivial
    · exact R.at_ i ov sl (by rw [wipe_out h]; exact e1) e2
  · have hi : i ∉ vs := fun h => by cases un i h _ e1
    have hj : j ∉ vs := fun h => by cases un j h _ e2
    exact R.apart i j ds es a e1 e2 (by rw [wipe_out hi]; exact e3) (by rw [wipe_out hj]; exact e4)
def lcGo (vs : List Nat) (g : DG) (t : DT) (el : DV) (Q : List D → SD → Prop) : List D → List D → SD → Prop
  | [], acc, τ => Q acc τ
  | x :: xs, acc, τ => g x τ fun τ2 => t τ2 fun k τ3 => if k = true then el τ3 fun d τ4 => acc.length < 100000 ∧ lcGo vs g t el Q xs (acc ++ [d]) (wipeD τ4 vs) else lcGo vs g t el Q xs acc (wipeD τ3 vs)
def dLc (vs : List Nat) (di : DI) (g : DG) (t : DT) (el : DV) : DE := fun τ Q => di τ fun its τ1 => lcGo vs g t el (fun acc τ2 => Q (.own acc) τ2) its [] (wipeD τ1 vs)
def dtYes : DT := fun τ Q => Q true τ
structure PTsD (X : Cx) (ifs : List Expr) (t : DT) : Prop where
  run : ∀ (pins : List (Addr × Obj)) (s : Shared) (σ : L2.St) (H : Hp) (τ : SD) (Q : Bool → SD → Prop), Inv X pins σ H s → RelS X.K σ H τ → t τ Q →
    wpAny (model X.prog X.w) X.A (forIn ifs true fun c r => if r = true then do let ok ← isTrue c X.env (eval c X.env); pure (ForInStep.yield ok) else pure (ForInStep.yield r)) (TP X pins σ (okT X.K σ H τ Q)) X.xe s
theorem PTsD.pts {ifs : List Expr} {t : DT} (h : PTsD X ifs t) : PTs X ifs (LT X.K t) := ⟨fun pins s σ H Q' I ⟨τ, Q, R, hd, k⟩ => thn (h.run pins s σ H τ Q I R hd) fun _ _ ⟨H', I', q⟩ => ⟨H', I', k _ H' q⟩⟩
theorem ts_nil : PTsD X [] dtYes := ⟨fun pins s σ H τ Q I R h => pts_nil.run pins s σ H _ I ⟨τ, .refl R, h⟩⟩
theorem ts_one {c : Expr} {t : DT} (h : PTD X c t) : PTsD X [c] t := ⟨fun pins s σ H τ Q I R hd => (pts_one h.pt).run pins s σ H _ I ⟨τ, Q, R, hd, fun _ _ q => q⟩⟩
theorem others_pin {σ2 σ : L2.St} {n : Nat} {vs : List Nat} (hl : σ2.length = σ.length) (hn : σ.length ≤ n) (h : ∀ i ∈ others n vs, σ2[i]? = σ[i]?) : L2.wipe σ2 vs = L2.wipe σ vs := by
  refine List.ext_getElem? fun i => ?_
  by_cases hi : i ∈ vs
  · have w : ∀ (s : L2.St) (us : List Nat), i ∈ us → (L2.wipe s us)[i]? = if i < s.length then some none else none := fun s us => by
      induction us with
      | nil => intro h; cases h
      | cons v us ih =>
        intro h
        show ((L2.wipe s us).set v none)[i]? = _
        rw [List.getElem?_set, wipe_length]
        by_cases z : v = i
        · rw [if_pos z]
          subst z
          rfl
        · rw [if_neg z]
          exact ih ((List.mem_cons.mp h).resolve_left fun q => z q.symm)
    rw [w σ2 vs hi, w σ vs hi, hl]
  · rw [wipe_out hi, wipe_out hi]
    by_cases hn2 : i < n
    · exact h i (List.mem_filter.mpr ⟨List.mem_range.mpr hn2, by simp [hi]⟩)
    · rw [List.getElem?_eq_none (by omega), List.getElem?_eq_none (by omega)]
/-- a store under a side word -/
def gS (S : SD → Prop) (g : DG) : DG := fun x τ Q => S τ ∧ g x τ Q
theorem pd_lcS {g : DG} {t : DT} {el : DV} (n : Nat) (vs : List Nat) (S : SD → Prop) (σ : L2.St) (H H1 : Hp) (τ τ1 : SD) (Q : Res → SD → Prop) (J : It) (its : List D) (hσ : σ.length ≤ n) (p1 : PostE X.K σ H τ H1 τ1)
    (good : ∀ (i : Nat) (H' : Hp) (τ' : SD), PostE X.K (L2.wipe σ vs) H1 (wipeD τ1 vs) H' τ' → S τ' → (i < its.length → J.go i H' ∧ ∀ x H'', J.yld i H' x H'' → Same H' H'' ∧ ∃ d, its[i]? = some d ∧ Fz X.K H'' x d) ∧ (i = its.length → J.stop i H'))
    (q1 : lcGo vs (gS S g) t el (fun acc τ2 => S τ2 ∧ Q (.own acc) τ2) its [] (wipeD τ1 vs)) (D : Addr) (hD : H1 D = none) :
    ∃ W : Nat → Nat → Hp → Prop, (∃ m, W 0 m (upd H1 D (.lst []))) ∧ ∀ i m H', W i m H' → (J.stop i H' ∧ okE X.K σ H τ Q (.ref D) H') ∨ (J.go i H' ∧ ∃ Nx : Hp → Prop, (∀ H'', Nx H'' → ∃ m', m' < m ∧ W (i + 1) m' H'') ∧ ∀ x H'', J.yld i H' x H'' →
      LG (others n vs) X.K g x (L2.wipe σ vs) H'' fun σ2 H2 => L2.wipe σ2 vs = L2.wipe σ vs ∧ LT X.K t σ2 H2 fun b H3 => if b = true then LV X.K el σ2 H3 fun y H4 => ∃ acc, H4 D = some (.lst acc) ∧ acc.length < sizeLine ∧ Nx (upd H4 D (.lst (acc ++ [y]))) else Nx H3) := by
  have R1 := p1.rel.wipe vs
  -- the state of the turn: i items are done, acc is what the new list holds
  refine ⟨fun i m H' => m = its.length - i ∧ i ≤ its.length ∧ ∃ τ' acc ys, PostE X.K (L2.wipe σ vs) H1 (wipeD τ1 vs) H' τ' ∧ (∀ j ∈ vs, ∀ sl, τ'[j]? = some sl → sl = .un) ∧ H' D = some (.lst ys) ∧ FzA X.K H' ys acc ∧ lcGo vs (gS S g) t el (fun acc τ2 => S τ2 ∧ Q (.own acc) τ2) (its.drop i) acc τ',
    ⟨its.length, rfl, Nat.zero_le _, wipeD τ1 vs, [], [], (PostE.refl R1).same (same_new hD), fun j hj sl e => wipeD_in hj e, upd_same, .nil, q1⟩, fun i m H' hW => ?_⟩
  obtain ⟨em, hi, τ', acc, ys, p', un, hDl, fa, q'⟩ := hW
  have lenW : (L2.wipe σ vs).length ≤ n := by rw [wipe_length]; exact hσ
  by_cases hlt : i < its.length
  · rw [List.drop_eq_getElem_cons hlt] at q'
    obtain ⟨sτ, q'⟩ := q'
    obtain ⟨go, yl⟩ := (good i H' τ' p' sτ).1 hlt
    have fe' := R1.fe p'.fr
    -- the address of the new list is nobody's
    have nD : ∀ b, Ow (L2.wipe σ vs) τ' b → b ≠ D := fun b o z => by
      subst z
      obtain ⟨zs, e⟩ := R1.ow (p'.ow o)
      rw [hD] at e; cases e
    refine .inr ⟨go, fun H'' => ∃ τ'' acc' ys', PostE X.K (L2.wipe σ vs) H1 (wipeD τ1 vs) H'' τ'' ∧ (∀ j ∈ vs, ∀ sl, τ''[j]? = some sl → sl = .un) ∧ H'' D = some (.lst ys') ∧ FzA X.K H'' ys' acc' ∧ lcGo vs (gS S g) t el (fun acc τ2 => S τ2 ∧ Q (.own acc) τ2) (its.drop (i + 1)) acc' τ'',
      fun H'' ⟨τ'', acc', ys', h⟩ => ⟨its.length - (i + 1), by omega, rfl, hlt, τ'', acc', ys', h⟩, fun x H2 hy => ?_⟩
    obtain ⟨s2, d, ed, fd⟩ := yl x H2 hy
    rw [List.getElem?_eq_getElem hlt] at ed
    cases ed
    have p2 : PostE X.K (L2.wipe σ vs) H1 (wipeD τ1 vs) H2 τ' := p'.same s2
    refine ⟨τ', _, _, p2.rel, fd, q', fun σ3 H3 τ3 p3 q3 => ?_⟩
    have l3 : σ3.length = (L2.wipe σ vs).length := p3.len
    have w3 : L2.wipe σ3 vs = L2.wipe σ vs := by
      have h1 := others_pin (vs := vs) l3 lenW fun j hj => p3.pin j hj
      have h2 : L2.wipe (L2.wipe σ vs) vs = L2.wipe σ vs := others_pin (vs := vs) (n := n) (wipe_length _ _) (by rw [← wipe_length σ vs]; exact lenW) fun j hj => wipe_out (by
        have := (List.mem_filter.mp hj).2
        simpa using this)
      rw [h1, h2]
    refine ⟨w3, lt' p3.rel q3 fun k H4 τ4 p4 q4 => ?_⟩
    -- the turn's end, from whatever stands behind the last part
    have fin : ∀ {H5 : Hp} {τ5 : SD}, PostE X.K σ3 H3 τ3 H5 τ5 → PostE X.K (L2.wipe σ vs) H1 (wipeD τ1 vs) H5 (wipeD τ5 vs) ∧ H5 D = some (.lst ys) ∧ FzA X.K H5 ys acc := fun {H5 τ5} p5 => by
      have all := (p2.st.trans p3).trans (PostE.st (P := others n vs) p5)
      have D2 : H2 D = some (.lst ys) := s2 _ _ hDl
      have nD2 : ¬ Ow (L2.wipe σ vs) τ' D := fun o => nD D o rfl
      have D3 : H3 D = some (.lst ys) := p3.fr D _ D2 nD2
      have nD3 : ¬ Ow σ3 τ3 D := fun o => by
        rcases p3.ow o with o | o
        · exact nD2 o
        · rw [D2] at o; cases o
      refine ⟨⟨R1, by rw [← w3]; exact all.rel.wipe vs, all.fr, fun j ds e => ?_, all.live⟩, p5.fr D _ D3 nD3, FzA.mono ((Same.fe s2).trans (p3.fe.trans p5.fe)) fa⟩
      have hj : j ∉ vs := fun h => by cases wipeD_in h e
      rw [wipeD_out hj] at e
      have hjn : j ∈ others n vs := List.mem_filter.mpr ⟨List.mem_range.mpr (by
        have h1 : j < τ5.length := (List.getElem?_eq_some_iff.mp e).1
        rw [← p5.rel.len] at h1
        omega), by simp [hj]⟩
      obtain ⟨a, xs, e1, _⟩ := p5.rel.own e
      rcases all.sub j ds a e e1 with ⟨d0, h0, _⟩ | ⟨_, h0⟩
      · exact ⟨d0, h0⟩
      · exact absurd hjn h0
    cases k with
    | false =>
      obtain ⟨f1, f2, f3⟩ := fin p4
      exact ⟨_, acc, ys, f1, fun j hj sl e => wipeD_in hj e, f2, f3, q4⟩
    | true =>
      refine lv p4.rel q4 fun y H5 dy τ5 p5 fy ⟨hz, q5⟩ => ?_
      obtain ⟨f1, f2, f3⟩ := fin (p4.trans p5)
      refine ⟨ys, f2, by rw [f3.length]; exact sz_lt hz, _, acc ++ [dy], ys ++ [y], ?_, fun j hj sl e => wipeD_in hj e, upd_same, FzA.mono (fe_lst f2) (f3.append (.cons fy .nil)), q5⟩
      have nO : ∀ b, Ow (L2.wipe σ vs) (wipeD τ5 vs) b → b ≠ D := fun b o z => by
        subst z
        obtain ⟨zs, e⟩ := R1.ow (f1.ow o)
        rw [hD] at e; cases e
      refine ⟨R1, ⟨f1.rel.len, fun j ov sl e1 e2 => (f1.rel.at_ j ov sl e1 e2).mono (fe_lst f2) fun b zs es' ov' sl' hb => ?_, f1.rel.apart⟩, fun b u hb no => ?_, f1.sub, fun b u hb => ?_⟩
      · subst sl' ov'
        rw [upd_ne (nO b ⟨j, es', e2, e1⟩)]
        exact hb
      · rw [upd_ne (ne_of_none hb hD)]
        exact f1.fr b u hb no
      · rw [upd_ne (ne_of_none hb hD)]
        exact f1.live b u hb
  · have e : i = its.length := by omega
    subst e
    rw [List.drop_length] at q'
    refine .inl ⟨(good _ H' τ' p' q'.1).2 rfl, .own acc, τ', ?_, ⟨D, ys, rfl, p1.fresh hD, hDl, fa⟩, q'.2⟩
    refine p1.trans ⟨p1.rel, unwipe p'.rel un, fun b u hb no => p'.fr b u hb fun o => no o.wipe, fun j ds e => ?_, p'.live⟩
    obtain ⟨d0, e0⟩ := p'.sub j ds e
    have hj : j ∉ vs := fun h => by cases wipeD_in h e0
    rw [wipeD_out hj] at e0
    exact ⟨d0, e0⟩
theorem gS_true (g : DG) : gS (fun _ => True) g = g := by
  funext x τ Q
  exact propext ⟨fun h => h.2, fun h => ⟨trivial, h⟩⟩
/-- a step within the block: from any slots there, what is outside of them stands -/
theorem pd_lc0 {elt tg iter : Expr} {ifs : List Expr} {scope : Scope} {own : List (Str × Nat)} {di : DI} {g : DG} {t : DT} {el : DV} (n : Nat) (hc : X.calm = true) (nd : X.N.Nodup) (hi : PID X tg iter di) (ok : BlkOk X.N X.env.scope scope own) (hn : X.N.length ≤ n)
    (hg : ∀ (s : Shared) (H : Hp) (C : Addr) (cl : List (Str × Addr)) (fp : List Addr), PGD (X.blk s H scope (compEnvC scope cl C X.env) fp) (others n (own.map (·.2))) tg g)
    (ht : ∀ (s : Shared) (H : Hp) (C : Addr) (cl : List (Str × Addr)) (fp : List Addr), PTsD (X.blk s H scope (compEnvC scope cl C X.env) fp) ifs t)
    (he : ∀ (s : Shared) (H : Hp) (C : Addr) (cl : List (Str × Addr)) (fp : List Addr), PV (X.blk s H scope (compEnvC scope cl C X.env) fp) elt el)
    (hs : ∀ x, foldedSetIterable iter X.env x = pure x) (σ : L2.St) (H : Hp) (τ : SD) (Q : Res → SD → Prop) (R : RelS X.K σ H τ) (hσ : σ.length = X.N.length) (hd : dLc (own.map (·.2)) di g t el τ Q) :
    tLc (LI X.K di) (LG (others n (own.map (·.2))) X.K g) (LT X.K t) (LV X.K el) (own.map (·.2)) σ H (okE X.K σ H τ Q) := by
  generalize hvs : own.map (·.2) = vs at *
  refine ⟨τ, _, R, hd, fun J H1 its τ1 p1 good q1 D hD => ?_⟩
  refine pd_lcS n vs (fun _ => True) σ H H1 τ τ1 Q J its (by rw [hσ]; exact hn) p1 (fun i H' τ' p' _ => good i H' ((p1.rel.wipe vs).fe p'.fr)) ?_ D hD
  rw [gS_true]
  have e : (fun (acc : List PyData) τ2 => True ∧ Q (.own acc) τ2) = fun acc τ2 => Q (.own acc) τ2 := by
    funext acc τ2
    exact true_and _
  rw [e]
  exact q1
theorem pd_lc {elt tg iter : Expr} {ifs : List Expr} {scope : Scope} {own : List (Str × Nat)} {di : DI} {g : DG} {t : DT} {el : DV} (n : Nat) (nd : X.N.Nodup) (hi : PID X tg iter di) (ok : BlkOk X.N X.env.scope scope own)
    (hg : ∀ (s : Shared) (H : Hp) (C : Addr) (cl : List (Str × Addr)) (fp : List Addr), PGD (X.blk s H scope (compEnvC scope cl C X.env) fp) (others n (own.map (·.2))) tg g)
    (ht : ∀ (s : Shared) (H : Hp) (C : Addr) (cl : List (Str × Addr)) (fp : List Addr), PTsD (X.blk s H scope (compEnvC scope cl C X.env) fp) ifs t)
    (he : ∀ (s : Shared) (H : Hp) (C : Addr) (cl : List (Str × Addr)) (fp : List Addr), PV (X.blk s H scope (compEnvC scope cl C X.env) fp) elt el)
    (hn : X.N.length ≤ n := by exact Nat.le_of_ble_eq_true rfl) (hc : X.calm = true := by rfl) (hs : ∀ x, foldedSetIterable iter X.env x = pure x := by intro _; rfl) : PD X (.ListComp elt [⟨tg, iter, ifs, 0⟩] scope pos) (dLc (own.map (·.2)) di g t el) :=
  ⟨fun pins s σ H τ Q I R hd => (pe_lc (g := LG (others n (own.map (·.2))) X.K g) (tt := LT X.K t) (te := LV X.K el) hc nd hi.pi ok (fun s H C cl fp => (hg s H C cl fp).pg) (fun s H C cl fp => (ht s H C cl fp).pts) (fun s H C cl fp => (he s H C cl fp).pe) hs).run pins s σ H _ I (pd_lc0 n hc nd hi ok hn hg ht he hs σ H τ Q R I.len hd)⟩
/-- name = [..] on one line, the name a local -/
theorem s_setLc (i : Nat) {y : Str} {py spos : Pos} {elt tg iter : Expr} {ifs : List Expr} {scope : Scope} {own : List (Str × Nat)} {di : DI} {g : DG} {t : DT} {el : DV} (n : Nat) (nd : X.N.Nodup) (hi : PID X tg iter di) (ok : BlkOk X.N X.env.scope scope own)
    (hg : ∀ (s : Shared) (H : Hp) (C : Addr) (cl : List (Str × Addr)) (fp : List Addr), PGD (X.blk s H scope (compEnvC scope cl C X.env) fp) (others n (own.map (·.2))) tg g)
    (ht : ∀ (s : Shared) (H : Hp) (C : Addr) (cl : List (Str × Addr)) (fp : List Addr), PTsD (X.blk s H scope (compEnvC scope cl C X.env) fp) ifs t)
    (he : ∀ (s : Shared) (H : Hp) (C : Addr) (cl : List (Str × Addr)) (fp : List Addr), PV (X.blk s H scope (compEnvC scope cl C X.env) fp) elt el)
    (hsw : swapsWith (.ListComp elt [⟨tg, iter, ifs, 0⟩] scope pos) (some (.Name y py)) spos.line X.env = pure true) (hn : X.N.length ≤ n := by exact Nat.le_of_ble_eq_true rfl) (hc : X.calm = true := by rfl) (hy : X.N[i]? = some y := by rfl) (hyl : X.env.scope.names.lookup y = some .local := by rfl) (hP : i ∉ P := by decide) (hs : ∀ x, foldedSetIterable iter X.env x = pure x := by intro _; rfl) :
    PSD X P (.Assign [.Name y py] (.ListComp elt [⟨tg, iter, ifs, 0⟩] scope pos) spos) (sSet i (dLc (own.map (·.2)) di g t el)) := by
  refine ⟨fun pins s σ H τ D I R hd => ?_⟩
  refine (ps_setLc (g := LG (others n (own.map (·.2))) X.K g) (tt := LT X.K t) (te := LV X.K el) hc nd hy hyl hsw hi.pi ok (fun s H C cl fp => (hg s H C cl fp).pg) (fun s H C cl fp => (ht s H C cl fp).pts) (fun s H C cl fp => (he s H C cl fp).pe) hs).run pins s σ H _ I ?_
  have h := pd_lc0 n hc nd hi ok hn hg ht he hs σ H τ _ R I.len hd
  obtain ⟨τ1, Q1, R1, h1, k1⟩ := h
  refine ⟨τ1, Q1, R1, h1, fun J H1 its τ2 p g q D' hD' => ?_⟩
  obtain ⟨W, w0, turn⟩ := k1 J H1 its τ2 p g q D' hD'
  refine ⟨W, w0, fun j m H' hW => ?_⟩
  rcases turn j m H' hW with ⟨st, r, τ', p', f, hl, q'⟩ | h
  · exact .inl ⟨st, τ'.set i r.sl, p'.store f hl hP, q'⟩
  · exact .inr h
end
end DL

namespace DL
open PySem PySem.Spec PyProof.Rows L2
/-! ### great powers -/
def okPow (i j : Int) : Prop := 0 ≤ j ∧ ((i.natAbs.log2 + 1 : Nat) : Int) * j ≤ 2 ^ 27
section
variable {X : Cx}
theorem op_powW : OpR X (binaryOp .Pow) (rI okPow fun i j => .int (i ^ j.toNat)) := opI fun i j _ _ _ _ _ hc q => by
  refine pow_int hc.1 (Int.le_trans (Int.mul_le_mul_of_nonneg_right ?_ hc.1) hc.2) q
  have : Builtin.Int.intBits i ≤ i.natAbs.log2 + 1 := by
    unfold Builtin.Int.intBits
    split <;> omega
  omega
end
def fPowW : DOp := fI okPow fun i j => .int (i ^ j.toNat)
section
variable {X : Cx} {P : List Nat} {e a b : Expr} {es : List Expr} {de da db : DV} {dE : DE} {dA : DA} {pos : Pos} {K : PySem.W.Frag}
theorem pv_powW (ha : PV X a da) (hb : PV X b db) : PV X (.BinOp a .Pow b pos) (dOp fPowW da db) := pv_op op_powW (opD_I fun _ _ _ => .int _) ha hb
end
/-! ### what a def promises, over data: its arguments (a list may be lent), what it gives, what the arguments are then -/
abbrev DSp := List Sl → (Res → List Sl → Prop) → Prop
def vσ (vs : List V) : L2.St := vs.map some
def spOf (K : PySem.W.Frag) (n : Nat) (dsp : DSp) : Sp := fun vs H Q _ => vs.length = n ∧ ∃ as Qd, RelS K (vσ vs) H as ∧ dsp as Qd ∧
  ∀ v H' r as', PostE K (vσ vs) H as H' as' → RelR K H H' v r → Qd r as' → Q v H'
/-- room, and no repr that runs above -/
structure Rm (k : Nat) (A : Around) : Prop where
  room : Room k A
  gd : A.guards = some []
theorem Rm.mono {j k : Nat} {A : Around} (r : Rm k A) (h : j ≤ k) : Rm j A := ⟨r.room.mono h, r.gd⟩
theorem Rm.deeper {k : Nat} {A : Around} (r : Rm (k + 1) A) (env : Env) : Rm k (A.deeper env) := ⟨r.room.deeper env, r.gd⟩
/-- the def at f keeps the promise, wherever no repr runs; nothing is raised out of it -/
structure FnG (P : Program) (w : World) (K : PySem.W.Frag) (mg : Str → Option Value) (base : Heap) (k : Nat) (f : Addr) (fd : FuncData) (ps : List Str) (sp : Sp) : Prop where
  len : ∀ vs H Q E, sp vs H Q E → vs.length = ps.length
  run : ∀ (A : Around) (outer : List Env) (s : Shared) (H : Hp) (args : Args) (us : List Value) (vs : List V) (Q : VK), Rm k A → Env0 P w K mg base A outer s H → BindsTo s fd args (ps.zip us) → Vals vs us → sp vs H Q E0 →
    codeAny (model P w) A (.call (.ref f) args) (CR CX0 outer P w H s Q E0) s
theorem FnG.mono {P : Program} {w : World} {K : PySem.W.Frag} {mg : Str → Option Value} {base : Heap} {j k : Nat} {f : Addr} {fd : FuncData} {ps : List Str} {sp : Sp} (F : FnG P w K mg base j f fd ps sp) (h : j ≤ k) : FnG P w K mg base k f fd ps sp :=
  ⟨F.len, fun A outer s H args us vs Q hr => F.run A outer s H args us vs Q (hr.mono h)⟩
section
variable {X : Cx} {k : Nat} {f : Addr} {fd : FuncData} {ps : List Str} {sp : Sp}
/-- a call of it from a body -/
theorem FnG.at {pins : List (Addr × Obj)} {σ : L2.St} {H : Hp} {s : Shared} {Q : VK} {us : List Value} {vs : List V} {args : Args} (F : FnG X.prog X.w X.K X.mg X.base k f fd ps sp) (hr : Rm k X.A) (I : L2.Inv X pins σ H s) (hb : BindsTo s fd args (ps.zip us)) (r : Vals vs us) (h : sp vs H Q E0) :
    codeAny (model X.prog X.w) X.A (.call (.ref f) args) (fun r s' => match r with
      | .ok (.ret u) => EP X pins σ Q u s'
      | _ => False) s :=
  codeAny_mono (F.run X.A X.stack s H args us vs Q hr I.env0 hb r h) fun r s' q => by
    match r, q with
    | .ok (.ret u), q => exact I.after q
    | .ok .next, q => exact q
    | .ok .brk, q => exact q
    | .ok .cont, q => exact q
    | .error e, q => exact q
theorem FnG.call {pins : List (Addr × Obj)} {σ : L2.St} {H : Hp} {s : Shared} {Q : VK} {us : List Value} {vs : List V} {kw : List (Str × Value)} (F : FnG X.prog X.w X.K X.mg X.base k f fd ps sp) (hr : Rm k X.A) (I : L2.Inv X pins σ H s) {ws : List Value} (hb : BindsTo s fd ⟨us, kw⟩ (ps.zip ws)) (r : Vals vs ws) (h : sp vs H Q E0) :
    wpAny (model X.prog X.w) X.A (PySem.call (.ref f) us kw) (EP X pins σ Q) X.xe s :=
  wpAny_call (codeAny_mono (F.at hr I hb r h) fun r s' q => by
    match r, q with
    | .ok (.ret u), q => exact q
    | .ok .next, q => exact q.elim
    | .ok .brk, q => exact q.elim
    | .ok .cont, q => exact q.elim
    | .error e, q => exact q.elim)
end
/-- a def of the module, callable -/
structure FnD (P : Program) (w : World) (K : PySem.W.Frag) (mg : Str → Option Value) (base : Heap) (k : Nat) (x : Str) (ps : List Str) (dsp : DSp) : Prop where
  ex : ∃ f fd, FnG P w K mg base k f fd ps (spOf K ps.length dsp) ∧ mg x = some (.ref f) ∧ PySem.W.keepIn K (.ref f) = true ∧ Binds K fd ps [] ∧ ∀ (s : Shared) (ws : List Value), ws.length = ps.length → BindsTo s fd ⟨[], ps.zip ws⟩ (ps.zip ws)
theorem FnD.mono {P : Program} {w : World} {K : PySem.W.Frag} {mg : Str → Option Value} {base : Heap} {j k : Nat} {x : Str} {ps : List Str} {dsp : DSp} (F : FnD P w K mg base j x ps dsp) (h : j ≤ k) : FnD P w K mg base k x ps dsp := by
  obtain ⟨f, fd, F, r⟩ := F.ex
  exact ⟨f, fd, F.mono h, r⟩
/-! ### arguments: data, or a slot that is lent -/
inductive AR where
  | v (d : D) | sl (i : Nat)
def ArR (K : PySem.W.Frag) (σ : L2.St) (H : Hp) : V → AR → Prop
  | v, .v d => Fz K H v d
  | v, .sl i => σ[i]? = some (some v)
inductive ArA (K : PySem.W.Frag) (σ : L2.St) (H : Hp) : List V → List AR → Prop
  | nil : ArA K σ H [] []
  | cons {v : V} {vs : List V} {a : AR} {as : List AR} : ArR K σ H v a → ArA K σ H vs as → ArA K σ H (v :: vs) (a :: as)
abbrev DAr := SD → (List AR → SD → Prop) → Prop
structure PArD (X : Cx) (es : List Expr) (da : DAr) : Prop where
  run : ∀ (pos : Pos) (pins : List (Addr × Obj)) (s : Shared) (σ : L2.St) (H : Hp) (τ : SD) (Q : List AR → SD → Prop), Inv X pins σ H s → RelS X.K σ H τ → da τ Q →
    wpAny (model X.prog X.w) X.A (spliced (backTo pos (starEach es X.env))) (AP X pins σ fun vs H' => ∃ as τ', PostE X.K σ H τ H' τ' ∧ ArA X.K σ H' vs as ∧ Q as τ') X.xe s
def LAr (K : PySem.W.Frag) (da : DAr) : TA := fun σ H Q' => ∃ τ Q, RelS K σ H τ ∧ da τ Q ∧ ∀ vs H' as τ', PostE K σ H τ H' τ' → ArA K σ H' vs as → Q as τ' → Q' vs H'
def arNil : DAr := fun τ Q => Q [] τ
def arV (de : DV) (da : DAr) : DAr := fun τ Q => de τ fun d τ1 => da τ1 fun as τ2 => Q (.v d :: as) τ2
def arS (i : Nat) (da : DAr) : DAr := fun τ Q => isSet τ i ∧ da τ fun as τ2 => Q (.sl i :: as) τ2
section
variable {X : Cx} {P : List Nat} {e a b : Expr} {es : List Expr} {de : DV} {dE : DE} {da : DAr} {pos : Pos} {K : PySem.W.Frag}
theorem ArA.mono {σ : L2.St} {H H' : Hp} (fe : FE H H') : ∀ {vs : List V} {as : List AR}, ArA K σ H vs as → ArA K σ H' vs as
  | _, _, .nil => .nil
  | _, _, .cons (a := .v d) h t => .cons (a := .v d) (Fz.mono fe h) (ArA.mono fe t)
  | _, _, .cons (a := .sl i) h t => .cons (a := .sl i) h (ArA.mono fe t)
theorem PArD.pa (h : PArD X es da) : PA X es (LAr X.K da) := ⟨fun pos pins s σ H Q' I ⟨τ, Q, R, hd, k⟩ => thn (h.run pos pins s σ H τ Q I R hd) fun _ _ ⟨vs, H', I', r, as, τ', p, f, q⟩ => ⟨vs, H', I', r, k vs H' as τ' p f q⟩⟩
theorem pard_of {t : TA} (h : PA X es t) (c : ∀ σ H τ Q, RelS X.K σ H τ → da τ Q → t σ H (fun vs H' => ∃ as τ', PostE X.K σ H τ H' τ' ∧ ArA X.K σ H' vs as ∧ Q as τ')) : PArD X es da := ⟨fun pos pins s σ H τ Q I R hd => h.run pos pins s σ H _ I (c σ H τ Q R hd)⟩
theorem ar_nil : PArD X [] arNil := pard_of pa_nil fun σ H τ Q R h => ⟨[], τ, .refl R, .nil, h⟩
theorem ar_v (ha : PV X e de) (hr : PArD X es da) (hs : starEach (e :: es) X.env = (false, eval e X.env) :: starEach es X.env := by rfl) : PArD X (e :: es) (arV de da) := by
  refine pard_of (pa_cons ha.pe hr.pa hs) fun σ H τ Q R h => ?_
  refine lv R h fun v H1 d τ1 p1 f1 q1 => ⟨τ1, _, p1.rel, q1, fun vs H2 as τ2 p2 f2 q2 => ⟨.v d :: as, τ2, p1.trans p2, .cons (a := .v d) (Fz.mono p2.fe f1) f2, q2⟩⟩
theorem ar_s (i : Nat) {x : Str} {px : Pos} (hr : PArD X es da) (hN : X.N[i]? = some x := by rfl) (hv : Vis X.env.scope x := by first | exact Or.inl rfl | exact Or.inr (Or.inl rfl) | exact Or.inr (Or.inr rfl)) (hd : (x == ("__debug__" : Str)) = false := by decide)
    (hcd : (x == ("__classdict__" : Str)) = false := by decide) (hs : starEach (.Name x px :: es) X.env = (false, eval (.Name x px) X.env) :: starEach es X.env := by rfl) : PArD X (.Name x px :: es) (arS i da) := by
  refine pard_of (pa_cons (pe_var hN hv hd hcd) hr.pa hs) fun σ H τ Q R ⟨h0, h⟩ => ?_
  obtain ⟨v, e⟩ := R.isSet h0
  exact ⟨v, e, τ, _, R, h, fun vs H2 as τ2 p2 f2 q2 => ⟨.sl i :: as, τ2, p2, .cons (a := .sl i) e f2, q2⟩⟩
/-- what the callee gets: a slot's own list may be lent once -/
def argSl (τ : SD) : AR → Option Sl
  | .v d => some (.val d)
  | .sl i => match τ[i]? with
    | some (.val d) => some (.val d)
    | some (.own ds) => some (.own ds)
    | some (.frn ds) => some (.frn ds)
    | _ => none
def argsOf (τ : SD) : List AR → Option (List Sl)
  | [] => some []
  | a :: as => match argSl τ a, argsOf τ as with
    | some s, some r => some (s :: r)
    | _, _ => none
def lentOf : List AR → List Nat
  | [] => []
  | .v _ :: as => lentOf as
  | .sl i :: as => i :: lentOf as
/-- the lent slots as the callee leaves them -/
def putBack : List AR → List Sl → SD → SD
  | .sl i :: as, s :: r, τ => putBack as r (τ.set i s)
  | .v _ :: as, _ :: r, τ => putBack as r τ
  | _, _, τ => τ
theorem argsOf_cons {τ : SD} {a : AR} {as : List AR} {l : List Sl} (h : argsOf τ (a :: as) = some l) : ∃ s r, l = s :: r ∧ argSl τ a = some s ∧ argsOf τ as = some r := by
  unfold argsOf at h
  cases e1 : argSl τ a with
  | none => rw [e1] at h; cases h
  | some s =>
    cases e2 : argsOf τ as with
    | none => rw [e1, e2] at h; cases h
    | some r =>
      rw [e1, e2] at h
      cases h
      exact ⟨s, r, rfl, rfl, rfl⟩
theorem argSl_sl {τ : SD} {i : Nat} {s : Sl} (h : argSl τ (.sl i) = some s) : τ[i]? = some s ∧ s ≠ .un := by
  simp only [argSl] at h
  split at h
  · rename_i e; cases h; exact ⟨e, fun z => nomatch z⟩
  · rename_i e; cases h; exact ⟨e, fun z => nomatch z⟩
  · rename_i e; cases h; exact ⟨e, fun z => nomatch z⟩
  · cases h
theorem args_at {σ : L2.St} {H : Hp} {τ : SD} (R : RelS K σ H τ) : ∀ {vs : List V} {as : List AR} {l : List Sl}, ArA K σ H vs as → argsOf τ as = some l → vs.length = l.length ∧ as.length = l.length ∧
    ∀ (j : Nat) v sl, vs[j]? = some v → l[j]? = some sl → RelSl K H (some v) sl ∧ (∀ ds, sl = .own ds → ∃ i, as[j]? = some (.sl i) ∧ τ[i]? = some (.own ds) ∧ σ[i]? = some (some v))
  | _, _, l, .nil, h => by
    cases h
    exact ⟨rfl, rfl, fun j v sl e => by simp at e⟩
  | _, _, l, .cons (v := v) (vs := vs) (a := a) (as := as) f t, h => by
    obtain ⟨s, r, rfl, e1, e2⟩ := argsOf_cons h
    obtain ⟨l1, l2, rest⟩ := args_at R t e2
    refine ⟨by simp [l1], by simp [l2], fun j w sl e3 e4 => ?_⟩
    cases j with
    | zero =>
      simp at e3 e4
      subst e3 e4
      cases a with
      | v d =>
        cases e1
        exact ⟨f, fun ds z => nomatch z⟩
      | sl i =>
        have f : σ[i]? = some (some v) := f
        obtain ⟨eτ, _⟩ := argSl_sl e1
        exact ⟨R.at_ _ _ _ f eτ, fun ds' z => by subst z; exact ⟨i, rfl, eτ, f⟩⟩
    | succ j =>
      simp at e3 e4
      obtain ⟨q1, q2⟩ := rest j w sl e3 e4
      exact ⟨q1, fun ds z => by
        obtain ⟨i, a1, a2, a3⟩ := q2 ds z
        exact ⟨i, by simpa using a1, a2, a3⟩⟩
theorem lent_at : ∀ {as : List AR} {j k i : Nat}, (lentOf as).Nodup → as[j]? = some (.sl i) → as[k]? = some (.sl i) → j = k
  | [], _, _, _, _, h, _ => by simp at h
  | .v _ :: as, 0, _, _, _, h, _ => by simp at h
  | .v _ :: as, _ + 1, 0, _, _, _, h => by simp at h
  | .v _ :: as, j + 1, k + 1, i, nd, h1, h2 => congrArg (· + 1) (lent_at (as := as) (i := i) nd (by simpa using h1) (by simpa using h2))
  | .sl m :: as, 0, 0, _, _, _, _ => rfl
  | .sl m :: as, 0, k + 1, i, nd, h1, h2 => by
    simp at h1 h2
    subst h1
    exact absurd (mem_lent h2) (List.nodup_cons.mp nd).1
  | .sl m :: as, j + 1, 0, i, nd, h1, h2 => by
    simp at h1 h2
    subst h2
    exact absurd (mem_lent h1) (List.nodup_cons.mp nd).1
  | .sl m :: as, j + 1, k + 1, i, nd, h1, h2 => congrArg (· + 1) (lent_at (as := as) (i := i) (List.nodup_cons.mp nd).2 (by simpa using h1) (by simpa using h2))
where mem_lent : ∀ {as : List AR} {j i : Nat}, as[j]? = some (.sl i) → i ∈ lentOf as
  | [], _, _, h => by simp at h
  | .v _ :: as, 0, _, h => by simp at h
  | .v _ :: as, j + 1, i, h => mem_lent (as := as) (j := j) (by simpa using h)
  | .sl m :: as, 0, i, h => by simp at h; subst h; exact List.mem_cons_self
  | .sl m :: as, j + 1, i, h => List.mem_cons_of_mem _ (mem_lent (as := as) (j := j) (by simpa using h))
theorem vσ_at {vs : List V} {j : Nat} {ov : Option V} (h : (vσ vs)[j]? = some ov) : ∃ v, ov = some v ∧ vs[j]? = some v := by
  unfold vσ at h
  rw [List.getElem?_map] at h
  cases e : vs[j]? with
  | none => rw [e] at h; cases h
  | some v => rw [e] at h; cases h; exact ⟨v, rfl, rfl⟩
theorem vσ_of {vs : List V} {j : Nat} {v : V} (h : vs[j]? = some v) : (vσ vs)[j]? = some (some v) := by
  unfold vσ
  rw [List.getElem?_map, h]; rfl
/-- the callee's slots -/
theorem args_rel {σ : L2.St} {H : Hp} {τ : SD} (R : RelS K σ H τ) {vs : List V} {as : List AR} {l : List Sl} (f : ArA K σ H vs as) (h : argsOf τ as = some l) (nd : (lentOf as).Nodup) : RelS K (vσ vs) H l := by
  obtain ⟨l1, l2, at'⟩ := args_at R f h
  refine ⟨by unfold vσ; rw [List.length_map]; exact l1, fun j ov sl e1 e2 => ?_, fun j k ds es a e1 e2 e3 e4 => ?_⟩
  · obtain ⟨v, rfl, e3⟩ := vσ_at e1
    exact (at' j v sl e3 e2).1
  · obtain ⟨v, ev, e5⟩ := vσ_at e3
    obtain ⟨w, ew, e6⟩ := vσ_at e4
    cases ev; cases ew
    obtain ⟨i1, a1, a2, a3⟩ := (at' j _ _ e5 e1).2 ds rfl
    obtain ⟨i2, b1, b2, b3⟩ := (at' k _ _ e6 e2).2 es rfl
    have : i1 = i2 := R.apart i1 i2 _ _ _ a2 b2 a3 b3
    subst this
    exact lent_at nd a1 b1
theorem putBack_len : ∀ (as : List AR) (l : List Sl) (τ : SD), (putBack as l τ).length = τ.length
  | [], _, _ => by unfold putBack; rfl
  | .v _ :: as, [], τ => by unfold putBack; rfl
  | .v _ :: as, _ :: r, τ => by unfold putBack; exact putBack_len as r τ
  | .sl i :: as, [], τ => by unfold putBack; rfl
  | .sl i :: as, s :: r, τ => by
    unfold putBack
    rw [putBack_len as r, List.length_set]
theorem putBack_out : ∀ {as : List AR} {l : List Sl} {τ : SD} {i : Nat}, i ∉ lentOf as → (putBack as l τ)[i]? = τ[i]?
  | [], _, _, _, _ => by unfold putBack; rfl
  | .v _ :: as, [], τ, _, _ => by unfold putBack; rfl
  | .v _ :: as, _ :: r, τ, i, h => by unfold putBack; exact putBack_out (as := as) h
  | .sl m :: as, [], τ, _, _ => by unfold putBack; rfl
  | .sl m :: as, s :: r, τ, i, h => by
    unfold putBack
    rw [putBack_out (as := as) fun z => h (List.mem_cons_of_mem _ z), List.getElem?_set_ne (fun z => h (by rw [z]; exact List.mem_cons_self))]
theorem putBack_in : ∀ {as : List AR} {l : List Sl} {τ : SD} {i : Nat}, (lentOf as).Nodup → as.length = l.length → i ∈ lentOf as → i < τ.length → ∃ (j : Nat) (s : Sl), as[j]? = some (.sl i) ∧ l[j]? = some s ∧ (putBack as l τ)[i]? = some s
  | [], _, _, _, _, _, h, _ => by cases h
  | .v _ :: as, [], _, _, _, hl, _, _ => by simp at hl
  | .v _ :: as, _ :: r, τ, i, nd, hl, h, hi => by
    obtain ⟨j, s, e1, e2, e3⟩ := putBack_in (as := as) (l := r) (τ := τ) nd (by simpa using hl) h hi
    exact ⟨j + 1, s, by simpa using e1, by simpa using e2, by unfold putBack; exact e3⟩
  | .sl m :: as, [], _, _, _, hl, _, _ => by simp at hl
  | .sl m :: as, s :: r, τ, i, nd, hl, h, hi => by
    by_cases z : i = m
    · subst z
      have := (List.nodup_cons.mp nd).1
      exact ⟨0, s, rfl, rfl, by unfold putBack; rw [putBack_out this, List.getElem?_set_self hi]⟩
    · obtain ⟨j, s', e1, e2, e3⟩ := putBack_in (as := as) (l := r) (τ := τ.set m s) (List.nodup_cons.mp nd).2 (by simpa using hl) ((List.mem_cons.mp h).resolve_left z) (by rw [List.length_set]; exact hi)
      exact ⟨j + 1, s', by simpa using e1, by simpa using e2, by unfold putBack; exact e3⟩
theorem lent_mem : ∀ {as : List AR} {i : Nat}, i ∈ lentOf as → ∃ j : Nat, as[j]? = some (.sl i)
  | [], _, h => by cases h
  | .v _ :: as, i, h => let ⟨j, e⟩ := lent_mem (as := as) h; ⟨j + 1, by simpa using e⟩
  | .sl m :: as, i, h => by
    rcases List.mem_cons.mp h with z | z
    · subst z; exact ⟨0, rfl⟩
    · obtain ⟨j, e⟩ := lent_mem (as := as) z
      exact ⟨j + 1, by simpa using e⟩
/-- behind the call -/
theorem call_post {σ : L2.St} {H H' : Hp} {τ : SD} (R : RelS K σ H τ) {vs : List V} {as : List AR} {l l' : List Sl} (f : ArA K σ H vs as) (h : argsOf τ as = some l) (nd : (lentOf as).Nodup) (p : PostE K (vσ vs) H l H' l') : PostE K σ H τ H' (putBack as l' τ) := by
  obtain ⟨l1, l2, at'⟩ := args_at R f h
  have ll : l'.length = l.length := by rw [← p.rel.len, p.rel0.len]
  -- a slot that is lent: its argument
  have arg : ∀ (j i : Nat), as[j]? = some (.sl i) → ∃ v sl, vs[j]? = some v ∧ l[j]? = some sl ∧ σ[i]? = some (some v) ∧ τ[i]? = some sl := fun j i e => by
    have hj : j < l.length := by rw [← l2]; exact (List.getElem?_eq_some_iff.mp e).1
    have e1 := List.getElem?_eq_getElem (l := l) hj
    have hv : j < vs.length := by omega
    refine ⟨vs[j], l[j], List.getElem?_eq_getElem hv, e1, ?_, ?_⟩
    · have : ∀ {vs : List V} {as : List AR}, ArA K σ H vs as → ∀ (j : Nat) (i : Nat) (v : V), as[j]? = some (.sl i) → vs[j]? = some v → σ[i]? = some (some v) := by
        intro vs as f
        induction f with
        | nil => intro j i v e; simp at e
        | cons g t ih =>
          intro j i v e1 e2
          cases j with
          | zero => simp at e1 e2; subst e1 e2; exact g
          | succ j => exact ih j i v (by simpa using e1) (by simpa using e2)
      exact this f j i _ e (List.getElem?_eq_getElem hv)
    · have : ∀ {as : List AR} {l : List Sl}, argsOf τ as = some l → ∀ (j i : Nat) (sl : Sl), as[j]? = some (.sl i) → l[j]? = some sl → τ[i]? = some sl := by
        intro as
        induction as with
        | nil => intro l h j i sl e; simp at e
        | cons a as ih =>
          intro l h j i sl e1 e2
          obtain ⟨s, r, rfl, q1, q2⟩ := argsOf_cons h
          cases j with
          | zero =>
            simp at e1 e2
            subst e1 e2
            exact (argSl_sl q1).1
          | succ j => exact ih q2 j i sl (by simpa using e1) (by simpa using e2)
      exact this h j i _ e e1
  have owl : ∀ a, Ow (vσ vs) l a → Ow σ τ a := fun a ⟨j, ds, e1, e2⟩ => by
    obtain ⟨v, ev, e3⟩ := vσ_at e2
    cases ev
    obtain ⟨i, a1, a2, a3⟩ := (at' j _ _ e3 e1).2 ds rfl
    exact ⟨i, ds, a2, a3⟩
  -- what a lent slot holds now
  have lent : ∀ (i : Nat) sl, i ∈ lentOf as → (putBack as l' τ)[i]? = some sl → ∃ (j : Nat) (v : V), as[j]? = some (.sl i) ∧ l'[j]? = some sl ∧ vs[j]? = some v ∧ σ[i]? = some (some v) := fun i sl hi e => by
    obtain ⟨j0, ej0⟩ := lent_mem hi
    obtain ⟨v0, sl0, _, _, es0, et0⟩ := arg j0 i ej0
    obtain ⟨j, s, e1, e2, e3⟩ := putBack_in (l := l') nd (by rw [ll]; exact l2) hi (List.getElem?_eq_some_iff.mp et0).1
    rw [e] at e3
    cases e3
    obtain ⟨v, _, ev, _, es, _⟩ := arg j i e1
    exact ⟨j, v, e1, e2, ev, es⟩
  have fe := p.fe
  refine ⟨R, ⟨by rw [putBack_len]; exact R.len, fun i ov sl e1 e2 => ?_, fun i k ds es a e1 e2 e3 e4 => ?_⟩, fun a o ha no => p.fr a o ha fun z => no (owl a z), fun i ds e => ?_, p.live⟩
  · by_cases hi : i ∈ lentOf as
    · obtain ⟨j, v, a1, a2, a3, a4⟩ := lent i sl hi e2
      rw [e1] at a4
      cases a4
      exact p.rel.at_ j _ _ (vσ_of a3) a2
    · rw [putBack_out hi] at e2
      refine (R.at_ i ov sl e1 e2).mono fe fun a xs ds eo es ha => p.fr a _ ha fun ⟨j, ds', q1, q2⟩ => ?_
      subst eo es
      obtain ⟨v, ev, e3⟩ := vσ_at q2
      cases ev
      obtain ⟨i2, a1, a2, a3⟩ := (at' j _ _ e3 q1).2 ds' rfl
      have : i = i2 := R.apart i i2 _ _ _ e2 a2 e1 a3
      subst this
      exact hi (lent_at.mem_lent a1)
  · -- slots of which both own
    have own0 : ∀ (i : Nat) ds, (putBack as l' τ)[i]? = some (.own ds) → ∃ ds0, τ[i]? = some (.own ds0) := fun i ds e => by
      by_cases hi : i ∈ lentOf as
      · obtain ⟨j, v, a1, a2, a3, a4⟩ := lent i _ hi e
        obtain ⟨d0, q⟩ := p.sub j ds a2
        obtain ⟨v', sl', b1, b2, b3, b4⟩ := arg j i a1
        rw [q] at b2
        cases b2
        exact ⟨d0, b4⟩
      · rw [putBack_out hi] at e
        exact ⟨ds, e⟩
    obtain ⟨d1, q1⟩ := own0 i ds e1
    obtain ⟨d2, q2⟩ := own0 k es e2
    exact R.apart i k d1 d2 a q1 q2 e3 e4
  · by_cases hi : i ∈ lentOf as
    · obtain ⟨j, v, a1, a2, a3, a4⟩ := lent i _ hi e
      obtain ⟨d0, q⟩ := p.sub j ds a2
      obtain ⟨v', sl', b1, b2, b3, b4⟩ := arg j i a1
      rw [q] at b2
      cases b2
      exact ⟨d0, b4⟩
    · rw [putBack_out hi] at e
      exact ⟨ds, e⟩
/-- f(..) -/
def dCall (dsp : DSp) (da : DAr) : DE := fun τ Q => da τ fun as τ1 => ∃ l, argsOf τ1 as = some l ∧ (lentOf as).Nodup ∧ dsp l fun r l' => Q r (putBack as l' τ1)
theorem ArA.len {σ : L2.St} {H : Hp} : ∀ {vs : List V} {as : List AR}, ArA K σ H vs as → vs.length = as.length
  | _, _, .nil => rfl
  | _, _, .cons _ t => by simp [ArA.len t]
theorem argsOf_len {τ : SD} : ∀ {as : List AR} {l : List Sl}, argsOf τ as = some l → l.length = as.length
  | [], _, h => by cases h; rfl
  | a :: as, l, h => by
    obtain ⟨s, r, rfl, _, e⟩ := argsOf_cons h
    simp [argsOf_len e]
section
variable {k : Nat} {x : Str} {ps : List Str} {dsp : DSp} {p : Pos}
/-- f(e, ..), every parameter given by its place -/
theorem pe_callG {f : Addr} {fd : FuncData} {sp : Sp} {t : TA} (F : FnG X.prog X.w X.K X.mg X.base k f fd ps sp) (hr : Rm k X.A) (hg : Gl X x) (hm : X.mg x = some (.ref f)) (hk : PySem.W.keepIn X.K (.ref f) = true) (hb : Binds X.K fd ps []) (ha : PA X (e :: es) t) (hdb : (x == ("__debug__" : Str)) = false) (he : starEach (e :: es) X.env = (false, eval e X.env) :: starEach es X.env)
    (hpl : (backTo pos (starEach es X.env)).any (·.1) = false) : PE X (.Call (.Name x p) (e :: es) [] pos) (fun σ H Q => t σ H fun vs H1 => sp vs H1 Q E0) :=
  ⟨fun pins s σ H Q I h => wpAny_Call_Name_kw (ld_glob I hg hm (PySem.W.callWith_K (h₀ := X.base) I.ok.mod.kin hk (thn (ha.run pos pins s σ H _ I h) fun us s1 ⟨vs, H1, I1, r, q⟩ => ⟨I1.kIn, by
    have hl : (us ++ []).length = ps.length := by rw [List.append_nil, ← r.length]; exact F.len _ _ _ _ q
    exact F.call hr I1 (hb s1 us I1.kIn hl) (by rw [List.append_nil]; exact r) q⟩) he hpl) hdb)⟩
/-- the promise wants so many arguments: said once -/
def arity (dsp : DSp) (n : Nat) : Prop := ∀ l Q, dsp l Q → l.length = n
theorem pd_call (F : FnD X.prog X.w X.K X.mg X.base k x ps dsp) (hn : arity dsp ps.length) (hr : Rm k X.A) (ha : PArD X (e :: es) da) (hg : Gl X x := by rfl) (hdb : (x == ("__debug__" : Str)) = false := by decide) (he : starEach (e :: es) X.env = (false, eval e X.env) :: starEach es X.env := by rfl)
    (hpl : (backTo pos (starEach es X.env)).any (·.1) = false := by rfl) : PD X (.Call (.Name x p) (e :: es) [] pos) (dCall dsp da) := by
  obtain ⟨f, fd, F, hm, hk, hb, _⟩ := F.ex
  refine pd_of (pe_callG F hr hg hm hk hb ha.pa hdb he hpl) fun σ H τ Q R hd => ?_
  refine ⟨τ, _, R, hd, fun vs H1 as τ1 p1 f1 ⟨l, h1, h2, h3⟩ => ?_⟩
  refine ⟨by rw [f1.len, ← argsOf_len h1]; exact hn l _ h3, l, _, args_rel p1.rel f1 h1 h2, h3, fun v H' r l' pc fr q => ?_⟩
  have p2 := p1.trans (call_post p1.rel f1 h1 h2 pc)
  exact ⟨r, _, p2, fr.before fun _ z => p1.fresh z, q⟩
end
end
end DL

namespace DL
open PySem PySem.Spec PyProof.Rows L2
/-! ### calls by keywords alone -/
structure PKrD (X : Cx) (kws : List Keyword) (da : DAr) : Prop where
  run : ∀ (pos : Pos) (pins : List (Addr × Obj)) (s : Shared) (σ : L2.St) (H : Hp) (τ : SD) (Q : List AR → SD → Prop), Inv X pins σ H s → RelS X.K σ H τ → da τ Q →
    wpAny (model X.prog X.w) X.A (evalAll ((backToKw pos (keywordEach kws X.env)).map (·.2))) (AP X pins σ fun vs H' => ∃ as τ', PostE X.K σ H τ H' τ' ∧ ArA X.K σ H' vs as ∧ Q as τ') X.xe s
section
variable {X : Cx} {e : Expr} {kws : List Keyword} {de : DV} {da : DAr} {pos kpos : Pos} {nm : Option Str} {K : PySem.W.Frag}
theorem PKrD.pk (h : PKrD X kws da) : PK X kws (LAr X.K da) := ⟨fun pos pins s σ H Q' I ⟨τ, Q, R, hd, k⟩ => thn (h.run pos pins s σ H τ Q I R hd) fun _ _ ⟨vs, H', I', r, as, τ', p, f, q⟩ => ⟨vs, H', I', r, k vs H' as τ' p f q⟩⟩
theorem pkrd_of {t : TA} (h : PK X kws t) (c : ∀ σ H τ Q, RelS X.K σ H τ → da τ Q → t σ H (fun vs H' => ∃ as τ', PostE X.K σ H τ H' τ' ∧ ArA X.K σ H' vs as ∧ Q as τ')) : PKrD X kws da := ⟨fun pos pins s σ H τ Q I R hd => h.run pos pins s σ H _ I (c σ H τ Q R hd)⟩
theorem kw_nil : PKrD X [] arNil := pkrd_of pk_nil fun σ H τ Q R h => ⟨[], τ, .refl R, .nil, h⟩
theorem kw_v (ha : PV X e de) (hr : PKrD X kws da) : PKrD X (⟨nm, e, kpos⟩ :: kws) (arV de da) := by
  refine pkrd_of (pk_cons ha.pe hr.pk) fun σ H τ Q R h => ?_
  refine lv R h fun v H1 d τ1 p1 f1 q1 => ⟨τ1, _, p1.rel, q1, fun vs H2 as τ2 p2 f2 q2 => ⟨.v d :: as, τ2, p1.trans p2, .cons (a := .v d) (Fz.mono p2.fe f1) f2, q2⟩⟩
theorem kw_s (i : Nat) {x : Str} {px : Pos} (hr : PKrD X kws da) (hN : X.N[i]? = some x := by rfl) (hv : Vis X.env.scope x := by first | exact Or.inl rfl | exact Or.inr (Or.inl rfl) | exact Or.inr (Or.inr rfl)) (hd : (x == ("__debug__" : Str)) = false := by decide)
    (hcd : (x == ("__classdict__" : Str)) = false := by decide) : PKrD X (⟨nm, .Name x px, kpos⟩ :: kws) (arS i da) := by
  refine pkrd_of (pk_cons (pe_var hN hv hd hcd) hr.pk) fun σ H τ Q R ⟨h0, h⟩ => ?_
  obtain ⟨v, e⟩ := R.isSet h0
  exact ⟨v, e, τ, _, R, h, fun vs H2 as τ2 p2 f2 q2 => ⟨.sl i :: as, τ2, p2, .cons (a := .sl i) e f2, q2⟩⟩
/-- f(k = v, ..), the parameters in their order -/
theorem pe_callK0 {k : Nat} {f : Addr} {fd : FuncData} {ps : List Str} {sp : Sp} {x : Str} {p : Pos} {tk : TA} (F : FnG X.prog X.w X.K X.mg X.base k f fd ps sp) (hr : Rm k X.A) (hg : Gl X x) (hm : X.mg x = some (.ref f)) (hk : PySem.W.keepIn X.K (.ref f) = true) (hb : ∀ (s : Shared) (ws : List Value), ws.length = ps.length → BindsTo s fd ⟨[], ps.zip ws⟩ (ps.zip ws))
    (hkw : PK X kws tk) (hall : (backToKw pos (keywordEach kws X.env)).all (·.1.isSome) = true) (hks : (backToKw pos (keywordEach kws X.env)).filterMap (·.1) = ps)
    (hdb : (x == ("__debug__" : Str)) = false)
    (hpl : ((backTo pos (starEach [] X.env)).any (·.1) || (backToKw pos (keywordEach kws X.env)).any (·.1.isNone)) = false) :
    PE X (.Call (.Name x p) [] kws pos) (fun σ H Q => tk σ H fun zs H2 => sp zs H2 Q E0) :=
  ⟨fun pins s σ H Q I h => wpAny_Call_Name_kw (ld_glob I hg hm (PySem.W.callWith_KW0 (h₀ := X.base) I.ok.mod.kin hk hall (thn (hkw.run pos pins s σ H _ I h) fun ws s2 ⟨zs, H2, I2, rz, q2⟩ => ⟨I2.kIn, by
    have hl : ws.length = ps.length := by rw [← rz.length]; exact F.len _ _ _ _ q2
    rw [hks]
    exact F.call hr I2 (hb s2 ws hl) rz q2⟩) hpl) hdb)⟩
theorem pd_callK {k : Nat} {x : Str} {ps : List Str} {dsp : DSp} {p : Pos} (F : FnD X.prog X.w X.K X.mg X.base k x ps dsp) (hn : arity dsp ps.length) (hr : Rm k X.A) (ha : PKrD X kws da) (hg : Gl X x := by rfl) (hdb : (x == ("__debug__" : Str)) = false := by decide)
    (hall : (backToKw pos (keywordEach kws X.env)).all (·.1.isSome) = true := by rfl) (hks : (backToKw pos (keywordEach kws X.env)).filterMap (·.1) = ps := by rfl)
    (hpl : ((backTo pos (starEach [] X.env)).any (·.1) || (backToKw pos (keywordEach kws X.env)).any (·.1.isNone)) = false := by rfl) : PD X (.Call (.Name x p) [] kws pos) (dCall dsp da) := by
  obtain ⟨f, fd, F, hm, hk, _, hb⟩ := F.ex
  refine pd_of (pe_callK0 F hr hg hm hk hb ha.pk hall hks hdb hpl) fun σ H τ Q R hd => ?_
  refine ⟨τ, _, R, hd, fun vs H1 as τ1 p1 f1 ⟨l, h1, h2, h3⟩ => ?_⟩
  refine ⟨by rw [f1.len, ← argsOf_len h1]; exact hn l _ h3, l, _, args_rel p1.rel f1 h1 h2, h3, fun v H' r l' pc fr q => ?_⟩
  have p2 := p1.trans (call_post p1.rel f1 h1 h2 pc)
  exact ⟨r, _, p2, fr.before fun _ z => p1.fresh z, q⟩
end
/-! ### a def by its body -/
/-- the context of a body -/
abbrev bodyCx (P : Program) (w : World) (K : PySem.W.Frag) (mg : Str → Option Value) (base : Heap) (N : List Str) (x : Str) (st : Stmt) (f : Addr) (cdv : Value) (A : Around) (outer : List Env) (s : Shared) (H : Hp) (E : XK) : Cx :=
  (cxOf CX0 P w K mg base N x (defScope st) f cdv A outer s H E).nox
/-- the arguments behind the body: a list that was lent as its slot holds it -/
def outs : List Sl → SD → List Sl
  | [], _ => []
  | .own _ :: as, s :: τ => s :: outs as τ
  | a :: as, _ :: τ => a :: outs as τ
  | a :: as, [] => a :: as
def ownsIn (P : List Nat) : Nat → List Sl → Bool
  | _, [] => true
  | i, .own _ :: as => P.contains i && ownsIn P (i + 1) as
  | i, _ :: as => ownsIn P (i + 1) as
/-- what the body's reading asks at the entry: n parameters, m slots more -/
def fnSpec (P : List Nat) (n m : Nat) (ds : DS) : DSp := fun as Q => as.length = n ∧ ownsIn P 0 as = true ∧
  ds { nx := fun τ => Q (.val .none) (outs as τ), rt := fun r τ => Q r (outs as τ) } (as ++ List.replicate m .un)
theorem ownsIn_at {P : List Nat} : ∀ {as : List Sl} {k : Nat}, ownsIn P k as = true → ∀ (j : Nat) ds, as[j]? = some (.own ds) → j + k ∈ P
  | [], _, _, _, _, h => by simp at h
  | .own _ :: as, k, h, j, ds, e => by
    unfold ownsIn at h
    rw [Bool.and_eq_true] at h
    cases j with
    | zero => simpa using h.1
    | succ j =>
      have := ownsIn_at h.2 j ds (by simpa using e)
      rw [show j + 1 + k = j + (k + 1) by omega]
      exact this
  | .un :: as, k, h, j, ds, e | .val _ :: as, k, h, j, ds, e | .frn _ :: as, k, h, j, ds, e => by
    unfold ownsIn at h
    cases j with
    | zero => simp at e
    | succ j =>
      have := ownsIn_at h j ds (by simpa using e)
      rw [show j + 1 + k = j + (k + 1) by omega]
      exact this
theorem outs_len : ∀ (as : List Sl) (τ : SD), (outs as τ).length = as.length
  | [], _ => rfl
  | .own _ :: as, _ :: τ => by unfold outs; simp [outs_len as τ]
  | .un :: as, _ :: τ | .val _ :: as, _ :: τ | .frn _ :: as, _ :: τ => by unfold outs; simp [outs_len as τ]
  | .own _ :: as, [] | .un :: as, [] | .val _ :: as, [] | .frn _ :: as, [] => by unfold outs; rfl
theorem outs_at : ∀ {as : List Sl} {τ : SD} {j : Nat} {sl : Sl}, as.length ≤ τ.length → (outs as τ)[j]? = some sl → (∃ ds, as[j]? = some (.own ds) ∧ τ[j]? = some sl) ∨ (as[j]? = some sl ∧ ∀ ds, sl ≠ .own ds)
  | [], _, _, _, _, h => by unfold outs at h; simp at h
  | .own ds :: as, s :: τ, 0, sl, _, h => by
    unfold outs at h
    simp at h
    subst h
    exact .inl ⟨ds, rfl, rfl⟩
  | .own ds :: as, s :: τ, j + 1, sl, hl, h => by
    unfold outs at h
    have := outs_at (as := as) (τ := τ) (j := j) (sl := sl) (by simpa using hl) (by simpa using h)
    simpa using this
  | .un :: as, s :: τ, 0, sl, _, h | .val _ :: as, s :: τ, 0, sl, _, h | .frn _ :: as, s :: τ, 0, sl, _, h => by
    unfold outs at h
    simp at h
    subst h
    exact .inr ⟨rfl, fun ds z => nomatch z⟩
  | .un :: as, s :: τ, j + 1, sl, hl, h | .val _ :: as, s :: τ, j + 1, sl, hl, h | .frn _ :: as, s :: τ, j + 1, sl, hl, h => by
    unfold outs at h
    have := outs_at (as := as) (τ := τ) (j := j) (sl := sl) (by simpa using hl) (by simpa using h)
    simpa using this
  | _ :: as, [], _, _, hl, _ => by simp at hl
theorem start_len {N : List Str} {vs : List V} (h : vs.length ≤ N.length) : (L2.start N vs).length = N.length := by
  unfold L2.start
  rw [List.length_append, List.length_map, List.length_replicate]
  omega
theorem start_at {N : List Str} {vs : List V} {j : Nat} (h : j < vs.length) : (L2.start N vs)[j]? = some (vs[j]?) := by
  unfold L2.start
  rw [List.getElem?_append_left (by simpa using h), List.getElem?_map, List.getElem?_eq_getElem h]
  rfl
theorem start_rel {K : PySem.W.Frag} {N : List Str} {vs : List V} {H : Hp} {as : List Sl} {m : Nat} (R : RelS K (vσ vs) H as) (hm : N.length = as.length + m) : RelS K (L2.start N vs) H (as ++ List.replicate m .un) := by
  have hl : vs.length = as.length := by rw [← R.len]; unfold vσ; rw [List.length_map]
  have at0 : ∀ (j : Nat) sl, sl ≠ Sl.un → (as ++ List.replicate m .un)[j]? = some sl → j < as.length ∧ as[j]? = some sl := fun j sl ne e => by
    by_cases h : j < as.length
    · rw [List.getElem?_append_left h] at e
      exact ⟨h, e⟩
    · rw [List.getElem?_append_right (by omega), List.getElem?_replicate] at e
      split at e
      · cases e; exact absurd rfl ne
      · cases e
  have atσ : ∀ (j : Nat) ov, j < as.length → (L2.start N vs)[j]? = some ov → (vσ vs)[j]? = some ov := fun j ov h e => by
    rw [start_at (by omega)] at e
    unfold vσ
    rw [List.getElem?_map, ← Option.some.inj e, List.getElem?_eq_getElem (by omega)]
    rfl
  refine ⟨by rw [start_len (by omega), List.length_append, List.length_replicate]; omega, fun j ov sl e1 e2 => ?_, fun i j ds es a e1 e2 e3 e4 => ?_⟩
  · by_cases z : sl = .un
    · subst z
      cases ov <;> trivial
    · obtain ⟨h, e⟩ := at0 j sl z e2
      exact R.at_ j ov sl (atσ j ov h e1) e
  · obtain ⟨h1, q1⟩ := at0 i _ (fun z => by cases z) e1
    obtain ⟨h2, q2⟩ := at0 j _ (fun z => by cases z) e2
    exact R.apart i j ds es a q1 q2 (atσ i _ h1 e3) (atσ j _ h2 e4)
/-- a def by its body, where no repr runs -/
theorem fnG_of {P : Program} {w : World} {K : PySem.W.Frag} {mg : Str → Option Value} {base : Heap} {x : Str} {st : Stmt} {f : Addr} {fd : FuncData} {N ps : List Str} {k : Nat} {sp : Sp} (F : Fun K x x st f fd) (S : FnScope N ps (defScope st)) (len : ∀ vs H Q E, sp vs H Q E → vs.length = ps.length)
    (hbody : ∀ (cdv : Value) (A : Around) (outer : List Env) (s : Shared) (H : Hp) (vs : List V) (Q : VK), Rm k (A.deeper (envOfC x (defScope st) s.heap.objs.size f cdv)) → sp vs H Q E0 →
      ∃ t, PSs (cxOf CX0 P w K mg base N x (defScope st) f cdv A outer s H E0).nox (defBody st) t ∧ t { nx := fun _ H' => Q .non H', rt := Q } (L2.start N vs) H) : FnG P w K mg base (k + 1) f fd ps sp := by
  obtain ⟨oc, od, kV, doc, pm, an, cdv, ct, osl, rfl, lk, hcd⟩ := F.ex
  refine ⟨len, fun A outer s H args us vs Q hr e0 hb r hsp => ?_⟩
  have hl := len _ _ _ _ hsp
  have keep : ∀ b o, base.get? b = some o → s.heap.get? b = some o := fun b o e => (e0.bs b o e).1
  have KX : K.In s.heap := e0.mod.kin.keeps keep
  refine codeAny_call_function hr.room.depth (KX _ _ lk) rfl S.co S.gen rfl (PySem.W.codeRec_of KX hcd) (hb _ _ _ _ ?_)
  refine wpAny_newFunctionEnv_cells S.kind (fun y hy => ?_) fun env he s1 xc => ?_
  · obtain ⟨n, v⟩ := y
    rcases S.par n (List.of_mem_zip hy).1 with q | q
    · exact .inl q
    · exact .inr ⟨q, PySem.W.cellsFrom_some _ _ _ (.inl q)⟩
  · subst he
    refine ⟨(e0.mod.nolimit.keeps keep).keeps xc.toInCall.keep, codeAny_func ?_⟩
    obtain ⟨t, ht, hq⟩ := hbody cdv A outer s H vs Q (hr.deeper _) hsp
    have I := inv_start (CX := CX0) (E := E0) S hr.room.hd e0 hl r xc
    refine wpAny_mono (ht.nox.run [] s1 (L2.start N vs) H _ I hq) (fun fl s' hs => ?_) fun e s' hs => hs
    match fl, hs with
    | .ret u, ⟨v, σ', H', J, rv, q⟩ => exact ⟨v, H', J.os, J.bare, J.base, J.hok, rv, q⟩
    | .next, ⟨σ', H', J, q⟩ => exact ⟨.non, H', J.os, J.bare, J.base, J.hok, rfl, q⟩
    | .brk, ⟨_, _, _, q⟩ => exact q.elim
    | .cont, ⟨_, _, _, q⟩ => exact q.elim
theorem fn_of_body {Pg : Program} {w : World} {K : PySem.W.Frag} {mg : Str → Option Value} {base : Heap} {N ps : List Str} {x : Str} {st : Stmt} {f : Addr} {fd : FuncData} {k : Nat} {P : List Nat} {ds : DS} {dsp : DSp} (F : Fun K x x st f fd) (S : FnScope N ps (defScope st)) (m : Nat) (hm : N.length = ps.length + m)
    (body : ∀ (cdv : Value) (A : Around) (outer : List Env) (s : Shared) (H : Hp) (E : XK), Rm k (A.deeper (envOfC x (defScope st) s.heap.objs.size f cdv)) → PSsD (bodyCx Pg w K mg base N x st f cdv A outer s H E) P (defBody st) ds)
    (imp : ∀ as Q, dsp as Q → fnSpec P ps.length m ds as Q) : FnG Pg w K mg base (k + 1) f fd ps (spOf K ps.length dsp) := by
  refine fnG_of F S (fun vs H Q E h => h.1) fun cdv A outer s H vs Q hr h => ?_
  obtain ⟨hlen, as, Qd, R, hq, kk⟩ := h
  obtain ⟨e1, e2, hd⟩ := imp as Qd hq
  refine ⟨_, (body cdv A outer s H E0 hr).ps, ?_⟩
  have R0 : RelS K (L2.start N vs) H (as ++ List.replicate m .un) := start_rel R (by rw [e1]; exact hm)
  have hvl : vs.length = as.length := by rw [hlen, e1]
  -- from the body's end to the call's
  have fin : ∀ {σ' : L2.St} {H' : Hp} {τ' : SD}, PostS P K (L2.start N vs) H (as ++ List.replicate m .un) σ' H' τ' → PostE K (vσ vs) H as H' (outs as τ') := fun {σ' H' τ'} p => by
    have lτ : as.length ≤ τ'.length := by
      have h1 := p.rel.len
      have h2 := p.len
      rw [start_len (by omega)] at h2
      omega
    have owl : ∀ a, Ow (L2.start N vs) (as ++ List.replicate m .un) a → Ow (vσ vs) as a := fun a ⟨j, ds, q1, q2⟩ => by
      have hj : j < as.length := by
        by_cases h : j < as.length
        · exact h
        · rw [List.getElem?_append_right (by omega), List.getElem?_replicate] at q1
          split at q1 <;> cases q1
      rw [List.getElem?_append_left hj] at q1
      rw [start_at (by omega)] at q2
      refine ⟨j, ds, q1, vσ_of (Option.some.inj q2)⟩
    -- a lent slot still holds its list
    have pinned : ∀ (j : Nat) ds v, as[j]? = some (.own ds) → vs[j]? = some v → σ'[j]? = some (some v) := fun j ds v q1 q2 => by
      have hp : j ∈ P := by simpa using ownsIn_at e2 j ds q1
      rw [p.pin j hp, start_at (List.getElem?_eq_some_iff.mp q2).1, q2]
    have fe : FE H H' := R.fe fun a o h n => p.fr a o h fun z => n (owl a z)
    refine ⟨R, ⟨by rw [outs_len]; exact R.len, fun j ov sl q1 q2 => ?_, fun i j ds es a q1 q2 q3 q4 => ?_⟩, fun a o h n => p.fr a o h fun z => n (owl a z), fun j ds q => ?_, p.live⟩
    · obtain ⟨v, rfl, ev⟩ := vσ_at q1
      rcases outs_at lτ q2 with ⟨ds, o1, o2⟩ | ⟨o1, o2⟩
      · exact p.rel.at_ j _ _ (pinned j ds v o1 ev) o2
      · exact (R.at_ j _ _ q1 o1).mono fe fun a xs ds eo es ha => absurd es (o2 ds)
    · have back : ∀ (j : Nat) ds, (outs as τ')[j]? = some (.own ds) → ∃ d0, as[j]? = some (.own d0) := fun j ds q => by
        rcases outs_at lτ q with ⟨d0, o1, _⟩ | ⟨_, o2⟩
        · exact ⟨d0, o1⟩
        · exact absurd rfl (o2 ds)
      obtain ⟨d1, b1⟩ := back i ds q1
      obtain ⟨d2, b2⟩ := back j es q2
      exact R.apart i j d1 d2 a b1 b2 q3 q4
    · rcases outs_at lτ q with ⟨d0, o1, _⟩ | ⟨_, o2⟩
      · exact ⟨d0, o1⟩
      · exact absurd rfl (o2 ds)
  refine ⟨_, _, R0, hd, fun σ' H' ⟨τ', p, q⟩ => ?_, fun v H' ⟨σ', r, τ', p, g, q⟩ => ?_, fun σ' H' ⟨τ', p, q⟩ => q.elim, fun σ' H' ⟨τ', p, q⟩ => q.elim⟩
  · exact kk .non H' (.val .none) _ (fin p) .non q
  · refine kk v H' r _ (fin p) ?_ q
    cases r with
    | val d => exact g
    | own ds' =>
      obtain ⟨a, xs, e, h1, h2, o⟩ := g
      rcases o with o | ⟨j, ds0, hj, q1, q2⟩
      · exact ⟨a, xs, e, o, h1, h2⟩
      · exfalso
        have hlt : j < as.length := by
          by_cases h : j < as.length
          · exact h
          · rw [List.getElem?_append_right (by omega), List.getElem?_replicate] at q1
            split at q1 <;> cases q1
        rw [List.getElem?_append_left hlt] at q1
        have := ownsIn_at e2 j ds0 q1
        exact hj (by simpa using this)
/-- as a def of the module -/
theorem fnD_of {Pg : Program} {w : World} {K : PySem.W.Frag} {mg : Str → Option Value} {base : Heap} {ps : List Str} {x : Str} {st : Stmt} {f : Addr} {fd : FuncData} {k : Nat} {dsp : DSp} (F : Fun K x x st f fd) (hm : mg x = some (.ref f)) (G : FnG Pg w K mg base k f fd ps (spOf K ps.length dsp))
    (hb : ∀ (kV doc pm : Value) (an : Option Addr) (cdv ct : Value) (us : List Value), us.length = ps.length → bindArgs (PySem.W.fnOf x x (defArgs st) (defBody st) (defScope st) .none kV doc pm an cdv ct) ⟨us, []⟩ = pure (ps.zip us))
    (hk : ∀ (kV doc pm : Value) (an : Option Addr) (cdv ct : Value) (us : List Value), us.length = ps.length → bindArgs (PySem.W.fnOf x x (defArgs st) (defBody st) (defScope st) .none kV doc pm an cdv ct) ⟨[], ps.zip us⟩ = pure (ps.zip us)) :
    FnD Pg w K mg base k x ps dsp := by
  refine ⟨f, fd, G, hm, F.kp, F.binds hb, fun s ws hl => ?_⟩
  obtain ⟨oc, od, kV, doc, pm, an, cdv, ct, osl, rfl, lk, hcd⟩ := F.ex
  exact .of_eq (hk kV doc pm an cdv ct ws hl)
end DL

namespace DL
open PySem PySem.Spec PyProof.Rows L2
section
variable {X : Cx} {P : List Nat} {e a b c : Expr} {es : List Expr} {de da db dc : DV} {dE : DE} {dA : DA} {pos : Pos} {K : PySem.W.Frag}
/-! ### return name: what the slot owns goes with it -/
def sRetN (i : Nat) : DS := fun D τ => match τ[i]? with
  | some (.val d) => D.rt (.val d) τ
  | some (.own ds) => D.rt (.own ds) (τ.set i .un)
  | _ => False
theorem s_retN (i : Nat) {x : Str} {px : Pos} (hP : i ∉ P := by decide) (hN : X.N[i]? = some x := by rfl) (hv : Vis X.env.scope x := by first | exact Or.inl rfl | exact Or.inr (Or.inl rfl) | exact Or.inr (Or.inr rfl)) (hd : (x == ("__debug__" : Str)) = false := by decide)
    (hcd : (x == ("__classdict__" : Str)) = false := by decide) : PSD X P (.Return (some (.Name x px)) pos) (sRetN i) := by
  refine psd_of (ps_ret (pe_var hN hv hd hcd)) fun σ H τ D R h => ?_
  unfold sRetN at h
  split at h
  · rename_i d e
    obtain ⟨v, e1, f⟩ := R.val e
    exact ⟨v, e1, σ, .val d, τ, (PostE.refl R).st, f, h⟩
  · rename_i ds e
    obtain ⟨p, xs, e1, h1, f⟩ := R.own e
    have hi : i < τ.length := (List.getElem?_eq_some_iff.mp e).1
    refine ⟨.ref p, e1, σ, .own ds, τ.set i .un, ?_, ⟨p, xs, rfl, h1, f, .inr ⟨i, ds, hP, e, e1⟩⟩, h⟩
    have at0 : ∀ (j : Nat) sl, sl ≠ Sl.un → (τ.set i .un)[j]? = some sl → τ[j]? = some sl := fun j sl ne q => by
      by_cases hj : j = i
      · subst hj
        rw [List.getElem?_set_self hi] at q
        cases q
        exact absurd rfl ne
      · rw [List.getElem?_set_ne (Ne.symm hj)] at q
        exact q
    refine ⟨R, ⟨by rw [List.length_set]; exact R.len, fun j ov sl q1 q2 => ?_, fun j k es fs a q1 q2 q3 q4 => R.apart j k es fs a (at0 j _ (fun z => by cases z) q1) (at0 k _ (fun z => by cases z) q2) q3 q4⟩, fun _ _ h _ => h, fun j es a q1 q2 => .inl ⟨es, at0 j _ (fun z => by cases z) q1, q2⟩, rfl, fun _ o h => ⟨o, h⟩, fun _ _ => rfl⟩
    by_cases z : sl = .un
    · subst z; cases ov <;> trivial
    · exact R.at_ j ov sl q1 (at0 j sl z q2)
  · exact h.elim
/-! ### isinstance -/
def tyName : D → String
  | .none => "NoneType"
  | .bool _ => "bool"
  | .int _ => "int"
  | .str _ => "str"
  | .list _ => "list"
  | .tuple _ => "tuple"
  | .dict _ => "dict"
/-- isinstance(d, T) -/
def isiD (d : D) (T : String) : Bool := match d with
  | .none => false
  | .bool _ => T == "bool" || T == "int"
  | .int _ => T == "int"
  | .str _ => T == "str"
  | .list _ => T == "list"
  | .tuple _ => T == "tuple"
  | .dict _ => T == "dict"
def kitTs : List String := ["bool", "int", "str", "list", "tuple", "dict"]
theorem kit_all : (kitTs.all fun T => kitB "NoneType" T == some false && kitB "bool" T == some (T == "bool" || T == "int") && kitB "int" T == some (T == "int") && kitB "str" T == some (T == "str") && kitB "list" T == some (T == "list") && kitB "tuple" T == some (T == "tuple")) = true := by decide +kernel
theorem kit_isi {T : String} (h : T ∈ kitTs) : ∀ d : D, (∀ kvs, d ≠ .dict kvs) → kitB (tyName d) T = some (isiD d T) := by
  have q := List.all_eq_true.mp kit_all T h
  simp only [Bool.and_eq_true, beq_iff_eq] at q
  obtain ⟨⟨⟨⟨⟨q1, q2⟩, q3⟩, q4⟩, q5⟩, q6⟩ := q
  intro d hd
  cases d with
  | none => exact q1
  | bool _ => exact q2
  | int _ => exact q3
  | str _ => exact q4
  | list _ => exact q5
  | tuple _ => exact q6
  | dict kvs => exact absurd rfl (hd kvs)
theorem rv_ty {H : Hp} {v : V} {d : D} (r : Rv K H v d) : TyX K H v (.type (tyName d)) ∧ ∀ kvs, d ≠ .dict kvs := by
  cases r with
  | fz f =>
    cases f with
    | non => exact ⟨.base .non, fun _ z => nomatch z⟩
    | bl b => exact ⟨.base (.bl b), fun _ z => nomatch z⟩
    | int i => exact ⟨.base (.int i), fun _ z => nomatch z⟩
    | str x => exact ⟨.base (.str x), fun _ z => nomatch z⟩
    | lst h _ =>
      obtain ⟨o, h⟩ := h
      exact ⟨.base (.frz h), fun _ z => nomatch z⟩
    | tup h _ =>
      refine ⟨?_, fun _ z => nomatch z⟩
      rcases h with (h | ⟨o, h⟩) | ⟨o, its, n, hk, hc, _⟩
      · exact .base (.tup h)
      · exact .fTuple h
      · exact .kTuple hk hc
  | own h _ =>
    refine ⟨?_, fun _ z => nomatch z⟩
    rcases h with (h | ⟨o, h⟩) | ⟨o, its, n, hk, hc, _⟩
    · exact .base (.lst h)
    · exact .base (.frz h)
    · exact .kList hk hc
/-- isinstance(e, T), T a built-in type -/
def dIsi (T : String) (da : DV) : DV := fun τ Q => da τ fun d τ1 => Q (.bool (isiD d T)) τ1
theorem pv_isi (T : String) {y : Str} {p py : Pos} (hT : T ∈ kitTs) (ha : PV X e de) (hm : X.mg "isinstance" = none) (hmT : X.mg y = none) (hv : bootBuiltins y = some (.type T) := by decide +kernel) (hg : Gl X "isinstance" := by rfl) (hgT : Gl X y := by rfl) (hny : y ≠ "__name__" := by decide) (hdy : (y == ("__debug__" : Str)) = false := by decide)
    (he : starEach [e, .Name y py] X.env = (false, eval e X.env) :: starEach [.Name y py] X.env := by rfl) (he2 : starEach [.Name y py] X.env = (false, eval (.Name y py) X.env) :: starEach [] X.env := by rfl) (hpl : (backTo pos (starEach [.Name y py] X.env)).any (·.1) = false := by rfl) :
    PV X (.Call (.Name "isinstance" p) [e, .Name y py] [] pos) (dIsi T de) := by
  refine pv_of (pe_callB call_isi hg hm (by decide +kernel) (pa_cons ha.pe (pa_cons (pe_bltn (v := .ty T) hgT hmT hv rfl hny hdy) pa_nil he2) he) (by decide) (by decide) he hpl) fun σ H τ Q R hd => ?_
  refine lv R hd fun v H' d τ' p f q => ?_
  obtain ⟨ty, nd⟩ := rv_ty (.fz f)
  exact ⟨v, .ty T, _, .type T, isiD d T, rfl, .ty T, ty, kit_ty (kit_isi hT d nd), _, τ', p, .bl _, q⟩
/-! ### in -/
def rInT (K : PySem.W.Frag) : R2 := fun x y H Q => ∃ d ds, Dp K H x d ∧ Dp K H y (.tuple ds) ∧ SeqAt.shaped d = true ∧ SeqAt.shaped (.tuple ds) = true ∧ Q (.bl (ds.any fun z => PyData.eqv z d)) H
def rNotInT (K : PySem.W.Frag) : R2 := fun x y H Q => ∃ d ds, Dp K H x d ∧ Dp K H y (.tuple ds) ∧ SeqAt.shaped d = true ∧ SeqAt.shaped (.tuple ds) = true ∧ Q (.bl (!ds.any fun z => PyData.eqv z d)) H
theorem op_inT (hu : X.A.units + 65 < cLine) : OpR X (compareOp .In) (rInT X.K) := by
  intro pins s σ H x y v u Q I rx ry h
  obtain ⟨d, ds, hd, he, sd, se, q⟩ := h
  obtain ⟨as, r1⟩ := Dp.reads I d x v hd rx
  obtain ⟨bs, r2⟩ := Dp.reads I (.tuple ds) y u he ry
  exact SeqAt.in_tuple_reads r2 r1 (SeqAt.canLay_of_shaped se) (SeqAt.canLay_of_shaped sd) (room_in_shaped sd hu) ⟨.bl _, H, I, rfl, q⟩
theorem op_notInT (hu : X.A.units + 65 < cLine) : OpR X (compareOp .NotIn) (rNotInT X.K) := by
  intro pins s σ H x y v u Q I rx ry h
  obtain ⟨d, ds, hd, he, sd, se, q⟩ := h
  obtain ⟨as, r1⟩ := Dp.reads I d x v hd rx
  obtain ⟨bs, r2⟩ := Dp.reads I (.tuple ds) y u he ry
  exact SeqAt.notIn_tuple_reads r2 r1 (SeqAt.canLay_of_shaped se) (SeqAt.canLay_of_shaped sd) (room_in_shaped sd hu) ⟨.bl _, H, I, rfl, q⟩
def fInY : DOp := fun d e Q => match e with
  | .list ds => okEq d (.list ds) ∧ Q (.bool (ds.any fun z => PyData.eqv z d))
  | .tuple ds => okEq d (.tuple ds) ∧ Q (.bool (ds.any fun z => PyData.eqv z d))
  | _ => False
def fInN : DOp := fun d e Q => match e with
  | .list ds => okEq d (.list ds) ∧ Q (.bool (!ds.any fun z => PyData.eqv z d))
  | .tuple ds => okEq d (.tuple ds) ∧ Q (.bool (!ds.any fun z => PyData.eqv z d))
  | _ => False
def rInA (K : PySem.W.Frag) : R2 := fun x y H Q => rInD K x y H Q ∨ rInT K x y H Q
def rNotInA (K : PySem.W.Frag) : R2 := fun x y H Q => rNotInD K x y H Q ∨ rNotInT K x y H Q
theorem op_inA (hu : X.A.units + 65 < cLine) : OpR X (compareOp .In) (rInA X.K) := (op_inD hu).or (op_inT hu)
theorem op_notInA (hu : X.A.units + 65 < cLine) : OpR X (compareOp .NotIn) (rNotInA X.K) := (op_notInD hu).or (op_notInT hu)
theorem opD_in : OpD K (rInA K) fInY := by
  intro H x y d e Q Q' fx fy h k
  unfold fInY at h
  split at h
  · exact .inl ⟨d, _, fx.dp, fy.dp, h.1.1, h.1.2, k _ H _ (Same.refl H) (.bl _) h.2⟩
  · exact .inr ⟨d, _, fx.dp, fy.dp, h.1.1, h.1.2, k _ H _ (Same.refl H) (.bl _) h.2⟩
  · exact h.elim
theorem opD_notIn : OpD K (rNotInA K) fInN := by
  intro H x y d e Q Q' fx fy h k
  unfold fInN at h
  split at h
  · exact .inl ⟨d, _, fx.dp, fy.dp, h.1.1, h.1.2, k _ H _ (Same.refl H) (.bl _) h.2⟩
  · exact .inr ⟨d, _, fx.dp, fy.dp, h.1.1, h.1.2, k _ H _ (Same.refl H) (.bl _) h.2⟩
  · exact h.elim
/-! ### is None -/
def isNoneD : D → Bool
  | .none => true
  | _ => false
theorem fz_none {H : Hp} {v : V} {d : D} (f : Fz K H v d) : decide (v = .non) = isNoneD d := by
  cases f <;> first | rfl | exact decide_eq_false (fun z => nomatch z)
theorem pv_isNone {j pos'} (ha : PV X a da) : PV X (.Compare a [.Is] [.Constant .none j pos'] pos) (dUn (fun d Q => Q (.bool (isNoneD d))) da) := by
  refine pv_of (pe_cmp (pc_isN ha.pe)) fun σ H τ Q R hd => ?_
  refine lv R hd fun v H' d τ' p f q => ?_
  rw [fz_none f]
  exact ⟨_, τ', p, .bl _, q⟩
theorem pv_notNone {j pos'} (ha : PV X a da) : PV X (.Compare a [.IsNot] [.Constant .none j pos'] pos) (dUn (fun d Q => Q (.bool (!isNoneD d))) da) := by
  refine pv_of (pe_cmp (pc_notN ha.pe)) fun σ H τ Q R hd => ?_
  refine lv R hd fun v H' d τ' p f q => ?_
  rw [fz_none f]
  exact ⟨_, τ', p, .bl _, q⟩
theorem ptd_isNone {j pos'} (ha : PV X a da) : PTD X (.Compare a [.Is] [.Constant .none j pos'] pos) (dTest (dUn (fun d Q => Q (.bool (isNoneD d))) da)) := by
  refine ptd_of (pt_cmp (pc_isN ha.pe)) fun σ H τ Q R hd => ?_
  refine lv R hd fun v H' d τ' p f ⟨k, ek, q⟩ => ?_
  rw [fz_none f]
  cases ek
  exact ⟨_, rfl, τ', p, q⟩
theorem ptd_notNone {j pos'} (ha : PV X a da) : PTD X (.Compare a [.IsNot] [.Constant .none j pos'] pos) (dTest (dUn (fun d Q => Q (.bool (!isNoneD d))) da)) := by
  refine ptd_of (pt_cmp (pc_notN ha.pe)) fun σ H τ Q R hd => ?_
  refine lv R hd fun v H' d τ' p f ⟨k, ek, q⟩ => ?_
  rw [fz_none f]
  cases ek
  exact ⟨_, rfl, τ', p, q⟩
/-! ### slices -/
def sIxD (n d : Nat) : Option Int → Nat := HT.sIx n d
def cutD (xs : List D) (lo hi : Option Int) : List D := (xs.drop (HT.sIx xs.length 0 lo)).take (HT.sIx xs.length xs.length hi - HT.sIx xs.length 0 lo)
abbrev DO := SD → (Option Int → SD → Prop) → Prop
structure POD (X : Cx) (e : Option Expr) (d : DO) : Prop where
  run : ∃ t, PO X e t ∧ ∀ σ H τ Q (Q' : Option Int → Hp → Prop), RelS X.K σ H τ → d τ Q → (∀ o H' τ', PostE X.K σ H τ H' τ' → Q o τ' → Q' o H') → t σ H Q'
def oNone : DO := fun τ Q => Q none τ
def oSome (de : DV) : DO := fun τ Q => de τ fun d τ' => ∃ i, d = .int i ∧ Q (some i) τ'
theorem o_none : POD X none oNone := ⟨tNoPart, po_none, fun σ H τ Q Q' R h k => k none H τ (.refl R) h⟩
theorem o_some (h : PV X e de) : POD X (some e) (oSome de) := ⟨_, po_some h.pe, fun σ H τ Q Q' R hd k => lv R hd fun v H' d τ' p f ⟨i, e, q⟩ => by
  subst e
  cases f
  exact ⟨i, rfl, k (some i) H' τ' p q⟩⟩
theorem FzA.cut {H : Hp} {xs : List V} {ds : List D} (f : FzA K H xs ds) (lo hi : Option Int) : FzA K H (cutV xs lo hi) (cutD ds lo hi) := by
  unfold cutV cutD
  rw [f.length]
  exact (f.drop _).take _
/-- t[lo:hi] of a tuple -/
def dSlT (de : DV) (dl dh : DO) : DV := fun τ Q => de τ fun d τ1 => dl τ1 fun lo τ2 => dh τ2 fun hi τ3 => ∃ xs, d = .tuple xs ∧ Q (.tuple (cutD xs lo hi)) τ3
theorem cut_whole {xs : List D} {lo hi : Option Int} (h : HT.sIx xs.length 0 lo = 0 ∧ HT.sIx xs.length xs.length hi = xs.length) : cutD xs lo hi = xs := by
  unfold cutD
  rw [h.1, h.2, List.drop_zero, Nat.sub_zero, List.take_length]
theorem pv_slT {dl dh : DO} {lo hi : Option Expr} {p2 : Pos} (he : PV X e de) (hl : POD X lo dl) (hh : POD X hi dh) : PV X (.Subscript e (.Slice lo hi none p2) pos) (dSlT de dl dh) := by
  obtain ⟨tl, pl, kl⟩ := hl.run
  obtain ⟨th, ph, kh⟩ := hh.run
  refine pv_of (pe_slice sl_tupA he.pe pl ph) fun σ H τ Q R hd => ?_
  refine lv R hd fun v H1 d τ1 p1 f1 q1 => kl σ H1 τ1 _ _ p1.rel q1 fun o1 H2 τ2 p2 q2 => kh σ H2 τ2 _ _ p2.rel q2 fun o2 H3 τ3 p3 ⟨xs, ed, q⟩ => ?_
  subst ed
  have p := (p1.trans p2).trans p3
  obtain ⟨a, vs, rfl, hs, fa⟩ := (Rv.fz (Fz.mono (p2.trans p3).fe f1)).tuple
  refine ⟨a, vs, rfl, hs, fun w => ?_, fun _ l n => ?_⟩
  · rw [fa.length] at w
    rw [cut_whole w] at q
    exact ⟨_, τ3, p, .tup hs fa, q⟩
  · have s := same_new (o := .tup (cutV vs o1 o2)) n
    exact ⟨_, τ3, p.same s, .tup (.inl (.inl upd_same)) (FzA.mono (Same.fe s) (fa.cut o1 o2)), q⟩
/-- name[lo:hi] of a list that is read as it stands: a new list -/
def dSlL (i : Nat) (dl dh : DO) : DE := fun τ Q => isSet τ i ∧ dl τ fun lo τ2 => dh τ2 fun hi τ3 => ∃ sl xs, τ3[i]? = some sl ∧ slD sl = some (.list xs) ∧ Q (.own (cutD xs lo hi)) τ3
theorem pd_slL (i : Nat) {x : Str} {px : Pos} {dl dh : DO} {lo hi : Option Expr} {p2 : Pos} (hl : POD X lo dl) (hh : POD X hi dh) (hN : X.N[i]? = some x := by rfl) (hv : Vis X.env.scope x := by first | exact Or.inl rfl | exact Or.inr (Or.inl rfl) | exact Or.inr (Or.inr rfl)) (hd : (x == ("__debug__" : Str)) = false := by decide)
    (hcd : (x == ("__classdict__" : Str)) = false := by decide) : PD X (.Subscript (.Name x px) (.Slice lo hi none p2) pos) (dSlL i dl dh) := by
  obtain ⟨tl, pl, kl⟩ := hl.run
  obtain ⟨th, ph, kh⟩ := hh.run
  refine pd_of (pe_slice sl_list (pe_var hN hv hd hcd) pl ph) fun σ H τ Q R ⟨h0, hd⟩ => ?_
  obtain ⟨v, e0⟩ := R.isSet h0
  refine ⟨v, e0, kl σ H τ _ _ R hd fun o1 H2 τ2 p2 q2 => kh σ H2 τ2 _ _ p2.rel q2 fun o2 H3 τ3 p3 ⟨sl, xs, e1, e2, q⟩ => ?_⟩
  have p := p2.trans p3
  obtain ⟨w, e3, rv⟩ := p3.rel.rv e1 e2
  rw [e0] at e3
  cases e3
  obtain ⟨a, vs, rfl, hs, fa⟩ := rv.list
  refine ⟨a, vs, rfl, hs, fun l n => ?_⟩
  have s := same_new (o := .lst (cutV vs o1 o2)) n
  exact ⟨.own _, τ3, p.same s, ⟨l, _, rfl, p.fresh n, upd_same, FzA.mono (Same.fe s) (fa.cut o1 o2)⟩, q⟩
/-- e[lo:hi] of a frozen list -/
def dSlF (de : DV) (dl dh : DO) : DE := fun τ Q => de τ fun d τ1 => dl τ1 fun lo τ2 => dh τ2 fun hi τ3 => ∃ xs, d = .list xs ∧ Q (.own (cutD xs lo hi)) τ3
theorem pd_slF {dl dh : DO} {lo hi : Option Expr} {p2 : Pos} (he : PV X e de) (hl : POD X lo dl) (hh : POD X hi dh) : PD X (.Subscript e (.Slice lo hi none p2) pos) (dSlF de dl dh) := by
  obtain ⟨tl, pl, kl⟩ := hl.run
  obtain ⟨th, ph, kh⟩ := hh.run
  refine pd_of (pe_slice sl_list he.pe pl ph) fun σ H τ Q R hd => ?_
  refine lv R hd fun v H1 d τ1 p1 f1 q1 => kl σ H1 τ1 _ _ p1.rel q1 fun o1 H2 τ2 p2 q2 => kh σ H2 τ2 _ _ p2.rel q2 fun o2 H3 τ3 p3 ⟨xs, ed, q⟩ => ?_
  subst ed
  have p := (p1.trans p2).trans p3
  obtain ⟨a, vs, rfl, hs, fa⟩ := (Rv.fz (Fz.mono (p2.trans p3).fe f1)).list
  refine ⟨a, vs, rfl, hs, fun l n => ?_⟩
  have s := same_new (o := .lst (cutV vs o1 o2)) n
  exact ⟨.own _, τ3, p.same s, ⟨l, _, rfl, p.fresh n, upd_same, FzA.mono (Same.fe s) (fa.cut o1 o2)⟩, q⟩
/-! ### list(range(n)) -/
def dLRg (de : DV) : DE := fun τ Q => de τ fun d τ' => ∃ n, d = .int n ∧ (-(2 ^ 62) ≤ n ∧ n ≤ 100000) ∧ Q (.own (rangeD 0 n.toNat)) τ'
theorem fz_rg {H : Hp} (n : Int) : FzA K H (rgV 0 n) (rangeD 0 n.toNat) := by
  unfold rgV rangeD
  rw [show (n - 0).toNat = n.toNat by omega]
  exact FzA.mapped (fun i => .int _) _
theorem pd_listRg {p p' pos' : Pos} (ha : PV X a da) (hm : X.mg "list" = none) (hm' : X.mg "range" = none) (hc : X.calm = true := by rfl) (hg : Gl X "list" := by rfl) (hg' : Gl X "range" := by rfl) (na : starEach [a] X.env = (false, eval a X.env) :: starEach [] X.env := by rfl)
    (na' : starEach [.Call (.Name "range" p') [a] [] pos'] X.env = (false, eval (.Call (.Name "range" p') [a] [] pos') X.env) :: starEach [] X.env := by rfl) : PD X (.Call (.Name "list" p) [.Call (.Name "range" p') [a] [] pos'] [] pos) (dLRg da) := by
  refine pd_of (pe_listRg hc hg hm (prg_1 hg' hm' ha.pe na) na') fun σ H τ Q R hd => ?_
  refine lv R hd fun v H1 d τ1 p1 f1 ⟨n, ed, hb, q⟩ => ?_
  subst ed
  cases f1
  refine ⟨n, rfl, ⟨by omega, by omega, by omega, by omega, by omega⟩, fun l h => ?_⟩
  have s := same_new (o := .lst (rgV 0 n)) h
  exact ⟨.own _, τ1, p1.same s, ⟨l, _, rfl, p1.fresh h, upd_same, FzA.mono (Same.fe s) (fz_rg n)⟩, q⟩
/-! ### methods by name -/
section
variable {y : Str} {py apos cpos : Pos}
theorem pv_append (i : Nat) (ha : PAD X [e] dA) (hN : X.N[i]? = some y := by rfl) (hv : Vis X.env.scope y := by first | exact Or.inl rfl | exact Or.inr (Or.inl rfl) | exact Or.inr (Or.inr rfl)) (hd : (y == ("__debug__" : Str)) = false := by decide) (hcd : (y == ("__classdict__" : Str)) = false := by decide)
    (hpe : ∀ {to : TE} {t : TA}, PE X (.Name y py) to → PA X [e] t → PE X (.Call (.Attribute (.Name y py) "append" apos) [e] [] cpos) (tBM X.K "list" rAppend to t) := by exact fun h1 h2 => pe_bm PySem.F.plainAttrs_list PySem.F.slot_list_append PySem.F.type_list_append mt_append h1 h2) :
    PV X (.Call (.Attribute (.Name y py) "append" apos) [e] [] cpos) (dMet fAppend i dA) := pv_met i mt_append md_append ha PySem.F.slot_list_append PySem.F.type_list_append hN hv hd hcd hpe
theorem pv_extend (i : Nat) (ha : PAD X [e] dA) (hN : X.N[i]? = some y := by rfl) (hv : Vis X.env.scope y := by first | exact Or.inl rfl | exact Or.inr (Or.inl rfl) | exact Or.inr (Or.inr rfl)) (hd : (y == ("__debug__" : Str)) = false := by decide) (hcd : (y == ("__classdict__" : Str)) = false := by decide)
    (hpe : ∀ {to : TE} {t : TA}, PE X (.Name y py) to → PA X [e] t → PE X (.Call (.Attribute (.Name y py) "extend" apos) [e] [] cpos) (tBM X.K "list" rExtendL to t) := by exact fun h1 h2 => pe_bm PySem.F.plainAttrs_list PySem.F.slot_list_extend PySem.F.type_list_extend mt_extendL h1 h2) :
    PV X (.Call (.Attribute (.Name y py) "extend" apos) [e] [] cpos) (dMet fExtend i dA) := pv_met i mt_extendL md_extend ha PySem.F.slot_list_extend PySem.F.type_list_extend hN hv hd hcd hpe
theorem pv_popAt (i : Nat) (ha : PAD X [e] dA) (hN : X.N[i]? = some y := by rfl) (hv : Vis X.env.scope y := by first | exact Or.inl rfl | exact Or.inr (Or.inl rfl) | exact Or.inr (Or.inr rfl)) (hd : (y == ("__debug__" : Str)) = false := by decide) (hcd : (y == ("__classdict__" : Str)) = false := by decide)
    (hpe : ∀ {to : TE} {t : TA}, PE X (.Name y py) to → PA X [e] t → PE X (.Call (.Attribute (.Name y py) "pop" apos) [e] [] cpos) (tBM X.K "list" rPopAt to t) := by exact fun h1 h2 => pe_bm PySem.F.plainAttrs_list PySem.F.slot_list_pop PySem.F.type_list_pop mt_popAt h1 h2) :
    PV X (.Call (.Attribute (.Name y py) "pop" apos) [e] [] cpos) (dMet fPopAt i dA) := pv_met i mt_popAt md_popAt ha PySem.F.slot_list_pop PySem.F.type_list_pop hN hv hd hcd hpe
theorem pv_pop (i : Nat) (hN : X.N[i]? = some y := by rfl) (hv : Vis X.env.scope y := by first | exact Or.inl rfl | exact Or.inr (Or.inl rfl) | exact Or.inr (Or.inr rfl)) (hd : (y == ("__debug__" : Str)) = false := by decide) (hcd : (y == ("__classdict__" : Str)) = false := by decide)
    (hpe : ∀ {to : TE}, PE X (.Name y py) to → PE X (.Call (.Attribute (.Name y py) "pop" apos) [] [] cpos) (tBM0 X.K "list" rPop to) := by exact fun h1 => pe_bm0 PySem.F.plainAttrs_list PySem.F.slot_list_pop PySem.F.type_list_pop mt_pop h1) :
    PV X (.Call (.Attribute (.Name y py) "pop" apos) [] [] cpos) (dMet0 fPop i) := pv_met0 i mt_pop md_pop PySem.F.slot_list_pop PySem.F.type_list_pop hN hv hd hcd hpe
end
end
end DL

namespace DL
open PySem PySem.Spec PyProof.Rows L2
open AutoSeq1 (wpAny_loadPart')
theorem tuple_mul1 (l : Addr) (items : Array Value) (n : Nat) (dd : Option Addr) (sl : Array (Option Value)) (u : Tok) :
    Meets (Builtin.«tuple.__mul__» ⟨[.ref l, .int 1 u], []⟩) (fun _ R s => s.heap.get? l = some { cls := .type "tuple", dict := dd, data := .seq items n, slots := sl } ∧
      R (.ok (.ret (Value.ref l))) s) :=
  .of_wp fun prog w A R s h => by
    obtain ⟨hp, g, d, tk, os⟩ := s
    obtain ⟨hl, h⟩ := h
    have f1 := AutoSeq1.idx_int
    wp_walk using wpAny_loadPart' hl
    repeat (first
      | (refine wpAny_ite_false (by decide) ?_; wp_walk using wpAny_loadPart' hl)
      | (refine wpAny_ite_true (by simp) ?_; wp_walk using wpAny_loadPart' hl))
    exact ⟨_, rfl, h⟩
end DL

namespace DL
open PySem PySem.Spec PyProof.Rows L2
section
variable {X : Cx} {P : List Nat} {e a b c : Expr} {es : List Expr} {de da db dc : DV} {dE : DE} {dA : DA} {pos : Pos} {K : PySem.W.Frag}
/-! ### tuple * int -/
def fRepT : DOp := fun x y Q => ∃ xs k, x = .tuple xs ∧ y = .int k ∧ (xs ≠ [] ∧ 1 ≤ k ∧ k ≤ 1000 ∧ xs.length ≤ 1000) ∧ Q (.tuple (List.replicate k.toNat xs).flatten)
def rRepA (K : PySem.W.Frag) : R2 := fun x y H Q => rRepT K x y H Q ∨ ∃ l xs, x = .ref l ∧ y = .int 1 ∧ SqT K H l xs ∧ Q (.ref l) H
theorem op_repA : OpR X (binaryOp .Mult) (rRepA X.K) := by
  intro pins s σ H x y v u Q I rx ry h
  rcases h with h | ⟨l, xs, rfl, rfl, hT, q⟩
  · exact op_repT pins s σ H x y v u Q I rx ry h
  cases rx
  obtain ⟨t, rfl⟩ := ry
  obtain ⟨its, r, ⟨⟨cls, dd, data, sl⟩, ho, hc, n, hd⟩, hs⟩ := I.tuple hT
  simp only at hc hd
  subst hc hd
  exact wpAny_binaryOp_repeat_ref (T := "tuple") (U := "int") (by decide) ⟨_, ho, rfl⟩ (fun s' => typeIs_int s' 1 t) noFill_tuple_mul F.fills_int_mul F.slot_int_rmul repeat_tuple F.slot_int_index.lookup
    (call_meets F.slot_int_rmul (typeIs_int s 1 t) F.entry_int_rmul (F.args_int_rmul_2 _ _) (int_rmul_tuple 1 t l its.toArray n dd sl)
      ⟨ho, rfl, ⟨_, ho, rfl⟩, call_meets F.slot_tuple_mul ⟨_, ho, rfl⟩ F.entry_tuple_mul (F.args_tuple_mul_2 _ _) (tuple_mul1 l its.toArray n dd sl t) ⟨ho, ⟨.ref l, H, I, rfl, q⟩⟩⟩)
theorem opD_repT : OpD K (rRepA K) fRepT := by
  intro H x y d e Q Q' fx fy h k
  obtain ⟨xs, n, rfl, rfl, ⟨h0, h1, h2, h3⟩, q⟩ := h
  have e2 := fy.int
  subst e2
  obtain ⟨a, vs, rfl, hs, fa⟩ := fx.tuple
  by_cases e1 : n = 1
  · subst e1
    refine .inr ⟨a, vs, rfl, rfl, hs, k _ H _ (Same.refl H) ?_ q⟩
    have : (List.replicate (1 : Int).toNat xs).flatten = xs := by
      show (List.replicate 1 xs).flatten = xs
      simp
    rw [this]
    exact .tup hs fa
  · refine .inl ⟨a, n, vs, rfl, rfl, hs, fun z => h0 (by rw [z] at fa; cases fa; rfl), by omega, h2, by rw [fa.length]; exact h3, fun p hp => ?_⟩
    have s := same_new (o := .tup (List.replicate n.toNat vs).flatten) hp
    exact k _ _ _ s (.tup (.inl (.inl upd_same)) (FzA.mono (Same.fe s) (fa.rep n.toNat))) q
theorem pv_repT (ha : PV X a da) (hb : PV X b db) : PV X (.BinOp a .Mult b pos) (dOp fRepT da db) := pv_op op_repA opD_repT ha hb
/-! ### t[::-1] -/
end
section
variable {prog : Program} {w : World} {A : Around} {E : Value → Shared → Prop} {s : Shared}
theorem places_rev (n : Nat) : Builtin.Slice.slicePlaces ((n : Int) - 1) (-1) (-1) = n := by
  unfold Builtin.Slice.slicePlaces
  rw [if_neg (by decide)]
  by_cases h : (n : Int) - 1 > -1
  · rw [if_pos h]
    have : (- -1 : Int) = 1 := by decide
    rw [this, Int.ediv_one]
    omega
  · rw [if_neg h]
    omega
theorem adjust_rev (n : Nat) : Builtin.Slice.sliceAdjust none none (-1) (n : Int) = ((n : Int) - 1, -1) := by
  unfold Builtin.Slice.sliceAdjust
  rfl
theorem sliceApplied_rev {sl : Addr} {vk : Value} {n : Nat} {Q : Int × Int × Nat → Shared → Prop} (hs : s.heap.IsSliceOf sl .none .none vk) (pk : IsPart vk (some (-1)))
    (h : Q ((n : Int) - 1, -1, n) s) : wpAny (model prog w) A (Builtin.Slice.sliceApplied (.ref sl) (pure (n : Int))) Q E s := by
  obtain ⟨os, hos, hcs, hds⟩ := id hs
  unfold Builtin.Slice.sliceApplied Builtin.Slice.sliceFields
  refine wpAny_bind (wpAny_bind (wpAny_field hos hds (x := .none) rfl (wpAny_bind (wpAny_field hos hds (x := .none) rfl (wpAny_bind (wpAny_field hos hds (x := vk) rfl (wpAny_pure ?_)))))))
  refine wpAny_bind (HT.slicePart_ pk ?_)
  show wpAny _ _ (if ((-1 : Int) == 0) = true then _ else _) _ _ s
  rw [if_neg (by decide)]
  refine wpAny_bind (slicePart_none (wpAny_bind (slicePart_none (wpAny_bind (wpAny_pure ?_)))))
  show wpAny _ _ (match Builtin.Slice.sliceAdjust none none (-1) (n : Int) with | (lo, hi) => pure (lo, (-1 : Int), Builtin.Slice.slicePlaces lo hi (-1))) _ _ s
  rw [adjust_rev n]
  show wpAny _ _ (pure ((n : Int) - 1, (-1 : Int), Builtin.Slice.slicePlaces ((n : Int) - 1) (-1) (-1))) _ _ s
  rw [places_rev]
  exact wpAny_pure h
theorem pick_rev (xs : Array Value) : ((List.range xs.size).filterMap fun (m : Nat) => xs[(((xs.size : Int) - 1) + (m : Int) * (-1)).toNat]?).toArray = xs.toList.reverse.toArray := by
  have e : ((List.range xs.size).filterMap fun (m : Nat) => xs[(((xs.size : Int) - 1) + (m : Int) * (-1)).toNat]?) = ((List.range xs.size).map fun k => xs.size - 1 - k).filterMap (xs[·]?) := by
    rw [List.filterMap_map]
    have ex : (fun (m : Nat) => xs[(((xs.size : Int) - 1) + (m : Int) * (-1)).toNat]?) = ((fun x => xs[x]?) ∘ fun k => xs.size - 1 - k) := by
      funext m
      have : (((xs.size : Int) - 1) + (m : Int) * (-1)).toNat = xs.size - 1 - m := by omega
      show xs[(((xs.size : Int) - 1) + (m : Int) * (-1)).toNat]? = xs[xs.size - 1 - m]?
      rw [this]
    rw [ex]
  rw [e, PySem.W.krv_range, List.filterMap_reverse, PySem.W.krv_all]
theorem getItem_tuple_rev {t sl : Addr} {items : Array Value} {vk : Value} {Q : Value → Shared → Prop} (ht : IsTup s.heap t items) (hs : s.heap.IsSliceOf sl .none .none vk) (pk : IsPart vk (some (-1)))
    (h : Q (.ref s.heap.objs.size) { s with heap := s.heap.push { cls := .type "tuple", data := .seq items.toList.reverse.toArray } }) (hsz : items.size ≤ sizeLine) : wpAny (model prog w) A (getItem (.ref t) (.ref sl)) Q E s := by
  have hok : sizeOk (.seq items.toList.reverse.toArray) := by
    show items.toList.reverse.toArray.size ≤ sizeLine
    rw [List.size_toArray, List.length_reverse, Array.length_toList]
    exact hsz
  obtain ⟨os, hos, hcs, hds⟩ := id hs
  have hTs : s.TypeIs (.ref sl) "slice" := ⟨os, hos, hcs⟩
  unfold getItem
  try with_reducible refine wpAny_holding ?_
  first | refine wpAny_bind (wpAny_pure ?_) | skip
  refine wpAny_bind (wpAny_sequenceKey ht.typeIs (by decide) ?_)
  refine wpAny_bind (wpAny_callSpecial?_slot (name := Str.ofString "__getitem__") ht.typeIs PyProof.Rows.slot_tuple_getitem
    (wpAny_call_entry PyProof.Rows.slot_tuple_getitem ht.typeIs entry_tuple_getitem ?_ (args_tuple_getitem _ _)))
  show wpAny _ _ (Builtin.Tuple.tupleItemsOf (.ref t) >>= _) _ _ s
  refine wpAny_bind (tupleItemsOf_ ht ?_)
  refine wpAny_bind (wpAny_typeOf hTs ?_)
  rw [if_pos (by decide)]
  refine wpAny_bind (sliceApplied_rev hs pk ?_)
  have hno : ¬ ((((items.size : Int) - 1) == 0 && (-1 : Int) == 1 && items.size == items.size) = true) := by
    intro q
    rw [Bool.and_eq_true, Bool.and_eq_true] at q
    exact absurd q.1.2 (by decide)
  show wpAny _ _ (if (((items.size : Int) - 1) == 0 && (-1 : Int) == 1 && items.size == items.size) = true then _ else _) _ _ s
  rw [if_neg hno, pick_rev]
  first
    | exact wpAny_bind (m := Builtin.Tuple.tupleExact _) (wpAny_newObj_type (wpAny_pure ⟨_, rfl, wpAny_pure h⟩) hok)
    | exact wpAny_bind (m := Builtin.Tuple.tupleExact _) (wpAny_newObj_type (wpAny_bind (wpAny_pure (wpAny_pure ⟨_, rfl, wpAny_pure h⟩))) hok)
    | exact wpAny_bind (wpAny_bind (m := Builtin.Tuple.tupleExact _) (wpAny_newObj_type (wpAny_pure (wpAny_pure ⟨_, rfl, wpAny_pure h⟩)) hok))
    | exact wpAny_bind (wpAny_bind (m := Builtin.Tuple.tupleExact _) (wpAny_newObj_type (wpAny_pure ⟨_, rfl, wpAny_pure h⟩) hok))
end
section
variable {X : Cx} {P : List Nat} {e a b c st : Expr} {es : List Expr} {de da db dc : DV} {dE : DE} {dA : DA} {pos p2 : Pos} {K : PySem.W.Frag} {te ts : TE}
/-- t[::e], e of the value -1 -/
theorem pe_rev (he : PE X e te) (hk : PE X st ts) : PE X (.Subscript e (.Slice none none (some st) p2) pos) (fun σ H Q => te σ H fun x H1 => ts σ H1 fun k H2 => ∃ a xs, x = .ref a ∧ k = .int (-1) ∧ SqT X.K H2 a xs ∧ ∀ l, H2 l = none → Q (.ref l) (upd H2 l (.tup xs.reverse))) := by
  refine ⟨fun pins s σ H Q I h => ?_⟩
  refine Subscript_ (thn (he.run pins s σ H _ I h) fun v s1 ⟨x, H1, I1, r1, q1⟩ => ?_)
  refine wpAny_Slice ?_
  rw [evalPart_none]
  refine wpAny_pure (wpAny_pure ?_)
  rw [evalPart_some]
  refine thn (hk.run pins s1 σ H1 _ I1 q1) fun vk s2 ⟨y, H2, I2, r2, a, xs, ex, ek, hT, q⟩ => ?_
  subst ex ek
  obtain ⟨t, rfl⟩ := r2
  cases r1
  have I3 : Inv X pins σ H2 { s2 with heap := s2.heap.push { cls := .type "slice", data := .fields #[.none, .none, .int (-1) t] } } := I2.kept (t' := s2.toks) fun b ob q => Heap.get?_push_of_some _ q
  obtain ⟨its, r, ht, hz⟩ := I3.tuple hT
  show wpAny (model X.prog X.w) X.A (subscriptTail e (.Slice none none (some st) p2) (.ref a) (.ref s2.heap.objs.size)) (EP X pins σ Q) X.xe { s2 with heap := s2.heap.push { cls := .type "slice", data := .fields #[.none, .none, .int (-1) t] } }
  refine tail_any (ops := [.ref a, .ref s2.heap.objs.size]) ht.typeIs PyProof.Rows.slot_tuple_getitem.lookup ?_ (by with_unfolding_all rfl)
  have hsz : its.toArray.size ≤ sizeLine := by
    rw [List.size_toArray, ← r.length]
    exact hz
  refine getItem_tuple_rev ht (Heap.IsSliceOf.new ..) (.int _ _) ?_ hsz
  refine ⟨.ref _, _, I3.laid (t' := s2.toks) (o := .tup xs.reverse) (fun b ob q => Heap.get?_push_of_some _ q) (Nat.le_refl _) ?_, rfl, q _ (I3.hok.fresh (Nat.le_refl _))⟩
  refine ⟨?_, its.reverse, r.reverse, ?_⟩
  · rw [List.length_reverse]
    exact hz
  · exact IsTup.new (s2.heap.push { cls := .type "slice", data := .fields #[.none, .none, .int (-1) t] }) its.reverse.toArray
def dRev (de : DV) (dk : DV) : DV := fun τ Q => de τ fun d τ1 => dk τ1 fun k τ2 => ∃ xs, d = .tuple xs ∧ k = .int (-1) ∧ Q (.tuple xs.reverse) τ2
theorem pv_rev (he : PV X e de) (hk : PV X st dc) : PV X (.Subscript e (.Slice none none (some st) p2) pos) (dRev de dc) := by
  refine pv_of (pe_rev he.pe hk.pe) fun σ H τ Q R hd => ?_
  refine lv R hd fun v H1 d τ1 p1 f1 q1 => lv p1.rel q1 fun k H2 dk τ2 p2 f2 ⟨xs, ed, ek, q⟩ => ?_
  subst ed ek
  cases f2
  obtain ⟨a, vs, rfl, hs, fa⟩ := (Rv.fz (Fz.mono p2.fe f1)).tuple
  refine ⟨a, vs, rfl, rfl, hs, fun l n => ?_⟩
  have s := same_new (o := .tup vs.reverse) n
  exact ⟨_, τ2, (p1.trans p2).same s, .tup (.inl (.inl upd_same)) (FzA.mono (Same.fe s) fa.reverse), q⟩
/-! ### // by any divisor -/
def okDivG (_ j : Int) : Prop := j ≠ 0 ∧ j.natAbs.log2 < 9000
def fDivG : DOp := fI okDivG fun i j => .int (i.fdiv j)
theorem op_fdivG : OpR X (binaryOp .FloorDiv) (rI okDivG fun i j => .int (i.fdiv j)) := opI fun i j _ _ _ _ _ hc q => floordiv_int hc.1 q (.inl (PyProof.noPylong_of_log2 hc.2))
theorem pv_fdivG (ha : PV X a da) (hb : PV X b db) : PV X (.BinOp a .FloorDiv b pos) (dOp fDivG da db) := pv_op op_fdivG (opD_I fun _ _ _ => .int _) ha hb
/-! ### texts alike -/
def fEqS : DOp := fun d e Q => match d, e with
  | .str x, .str y => Q (.bool (decide (x = y)))
  | _, _ => False
def fNeS : DOp := fun d e Q => match d, e with
  | .str x, .str y => Q (.bool (!decide (x = y)))
  | _, _ => False
theorem opD_eqS : OpD K rEq fEqS := by
  intro H x y d e Q Q' fx fy h k
  unfold fEqS at h
  split at h
  · cases fx.str
    cases fy.str
    exact ⟨rfl, by have := k _ H _ (Same.refl H) (.bl _) h; simpa using this⟩
  · exact h.elim
theorem opD_neS : OpD K rNe fNeS := by
  intro H x y d e Q Q' fx fy h k
  unfold fNeS at h
  split at h
  · cases fx.str
    cases fy.str
    exact ⟨rfl, by have := k _ H _ (Same.refl H) (.bl _) h; simpa using this⟩
  · exact h.elim
/-! ### repr -/
def okRepr (d : D) : Prop := (∃ xs, d = .tuple xs ∨ d = .list xs) ∧ PyData.showable d = true ∧ PyData.layable0 d = true ∧ d.shown.length ≤ sizeLine
def fRepr : DCall := fun ds Q => match ds with
  | [d] => okRepr d ∧ Q (.str d.shown)
  | _ => False
def rRepr (K : PySem.W.Frag) : List V → Hp → VK → Prop := fun xs H Q => ∃ x d, xs = [x] ∧ Dp K H x d ∧ okRepr d ∧ Q (.str d.shown) H
theorem call_repr {k : Nat} (hr : Rm k X.A) : CallR X (.builtin "repr") (rRepr X.K) := by
  intro pins s σ H xs us Q I r h
  obtain ⟨x, d, rfl, hd, ⟨hk, h1, h2, h3⟩, q⟩ := h
  obtain ⟨u, rfl, ru⟩ := vals1 r
  obtain ⟨as, rd⟩ := Dp.reads I d x u hd ru
  obtain ⟨a, rfl⟩ : ∃ a, u = .ref a := by
    obtain ⟨ys, e | e⟩ := hk
    · subst e
      cases rd
      exact ⟨_, rfl⟩
    · subst e
      cases rd
      exact ⟨_, rfl⟩
  have h2' : (PyData.canLay0 d && decide (PyData.depth d ≤ 64) && decide (PyData.weight d ≤ 2 ^ 20)) = true := h2
  simp only [Bool.and_eq_true, decide_eq_true_eq] at h2'
  have hun := hr.room.un
  refine repr_of_reads' rd h1 (PyData.noDict_hsm (PyData.hasDict_of_layable h2)) hr.gd (by have := h2'.1.2; omega) (fun _ _ e => e) (fun h' u tk hk' => ?_) h3
  exact ⟨.str d.shown, H, I.kept (t' := tk) hk', ⟨_, rfl⟩, q⟩
theorem cd_repr : CallD K (rRepr K) fRepr := by
  intro H xs ds Q Q' f h k
  unfold fRepr at h
  split at h
  · cases f with
    | cons fv ft =>
      cases ft
      exact ⟨_, _, rfl, fv.dp, h.1, k _ H _ (Same.refl H) (.str _) h.2⟩
  · exact h.elim
end
end DL

namespace DL
open PySem PySem.Spec PyProof.Rows L2
section
variable {X : Cx} {P : List Nat} {tg iter e a b c : Expr} {es : List Expr} {de da db dc : DV} {dE : DE} {dA : DA} {pos : Pos} {K : PySem.W.Frag}
/-! ### a walk over the list that a name owns -/
/-- J gives the items f ds, as the list at a stands -/
def GoodA (K : PySem.W.Frag) (a : Addr) (f : List D → List D) (J : It) : Prop := ∀ (i : Nat) (H : Hp) (vs : List V) (ds : List D), H a = some (.lst vs) → FzA K H vs ds →
  (i < (f ds).length → J.go i H ∧ ∀ x H', J.yld i H x H' → Same H H' ∧ ∃ d, (f ds)[i]? = some d ∧ Fz K H' x d) ∧ (i = (f ds).length → J.stop i H)
structure PIN (X : Cx) (tg iter : Expr) (j : Nat) (f : List D → List D) : Prop where
  run : ∀ (pins : List (Addr × Obj)) (s : Shared) (σ : L2.St) (H : Hp) (τ : SD) (ds : List D) (Q : It → Hp → Prop), Inv X pins σ H s → RelS X.K σ H τ → τ[j]? = some (.own ds) → (∀ J a, σ[j]? = some (some (.ref a)) → GoodA X.K a f J → Q J H) →
    wpAny (model X.prog X.w) X.A (eval iter X.env) (fun v s1 => wpAny (model X.prog X.w) X.A (pyIter v) (PIE X pins σ tg Q) X.xe s1) X.xe s
def LIN (K : PySem.W.Frag) (j : Nat) (f : List D → List D) : TI := fun σ H R => ∃ τ ds, RelS K σ H τ ∧ τ[j]? = some (.own ds) ∧ ∀ J a, σ[j]? = some (some (.ref a)) → GoodA K a f J → R J H
theorem PIN.pi {j : Nat} {f : List D → List D} (h : PIN X tg iter j f) : PI X tg iter (LIN X.K j f) := ⟨fun pins s σ H R I ⟨τ, ds, Rs, e, k⟩ => h.run pins s σ H τ ds R I Rs e k⟩
theorem goodA_enum {a : Addr} : GoodA K a enumD (IteK false K a) := by
  intro i H vs ds h fa
  have hs : SqK false K H a vs := .inl (.inl h)
  rw [enumD_len]
  refine ⟨fun hi => ?_, fun hi => ⟨vs, hs, by rw [fa.length]; exact hi.symm⟩⟩
  obtain ⟨v, e, fv⟩ := fa.get (List.getElem?_eq_getElem hi)
  refine ⟨⟨vs, v, hs, e⟩, fun x H' ⟨T, y, ex, n, eH, hy⟩ => ?_⟩
  have e2 := hy vs hs
  rw [e] at e2
  cases e2
  subst eH ex
  have s := same_new (o := .tup [V.int (i : Nat), v]) n
  exact ⟨s, _, enumD_get (List.getElem?_eq_getElem hi), .tup (.inl (.inl upd_same)) (.cons (.int _) (.cons (Fz.mono (Same.fe s) fv) .nil))⟩
/-- enumerate(name) -/
theorem it_enumN (j : Nat) {x : Str} {px p tpos : Pos} {elts : List Expr} {kk : Nat} (hm : X.mg "enumerate" = none) (hN : X.N[j]? = some x := by rfl) (hv : Vis X.env.scope x := by first | exact Or.inl rfl | exact Or.inr (Or.inl rfl) | exact Or.inr (Or.inr rfl)) (hd : (x == ("__debug__" : Str)) = false := by decide) (hcd : (x == ("__classdict__" : Str)) = false := by decide)
    (hg : Gl X "enumerate" := by rfl) (hs : starEach [.Name x px] X.env = [(false, eval (.Name x px) X.env)] := by rfl) : PIN X (.Tuple elts kk tpos) (.Call (.Name "enumerate" p) [.Name x px] [] pos) j enumD := by
  refine ⟨fun pins s σ H τ ds Q I R e k => (pi_enumK hg hm (pa_cons (pe_var hN hv hd hcd) pa_nil hs) hs).run pins s σ H _ I ?_⟩
  obtain ⟨a, xs, e1, h1, f⟩ := R.own e
  exact ⟨.ref a, e1, false, a, xs, rfl, .inl (.inl h1), k _ a e1 goodA_enum⟩
def dLcN (vs : List Nat) (j : Nat) (f : List D → List D) (g : DG) (t : DT) (el : DV) : DE := fun τ Q => ∃ ds, τ[j]? = some (.own ds) ∧
  lcGo vs (gS (fun τ => τ[j]? = some (.own ds)) g) t el (fun acc τ2 => τ2[j]? = some (.own ds) ∧ Q (.own acc) τ2) (f ds) [] (wipeD τ vs)
theorem pd_lcN0 {scope : Scope} {own : List (Str × Nat)} {g : DG} {t : DT} {el : DV} (n : Nat) (j : Nat) (f : List D → List D) (hj : j ∉ own.map (·.2)) (σ : L2.St) (H : Hp) (τ : SD) (Q : Res → SD → Prop) (R : RelS X.K σ H τ) (hσ : σ.length ≤ n) (hd : dLcN (own.map (·.2)) j f g t el τ Q) :
    tLc (LIN X.K j f) (LG (others n (own.map (·.2))) X.K g) (LT X.K t) (LV X.K el) (own.map (·.2)) σ H (okE X.K σ H τ Q) := by
  generalize hvs : own.map (·.2) = vs at *
  obtain ⟨ds, e, q⟩ := hd
  refine ⟨τ, ds, R, e, fun J a ea good D hD => ?_⟩
  refine pd_lcS n vs _ σ H H τ τ Q J (f ds) hσ (PostE.refl R) (fun i H' τ' p' s' => ?_) q D hD
  obtain ⟨b, xs, e1, h1, fx⟩ := p'.rel.own s'
  rw [wipe_out hj, ea] at e1
  cases e1
  exact good i H' xs ds h1 fx
theorem s_setLcN (i : Nat) {y : Str} {py spos : Pos} {elt tg iter : Expr} {ifs : List Expr} {scope : Scope} {own : List (Str × Nat)} {j : Nat} {f : List D → List D} {g : DG} {t : DT} {el : DV} (n : Nat) (nd : X.N.Nodup) (hi : PIN X tg iter j f) (ok : BlkOk X.N X.env.scope scope own)
    (hg : ∀ (s : Shared) (H : Hp) (C : Addr) (cl : List (Str × Addr)) (fp : List Addr), PGD (X.blk s H scope (compEnvC scope cl C X.env) fp) (others n (own.map (·.2))) tg g)
    (ht : ∀ (s : Shared) (H : Hp) (C : Addr) (cl : List (Str × Addr)) (fp : List Addr), PTsD (X.blk s H scope (compEnvC scope cl C X.env) fp) ifs t)
    (he : ∀ (s : Shared) (H : Hp) (C : Addr) (cl : List (Str × Addr)) (fp : List Addr), PV (X.blk s H scope (compEnvC scope cl C X.env) fp) elt el)
    (hsw : swapsWith (.ListComp elt [⟨tg, iter, ifs, 0⟩] scope pos) (some (.Name y py)) spos.line X.env = pure true) (hj : j ∉ own.map (·.2) := by decide) (hn : X.N.length ≤ n := by exact Nat.le_of_ble_eq_true rfl) (hc : X.calm = true := by rfl) (hy : X.N[i]? = some y := by rfl) (hyl : X.env.scope.names.lookup y = some .local := by rfl) (hP : i ∉ P := by decide) (hs : ∀ x, foldedSetIterable iter X.env x = pure x := by intro _; rfl) :
    PSD X P (.Assign [.Name y py] (.ListComp elt [⟨tg, iter, ifs, 0⟩] scope pos) spos) (sSet i (dLcN (own.map (·.2)) j f g t el)) := by
  refine ⟨fun pins s σ H τ D I R hd => ?_⟩
  refine (ps_setLc (g := LG (others n (own.map (·.2))) X.K g) (tt := LT X.K t) (te := LV X.K el) hc nd hy hyl hsw hi.pi ok (fun s H C cl fp => (hg s H C cl fp).pg) (fun s H C cl fp => (ht s H C cl fp).pts) (fun s H C cl fp => (he s H C cl fp).pe) hs).run pins s σ H _ I ?_
  have h := pd_lcN0 (X := X) (scope := scope) (own := own) n j f hj σ H τ _ R (by rw [I.len]; exact hn) hd
  obtain ⟨τ1, ds, R1, h1, k1⟩ := h
  refine ⟨τ1, ds, R1, h1, fun J a ea good D' hD' => ?_⟩
  obtain ⟨W, w0, turn⟩ := k1 J a ea good D' hD'
  refine ⟨W, w0, fun j' m H' hW => ?_⟩
  rcases turn j' m H' hW with ⟨st, r, τ', p', f', hl, q'⟩ | h
  · exact .inl ⟨st, τ'.set i r.sl, p'.store f' hl hP, q'⟩
  · exact .inr h
theorem pd_lcN {elt tg iter : Expr} {ifs : List Expr} {scope : Scope} {own : List (Str × Nat)} {j : Nat} {f : List D → List D} {g : DG} {t : DT} {el : DV} (n : Nat) (nd : X.N.Nodup) (hi : PIN X tg iter j f) (ok : BlkOk X.N X.env.scope scope own)
    (hg : ∀ (s : Shared) (H : Hp) (C : Addr) (cl : List (Str × Addr)) (fp : List Addr), PGD (X.blk s H scope (compEnvC scope cl C X.env) fp) (others n (own.map (·.2))) tg g)
    (ht : ∀ (s : Shared) (H : Hp) (C : Addr) (cl : List (Str × Addr)) (fp : List Addr), PTsD (X.blk s H scope (compEnvC scope cl C X.env) fp) ifs t)
    (he : ∀ (s : Shared) (H : Hp) (C : Addr) (cl : List (Str × Addr)) (fp : List Addr), PV (X.blk s H scope (compEnvC scope cl C X.env) fp) elt el)
    (hj : j ∉ own.map (·.2) := by decide) (hn : X.N.length ≤ n := by exact Nat.le_of_ble_eq_true rfl) (hc : X.calm = true := by rfl) (hs : ∀ x, foldedSetIterable iter X.env x = pure x := by intro _; rfl) : PD X (.ListComp elt [⟨tg, iter, ifs, 0⟩] scope pos) (dLcN (own.map (·.2)) j f g t el) :=
  ⟨fun pins s σ H τ Q I R hd => (pe_lc (g := LG (others n (own.map (·.2))) X.K g) (tt := LT X.K t) (te := LV X.K el) hc nd hi.pi ok (fun s H C cl fp => (hg s H C cl fp).pg) (fun s H C cl fp => (ht s H C cl fp).pts) (fun s H C cl fp => (he s H C cl fp).pe) hs).run pins s σ H _ I (pd_lcN0 (scope := scope) n j f hj σ H τ Q R (by rw [I.len]; exact hn) hd)⟩
/-! ### two for -/
/-- how a block with a new list at D stands, against its start -/
structure BlkT (n : Nat) (vs : List Nat) (K : PySem.W.Frag) (σ0 : L2.St) (H1 : Hp) (τ0 : SD) (D : Addr) (σ' : L2.St) (H' : Hp) (τ' : SD) (acc : List PyData) : Prop where
  ps : PostS (others n vs) K σ0 H1 τ0 σ' H' τ'
  ex : ∃ ys, H' D = some (.lst ys) ∧ FzA K H' ys acc
  no : ¬ Ow σ' τ' D
  nd : H1 D = none
section
variable {n : Nat} {vs us : List Nat} {σ0 σ1 σ2 : L2.St} {H1 H2 H3 : Hp} {τ0 τ1 τ2 : SD} {L : Addr} {acc : List PyData}
theorem BlkT.stepS (t : BlkT n vs K σ0 H1 τ0 L σ1 H2 τ1 acc) (p : PostS (others n vs) K σ1 H2 τ1 σ2 H3 τ2) : BlkT n vs K σ0 H1 τ0 L σ2 H3 τ2 acc := by
  obtain ⟨ys, h, f⟩ := t.ex
  refine ⟨t.ps.trans p, ⟨ys, p.fr L _ h t.no, FzA.mono p.fe f⟩, fun o => ?_, t.nd⟩
  rcases p.ow o with o | o
  · exact t.no o
  · rw [h] at o; cases o
theorem others_sub (h : ∀ i ∈ us, i ∈ vs) : ∀ i ∈ others n vs, i ∈ others n us := fun i hi => by
  obtain ⟨h1, h2⟩ := List.mem_filter.mp hi
  refine List.mem_filter.mpr ⟨h1, ?_⟩
  simp only [List.contains_eq_mem, Bool.not_eq_true', decide_eq_false_iff_not] at h2 ⊢
  exact fun z => h2 (h i z)
theorem PostS.weaken {P P' : List Nat} {K : PySem.W.Frag} (p : PostS P K σ1 H2 τ1 σ2 H3 τ2) (h : ∀ i ∈ P', i ∈ P) : PostS P' K σ1 H2 τ1 σ2 H3 τ2 :=
  ⟨p.rel0, p.rel, p.fr, fun j ds x h1 h2 => (p.sub j ds x h1 h2).imp id fun ⟨a, b⟩ => ⟨a, fun z => b (h _ z)⟩, p.len, p.live, fun i hi => p.pin i (h i hi)⟩
theorem BlkT.wipe (t : BlkT n vs K σ0 H1 τ0 L σ1 H2 τ1 acc) (h : ∀ i ∈ us, i ∈ vs) : BlkT n vs K σ0 H1 τ0 L (L2.wipe σ1 us) H2 (wipeD τ1 us) acc := by
  refine ⟨⟨t.ps.rel0, t.ps.rel.wipe us, t.ps.fr, fun j ds x h1 h2 => ?_, by rw [wipe_length]; exact t.ps.len, t.ps.live, fun i hi => ?_⟩, t.ex, fun o => t.no o.wipe, t.nd⟩
  · have hj : j ∉ us := fun z => by cases wipeD_in z h1
    rw [wipeD_out hj] at h1
    rw [wipe_out hj] at h2
    exact t.ps.sub j ds x h1 h2
  · have hi2 : i ∉ us := fun z => by
      have := (List.mem_filter.mp hi).2
      simp only [List.contains_eq_mem, Bool.not_eq_true', decide_eq_false_iff_not] at this
      exact this (h i z)
    rw [wipe_out hi2]
    exact t.ps.pin i hi
theorem BlkT.push (t : BlkT n vs K σ0 H1 τ0 L σ1 H2 τ1 acc) {ys : List V} (hy : H2 L = some (.lst ys)) (fy : FzA K H2 ys acc) {y : V} {d : PyData} (f : Fz K H2 y d) : BlkT n vs K σ0 H1 τ0 L σ1 (upd H2 L (.lst (ys ++ [y]))) τ1 (acc ++ [d]) := by
  have fe := fe_lst (xs' := ys ++ [y]) hy
  refine ⟨⟨t.ps.rel0, ⟨t.ps.rel.len, fun j ov sl e1 e2 => (t.ps.rel.at_ j ov sl e1 e2).mono fe fun b zs es' ov' sl' hb => ?_, t.ps.rel.apart⟩, fun b u hb no => ?_, t.ps.sub, t.ps.len, fun b u hb => ?_, t.ps.pin⟩, ⟨_, upd_same, FzA.mono fe (fy.append (.cons f .nil))⟩, t.no, t.nd⟩
  · subst sl' ov'
    rw [upd_ne fun z => t.no (by rw [← z]; exact ⟨j, es', e2, e1⟩)]
    exact hb
  · rw [upd_ne (ne_of_none hb t.nd)]
    exact t.ps.fr b u hb no
  · rw [upd_ne (ne_of_none hb t.nd)]
    exact t.ps.live b u hb
theorem BlkT.pinned (t : BlkT n vs K σ0 H1 τ0 L σ1 H2 τ1 acc) (hn : σ0.length ≤ n) : L2.wipe σ1 vs = L2.wipe σ0 vs := others_pin t.ps.len hn fun j hj => t.ps.pin j hj
end
section
variable {scope : Scope} {own : List (Str × Nat)} {di di1 : DI} {g g1 : DG} {t t1 : DT} {el : DV}
def lc2Go (vs vs1 : List Nat) (g : DG) (t : DT) (di1 : DI) (g1 : DG) (t1 : DT) (el : DV) (Q : List PyData → SD → Prop) : List PyData → List PyData → SD → Prop
  | [], acc, τ => Q acc τ
  | x :: xs, acc, τ => g x τ fun τ2 => t τ2 fun k τ3 => if k = true then di1 τ3 fun its1 τ4 => lcGo vs1 g1 t1 el (fun acc' τ5 => lc2Go vs vs1 g t di1 g1 t1 el Q xs acc' (wipeD τ5 vs)) its1 acc (wipeD τ4 vs1) else lc2Go vs vs1 g t di1 g1 t1 el Q xs acc (wipeD τ3 vs)
def dLc2 (vs vs1 : List Nat) (di : DI) (g : DG) (t : DT) (di1 : DI) (g1 : DG) (t1 : DT) (el : DV) : DE := fun τ Q => di τ fun its τ1 => lc2Go vs vs1 g t di1 g1 t1 el (fun acc τ2 => Q (.own acc) τ2) its [] (wipeD τ1 vs)
theorem wipe_idem {σ : L2.St} {n : Nat} {vs : List Nat} (hn : σ.length ≤ n) : L2.wipe (L2.wipe σ vs) vs = L2.wipe σ vs := others_pin (n := n) (wipe_length _ _) hn fun j hj => wipe_out (by
  have := (List.mem_filter.mp hj).2
  simpa using this)
theorem pd_lc20 (n : Nat) (vs1 : List Nat) (hsub : ∀ i ∈ vs1, i ∈ own.map (·.2)) (σ : L2.St) (H : Hp) (τ : SD) (Q : Res → SD → Prop) (R : RelS X.K σ H τ) (hσ : σ.length ≤ n) (hd : dLc2 (own.map (·.2)) vs1 di g t di1 g1 t1 el τ Q) :
    tLc2 (LI X.K di) (LG (others n (own.map (·.2))) X.K g) (LT X.K t) (LI X.K di1) (LG (others n vs1) X.K g1) (LT X.K t1) (LV X.K el) (own.map (·.2)) vs1 σ H (okE X.K σ H τ Q) := by
  generalize hvs : own.map (·.2) = vs at *
  refine ⟨τ, _, R, hd, fun J H1 its τ1 p1 good q1 L hL => ?_⟩
  have R1 := p1.rel.wipe vs
  have no0 : ¬ Ow (L2.wipe σ vs) (wipeD τ1 vs) L := fun o => by
    obtain ⟨zs, e⟩ := R1.ow o
    rw [hL] at e; cases e
  have B0 : BlkT n vs X.K (L2.wipe σ vs) H1 (wipeD τ1 vs) L (L2.wipe σ vs) (upd H1 L (.lst [])) (wipeD τ1 vs) [] := ⟨((PostE.refl R1).same (same_new hL)).st, ⟨[], upd_same, .nil⟩, no0, hL⟩
  have hσ0 : (L2.wipe σ vs).length ≤ n := by rw [wipe_length]; exact hσ
  have idem : L2.wipe (L2.wipe σ vs) vs = L2.wipe σ vs := wipe_idem hσ
  refine ⟨fun i m H' => m = its.length - i ∧ i ≤ its.length ∧ ∃ τ' acc, BlkT n vs X.K (L2.wipe σ vs) H1 (wipeD τ1 vs) L (L2.wipe σ vs) H' τ' acc ∧ (∀ j ∈ vs, ∀ sl, τ'[j]? = some sl → sl = .un) ∧ lc2Go vs vs1 g t di1 g1 t1 el (fun acc τ2 => Q (.own acc) τ2) (its.drop i) acc τ',
    ⟨its.length, rfl, Nat.zero_le _, wipeD τ1 vs, [], B0, fun j hj sl e => wipeD_in hj e, q1⟩, fun i m H' hW => ?_⟩
  obtain ⟨em, hi, τ', acc, B, un, q'⟩ := hW
  by_cases hlt : i < its.length
  · rw [List.drop_eq_getElem_cons hlt] at q'
    obtain ⟨go, yl⟩ := (good i H' B.ps.fe).1 hlt
    refine .inr ⟨go, fun H'' => ∃ τ'' acc', BlkT n vs X.K (L2.wipe σ vs) H1 (wipeD τ1 vs) L (L2.wipe σ vs) H'' τ'' acc' ∧ (∀ j ∈ vs, ∀ sl, τ''[j]? = some sl → sl = .un) ∧ lc2Go vs vs1 g t di1 g1 t1 el (fun acc τ2 => Q (.own acc) τ2) (its.drop (i + 1)) acc' τ'',
      fun H'' ⟨τ'', acc', h⟩ => ⟨its.length - (i + 1), by omega, rfl, hlt, τ'', acc', h⟩, fun x H2 hy => ?_⟩
    obtain ⟨s2, d, ed, fd⟩ := yl x H2 hy
    rw [List.getElem?_eq_getElem hlt] at ed
    cases ed
    have B2 := B.stepS ((PostE.refl B.ps.rel).same s2).st
    refine ⟨τ', _, _, B2.ps.rel, fd, q', fun σ3 H3 τ3 p3 q3 => ?_⟩
    have B3 := B2.stepS p3
    have w3 : L2.wipe σ3 vs = L2.wipe σ vs := by rw [B3.pinned hσ0, idem]
    refine ⟨w3, lt' B3.ps.rel q3 fun k H4 τ4 p4 q4 => ?_⟩
    have B4 := B3.stepS p4.st
    cases k with
    | false =>
      have B5 := B4.wipe (us := vs) fun _ h => h
      rw [w3] at B5
      exact ⟨_, acc, B5, fun j hj sl e => wipeD_in hj e, q4⟩
    | true =>
      refine ⟨τ4, _, B4.ps.rel, q4, fun J1 H5 its1 τ5 p5 good1 q5 => ?_⟩
      have B5 := B4.stepS p5.st
      have B6 := B5.wipe hsub
      have len3 : σ3.length ≤ n := by rw [B3.ps.len]; exact hσ0
      refine ⟨fun jj kk H' => kk = its1.length - jj ∧ jj ≤ its1.length ∧ ∃ τ'' acc', BlkT n vs X.K (L2.wipe σ vs) H1 (wipeD τ1 vs) L (L2.wipe σ3 vs1) H' τ'' acc' ∧ FE H5 H' ∧ lcGo vs1 g1 t1 el (fun acc' τ5 => lc2Go vs vs1 g t di1 g1 t1 el (fun acc τ2 => Q (.own acc) τ2) (its.drop (i + 1)) acc' (wipeD τ5 vs)) (its1.drop jj) acc' τ'',
        ⟨its1.length, rfl, Nat.zero_le _, _, acc, B6, FE.refl _, q5⟩, fun jj kk H6 hW1 => ?_⟩
      obtain ⟨ek, hj, τ6, acc6, B7, fe6, q6⟩ := hW1
      by_cases hlt1 : jj < its1.length
      · rw [List.drop_eq_getElem_cons hlt1] at q6
        obtain ⟨go1, yl1⟩ := (good1 jj H6 fe6).1 hlt1
        refine .inr ⟨go1, fun H'' => ∃ τ'' acc', BlkT n vs X.K (L2.wipe σ vs) H1 (wipeD τ1 vs) L (L2.wipe σ3 vs1) H'' τ'' acc' ∧ FE H5 H'' ∧ lcGo vs1 g1 t1 el (fun acc' τ5 => lc2Go vs vs1 g t di1 g1 t1 el (fun acc τ2 => Q (.own acc) τ2) (its.drop (i + 1)) acc' (wipeD τ5 vs)) (its1.drop (jj + 1)) acc' τ'',
          fun H'' ⟨τ'', acc', h⟩ => ⟨its1.length - (jj + 1), by omega, rfl, hlt1, τ'', acc', h⟩, fun x1 H7 hy1 => ?_⟩
        obtain ⟨s7, d7, ed7, fd7⟩ := yl1 x1 H7 hy1
        rw [List.getElem?_eq_getElem hlt1] at ed7
        cases ed7
        have B8 := B7.stepS ((PostE.refl B7.ps.rel).same s7).st
        refine ⟨τ6, _, _, B8.ps.rel, fd7, q6, fun σ8 H8 τ8 p8 q8 => ?_⟩
        have B9 := B8.stepS (p8.weaken (others_sub hsub))
        have w8 : L2.wipe σ8 vs1 = L2.wipe σ3 vs1 := by
          rw [others_pin (vs := vs1) p8.len (by rw [wipe_length]; exact len3) fun j hj => p8.pin j hj, wipe_idem len3]
        have fe8 : FE H5 H8 := (fe6.trans (Same.fe s7)).trans p8.fe
        refine ⟨w8, lt' B9.ps.rel q8 fun k9 H9 τ9 p9 q9 => ?_⟩
        have B10 := B9.stepS p9.st
        cases k9 with
        | false =>
          have B11 := B10.wipe hsub
          rw [w8] at B11
          exact ⟨_, acc6, B11, fe8.trans p9.fe, q9⟩
        | true =>
          refine lv B10.ps.rel q9 fun y H10 dy τ10 p10 fy ⟨hz, q10⟩ => ?_
          have B11 := B10.stepS p10.st
          obtain ⟨ys, hl, fa⟩ := B11.ex
          have B12 := (B11.wipe hsub).push hl fa fy
          rw [w8] at B12
          exact ⟨ys, hl, by rw [fa.length]; exact sz_lt hz, _, _, B12, ((fe8.trans p9.fe).trans p10.fe).trans (fe_lst hl), q10⟩
      · have e : jj = its1.length := by omega
        subst e
        rw [List.drop_length] at q6
        have B8 := B7.wipe (us := vs) fun _ h => h
        rw [B7.pinned hσ0, idem] at B8
        exact .inl ⟨(good1 _ H6 fe6).2 rfl, _, acc6, B8, fun j hj sl e => wipeD_in hj e, q6⟩
  · have e : i = its.length := by omega
    subst e
    rw [List.drop_length] at q'
    obtain ⟨ys, hl, fa⟩ := B.ex
    refine .inl ⟨(good _ H' B.ps.fe).2 rfl, .own acc, τ', ?_, ⟨L, ys, rfl, p1.fresh hL, hl, fa⟩, q'⟩
    refine p1.trans ⟨p1.rel, unwipe B.ps.rel un, fun b u hb no => B.ps.fr b u hb fun o => no o.wipe, fun j ds e => ?_, B.ps.live⟩
    obtain ⟨a, xs, e1, _⟩ := B.ps.rel.own e
    have hlt2 : j < n := by
      have h1 : j < (L2.wipe σ vs).length := (List.getElem?_eq_some_iff.mp e1).1
      omega
    rcases B.ps.sub j ds a e e1 with ⟨d0, h0, _⟩ | ⟨_, h0⟩
    · have hj : j ∉ vs := fun h => by cases wipeD_in h h0
      rw [wipeD_out hj] at h0
      exact ⟨d0, h0⟩
    · exfalso
      refine h0 (List.mem_filter.mpr ⟨List.mem_range.mpr hlt2, ?_⟩)
      have hj : j ∉ vs := fun h => by cases un j h _ e
      simp [hj]
theorem pd_lc2 {elt tg iter tg1 iter1 : Expr} {ifs ifs1 : List Expr} (n : Nat) (vs1 : List Nat) (nd : X.N.Nodup) (hi : PID X tg iter di) (ok : BlkOk X.N X.env.scope scope own)
    (hg : ∀ (s : Shared) (H : Hp) (C : Addr) (cl : List (Str × Addr)) (fp : List Addr), PGD (X.blk s H scope (compEnvC scope cl C X.env) fp) (others n (own.map (·.2))) tg g)
    (ht : ∀ (s : Shared) (H : Hp) (C : Addr) (cl : List (Str × Addr)) (fp : List Addr), PTsD (X.blk s H scope (compEnvC scope cl C X.env) fp) ifs t)
    (hi1 : ∀ (s : Shared) (H : Hp) (C : Addr) (cl : List (Str × Addr)) (fp : List Addr), PID (X.blk s H scope (compEnvC scope cl C X.env) fp) tg1 iter1 di1)
    (hg1 : ∀ (s : Shared) (H : Hp) (C : Addr) (cl : List (Str × Addr)) (fp : List Addr), PGD (X.blk s H scope (compEnvC scope cl C X.env) fp) (others n vs1) tg1 g1)
    (ht1 : ∀ (s : Shared) (H : Hp) (C : Addr) (cl : List (Str × Addr)) (fp : List Addr), PTsD (X.blk s H scope (compEnvC scope cl C X.env) fp) ifs1 t1)
    (he : ∀ (s : Shared) (H : Hp) (C : Addr) (cl : List (Str × Addr)) (fp : List Addr), PV (X.blk s H scope (compEnvC scope cl C X.env) fp) elt el)
    (hsub : ∀ i ∈ vs1, i ∈ own.map (·.2) := by decide) (hn : X.N.length ≤ n := by exact Nat.le_of_ble_eq_true rfl) (hc : X.calm = true := by rfl) (hs : ∀ x, foldedSetIterable iter X.env x = pure x := by intro _; rfl) (hs1 : ∀ env x, foldedSetIterable iter1 env x = pure x := by intro _ _; rfl) :
    PD X (.ListComp elt [⟨tg, iter, ifs, 0⟩, ⟨tg1, iter1, ifs1, 0⟩] scope pos) (dLc2 (own.map (·.2)) vs1 di g t di1 g1 t1 el) :=
  ⟨fun pins s σ H τ Q I R hd => (pe_lc2 (g := LG (others n (own.map (·.2))) X.K g) (tt := LT X.K t) (g1 := LG (others n vs1) X.K g1) (tt1 := LT X.K t1) (te := LV X.K el) hc nd hi.pi ok hsub (fun s H C cl fp => (hg s H C cl fp).pg) (fun s H C cl fp => (ht s H C cl fp).pts) (fun s H C cl fp => (hi1 s H C cl fp).pi) (fun s H C cl fp => (hg1 s H C cl fp).pg) (fun s H C cl fp => (ht1 s H C cl fp).pts) (fun s H C cl fp => (he s H C cl fp).pe) hs hs1).run pins s σ H _ I (pd_lc20 n vs1 hsub σ H τ Q R (by rw [I.len]; exact hn) hd)⟩
end
end
/-- a scope within a block's -/
def relS (scope sc : Scope) : Scope := { scope with names := scope.names.map fun (n, k) => if (k == .free && sc.kind == .function && sc.names.lookup n == some .cell) then (n, .cell) else (n, k) }
theorem blkOk_in {N : List Str} {env : Env} {scope0 scope : Scope} {own : List (Str × Nat)} {cl : List (Str × Addr)} {C : Addr} (sc : Scope) (he : env.scope = sc) (h : blkC N (relS scope0 sc) scope own = true) : BlkOk N (compEnvC scope0 cl C env).scope scope own := by
  have e : (compEnvC scope0 cl C env).scope = relS scope0 sc := by
    subst he
    rfl
  rw [e]
  exact blkOk_by h
end DL

namespace DL
open PySem PySem.Spec PySem.Calls PyProof.Rows L2
/-! ### the law's row, from what its def promises over data -/
/-- the script as the only thing that is told apart, if it is no object of the module -/
def scrH (K : PySem.W.Frag) (a : Addr) (o : Obj) (ns : List Int) : Hp := fun b => if b = a ∧ K.lookup a = none then some (.frz o (.lst (ns.map V.int))) else none
section
variable {K : PySem.W.Frag} {a : Addr} {o : Obj} {ns : List Int}
theorem scrH_some {b : Addr} {u : HO} (h : scrH K a o ns b = some u) : b = a ∧ K.lookup a = none ∧ u = .frz o (.lst (ns.map V.int)) := by
  unfold scrH at h
  split at h
  · rename_i c
    cases h
    exact ⟨c.1, c.2, rfl⟩
  · cases h
/-- what is read at the base, if the script is a list -/
theorem scrH_off {b : Addr} {ob : Obj} {h : Heap} (hb : h.get? b = some ob) (ha : h.get? a = some o) (ne : ob ≠ o) : (hidT h (scrH K a o ns)).get? b = some ob := by
  refine hidT_get hb ?_
  cases q : scrH K a o ns b with
  | none => rfl
  | some u =>
    obtain ⟨e, _⟩ := scrH_some q
    subst e
    rw [ha] at hb
    exact absurd (Option.some.inj hb).symm ne
end
theorem dl_walk {l : PySem.W.OpenLaw} {n k : Nat} {q : Program} {loose : List Str} {XP : (Str → Option Value) → Heap → Prop} {YP : World → Heap → Prop} {d : DefRec} {K : Params → PySem.W.Frag} {x : Str} {dsp : DSp}
    (hn : l.most = some n) (hn2 : n ≤ sizeLine) (hdf : d.params.defaults = []) (hr : Rm k callerA) (hY : ∀ (w : World) (h : Heap), YP w h → (K w.params).In h)
    (F : ∀ (w : World) (mg : Str → Option Value) (h base : Heap), (K w.params).In h → h.Ns mainGlobals mg → (K w.params).In base → base.Ns mainGlobals mg → FnD l.prog w (K w.params) mg base k d.name [x] dsp)
    (hd : ∀ ns : List Int, ns.length ≤ n → dsp [.frn (ns.map PyData.int)] fun r _ => r = .val (.bool true)) : PySem.W.WalkO q loose XP YP l.row.toRowW d [] (fun f vs => PySem.call f vs) := by
  refine Att.attach_call hn hdf fun w s₀ s₁ mg mb fa o pm cd doc a vs ns G Y ho hdo hcd hmg hobj hints hlen hg => ?_
  have KX := hY w _ Y
  have vals := vals_ints hints
  have hsz : ns.length ≤ sizeLine := Nat.le_trans hlen hn2
  generalize hob : ({ cls := .type "list", data := .seq vs.toArray } : Obj) = ob at hobj
  have obd : ob.data = .seq vs.toArray := by rw [← hob]
  let H := scrH (K w.params) a ob ns
  let base := hidT s₁.heap H
  -- a dict is not the script
  have ns_base : ∀ {b : Addr} {m : Str → Option Value}, s₁.heap.Ns b m → base.Ns b m := fun {b m} ⟨o, es, ep, e, dt, r⟩ => ⟨o, es, ep, scrH_off e hobj (fun z => by rw [z, obd] at dt; cases dt), dt, r⟩
  have kin : (K w.params).In base := fun b u e => hidT_get (KX b u e) (by
    cases q : scrH (K w.params) a ob ns b with
    | none => exact q
    | some v =>
      obtain ⟨z, e2, _⟩ := scrH_some q
      subst z
      rw [e2] at e; cases e)
  have hok : HOk l.prog w H s₁.heap := fun b u e => by
    obtain ⟨z, _, e2⟩ := scrH_some e
    subst z e2
    refine ⟨hobj, ?_⟩
    subst hob
    exact ⟨by rw [List.length_map]; exact hsz, vs, _, vals, hobj⟩
  have md : L2.Mod (K w.params) mg base := ⟨kin, ns_base G.T.g, ⟨mb, ns_base G.T.b, G.T.builtins⟩, let ⟨mc, h1, h2⟩ := G.T.nolimit; ⟨mc, ns_base h1, h2⟩⟩
  obtain ⟨f, fd, FG, hm, _, hbnd, _⟩ := (F w mg _ base KX G.T.g kin md.glob).ex
  rw [hmg] at hm
  cases hm
  have e0 : Env0 l.prog w (K w.params) mg base callerA [] s₁ H := ⟨rfl, md, fun b o e => of_hidT e, Nat.le_of_eq (hidT_size _ _), trivial, fun b hb => absurd (show b ∈ ([] : List Addr) from hb) (by simp), hok, .of_eq hg⟩
  have fz : FzA (K w.params) H (ns.map V.int) (ns.map PyData.int) := FzA.of_ints ns
  have rel : RelS (K w.params) (vσ [.ref a]) H [.frn (ns.map PyData.int)] := by
    refine ⟨rfl, fun i ov sl e1 e2 => ?_, fun i j ds es b e1 => ?_⟩
    · cases i with
      | succ i => simp at e2
      | zero =>
        cases e1; cases e2
        refine ⟨a, ns.map V.int, rfl, ?_, fz⟩
        cases e : (K w.params).lookup a with
        | none => exact .inl ⟨ob, if_pos ⟨rfl, e⟩⟩
        | some u =>
          have e' := KX a u e
          rw [hobj] at e'
          cases e'
          refine .inr ⟨ob, vs.toArray, 0, rfl, ?_⟩
          subst hob
          exact ⟨rfl, rfl, rfl, by rw [List.size_toArray, hints.length]; exact hsz, by simpa using vals⟩
    · cases i with
      | succ i => simp at e1
      | zero => simp at e1
  have hb : BindsTo s₁ fd ⟨[.ref a], []⟩ ([x].zip [.ref a]) := by
    have := hbnd s₁ [.ref a] KX rfl
    simpa using this
  refine codeAny_mono (FG.run callerA [] s₁ H ⟨[.ref a], []⟩ [.ref a] [.ref a] (fun v _ => v = .bl true) hr e0 hb (.cons rfl .nil) ⟨rfl, _, _, rel, hd ns hlen, fun v H' r as' p rr hq => by subst hq; cases rr; rfl⟩) fun r s' h => ?_
  match r, h with
  | .ok (.ret u), ⟨v, H', os, bare, un, hok', r', qv⟩ =>
    subst qv
    obtain rfl : u = Value.bool true := r'
    refine ⟨rfl, OldK.of_keep fun b u e => ?_, os, bare⟩
    cases q : scrH (K w.params) a ob ns b with
    | none => exact un.keep b u e q (fun z => absurd (show b ∈ ([] : List Addr) from z) (by simp)) (by simp)
    | some z =>
      obtain ⟨e1, _, e2⟩ := scrH_some q
      subst e2
      have z2 := un.frzs b ob _ q
      obtain ⟨h2, _⟩ := hok' b _ z2
      subst e1
      rw [hobj] at e
      cases e
      exact h2
end DL

namespace DL
open PySem PySem.Spec PyProof.Rows L2
/-! ### readings, unfolded -/
theorem slD_val (d : D) : slD (.val d) = some d := rfl
theorem slD_own (d : List D) : slD (.own d) = some (.list d) := rfl
theorem slD_frn (d : List D) : slD (.frn d) = some (.list d) := rfl

theorem at_zero {α : Type} (xs : List α) : at' xs 0 = xs[0]? := rfl
theorem at_one {α : Type} (xs : List α) : at' xs 1 = xs[1]? := rfl
theorem at_2 {α : Type} (xs : List α) : at' xs 2 = xs[2]? := rfl
theorem at_3 {α : Type} (xs : List α) : at' xs 3 = xs[3]? := rfl
theorem at_4 {α : Type} (xs : List α) : at' xs 4 = xs[4]? := rfl
theorem at_5 {α : Type} (xs : List α) : at' xs 5 = xs[5]? := rfl
theorem at_6 {α : Type} (xs : List α) : at' xs 6 = xs[6]? := rfl
theorem at_7 {α : Type} (xs : List α) : at' xs 7 = xs[7]? := rfl
theorem at_8 {α : Type} (xs : List α) : at' xs 8 = xs[8]? := rfl
theorem at_9 {α : Type} (xs : List α) : at' xs 9 = xs[9]? := rfl
theorem at_nat {α : Type} (xs : List α) (n : Nat) : at' xs (n : Int) = xs[n]? := by
  unfold at'
  rw [if_pos (Int.natCast_nonneg n)]
  rfl
theorem dg2 (g h : DG) (a b : D) (τ : SD) (Q : SD → Prop) : dgTup 2 (dgCons g (dgCons h dgNil)) (.tuple [a, b]) τ Q = g a τ fun τ' => h b τ' Q := by
  apply propext
  constructor
  · rintro ⟨ds, e, _, d, r, e2, h1⟩
    cases e; cases e2
    have : (fun τ' => dgCons h dgNil [b] τ' Q) = fun τ' => h b τ' Q := by
      funext τ'
      apply propext
      constructor
      · rintro ⟨d, r, e, h2⟩
        cases e
        have : (fun τ2 => dgNil [] τ2 Q) = Q := by
          funext τ2
          exact propext ⟨fun z => z.2, fun z => ⟨rfl, z⟩⟩
        rw [this] at h2
        exact h2
      · intro h2
        refine ⟨b, [], rfl, ?_⟩
        have : (fun τ2 => dgNil [] τ2 Q) = Q := by
          funext τ2
          exact propext ⟨fun z => z.2, fun z => ⟨rfl, z⟩⟩
        rw [this]
        exact h2
    rw [this] at h1
    exact h1
  · intro h1
    refine ⟨[a, b], rfl, rfl, a, [b], rfl, ?_⟩
    have : (fun τ' => dgCons h dgNil [b] τ' Q) = fun τ' => h b τ' Q := by
      funext τ'
      apply propext
      constructor
      · rintro ⟨d, r, e, h2⟩
        cases e
        have : (fun τ2 => dgNil [] τ2 Q) = Q := by
          funext τ2
          exact propext ⟨fun z => z.2, fun z => ⟨rfl, z⟩⟩
        rw [this] at h2
        exact h2
      · intro h2
        refine ⟨b, [], rfl, ?_⟩
        have : (fun τ2 => dgNil [] τ2 Q) = Q := by
          funext τ2
          exact propext ⟨fun z => z.2, fun z => ⟨rfl, z⟩⟩
        rw [this]
        exact h2
    rw [this]
    exact h1
/-- the walk of two rows, of one row with places -/
theorem zip_lit {da db : D} {xs ys : List D} (ex : itemsOf da = some xs) (ey : itemsOf db = some ys) (τ : SD) (Q : List D → SD → Prop) : (∃ d e us vs, ([da, db] : List D) = [d, e] ∧ itemsOf d = some us ∧ itemsOf e = some vs ∧ Q (zipD us vs) τ) = Q (zipD xs ys) τ := by
  apply propext
  constructor
  · rintro ⟨d, e, us, vs, h1, h2, h3, h4⟩
    cases h1
    rw [ex] at h2
    rw [ey] at h3
    cases h2; cases h3
    exact h4
  · exact fun h => ⟨_, _, _, _, rfl, ex, ey, h⟩

end DL

local macro_rules | `(tactic| dsimp! [$ts:simpLemma,*]) => `(tactic| simp only [DL.fnSpec, DL.sNext, DL.sSeq, DL.sRet, DL.sRetN, DL.sIf, DL.sNever, DL.sBreak, DL.sCont, DL.sDrop, DL.sSet, DL.sPar, DL.sAsg, DL.drNil, DL.drCons, DL.dVal, DL.dFrz, DL.dTest, DL.dC, DL.dName, DL.dNil, DL.dCons, DL.dTup, DL.dLst, DL.dOp, DL.dOpNs, DL.dOpN, DL.dOpR, DL.dOpNN, DL.isSet, DL.isOwn, DL.slD_val, DL.slD_own, DL.slD_frn, DL.fI, DL.fI0, DL.fMul, DL.fDiv, DL.fDivG, DL.fMod, DL.fSub, DL.fAdd, DL.fLt, DL.fLe, DL.fGt, DL.fGe, DL.fPowW, DL.fEq, DL.fNe, DL.fIx, DL.fNeg, DL.dUn, DL.dAnd, DL.dOr, DL.dNot, DL.dAndV, DL.dOrV, DL.dNotV, DL.dIf, DL.dIfE, DL.dChain,
  DL.dCB, DL.dCBE, DL.dCBN, DL.dCBEN, DL.fAbs, DL.fInt, DL.fLen, DL.fSum, DL.fAny, DL.fAll, DL.fMax2, DL.fMin2, DL.fTuple, DL.fList, DL.fSortedI, DL.dCat, DL.dRepL, DL.dMet, DL.dMet0, DL.fAppend, DL.fExtend, DL.fPop, DL.fPopAt, DL.Res.sl, DL.Res.toD, DL.dgName, DL.dg2, DL.dgSub, DL.putAll, DL.diV, DL.itemsOf, DL.diRng, DL.diRng2, DL.diEnum, DL.diZip, DL.sFor, DL.forGo, DL.dLc, DL.dtYes, DL.wipeD, DL.arNil, DL.arV, DL.arS, DL.argSl, DL.argsOf, DL.lentOf, DL.putBack, DL.dCall, DL.outs, DL.ownsIn, DL.dIsi, DL.isiD, DL.isNoneD, DL.oNone, DL.oSome, DL.dSlT, DL.dSlL, DL.dSlF, DL.dLRg, DL.fRepT, DL.dRev, DL.fRepr, DL.fEqS, DL.fNeS, DL.dLc2, DL.dLcN, DL.gS,
  List.getElem?_cons_zero, List.getElem?_cons_succ, List.getElem?_nil, List.set_cons_zero, List.set_cons_succ, List.length_cons, List.length_nil, List.cons_append, List.nil_append, List.replicate_succ, List.replicate_zero, List.map_cons, List.map_nil, Option.some.injEq, if_true, if_false, Bool.false_eq_true, ↓reduceIte, ite_true, ite_false, and_true, true_and, exists_eq_left, exists_eq_left', exists_and_left, List.forall_mem_cons, List.not_mem_nil, false_imp_iff, implies_true, forall_const, exists_const, DL.Sl.val.injEq, DL.Sl.own.injEq, PySem.PyData.int.injEq, PySem.PyData.bool.injEq, PySem.PyData.list.injEq, PySem.PyData.tuple.injEq, List.cons.injEq, decide_eq_true_eq, decide_eq_false_iff_not, Bool.not_true, Bool.not_false, exists_eq', exists_eq, Int.cast_ofNat_Int, List.nodup_nil, List.nodup_cons, not_false_eq_true, Int.reduceEq,  List.contains_cons, List.contains_nil, beq_self_eq_true, Bool.true_or, Bool.or_true, Bool.or_false, Bool.false_or, Bool.and_true, Bool.true_and, Nat.reduceBEq, DL.at_zero, DL.at_one, DL.at_2, DL.at_3, DL.at_4, DL.at_5, DL.at_6, DL.at_7, DL.at_8, DL.at_9, DL.at_nat, Nat.reduceAdd, Nat.reduceLT, Nat.reduceLeDiff, Nat.reduceSub, Nat.reduceMul, Int.reduceLT, Int.reduceLE, Int.reduceToNat, Int.reduceAdd, Int.reduceNeg, Int.reduceSub, Nat.reduceEqDiff, Nat.zero_add, decide_true, decide_false, $ts,*])
/-! FQ: fractions as data, and the small defs that most laws share -/
namespace FQ
open PySem PySem.Spec PyProof.Rows L2 DL
/-! ### sizes -/
theorem log2_lt {n k : Nat} (h : n < 2 ^ k) : n.log2 ≤ k := by
  by_cases h0 : n = 0
  · subst h0; simp
  · exact Nat.le_of_lt ((Nat.log2_lt h0).mpr h)
theorem lt_log2 (n : Nat) : n < 2 ^ (n.log2 + 1) := by
  by_cases h0 : n = 0
  · subst h0; simp
  · exact (Nat.log2_lt h0).mp (Nat.lt_succ_self _)
theorem pow2_le {j k : Nat} (h : j ≤ k) : 2 ^ j ≤ 2 ^ k := Nat.pow_le_pow_right (by decide) h
/-- |i| below 2 ^ k -/
def Bi (k : Nat) (i : Int) : Prop := i.natAbs < 2 ^ k
theorem Bi.log {k : Nat} {i : Int} (h : Bi k i) : i.natAbs.log2 ≤ k := log2_lt h
theorem Bi.mono {j k : Nat} {i : Int} (h : Bi j i) (l : j ≤ k) : Bi k i := Nat.lt_of_lt_of_le h (pow2_le l)
theorem Bi.mul {j k : Nat} {a b : Int} (ha : Bi j a) (hb : Bi k b) : Bi (j + k) (a * b) := by
  unfold Bi at *
  rw [Int.natAbs_mul, Nat.pow_add]
  exact Nat.mul_lt_mul'' ha hb
theorem Bi.add {j k : Nat} {a b : Int} (ha : Bi j a) (hb : Bi k b) : Bi (max j k + 1) (a + b) := by
  unfold Bi at *
  have h1 := pow2_le (Nat.le_max_left j k)
  have h2 := pow2_le (Nat.le_max_right j k)
  rw [Nat.pow_succ]
  omega
theorem Bi.sub {j k : Nat} {a b : Int} (ha : Bi j a) (hb : Bi k b) : Bi (max j k + 1) (a - b) := by
  unfold Bi at *
  have h1 := pow2_le (Nat.le_max_left j k)
  have h2 := pow2_le (Nat.le_max_right j k)
  rw [Nat.pow_succ]
  omega
theorem Bi.of_le {k : Nat} {i : Int} (n : Nat) (h : i.natAbs ≤ n) (hn : n < 2 ^ k := by decide) : Bi k i := Nat.lt_of_le_of_lt h hn
theorem Bi.okMul {j k : Nat} {a b : Int} (ha : Bi j a) (hb : Bi k b) (h : j + k < 1000000 := by omega) : okMul a b := by
  have := ha.log
  have := hb.log
  unfold DL.okMul
  omega
theorem Bi.okDiv {k : Nat} {a b : Int} (h0 : 0 < b) (hb : Bi k b) (h : k < 9000 := by omega) : okDiv a b := ⟨h0, Nat.lt_of_le_of_lt hb.log h⟩
/-! ### fractions -/
abbrev fr (t l : Int) : D := .tuple [.int t, .int l]
abbrev frq (r : Rat) : D := fr r.num r.den
/-- its parts are small -/
structure Sz (k : Nat) (r : Rat) : Prop where
  num : Bi k r.num
  den : Bi k (r.den : Int)
theorem Sz.mono {j k : Nat} {r : Rat} (h : Sz j r) (l : j ≤ k) : Sz k r := ⟨h.num.mono l, h.den.mono l⟩
theorem gcd_dvd_le {a : Int} {b : Int} (h : 0 < b) : Int.gcd a b ≤ b.natAbs := Nat.le_of_dvd (by omega) (Nat.gcd_dvd_right _ _)
theorem gcd_pos {a b : Int} (h : 0 < b) : 0 < Int.gcd a b := Nat.gcd_pos_of_pos_right _ (by omega)
/-- t / l in its lowest terms -/
theorem rat_num {t l : Int} (h : 0 < l) : (Rat.divInt t l).num = t / (Int.gcd t l : Int) := by
  rw [Rat.num_divInt, Int.sign_eq_one_of_pos h, Int.one_mul, Int.gcd_comm]
theorem rat_den {t l : Int} (h : 0 < l) : ((Rat.divInt t l).den : Int) = l / (Int.gcd t l : Int) := by
  rw [Rat.den_divInt, if_neg (by omega), Int.gcd_comm, Int.natCast_ediv]
  congr 1
  omega
theorem bi_div {k : Nat} {t g : Int} (h : Bi k t) (hg : 0 < g) : Bi k (t / g) := by
  unfold Bi at *
  have : (t / g).natAbs ≤ t.natAbs := Int.natAbs_ediv_le_natAbs t g
  omega
theorem Sz.divInt {k : Nat} {t l : Int} (h : 0 < l) (ht : Bi k t) (hl : Bi k l) : Sz k (Rat.divInt t l) := by
  have hg : (0 : Int) < (Int.gcd t l : Int) := by
    have := gcd_pos (a := t) h
    omega
  exact ⟨by rw [rat_num h]; exact bi_div ht hg, by rw [rat_den h]; exact bi_div hl hg⟩
theorem den_pos' (r : Rat) : (0 : Int) < (r.den : Int) := by
  have := r.den_pos
  omega
theorem divInt_self' (r : Rat) : Rat.divInt r.num r.den = r := Rat.num_divInt_den r
theorem add_divInt (a b : Rat) : a + b = Rat.divInt (a.num * b.den + b.num * a.den) (a.den * b.den) := by
  have h1 : (a.den : Int) ≠ 0 := by have := den_pos' a; omega
  have h2 : (b.den : Int) ≠ 0 := by have := den_pos' b; omega
  have := Rat.divInt_add_divInt a.num b.num h1 h2
  rw [divInt_self', divInt_self'] at this
  exact this
theorem sub_divInt (a b : Rat) : a - b = Rat.divInt (a.num * b.den - b.num * a.den) (a.den * b.den) := by
  have h1 : (a.den : Int) ≠ 0 := by have := den_pos' a; omega
  have h2 : (b.den : Int) ≠ 0 := by have := den_pos' b; omega
  have := Rat.divInt_sub_divInt a.num b.num h1 h2
  rw [divInt_self', divInt_self'] at this
  exact this
theorem mul_divInt (a b : Rat) : a * b = Rat.divInt (a.num * b.num) (a.den * b.den) := by
  have := Rat.divInt_mul_divInt a.num b.num (d₁ := a.den) (d₂ := b.den)
  rw [divInt_self', divInt_self'] at this
  exact this
theorem mul_pos' {a b : Int} (ha : 0 < a) (hb : 0 < b) : 0 < a * b := Int.mul_pos ha hb
theorem Sz.add {j k : Nat} {a b : Rat} (ha : Sz j a) (hb : Sz k b) : Sz (j + k + 1) (a + b) := by
  rw [add_divInt]
  refine Sz.divInt (mul_pos' (den_pos' a) (den_pos' b)) ?_ ((ha.den.mul hb.den).mono (by omega))
  exact ((ha.num.mul hb.den).add (hb.num.mul ha.den)).mono (by omega)
theorem Sz.sub {j k : Nat} {a b : Rat} (ha : Sz j a) (hb : Sz k b) : Sz (j + k + 1) (a - b) := by
  rw [sub_divInt]
  refine Sz.divInt (mul_pos' (den_pos' a) (den_pos' b)) ?_ ((ha.den.mul hb.den).mono (by omega))
  exact ((ha.num.mul hb.den).sub (hb.num.mul ha.den)).mono (by omega)
theorem Sz.mul {j k : Nat} {a b : Rat} (ha : Sz j a) (hb : Sz k b) : Sz (j + k) (a * b) := by
  rw [mul_divInt]
  exact Sz.divInt (mul_pos' (den_pos' a) (den_pos' b)) (ha.num.mul hb.num) (ha.den.mul hb.den)
theorem lt_cross (a b : Rat) : (a.num * b.den < b.num * a.den) ↔ a < b := (Rat.lt_iff a b).symm
/-! ### equal data -/
mutual
/-- ints, None, lists and tuples of them -/
def numD : D → Bool
  | .none => true
  | .int _ => true
  | .list xs => numDs xs
  | .tuple xs => numDs xs
  | _ => false
def numDs : List D → Bool
  | [] => true
  | x :: xs => numD x && numDs xs
end
mutual
theorem eqv_num : ∀ {d e : D}, numD d = true → numD e = true → (PyData.eqv d e = true ↔ d = e)
  | .none, e, _, h => by cases e <;> simp [PyData.eqv, numD] at *
  | .int i, e, _, h => by cases e <;> simp [PyData.eqv, numD] at *
  | .list xs, e, h, h' => by
    cases e <;> simp [PyData.eqv, numD] at *
    exact eqv_nums h h'
  | .tuple xs, e, h, h' => by
    cases e <;> simp [PyData.eqv, numD] at *
    exact eqv_nums h h'
  | .bool _, _, h, _ | .str _, _, h, _ | .dict _, _, h, _ => by simp [numD] at h
theorem eqv_nums : ∀ {d e : List D}, numDs d = true → numDs e = true → (PyData.eqvAll d e = true ↔ d = e)
  | [], e, _, h => by cases e <;> simp [PyData.eqvAll]
  | x :: xs, [], _, h => by simp [PyData.eqvAll]
  | x :: xs, y :: ys, h, h' => by
    simp only [numDs, Bool.and_eq_true] at h h'
    simp only [PyData.eqvAll, Bool.and_eq_true, eqv_num h.1 h'.1, eqv_nums h.2 h'.2, List.cons.injEq]
end
mutual
theorem canLay_num : ∀ {d : D}, numD d = true → PyData.canLay0 d = true
  | .none, _ => by simp [PyData.canLay0]
  | .int i, _ => by simp [PyData.canLay0]
  | .list xs, h => by
    simp only [numD] at h
    simp only [PyData.canLay0]
    exact canLay_nums h
  | .tuple xs, h => by
    simp only [numD] at h
    simp only [PyData.canLay0]
    exact canLay_nums h
  | .bool _, h | .str _, h | .dict _, h => by simp [numD] at h
theorem canLay_nums : ∀ {d : List D}, numDs d = true → PyData.canLayAll0 d = true
  | [], _ => by simp [PyData.canLayAll0]
  | x :: xs, h => by
    simp only [numDs, Bool.and_eq_true] at h
    simp only [PyData.canLayAll0, Bool.and_eq_true]
    exact ⟨canLay_num h.1, canLay_nums h.2⟩
end
/-- numbers, nested at most so deep -/
structure Nm (k : Nat) (d : D) : Prop where
  num : numD d = true
  dep : d.depth ≤ k
theorem Nm.shaped {k : Nat} {d : D} (h : Nm k d) (hk : k ≤ 64 := by decide) : SeqAt.shaped d = true := by
  unfold SeqAt.shaped
  rw [canLay_num h.num]
  exact decide_eq_true (Nat.le_trans h.dep hk)
theorem Nm.okEq {j k : Nat} {d e : D} (h : Nm j d) (h' : Nm k e) (hj : j ≤ 64 := by decide) (hk : k ≤ 64 := by decide) : okEq d e := ⟨h.shaped hj, h'.shaped hk⟩
theorem Nm.int (i : Int) : Nm 0 (.int i) := ⟨rfl, Nat.le_refl _⟩
theorem Nm.mono {j k : Nat} {d : D} (h : Nm j d) (l : j ≤ k) : Nm k d := ⟨h.num, Nat.le_trans h.dep l⟩
structure Nms (k : Nat) (d : List D) : Prop where
  num : numDs d = true
  dep : PyData.depthAll d ≤ k
theorem Nms.nil {k : Nat} : Nms k [] := ⟨rfl, by simp [PyData.depthAll]⟩
theorem Nms.cons {k : Nat} {d : D} {ds : List D} (h : Nm k d) (t : Nms k ds) : Nms k (d :: ds) := ⟨by simp [numDs, h.num, t.num], by simp only [PyData.depthAll]; exact Nat.max_le.mpr ⟨h.dep, t.dep⟩⟩
theorem Nms.of {k : Nat} : ∀ {ds : List D}, (∀ d ∈ ds, Nm k d) → Nms k ds
  | [], _ => .nil
  | d :: ds, h => .cons (h d List.mem_cons_self) (Nms.of fun x hx => h x (List.mem_cons_of_mem _ hx))
theorem Nms.tup {k : Nat} {ds : List D} (h : Nms k ds) : Nm (k + 1) (.tuple ds) := ⟨h.num, by simp only [PyData.depth]; exact Nat.succ_le_succ h.dep⟩
theorem Nms.lst {k : Nat} {ds : List D} (h : Nms k ds) : Nm (k + 1) (.list ds) := ⟨h.num, by simp only [PyData.depth]; exact Nat.succ_le_succ h.dep⟩
theorem Nm.fr (t l : Int) : Nm 1 (fr t l) := (Nms.cons (.int t) (.cons (.int l) .nil)).tup
theorem okEq_int (i j : Int) : okEq (.int i) (.int j) := (Nm.int i).okEq (Nm.int j)
theorem eqv_int (i j : Int) : (PyData.eqv (.int i) (.int j) = true) = (i = j) := propext (by rw [eqv_num rfl rfl]; exact ⟨fun h => by cases h; rfl, fun h => by rw [h]⟩)
theorem eqv_intB (i j : Int) : PyData.eqv (.int i) (.int j) = decide (i = j) := by
  by_cases h : i = j
  · subst h
    rw [decide_eq_true rfl]
    exact (eqv_num rfl rfl).mpr rfl
  · rw [decide_eq_false h]
    exact Bool.eq_false_iff.mpr fun z => h (by rw [eqv_int] at z; exact z)
theorem frq_inj {a b : Rat} : frq a = frq b ↔ a = b := by
  constructor
  · intro h
    have h' : a.num = b.num ∧ (a.den : Int) = b.den := by simpa [frq, fr] using h
    exact Rat.ext h'.1 (by omega)
  · rintro rfl; rfl
theorem eqv_frq (a b : Rat) : PyData.eqv (frq a) (frq b) = decide (a = b) := by
  by_cases h : a = b
  · subst h
    rw [decide_eq_true rfl]
    exact (eqv_num rfl rfl).mpr rfl
  · rw [decide_eq_false h]
    exact Bool.eq_false_iff.mpr fun z => h (frq_inj.mp ((eqv_num rfl rfl).mp z))
end FQ

/-! FR: defs that most laws share: what each gives, and that its reading gives it -/
namespace FQ
open PySem PySem.Spec PyProof.Rows L2 DL
/-! ### the pot of draws -/
/-- [digits left, seed, how often the seed was asked]: at most c times -/
def PotA (c : Nat) (sl : Sl) : Prop := ∃ own seed k : Int, sl = .own [.int own, .int seed, .int k] ∧ 0 ≤ own ∧ 0 ≤ seed ∧ seed < 2 ^ 61 ∧ 0 ≤ k ∧ k ≤ c
theorem PotA.mono {c c' : Nat} {sl : Sl} (h : PotA c sl) (l : c ≤ c') : PotA c' sl := by
  obtain ⟨a, b, k, e, h1, h2, h3, h4, h5⟩ := h
  exact ⟨a, b, k, e, h1, h2, h3, h4, by omega⟩
def sp__law_take : DSp := fun as Q => ∃ (c : Nat) (pot : Sl) (upto : Int), as = [pot, .val (.int upto)] ∧ PotA c pot ∧ c < 100000 ∧ 1 ≤ upto ∧ upto ≤ 100000 ∧ ∀ d pot', 0 ≤ d → d < upto → PotA (c + 1) pot' → Q (.val (.int d)) [pot', .val (.int upto)]
def dTake (k1 k2 k3 k4 k5 : Int) : DS := sSeq (sIf (dTest (dOp fGt (dOpNs fIx 0 (dC (.int 0))) (dC (.int 0))))
  (sSeq (sSet 2 (dVal (dOp fMod (dCB fInt (dCons (dOpNs fIx 0 (dC (.int 0))) (dNil))) (dName 1))))
  (sSeq (sAsg (dOp fDiv (dOpNs fIx 0 (dC (.int 0))) (dName 1)) (dgSub 0 (dC (.int 0))))
  (sRetN 2)))
  (sNext))
  (sSeq (sAsg (dOp fAdd (dOpNs fIx 0 (dC (.int 2))) (dC (.int 1))) (dgSub 0 (dC (.int 2))))
  (sSeq (sSet 3 (dVal (dOp fIx (dFrz (dLst (dCons (dC (.int 2147483647)) (dCons (dC (.int 2147483629)) (dCons (dC (.int 2147483587)) (dCons (dC (.int 2147483579)) (dCons (dC (.int 2147483563)) (dNil)))))))) (dOp fMod (dCB fInt (dCons (dOpNs fIx 0 (dC (.int 2))) (dNil))) (dC (.int 5))))))
  (sSeq (sSet 4 (dVal (dOp fMod (dCB fInt (dCons (dOp fPowW (dCB fInt (dCons (dOp fAdd (dOp fAdd (dOpNs fIx 0 (dC (.int 1))) (dOp fMul (dOp fMul (dC (.int k1)) (dOpNs fIx 0 (dC (.int 2)))) (dOpNs fIx 0 (dC (.int 2))))) (dC (.int k2))) (dNil))) (dC (.int 3))) (dNil))) (dName 3))))
  (sSeq (sSet 4 (dVal (dOp fMod (dCB fInt (dCons (dOp fMul (dName 4) (dOp fAdd (dOp fMod (dCBN fInt 4) (dC (.int k3))) (dOp fMul (dC (.int k4)) (dOpNs fIx 0 (dC (.int 2)))))) (dNil))) (dC (.int 2305843009213693907)))))
  (sRet (dVal (dOp fMod (dCB fInt (dCons (dOp fDiv (dName 4) (dC (.int k5))) (dNil))) (dName 1))))))))
theorem at_5 {i : Int} (h0 : 0 ≤ i) (h5 : i < 5) : ∃ p : Int, at' [PyData.int 2147483647, .int 2147483629, .int 2147483587, .int 2147483579, .int 2147483563] i = some (.int p) ∧ 2147483563 ≤ p ∧ p ≤ 2147483647 := by
  have : i = 0 ∨ i = 1 ∨ i = 2 ∨ i = 3 ∨ i = 4 := by omega
  rcases this with rfl | rfl | rfl | rfl | rfl <;> exact ⟨_, rfl, by decide, by decide⟩
theorem i_take {k1 k2 k3 k4 k5 : Int} (h1 : 0 ≤ k1 ∧ k1 < 1000000) (h2 : 0 ≤ k2 ∧ k2 < 1000000) (h3 : 0 < k3 ∧ k3 < 1000000) (h4 : 0 ≤ k4 ∧ k4 < 1000000) (h5 : 0 < k5 ∧ k5 < 1000000) : ∀ as Q, sp__law_take as Q → fnSpec [0, 1] 2 3 (dTake k1 k2 k3 k4 k5) as Q := by
  rintro as Q ⟨c, pot, upto, rfl, ⟨own, seed, k, rfl, o0, s0, s1, k0, kc⟩, hc, u1, u2, h⟩
  have bu : Bi 17 upto := .of_le 100000 (by omega)
  dsimp! [dTake]
  by_cases ho : 0 < own
  · rw [if_pos ho]
    refine ⟨by omega, bu.okDiv (by omega), h _ _ (Int.emod_nonneg _ (by omega)) (Int.emod_lt_of_pos _ (by omega)) ⟨_, _, _, rfl, Int.ediv_nonneg o0 (by omega), s0, s1, k0, by omega⟩⟩
  · rw [if_neg ho]
    obtain ⟨p, ep, p0, p1⟩ := at_5 (i := (k + 1) % 5) (by omega) (by omega)
    dsimp! [ep]
    have b1 : Bi 20 k1 := .of_le 1000000 (by omega)
    have b2 : Bi 20 k2 := .of_le 1000000 (by omega)
    have b3 : Bi 20 k3 := .of_le 1000000 (by omega)
    have b4 : Bi 20 k4 := .of_le 1000000 (by omega)
    have b5 : Bi 20 k5 := .of_le 1000000 (by omega)
    have bk : Bi 17 (k + 1) := .of_le 100000 (by omega)
    have bs : Bi 61 seed := by unfold Bi; omega
    have m1 := b1.mul bk
    have m2 := m1.mul bk
    have m3 := (bs.add m2).add b2
    have hx : Bi 31 ((seed + k1 * (k + 1) * (k + 1) + k2) ^ 3 % p) := by
      have h1 := Int.emod_nonneg ((seed + k1 * (k + 1) * (k + 1) + k2) ^ 3) (show p ≠ 0 by omega)
      have h2 := Int.emod_lt_of_pos ((seed + k1 * (k + 1) * (k + 1) + k2) ^ 3) (show 0 < p by omega)
      unfold Bi
      omega
    generalize hX : (seed + k1 * (k + 1) * (k + 1) + k2) ^ 3 % p = x at hx
    have hy : Bi 20 (x % k3) := by
      have h1 := Int.emod_nonneg x (show k3 ≠ 0 by omega)
      have h2 := Int.emod_lt_of_pos x (show 0 < k3 by omega)
      unfold Bi
      omega
    have m4 := hy.add (b4.mul bk)
    refine ⟨b1.okMul bk, m1.okMul bk, ⟨by decide, ?_⟩, by omega, h3.1, b4.okMul bk, hx.okMul m4, b5.okDiv h5.1, by omega, h _ _ (Int.emod_nonneg _ (by omega)) (Int.emod_lt_of_pos _ (by omega)) ⟨_, _, _, rfl, o0, s0, s1, by omega, by omega⟩⟩
    have := (m3.mono (k := 70) (by decide)).log
    omega
/-! ### the other small defs of a law -/
def sp__law_of : DSp := fun as Q => ∃ (c : Nat) (pot : Sl) (xs : List D) (d0 : D), as = [pot, .val d0] ∧ itemsOf d0 = some xs ∧ PotA c pot ∧ c < 100000 ∧ 1 ≤ xs.length ∧ xs.length ≤ 100000 ∧ ∀ (i : Nat) x pot', xs[i]? = some x → PotA (c + 1) pot' → Q (.val x) [pot', .val d0]
def d__law_of : DS := sRet (dVal (dOpNs fIx 1 (dFrz (dCall sp__law_take (arS 0 (arV (dCBN fLen 1) (arNil)))))))
theorem i__law_of : ∀ as Q, sp__law_of as Q → fnSpec [0, 1] 2 0 d__law_of as Q := by
  rintro as Q ⟨c, pot, xs, d0, rfl, e0, hp, hc, h1, h2, h⟩
  have hp' := hp
  obtain ⟨own, seed, k, rfl, hh⟩ := hp'
  have body : ∀ d0 : D, (d0 = .list xs ∨ d0 = .tuple xs) → (∀ (i : Nat) x pot', xs[i]? = some x → PotA (c + 1) pot' → Q (.val x) [pot', .val d0]) → fnSpec [0, 1] 2 0 d__law_of [.own [.int own, .int seed, .int k], .val d0] Q := by
    rintro d0 (rfl | rfl) h <;> {
      dsimp! [d__law_of]
      refine ⟨c, _, _, rfl, hp, hc, by omega, by omega, fun d pot' d0 d1 hp2 => ?_⟩
      obtain ⟨n, rfl⟩ := Int.eq_ofNat_of_zero_le d0
      have hn : n < xs.length := by omega
      dsimp! [List.getElem?_eq_getElem hn]
      obtain ⟨own', seed', k', rfl, hh'⟩ := id hp2
      exact h n _ _ (List.getElem?_eq_getElem hn) hp2 }
  cases d0 with
  | list ys => cases e0; exact body _ (.inl rfl) h
  | tuple ys => cases e0; exact body _ (.inr rfl) h
  | _ => cases e0
def sp__law_cells : DSp := fun as Q => ∃ (ns : List Int) (most : Nat), as = [.frn (ns.map .int), .val (.int most)] ∧ most ≤ 1000 ∧ ∀ m : Nat, m ≤ max 1 most → Q (.own (rangeD 0 m)) as
def d__law_cells : DS := sRet (dLRg (dCB fMax2 (dCons (dC (.int 1)) (dCons (dCB fMin2 (dCons (dName 1) (dCons (dCBN fLen 0) (dNil)))) (dNil)))))
theorem i__law_cells : ∀ as Q, sp__law_cells as Q → fnSpec [0, 1] 2 0 d__law_cells as Q := by
  rintro as Q ⟨ns, most, rfl, hm, h⟩
  dsimp! [d__law_cells]
  refine ⟨⟨by omega, by omega⟩, ?_⟩
  exact h _ (by omega)
def sp__law_cut : DSp := fun as Q => ∃ t l : Int, as = [.val (.int t), .val (.int l)] ∧ 0 < l ∧ Bi 8900 l ∧ Q (.val (frq (Rat.divInt t l))) as
def d__law_cut : DS := sSeq (sPar [2, 3] (drCons (dVal (dCBN fAbs 0)) (drCons (dVal (dName 1)) (drNil))))
  (sSeq (sWhile (dTest (dOp fNe (dName 3) (dC (.int 0))))
  (sPar [2, 3] (drCons (dVal (dName 3)) (drCons (dVal (dOp fMod (dName 2) (dName 3))) (drNil)))))
  (sRet (dVal (dTup (dCons (dCB fInt (dCons (dOp fDiv (dName 0) (dName 2)) (dNil))) (dCons (dCB fInt (dCons (dOp fDiv (dName 1) (dName 2)) (dNil))) (dNil)))))))
theorem i__law_cut : ∀ as Q, sp__law_cut as Q → fnSpec [0, 1] 2 2 d__law_cut as Q := by
  rintro as Q ⟨t, l, rfl, hl, bl, h⟩
  dsimp! [d__law_cut]
  refine ⟨fun m τ => ∃ x y : Nat, τ = [.val (.int t), .val (.int l), .val (.int x), .val (.int y)] ∧ Nat.gcd x y = Int.gcd t l ∧ m = y, ⟨_, t.natAbs, l.natAbs, by rw [Int.natAbs_of_nonneg (show 0 ≤ l by omega)], rfl, rfl⟩, ?_⟩
  rintro m _ ⟨x, y, rfl, hg, rfl⟩
  dsimp! [eqv_intB]
  refine ⟨okEq_int _ _, ?_⟩
  by_cases hy : m = 0
  · subst hy
    simp only [Int.natCast_zero, decide_true, Bool.not_true, Bool.false_eq_true, if_false]
    simp only [Nat.gcd_zero_right] at hg
    have hx : (0 : Int) < (x : Int) := by
      have := gcd_pos (a := t) hl
      omega
    have bx : Bi 8900 (x : Int) := by
      unfold Bi at *
      have := gcd_dvd_le (a := t) hl
      omega
    refine ⟨bx.okDiv hx, bx.okDiv hx, ?_⟩
    rw [hg]
    rw [frq, rat_num hl, rat_den hl] at h
    exact h
  · have hy' : ¬ ((m : Int) = 0) := by omega
    simp only [hy', decide_false, Bool.not_false, if_true]
    refine ⟨by omega, x % m, Nat.mod_lt _ (by omega), m, x % m, ⟨rfl, by omega⟩, ?_, rfl⟩
    rw [← hg, Nat.gcd_comm m, ← Nat.gcd_rec, Nat.gcd_comm]
/-! ### sums of fractions -/
def bin (f : Rat → Rat → Rat) : DSp := fun as Q => ∃ a b : Rat, as = [.val (frq a), .val (frq b)] ∧ Sz 4000 a ∧ Sz 4000 b ∧ Q (.val (frq (f a b))) as
abbrev sp__law_added : DSp := bin (· + ·)
abbrev sp__law_less : DSp := bin (· - ·)
abbrev sp__law_times : DSp := bin (· * ·)
def d__law_added : DS := sRet (dCall sp__law_cut (arV (dOp fAdd (dOp fMul (dOpNs fIx 0 (dC (.int 0))) (dOpNs fIx 1 (dC (.int 1)))) (dOp fMul (dOpNs fIx 1 (dC (.int 0))) (dOpNs fIx 0 (dC (.int 1))))) (arV (dOp fMul (dOpNs fIx 0 (dC (.int 1))) (dOpNs fIx 1 (dC (.int 1)))) (arNil))))
def d__law_less : DS := sRet (dCall sp__law_cut (arV (dOp fSub (dOp fMul (dOpNs fIx 0 (dC (.int 0))) (dOpNs fIx 1 (dC (.int 1)))) (dOp fMul (dOpNs fIx 1 (dC (.int 0))) (dOpNs fIx 0 (dC (.int 1))))) (arV (dOp fMul (dOpNs fIx 0 (dC (.int 1))) (dOpNs fIx 1 (dC (.int 1)))) (arNil))))
def d__law_times : DS := sRet (dCall sp__law_cut (arV (dOp fMul (dOpNs fIx 0 (dC (.int 0))) (dOpNs fIx 1 (dC (.int 0)))) (arV (dOp fMul (dOpNs fIx 0 (dC (.int 1))) (dOpNs fIx 1 (dC (.int 1)))) (arNil))))
theorem Sz.okNN {a b : Rat} (ha : Sz 4000 a) (hb : Sz 4000 b) : okMul a.num b.num := ha.num.okMul hb.num
theorem Sz.okND {a b : Rat} (ha : Sz 4000 a) (hb : Sz 4000 b) : okMul a.num b.den := ha.num.okMul hb.den
theorem Sz.okDD {a b : Rat} (ha : Sz 4000 a) (hb : Sz 4000 b) : okMul a.den b.den := ha.den.okMul hb.den
theorem i__law_added : ∀ as Q, sp__law_added as Q → fnSpec [0, 1] 2 0 d__law_added as Q := by
  rintro as Q ⟨a, b, rfl, ha, hb, h⟩
  dsimp! [d__law_added]
  refine ⟨ha.okND hb, hb.okND ha, ha.okDD hb, _, _, rfl, mul_pos' (den_pos' a) (den_pos' b), (ha.den.mul hb.den).mono (by decide), ?_⟩
  rw [← add_divInt]
  exact h
theorem i__law_less : ∀ as Q, sp__law_less as Q → fnSpec [0, 1] 2 0 d__law_less as Q := by
  rintro as Q ⟨a, b, rfl, ha, hb, h⟩
  dsimp! [d__law_less]
  refine ⟨ha.okND hb, hb.okND ha, ha.okDD hb, _, _, rfl, mul_pos' (den_pos' a) (den_pos' b), (ha.den.mul hb.den).mono (by decide), ?_⟩
  rw [← sub_divInt]
  exact h
theorem i__law_times : ∀ as Q, sp__law_times as Q → fnSpec [0, 1] 2 0 d__law_times as Q := by
  rintro as Q ⟨a, b, rfl, ha, hb, h⟩
  dsimp! [d__law_times]
  refine ⟨ha.okNN hb, ha.okDD hb, _, _, rfl, mul_pos' (den_pos' a) (den_pos' b), (ha.den.mul hb.den).mono (by decide), ?_⟩
  rw [← mul_divInt]
  exact h
def sp__law_is_below : DSp := fun as Q => ∃ a b : Rat, as = [.val (frq a), .val (frq b)] ∧ Sz 4000 a ∧ Sz 4000 b ∧ Q (.val (.bool (decide (a < b)))) as
def d__law_is_below : DS := sRet (dVal (dOp fLt (dOp fMul (dOpNs fIx 0 (dC (.int 0))) (dOpNs fIx 1 (dC (.int 1)))) (dOp fMul (dOpNs fIx 1 (dC (.int 0))) (dOpNs fIx 0 (dC (.int 1))))))
theorem i__law_is_below : ∀ as Q, sp__law_is_below as Q → fnSpec [0, 1] 2 0 d__law_is_below as Q := by
  rintro as Q ⟨a, b, rfl, ha, hb, h⟩
  dsimp! [d__law_is_below]
  refine ⟨ha.okND hb, hb.okND ha, ?_⟩
  rw [decide_eq_decide.mpr (lt_cross a b)]
  exact h
/-- the sum of a row of fractions -/
def sumR (qs : List Rat) : Rat := qs.foldl (· + ·) 0
/-- all sums on the way are small -/
def SzAll (k : Nat) (qs : List Rat) : Prop := (∀ q ∈ qs, Sz k q) ∧ ∀ n, Sz k ((qs.take n).foldl (· + ·) 0)
def sp__law_total : DSp := fun as Q => ∃ (qs : List Rat) (d0 : D), as = [.val d0] ∧ itemsOf d0 = some (qs.map frq) ∧ SzAll 4000 qs ∧ Q (.val (frq (sumR qs))) as
def d__law_total : DS := sSeq (sSet 1 (dVal (dTup (dCons (dC (.int 0)) (dCons (dC (.int 1)) (dNil))))))
  (sSeq (sFor (diV (dName 0)) (dgName 2)
  (sSet 1 (dCall sp__law_added (arV (dName 1) (arV (dName 2) (arNil))))))
  (sRetN 1))
theorem items_cases {d : D} {xs : List D} (h : itemsOf d = some xs) : d = .list xs ∨ d = .tuple xs := by
  cases d with
  | list ys => cases h; exact .inl rfl
  | tuple ys => cases h; exact .inr rfl
  | _ => cases h
theorem for_total {d0 : D} {D0 : DEnds} {Q : Rat → Prop} (hQ : ∀ (r : Rat) (x : Sl), Q r → D0.nx [.val d0, .val (frq r), x]) : ∀ (qs : List Rat) (acc : Rat) (x : Sl), (∀ q ∈ qs, Sz 4000 q) → (∀ n, Sz 4000 ((qs.take n).foldl (· + ·) acc)) → Q (qs.foldl (· + ·) acc) →
    forGo (dgName 2) (sSet 1 (dCall sp__law_added (arV (dName 1) (arV (dName 2) (arNil))))) D0 (qs.map frq) [.val d0, .val (frq acc), x]
  | [], acc, x, _, _, h => hQ _ _ h
  | q :: qs, acc, x, h1, h2, h => by
    dsimp! []
    refine ⟨acc, q, rfl, h2 0, h1 q List.mem_cons_self, ?_⟩
    dsimp! []
    exact for_total hQ qs (acc + q) _ (fun r hr => h1 r (List.mem_cons_of_mem _ hr)) (fun n => h2 (n + 1)) h
theorem i__law_total : ∀ as Q, sp__law_total as Q → fnSpec [0] 1 2 d__law_total as Q := by
  rintro as Q ⟨qs, d0, rfl, e0, ⟨h1, h2⟩, h⟩
  have go : ∀ d0 : D, itemsOf d0 = some (qs.map frq) → Q (.val (frq (sumR qs))) [.val d0] → fnSpec [0] 1 2 d__law_total [.val d0] Q := fun d0 e h => by
    have e0 : (fr 0 1) = frq 0 := rfl
    dsimp! [d__law_total]
    rcases items_cases e with rfl | rfl <;> {
    dsimp! []
    exact for_total (Q := fun r => Q (.val (frq r)) [.val _]) (fun r x hr => by dsimp! []; exact hr) qs 0 _ h1 h2 h }
  exact go d0 e0 h
/-! ### numbers -/
def sp_is_integer : DSp := fun as Q => ∃ i, as = [.val (.int i)] ∧ Q (.val (.bool true)) as
def d_is_integer : DS := sRet (dVal (dAndV (dIsi "int" (dName 0)) (dNotV (dIsi "bool" (dName 0)))))
theorem i_is_integer : ∀ as Q, sp_is_integer as Q → fnSpec [0] 1 0 d_is_integer as Q := by
  rintro as Q ⟨i, rfl, h⟩
  dsimp! [d_is_integer]
  simpa using h
def sp_common : DSp := fun as Q => ∃ a b, as = [.val (.int a), .val (.int b)] ∧ Q (.val (.int (Int.gcd a b))) as
def d_common : DS := sSeq (sPar [0, 1] (drCons (dVal (dCBN fAbs 0)) (drCons (dVal (dCBN fAbs 1)) (drNil))))
  (sSeq (sWhile (dTest (dOp fGt (dName 1) (dC (.int 0))))
  (sPar [0, 1] (drCons (dVal (dName 1)) (drCons (dVal (dOp fMod (dName 0) (dName 1))) (drNil)))))
  (sRetN 0))
theorem i_common : ∀ as Q, sp_common as Q → fnSpec [] 2 0 d_common as Q := by
  rintro as Q ⟨a, b, rfl, h⟩
  dsimp! [d_common]
  refine ⟨fun m τ => ∃ x y : Nat, τ = [.val (.int x), .val (.int y)] ∧ Nat.gcd x y = Int.gcd a b ∧ m = y, ⟨_, _, _, rfl, rfl, rfl⟩, ?_⟩
  rintro m _ ⟨x, y, rfl, hg, rfl⟩
  dsimp! []
  by_cases hm : (0 : Int) < (m : Int)
  · rw [if_pos hm]
    refine ⟨hm, x % m, Nat.mod_lt _ (by omega), m, x % m, ⟨rfl, by omega⟩, ?_, rfl⟩
    rw [← hg, Nat.gcd_comm m, ← Nat.gcd_rec, Nat.gcd_comm]
  · rw [if_neg hm]
    have : m = 0 := by omega
    subst this
    rw [Nat.gcd_zero_right] at hg
    rw [hg]
    exact h
theorem cl_is_integer (i : Int) (Q : Res → List Sl → Prop) : sp_is_integer [.val (.int i)] Q = Q (.val (.bool true)) [.val (.int i)] := propext ⟨fun ⟨_, e, h⟩ => by cases e; exact h, fun h => ⟨_, rfl, h⟩⟩
theorem cl_common (a b : Int) (Q : Res → List Sl → Prop) : sp_common [.val (.int a), .val (.int b)] Q = Q (.val (.int (Int.gcd a b))) [.val (.int a), .val (.int b)] := propext ⟨fun ⟨_, _, e, h⟩ => by cases e; exact h, fun h => ⟨_, _, rfl, h⟩⟩
def sp_is_told_fraction : DSp := fun as Q => ∃ r : Rat, as = [.val (frq r)] ∧ Q (.val (.bool true)) as
def d_is_told_fraction : DS := sSeq (sIf (dOr (dNot (dTest (dIsi "tuple" (dName 0)))) (dOr (dTest (dOp fNe (dCBN fLen 0) (dC (.int 2)))) (dNot (dTest (dCB fAll (dCons (dFrz (dLc [1] (diV (dName 0)) (dgName 1) (dtYes) (dFrz (dCall sp_is_integer (arV (dName 1) (arNil)))))) (dNil)))))))
  (sRet (dVal (dC (.bool false))))
  (sNext))
  (sRet (dVal (dAndV (dOp fGt (dOpNs fIx 0 (dC (.int 1))) (dC (.int 0))) (dOp fEq (dFrz (dCall sp_common (arV (dOpNs fIx 0 (dC (.int 0))) (arV (dOpNs fIx 0 (dC (.int 1))) (arNil))))) (dC (.int 1))))))
theorem gcd_frq (r : Rat) : Int.gcd r.num r.den = 1 := by
  have := r.reduced
  unfold Nat.Coprime at this
  unfold Int.gcd
  rw [Int.natAbs_natCast]
  exact this
theorem i_is_told_fraction : ∀ as Q, sp_is_told_fraction as Q → fnSpec [0] 1 1 d_is_told_fraction as Q := by
  rintro as Q ⟨r, rfl, h⟩
  dsimp! [d_is_told_fraction, lcGo, eqv_intB, cl_is_integer, cl_common, okEq_int, boolsOf, Option.map_some, List.all_cons, List.all_nil, id]
  rw [if_pos (den_pos' r), gcd_frq]
  exact h
/-! ### the pot -/
def sp__law_pot : DSp := fun as Q => ∃ (ns : List Int) (place : Nat), as = [.frn (ns.map .int), .val (.int place)] ∧ place ≤ 1000 ∧ ∀ ds, PotA 0 (.own ds) → Q (.own ds) as
def dPot (c1 c2 c3 c4 c5 : Int) : DS := sSeq (sSet 2 (dVal (dIf (dTest (dOp fLt (dName 1) (dCBN fLen 0))) (dOpNs fIx 0 (dName 1)) (dOp fAdd (dOp fAdd (dOp fMod (dCB fSum (dCons (dFrz (dSlL 0 (oNone) (oSome (dC (.int 1))))) (dNil))) (dC (.int 1000003))) (dOp fMul (dC (.int c1)) (dName 1))) (dC (.int c2))))))
  (sSeq (sSet 3 (dVal (dOp fMul (dOp fMod (dCB fInt (dCons (dCBN fAbs 2) (dNil))) (dOp fPowW (dOp fPowW (dC (.int 10)) (dC (.int 60))) (dC (.int 5)))) (dCB fInt (dCons (dOp fGe (dCBN fAbs 2) (dOp fPowW (dC (.int 10)) (dC (.int 18)))) (dNil))))))
  (sSeq (sSet 4 (dVal (dOp fMod (dCBN fInt 2) (dC (.int 2305843009213693951)))))
  (sRet (dLst (dCons (dName 3) (dCons (dOp fMod (dCB fInt (dCons (dOp fAdd (dOp fAdd (dOp fMul (dName 4) (dC (.int c3))) (dOp fMul (dOp fMul (dC (.int c4)) (dName 1)) (dName 1))) (dC (.int c5))) (dNil))) (dC (.int 2305843009213693921))) (dCons (dC (.int 0)) (dNil))))))))
theorem cutD_map (ns : List Int) (lo hi : Option Int) : ∃ ms : List Int, DL.cutD (ns.map PyData.int) lo hi = ms.map PyData.int := by
  unfold DL.cutD
  exact ⟨(ns.drop _).take _, by rw [List.map_take, List.map_drop]⟩
theorem i_pot {c1 c2 c3 c4 c5 : Int} (h1 : Bi 20 c1) (h3 : Bi 20 c3) (h4 : Bi 20 c4) (h5 : Bi 20 c5) : ∀ as Q, sp__law_pot as Q → fnSpec [0, 1] 2 3 (dPot c1 c2 c3 c4 c5) as Q := by
  rintro as Q ⟨ns, place, rfl, hp, h⟩
  have bp : Bi 10 (place : Int) := .of_le 1000 (by omega)
  obtain ⟨ms, em⟩ := cutD_map ns none (some 1)
  dsimp! [dPot, em, intsOf_map, List.length_map]
  -- behind the cell
  have fin : ∀ i : Int, okPow 10 60 ∧ okPow (10 ^ 60) 5 ∧ 0 < ((10 : Int) ^ 60) ^ 5 ∧ okPow 10 18 ∧ okMul (↑i.natAbs % (10 ^ 60) ^ 5) (if (10 : Int) ^ 18 ≤ ↑i.natAbs then 1 else 0) ∧ okMul (i % 2305843009213693951) c3 ∧ okMul c4 ↑place ∧ okMul (c4 * ↑place) ↑place ∧
      Q (.own [PyData.int (↑i.natAbs % (10 ^ 60) ^ 5 * if (10 : Int) ^ 18 ≤ ↑i.natAbs then 1 else 0), PyData.int ((i % 2305843009213693951 * c3 + c4 * ↑place * ↑place + c5) % 2305843009213693921), PyData.int 0]) [Sl.frn (List.map PyData.int ns), Sl.val (PyData.int ↑place)] := fun i => by
    have p0 : (0 : Int) < ((10 : Int) ^ 60) ^ 5 := by decide +kernel
    have p1 : ((10 : Int) ^ 60) ^ 5 < 2 ^ 1000 := by decide +kernel
    have a0 : 0 ≤ (i.natAbs : Int) % (10 ^ 60) ^ 5 := Int.emod_nonneg _ (by omega)
    have a1 : (i.natAbs : Int) % (10 ^ 60) ^ 5 < (10 ^ 60) ^ 5 := Int.emod_lt_of_pos _ p0
    generalize (i.natAbs : Int) % (10 ^ 60) ^ 5 = x at a0 a1
    generalize ((10 : Int) ^ 60) ^ 5 = y at p0 p1 a1
    have bx : Bi 1000 x := by
      unfold Bi
      have : (x.natAbs : Int) < ((2 ^ 1000 : Nat) : Int) := by
        rw [Int.natAbs_of_nonneg a0]
        push_cast
        exact Int.lt_trans a1 p1
      exact Int.ofNat_lt.mp this
    have bi : Bi 61 (i % 2305843009213693951) := by
      have h1 := Int.emod_nonneg i (show (2305843009213693951 : Int) ≠ 0 by decide)
      have h2 := Int.emod_lt_of_pos i (show (0 : Int) < 2305843009213693951 by decide)
      unfold Bi
      omega
    have bt : Bi 1 (if (10 : Int) ^ 18 ≤ ↑i.natAbs then 1 else 0) := by unfold Bi; split <;> decide
    have s0 := Int.emod_nonneg (i % 2305843009213693951 * c3 + c4 * ↑place * ↑place + c5) (show (2305843009213693921 : Int) ≠ 0 by decide)
    have s1 := Int.emod_lt_of_pos (i % 2305843009213693951 * c3 + c4 * ↑place * ↑place + c5) (show (0 : Int) < 2305843009213693921 by decide)
    refine ⟨⟨by decide, by decide +kernel⟩, ⟨by decide, by decide +kernel⟩, p0, ⟨by decide, by decide +kernel⟩, bx.okMul bt, bi.okMul h3, h4.okMul bp, (h4.mul bp).okMul bp, h _ ⟨_, _, _, rfl, ?_, s0, by omega, by decide, by decide⟩⟩
    refine Int.mul_nonneg a0 ?_
    split <;> decide
  by_cases hl : (place : Int) < (ns.length : Int)
  · rw [if_pos hl]
    have hl' : place < ns.length := by omega
    refine ⟨_, by rw [List.getElem?_map, List.getElem?_eq_getElem hl']; rfl, fin _⟩
  · rw [if_neg hl]
    exact ⟨h1.okMul bp, fin _⟩
end FQ

/-! FL: rules for rows and loops, over data -/
namespace FQ
open PySem PySem.Spec PyProof.Rows L2 DL
section
variable {α : Type} {vs : List Nat} {g : DG} {t : DT} {el : DV} {Q : List D → SD → Prop} {τ0 : SD}
/-- a row of what each item gives, the slots as they were behind each -/
theorem lcGo_map (f h : α → D) : ∀ (l : List α) (acc : List D), (∀ a ∈ l, ∀ C : D → SD → Prop, C (h a) τ0 → g (f a) τ0 fun τ2 => el τ2 fun d τ4 => C d (wipeD τ4 vs)) →
    acc.length + l.length ≤ 100000 → Q (acc ++ l.map h) τ0 → lcGo vs g dtYes el Q (l.map f) acc τ0
  | [], acc, _, _, hq => by
    rw [List.map_nil, List.append_nil] at hq
    exact hq
  | a :: l, acc, hs, hl, hq => by
    have hlen : acc.length < 100000 := by simp only [List.length_cons] at hl; omega
    show g (f a) τ0 fun τ2 => dtYes τ2 fun k τ3 => if k = true then el τ3 fun d τ4 => acc.length < 100000 ∧ lcGo vs g dtYes el Q (l.map f) (acc ++ [d]) (wipeD τ4 vs) else lcGo vs g dtYes el Q (l.map f) acc (wipeD τ3 vs)
    simp only [dtYes, if_true]
    refine hs a List.mem_cons_self (fun d τ => acc.length < 100000 ∧ lcGo vs g dtYes el Q (l.map f) (acc ++ [d]) τ) ⟨hlen, ?_⟩
    refine lcGo_map f h l _ (fun b hb => hs b (List.mem_cons_of_mem _ hb)) (by simp only [List.length_append, List.length_cons, List.length_nil] at hl ⊢; omega) ?_
    rw [List.append_assoc]
    exact hq
theorem lcGo_filter (f h : α → D) (keep : α → Bool) : ∀ (l : List α) (acc : List D), (∀ a ∈ l, ∀ (C1 : D → SD → Prop) (C2 : SD → Prop), (keep a = true → C1 (h a) τ0) → (keep a = false → C2 τ0) → g (f a) τ0 fun τ2 => t τ2 fun k τ3 => if k = true then el τ3 fun d τ4 => C1 d (wipeD τ4 vs) else C2 (wipeD τ3 vs)) →
    acc.length + l.length ≤ 100000 → Q (acc ++ (l.filter keep).map h) τ0 → lcGo vs g t el Q (l.map f) acc τ0
  | [], acc, _, _, hq => by
    rw [List.filter_nil, List.map_nil, List.append_nil] at hq
    exact hq
  | a :: l, acc, hs, hl, hq => by
    have hlen : acc.length < 100000 := by simp only [List.length_cons] at hl; omega
    show g (f a) τ0 fun τ2 => t τ2 fun k τ3 => if k = true then el τ3 fun d τ4 => acc.length < 100000 ∧ lcGo vs g t el Q (l.map f) (acc ++ [d]) (wipeD τ4 vs) else lcGo vs g t el Q (l.map f) acc (wipeD τ3 vs)
    refine hs a List.mem_cons_self (fun d τ => acc.length < 100000 ∧ lcGo vs g t el Q (l.map f) (acc ++ [d]) τ) (fun τ => lcGo vs g t el Q (l.map f) acc τ) (fun hk => ⟨hlen, ?_⟩) fun hk => ?_
    · refine lcGo_filter f h keep l _ (fun b hb => hs b (List.mem_cons_of_mem _ hb)) (by simp only [List.length_append, List.length_cons, List.length_nil] at hl ⊢; omega) ?_
      rw [List.append_assoc]
      rw [List.filter_cons, if_pos hk] at hq
      exact hq
    · refine lcGo_filter f h keep l _ (fun b hb => hs b (List.mem_cons_of_mem _ hb)) (by simp only [List.length_cons] at hl; omega) ?_
      rw [List.filter_cons, if_neg (by rw [hk]; decide)] at hq
      exact hq
end
/-- a loop that keeps a state: what holds ahead of an item holds behind it -/
theorem forGo_inv {α β : Type} {g : DG} {body : DS} {D0 : DEnds} (f : α → D) (st : β → SD → Prop) (step : β → α → β) : ∀ (l : List α) (b : β) (τ : SD), st b τ →
    (∀ (p : List α) (a : α) (s : List α) (τ : SD) (C : SD → Prop), l = p ++ a :: s → st (p.foldl step b) τ → (∀ τ', st (step (p.foldl step b) a) τ' → C τ') → g (f a) τ fun τ2 => body { nx := C, rt := D0.rt, bk := D0.nx, ct := C } τ2) →
    (∀ τ', st (l.foldl step b) τ' → D0.nx τ') → forGo g body D0 (l.map f) τ
  | [], b, τ, h0, _, hq => hq τ h0
  | a :: l, b, τ, h0, hs, hq => by
    show g (f a) τ fun τ2 => body { nx := forGo g body D0 (l.map f), rt := D0.rt, bk := D0.nx, ct := forGo g body D0 (l.map f) } τ2
    exact hs [] a l τ _ rfl h0 fun τ' h' => forGo_inv f st step l (step b a) τ' h' (fun p a' s τ C e => hs (a :: p) a' s τ C (by rw [e]; rfl)) hq
theorem foldl_snoc {α : Type} : ∀ (l p : List α), l.foldl (fun p a => p ++ [a]) p = p ++ l
  | [], p => (List.append_nil p).symm
  | a :: l, p => by rw [List.foldl_cons, foldl_snoc l, List.append_assoc]; rfl
/-- the same by what was walked -/
theorem forGo_pre {α : Type} {g : DG} {body : DS} {D0 : DEnds} (f : α → D) (st : List α → SD → Prop) (l : List α) (τ : SD) (h0 : st [] τ)
    (hs : ∀ (p : List α) (a : α) (s : List α) (τ : SD) (C : SD → Prop), l = p ++ a :: s → st p τ → (∀ τ', st (p ++ [a]) τ' → C τ') → g (f a) τ fun τ2 => body { nx := C, rt := D0.rt, bk := D0.nx, ct := C } τ2)
    (hq : ∀ τ', st l τ' → D0.nx τ') : forGo g body D0 (l.map f) τ := by
  refine forGo_inv f st (fun p a => p ++ [a]) l [] τ h0 (fun p a s τ C e h hc => ?_) fun τ' h => hq τ' ?_
  · rw [foldl_snoc, List.nil_append] at h hc
    exact hs p a s τ C e h hc
  · rw [foldl_snoc, List.nil_append] at h
    exact h
theorem boolsOf_all {α : Type} (p : α → Bool) (l : List α) : boolsOf (l.map fun a => PyData.bool (p a)) = some (l.map p) := by
  have : l.map (fun a => PyData.bool (p a)) = (l.map p).map PyData.bool := by rw [List.map_map]; rfl
  rw [this, boolsOf_map]
theorem intsOf_all {α : Type} (p : α → Int) (l : List α) : intsOf (l.map fun a => PyData.int (p a)) = some (l.map p) := by
  have : l.map (fun a => PyData.int (p a)) = (l.map p).map PyData.int := by rw [List.map_map]; rfl
  rw [this, intsOf_map]
theorem cl_is_told (r : Rat) (Q : Res → List Sl → Prop) : sp_is_told_fraction [.val (frq r)] Q = Q (.val (.bool true)) [.val (frq r)] := propext ⟨fun ⟨q, e, h⟩ => by
  simp only [List.cons.injEq, Sl.val.injEq, and_true] at e
  rw [frq_inj] at e
  subst e
  exact h, fun h => ⟨_, rfl, h⟩⟩
end FQ

namespace FQ
open PySem PySem.Spec PyProof.Rows L2 DL
/-! ### data that repr can tell: depth at most `n`, weight at most `w` -/
structure Rp (n w : Nat) (d : D) : Prop where
  lay : PyData.canLay0 d = true
  dep : PyData.depth d ≤ n
  wt : PyData.weight d ≤ w
  shw : PyData.showable d = true
  lvs : PyData.leavesShort 2000 d = true
structure Rps (n w : Nat) (ds : List D) : Prop where
  lay : PyData.canLayAll0 ds = true
  dep : PyData.depthAll ds ≤ n
  wt : PyData.weightAll ds ≤ w
  shw : PyData.showableAll ds = true
  lvs : PyData.leavesShortAll 2000 ds = true
theorem Rp.mono {m n v w : Nat} {d : D} (h : Rp m v d) (l : m ≤ n) (k : v ≤ w) : Rp n w d := ⟨h.lay, Nat.le_trans h.dep l, Nat.le_trans h.wt k, h.shw, h.lvs⟩
theorem Rp.int {k : Nat} {i : Int} (h : Bi k i) (hk : k ≤ 1900 := by omega) : Rp 0 k (.int i) := by
  have hl : i.natAbs.log2 < 1920 := Nat.lt_of_le_of_lt h.log (by omega)
  refine ⟨rfl, Nat.le_refl _, ?_, ?_, ?_⟩
  · show (if i == 0 then 0 else i.natAbs.log2 + 1) ≤ k
    by_cases h0 : i = 0
    · rw [if_pos (beq_iff_eq.mpr h0)]; exact Nat.zero_le _
    · rw [if_neg (fun z => h0 (beq_iff_eq.mp z))]
      exact (Nat.log2_lt (by omega)).mpr h
  · show decide (i.natAbs.log2 < 1920) = true
    exact decide_eq_true hl
  · show decide ((PyData.shown (.int i)).length ≤ 2000) = true
    refine decide_eq_true ?_
    have := int_text_length_le (k := 1920) (by decide) hl
    show (Str.ofString (toString i)).length ≤ 2000
    rw [PySem.ofString_length]
    omega
theorem Rps.nil : Rps 0 0 [] := ⟨rfl, Nat.le_refl _, Nat.le_refl _, rfl, rfl⟩
theorem Rps.cons {n v w : Nat} {d : D} {ds : List D} (h : Rp n v d) (hs : Rps n w ds) : Rps n (v + 1 + w) (d :: ds) := by
  refine ⟨?_, ?_, ?_, ?_, ?_⟩
  · simp only [PyData.canLayAll0, h.lay, hs.lay, Bool.and_self]
  · simp only [PyData.depthAll]
    have := h.dep; have := hs.dep; omega
  · simp only [PyData.weightAll]
    have := h.wt; have := hs.wt; omega
  · simp only [PyData.showableAll, h.shw, hs.shw, Bool.and_self]
  · simp only [PyData.leavesShortAll, h.lvs, hs.lvs, Bool.and_self]
theorem Rps.mono {m n v w : Nat} {d : List D} (h : Rps m v d) (l : m ≤ n) (k : v ≤ w) : Rps n w d := ⟨h.lay, Nat.le_trans h.dep l, Nat.le_trans h.wt k, h.shw, h.lvs⟩
theorem Rps.map {α : Type} {n w : Nat} (f : α → D) : ∀ (l : List α), (∀ a ∈ l, Rp n w (f a)) → Rps n ((w + 1) * l.length) (l.map f)
  | [], _ => Rps.nil.mono (Nat.zero_le _) (Nat.zero_le _)
  | a :: l, h => (Rps.cons (h a List.mem_cons_self) (Rps.map f l fun b hb => h b (List.mem_cons_of_mem _ hb))).mono (Nat.le_refl _) (by rw [List.length_cons, Nat.mul_add]; omega)
theorem Rps.tup {n w : Nat} {ds : List D} (h : Rps n w ds) : Rp (n + 1) w (.tuple ds) := by
  refine ⟨?_, ?_, ?_, ?_, ?_⟩
  · simp only [PyData.canLay0, h.lay]
  · simp only [PyData.depth]
    have := h.dep; omega
  · simp only [PyData.weight]
    exact h.wt
  · simp only [PyData.showable, h.shw]
  · simp only [PyData.leavesShort, h.lvs]
theorem Rps.lst {n w : Nat} {ds : List D} (h : Rps n w ds) : Rp (n + 1) w (.list ds) := by
  refine ⟨?_, ?_, ?_, ?_, ?_⟩
  · simp only [PyData.canLay0, h.lay]
  · simp only [PyData.depth]
    have := h.dep; omega
  · simp only [PyData.weight]
    exact h.wt
  · simp only [PyData.showable, h.shw]
  · simp only [PyData.leavesShort, h.lvs]
theorem Rp.ok {n w : Nat} {d : D} (h : Rp n w d) : n ≤ 64 → w ≤ 8000 → (∃ xs, d = .tuple xs ∨ d = .list xs) → okRepr d := fun hn hw hd => by
  have := h.dep
  have hw2 := h.wt
  refine ⟨hd, h.shw, ?_, ?_⟩
  · have h1 : decide (PyData.depth d ≤ 64) = true := decide_eq_true (by omega)
    have h2 : decide (PyData.weight d ≤ 2 ^ 20) = true := decide_eq_true (by omega)
    show (PyData.canLay0 d && decide (PyData.depth d ≤ 64) && decide (PyData.weight d ≤ 2 ^ 20)) = true
    rw [h.lay, h1, h2]; rfl
  · have h3 := PyData.shown_le 2000 (by decide) d h.lvs
    rw [sizeLine_eq]
    have : (2000 + 2) * d.weight ≤ 2002 * 8000 := Nat.mul_le_mul_left _ (by omega)
    omega
theorem Rp.frq {k : Nat} {r : Rat} (h : Sz k r) (hk : k ≤ 1900 := by omega) : Rp 1 (2 * k + 2) (frq r) :=
  (Rps.cons (Rp.int h.num) (Rps.cons (Rp.int h.den) Rps.nil)).tup.mono (Nat.le_refl _) (by omega)
theorem Rp.ints {k : Nat} (l : List Int) (h : ∀ i ∈ l, Bi k i) (hk : k ≤ 1900 := by omega) : Rp 1 ((k + 1) * l.length) (.tuple (l.map .int)) :=
  (Rps.map PyData.int l fun i hi => Rp.int (h i hi)).tup
end FQ

/-! K28m: powers of fractions -/
namespace K28
open PySem FQ
/-! ### powers -/
theorem inv_one' : (1 : Rat)⁻¹ = 1 := by decide +kernel
theorem inv_mul' (a b : Rat) : (a * b)⁻¹ = a⁻¹ * b⁻¹ := by rw [Rat.inv_mul_rev, Rat.mul_comm]
theorem pow_add' (a : Rat) (m n : Nat) : a ^ (m + n) = a ^ m * a ^ n := by
  induction n with
  | zero => rw [Nat.add_zero, Rat.pow_zero, Rat.mul_one]
  | succ n ih => rw [← Nat.add_assoc, Rat.pow_succ, Rat.pow_succ, ih, Rat.mul_assoc]
theorem pow_mul' (a : Rat) (m n : Nat) : a ^ (m * n) = (a ^ m) ^ n := by
  induction n with
  | zero => rw [Nat.mul_zero, Rat.pow_zero, Rat.pow_zero]
  | succ n ih => rw [Nat.mul_succ, pow_add', ih, Rat.pow_succ]
theorem mul_pow' (a b : Rat) (n : Nat) : (a * b) ^ n = a ^ n * b ^ n := by
  induction n with
  | zero => rw [Rat.pow_zero, Rat.pow_zero, Rat.pow_zero, Rat.mul_one]
  | succ n ih => rw [Rat.pow_succ, Rat.pow_succ, Rat.pow_succ, ih]; grind
theorem one_pow' (n : Nat) : (1 : Rat) ^ n = 1 := by
  induction n with
  | zero => exact Rat.pow_zero 1
  | succ n ih => rw [Rat.pow_succ, ih, Rat.mul_one]
theorem inv_pow' (a : Rat) (n : Nat) : (a⁻¹) ^ n = (a ^ n)⁻¹ := by
  induction n with
  | zero => rw [Rat.pow_zero, Rat.pow_zero, inv_one']
  | succ n ih => rw [Rat.pow_succ, Rat.pow_succ, ih, inv_mul']
theorem zpow_cases (k : Int) : (∃ n : Nat, k = n) ∨ ∃ n : Nat, k = -(n : Int) := by
  rcases Int.le_total 0 k with h | h
  · exact .inl ⟨k.toNat, by omega⟩
  · exact .inr ⟨(-k).toNat, by omega⟩
theorem mul_zpow' (a b : Rat) (k : Int) : (a * b) ^ k = a ^ k * b ^ k := by
  rcases zpow_cases k with ⟨n, rfl⟩ | ⟨n, rfl⟩
  · simp only [Rat.zpow_natCast, mul_pow']
  · simp only [Rat.zpow_neg, Rat.zpow_natCast, mul_pow', inv_mul']
theorem one_zpow' (k : Int) : (1 : Rat) ^ k = 1 := by
  rcases zpow_cases k with ⟨n, rfl⟩ | ⟨n, rfl⟩
  · rw [Rat.zpow_natCast, one_pow']
  · rw [Rat.zpow_neg, Rat.zpow_natCast, one_pow', inv_one']
theorem inv_zpow' (a : Rat) (k : Int) : (a⁻¹) ^ k = (a ^ k)⁻¹ := by
  rcases zpow_cases k with ⟨n, rfl⟩ | ⟨n, rfl⟩
  · simp only [Rat.zpow_natCast, inv_pow']
  · simp only [Rat.zpow_neg, Rat.zpow_natCast, inv_pow']
theorem inv_zpow_neg (a : Rat) (k : Int) : (a⁻¹) ^ (-k) = a ^ k := by
  rw [Rat.zpow_neg, inv_zpow', Rat.inv_inv]
theorem zpow_mul_nat (a : Rat) (k : Int) (n : Nat) : a ^ (k * n) = (a ^ k) ^ n := by
  rcases zpow_cases k with ⟨m, rfl⟩ | ⟨m, rfl⟩
  · rw [← Int.natCast_mul, Rat.zpow_natCast, Rat.zpow_natCast, pow_mul']
  · rw [Int.neg_mul, Rat.zpow_neg, ← Int.natCast_mul, Rat.zpow_natCast, Rat.zpow_neg, Rat.zpow_natCast, pow_mul', inv_pow']
theorem zpow_mul' (a : Rat) (k m : Int) : a ^ (k * m) = (a ^ k) ^ m := by
  rcases zpow_cases m with ⟨n, rfl⟩ | ⟨n, rfl⟩
  · rw [zpow_mul_nat, Rat.zpow_natCast]
  · rw [Int.mul_neg, Rat.zpow_neg, zpow_mul_nat, Rat.zpow_neg, Rat.zpow_natCast]
/-! ### the side of 1 -/
def sgn (x : Rat) : Int := if 1 < x then 1 else if x < 1 then -1 else 0
theorem one_lt_mul {a b : Rat} (ha : 1 < a) (hb : 1 ≤ b) : 1 < a * b := by
  have h0 : (0 : Rat) < b := by grind
  have := (Rat.mul_lt_mul_right h0).mpr ha
  grind
theorem mul_lt_one {a b : Rat} (ha : a < 1) (h0 : 0 < a) (hb : b ≤ 1) (hb0 : 0 < b) : a * b < 1 := by
  have := (Rat.mul_lt_mul_right hb0).mpr ha
  grind
theorem one_lt_pow {a : Rat} (h : 1 < a) : ∀ {n : Nat}, 0 < n → 1 < a ^ n
  | 1, _ => by rw [Rat.pow_one]; exact h
  | n + 2, _ => by
    rw [Rat.pow_succ, Rat.mul_comm]
    have := one_lt_pow h (n := n + 1) (by omega)
    exact one_lt_mul h (by grind)
theorem pow_lt_one {a : Rat} (h0 : 0 < a) (h : a < 1) : ∀ {n : Nat}, 0 < n → a ^ n < 1
  | 1, _ => by rw [Rat.pow_one]; exact h
  | n + 2, _ => by
    rw [Rat.pow_succ, Rat.mul_comm]
    have := pow_lt_one h0 h (n := n + 1) (by omega)
    exact mul_lt_one h h0 (by grind) (Rat.pow_pos h0)
theorem sgn_gt {x : Rat} (h : 1 < x) : sgn x = 1 := if_pos h
theorem sgn_lt {x : Rat} (h : x < 1) : sgn x = -1 := by
  unfold sgn
  rw [if_neg (by grind), if_pos h]
theorem sgn_one : sgn 1 = 0 := by decide
theorem tri (x : Rat) : 1 < x ∨ x < 1 ∨ x = 1 := by
  by_cases h : 1 < x
  · exact .inl h
  · by_cases h2 : x < 1
    · exact .inr (.inl h2)
    · exact .inr (.inr (by grind))
theorem sgn_pow {x : Rat} (h0 : 0 < x) {n : Nat} (hn : 0 < n) : sgn (x ^ n) = sgn x := by
  rcases tri x with h | h | h
  · rw [sgn_gt h, sgn_gt (one_lt_pow h hn)]
  · rw [sgn_lt h, sgn_lt (pow_lt_one h0 h hn)]
  · rw [h, one_pow']
theorem inv_lt_one {x : Rat} (h : 1 < x) : x⁻¹ < 1 := by
  have h0 : (0 : Rat) < x := by grind
  have h1 : (0 : Rat) < x⁻¹ := Rat.inv_pos.mpr h0
  have h2 : x⁻¹ * x = 1 := Rat.inv_mul_cancel _ (by grind)
  have := (Rat.mul_lt_mul_left h1).mpr h
  grind
theorem one_lt_inv {x : Rat} (h0 : 0 < x) (h : x < 1) : 1 < x⁻¹ := by
  have h1 : (0 : Rat) < x⁻¹ := Rat.inv_pos.mpr h0
  have h2 : x⁻¹ * x = 1 := Rat.inv_mul_cancel _ (by grind)
  have := (Rat.mul_lt_mul_left h1).mpr h
  grind
theorem sgn_inv {x : Rat} (h0 : 0 < x) : sgn x⁻¹ = - sgn x := by
  rcases tri x with h | h | h
  · rw [sgn_gt h, sgn_lt (inv_lt_one h)]
  · rw [sgn_lt h, sgn_gt (one_lt_inv h0 h)]; rfl
  · rw [h, inv_one']; decide
theorem sgn_cases (x : Rat) : sgn x = 1 ∨ sgn x = -1 ∨ sgn x = 0 := by
  rcases tri x with h | h | h
  · exact .inl (sgn_gt h)
  · exact .inr (.inl (sgn_lt h))
  · exact .inr (.inr (by rw [h]; exact sgn_one))
theorem sgn_pos {x : Rat} : sgn x = 1 ↔ 1 < x := by
  constructor
  · intro h
    rcases tri x with k | k | k
    · exact k
    · rw [sgn_lt k] at h; cases h
    · rw [k, sgn_one] at h; cases h
  · exact sgn_gt
theorem sgn_neg {x : Rat} : sgn x = -1 ↔ x < 1 := by
  constructor
  · intro h
    rcases tri x with k | k | k
    · rw [sgn_gt k] at h; cases h
    · exact k
    · rw [k, sgn_one] at h; cases h
  · exact sgn_lt
theorem sgn_zero {x : Rat} : sgn x = 0 ↔ x = 1 := by
  constructor
  · intro h
    rcases tri x with k | k | k
    · rw [sgn_gt k] at h; cases h
    · rw [sgn_lt k] at h; cases h
    · exact k
  · rintro rfl; exact sgn_one
theorem sgn_mul_same {x y : Rat} (hx : 0 < x) (hy : 0 < y) (h : sgn x = sgn y) : sgn (x * y) = sgn x := by
  rcases tri x with k | k | k
  · rw [sgn_gt k] at h ⊢
    exact sgn_gt (one_lt_mul k (by have := sgn_pos.mp h.symm; grind))
  · rw [sgn_lt k] at h ⊢
    exact sgn_lt (mul_lt_one k hx (by have := sgn_neg.mp h.symm; grind) hy)
  · subst k
    rw [Rat.one_mul, ← h]
theorem sgn_mul_zero {x y : Rat} (h : sgn x = 0) : sgn (x * y) = sgn y := by
  rw [sgn_zero.mp h, Rat.one_mul]
/-! ### pairs of a number and an exponent -/
abbrev Pr := Rat × Rat
/-- the exponent, counted in parts of M -/
def ex (M : Nat) (e : Rat) : Int := e.num * ((M / e.den : Nat) : Int)
def val (M : Nat) (ps : List Pr) : Rat := ps.foldl (fun acc p => acc * p.1 ^ ex M p.2) 1
theorem ex_mul {M : Nat} {e : Rat} (k : Nat) (h : e.den ∣ M) : ex (M * k) e = ex M e * k := by
  obtain ⟨c, rfl⟩ := h
  unfold ex
  have hd := e.den_pos
  rw [Nat.mul_div_cancel_left _ hd, Nat.mul_assoc, Nat.mul_div_cancel_left _ hd, Int.natCast_mul, Int.mul_assoc]
theorem val_go {M : Nat} : ∀ (ps : List Pr) (a : Rat), ps.foldl (fun acc p => acc * p.1 ^ ex M p.2) a = a * val M ps
  | [], a => by unfold val; rw [List.foldl_nil, List.foldl_nil, Rat.mul_one]
  | p :: ps, a => by
    unfold val
    rw [List.foldl_cons, List.foldl_cons, val_go ps, val_go ps (1 * p.1 ^ ex M p.2), Rat.one_mul, Rat.mul_assoc]
theorem val_nil (M : Nat) : val M [] = 1 := rfl
theorem val_cons (M : Nat) (p : Pr) (ps : List Pr) : val M (p :: ps) = p.1 ^ ex M p.2 * val M ps := by
  show ps.foldl _ (1 * p.1 ^ ex M p.2) = _
  rw [val_go, Rat.one_mul]
theorem val_append (M : Nat) (ps qs : List Pr) : val M (ps ++ qs) = val M ps * val M qs := by
  induction ps with
  | nil => rw [List.nil_append, val_nil, Rat.one_mul]
  | cons p ps ih => rw [List.cons_append, val_cons, val_cons, ih, Rat.mul_assoc]
theorem val_reverse (M : Nat) (ps : List Pr) : val M ps.reverse = val M ps := by
  induction ps with
  | nil => rfl
  | cons p ps ih => rw [List.reverse_cons, val_append, ih, val_cons, val_cons, val_nil, Rat.mul_one, Rat.mul_comm]
theorem val_pos {M : Nat} {ps : List Pr} (h : ∀ p ∈ ps, 0 < p.1) : 0 < val M ps := by
  induction ps with
  | nil => rw [val_nil]; decide
  | cons p ps ih =>
    rw [val_cons]
    exact Rat.mul_pos (Rat.zpow_pos (h p List.mem_cons_self)) (ih fun q hq => h q (List.mem_cons_of_mem _ hq))
theorem val_pow {M : Nat} (k : Nat) {ps : List Pr} (h : ∀ p ∈ ps, p.2.den ∣ M) : val (M * k) ps = val M ps ^ k := by
  induction ps with
  | nil => rw [val_nil, val_nil, one_pow']
  | cons p ps ih =>
    rw [val_cons, val_cons, mul_pow', ih fun q hq => h q (List.mem_cons_of_mem _ hq), ex_mul k (h p List.mem_cons_self), zpow_mul_nat]
/-- the side of 1, whatever the exponents are counted in -/
theorem sgn_val {M N : Nat} {ps : List Pr} (hM : 0 < M) (hN : 0 < N) (h0 : ∀ p ∈ ps, 0 < p.1) (h : ∀ p ∈ ps, p.2.den ∣ M) (h' : ∀ p ∈ ps, p.2.den ∣ N) : sgn (val M ps) = sgn (val N ps) := by
  rw [← sgn_pow (val_pos h0) hN, ← val_pow N h, Nat.mul_comm, val_pow M h', sgn_pow (val_pos h0) hM]
end K28

/-! K28a: powers_compared -/
namespace K28
open PySem PySem.Spec PyProof.Rows L2 DL FQ
/-! ### power_of_integer -/
def sp_power_of_integer : DSp := fun as Q => ∃ (a m : Nat), as = [.val (.int a), .val (.int m)] ∧ (a.log2 + 1) * m ≤ 400000 ∧ Q (.val (.int ((a ^ m : Nat) : Int))) as
def d_power_of_integer : DS := sSeq (sPar [2, 3, 4] (drCons (dVal (dC (.int 1))) (drCons (dVal (dName 0)) (drCons (dVal (dName 1)) (drNil)))))
  (sSeq (sWhile (dTest (dOp fGt (dName 4) (dC (.int 0))))
  (sSeq (sSet 2 (dVal (dIf (dTest (dOp fEq (dOp fMod (dName 4) (dC (.int 2))) (dC (.int 1)))) (dOp fMul (dName 2) (dName 3)) (dName 2))))
  (sSeq (sSet 4 (dVal (dOp fDiv (dName 4) (dC (.int 2)))))
  (sSet 3 (dVal (dIf (dTest (dOp fGt (dName 4) (dC (.int 0)))) (dOp fMul (dName 3) (dName 3)) (dName 3)))))))
  (sRetN 2))
theorem log2_le_of {n k : Nat} (h : n ≤ 2 ^ k) : n.log2 ≤ k := by
  by_cases h0 : n = 0
  · subst h0; simp
  · have : n < 2 ^ (k + 1) := by
      rw [Nat.pow_succ]
      have : 0 < 2 ^ k := Nat.pow_pos (by decide)
      omega
    have := (Nat.log2_lt h0).mpr this
    omega
theorem log_pow (a x : Nat) : (a ^ x).log2 ≤ (a.log2 + 1) * x := by
  have h1 : a ^ x ≤ (2 ^ (a.log2 + 1)) ^ x := Nat.pow_le_pow_left (Nat.le_of_lt (lt_log2 a)) x
  rw [← Nat.pow_mul] at h1
  exact log2_le_of h1
theorem okMul_pow {a x y m : Nat} (hb : (a.log2 + 1) * m ≤ 400000) (h : x + y ≤ m) : okMul ((a ^ x : Nat) : Int) ((a ^ y : Nat) : Int) := by
  unfold okMul
  rw [Int.natAbs_natCast, Int.natAbs_natCast]
  have h1 := log_pow a x
  have h2 := log_pow a y
  have h3 : (a.log2 + 1) * (x + y) ≤ (a.log2 + 1) * m := Nat.mul_le_mul_left _ h
  rw [Nat.mul_add] at h3
  omega
theorem i_power_of_integer : ∀ as Q, sp_power_of_integer as Q → fnSpec [0, 1] 2 3 d_power_of_integer as Q := by
  rintro as Q ⟨a, m, rfl, hb, h⟩
  dsimp! [d_power_of_integer]
  refine ⟨fun k τ => ∃ j i l : Nat, τ = [.val (.int a), .val (.int m), .val (.int ((a ^ j : Nat) : Int)), .val (.int ((a ^ i : Nat) : Int)), .val (.int l)] ∧ j + i * l = m ∧ k = l, ⟨_, 0, 1, m, by rw [Nat.pow_one, Nat.pow_zero]; rfl, by omega, rfl⟩, ?_⟩
  rintro l _ ⟨j, i, l, rfl, hj, rfl⟩
  dsimp! [eqv_intB]
  by_cases hl : (0 : Int) < (l : Int)
  · rw [if_pos hl]
    refine ⟨okEq_int _ _, ?_⟩
    have hd : okDiv (l : Int) 2 := ⟨by decide, by decide⟩
    have hl2 : ((l : Int) / 2) = ((l / 2 : Nat) : Int) := by omega
    rw [hl2]
    -- what follows the first step
    have tail : ∀ j' : Nat, j' + 2 * i * (l / 2) = m → okDiv (l : Int) 2 ∧ if 0 < ((l / 2 : Nat) : Int) then okMul ((a ^ i : Nat) : Int) ((a ^ i : Nat) : Int) ∧ ∃ m', m' < l ∧ ∃ j_1 i_1 l_1 : Nat, (((a ^ j' : Nat) : Int) = ((a ^ j_1 : Nat) : Int) ∧ ((a ^ i : Nat) : Int) * ((a ^ i : Nat) : Int) = ((a ^ i_1 : Nat) : Int) ∧ ((l / 2 : Nat) : Int) = (l_1 : Int)) ∧ j_1 + i_1 * l_1 = m ∧ m' = l_1
      else ∃ m', m' < l ∧ ∃ j_1 i_1 l_1 : Nat, (((a ^ j' : Nat) : Int) = ((a ^ j_1 : Nat) : Int) ∧ ((a ^ i : Nat) : Int) = ((a ^ i_1 : Nat) : Int) ∧ ((l / 2 : Nat) : Int) = (l_1 : Int)) ∧ j_1 + i_1 * l_1 = m ∧ m' = l_1 := fun j' hj' => by
      refine ⟨hd, ?_⟩
      by_cases h2 : (0 : Int) < ((l / 2 : Nat) : Int)
      · rw [if_pos h2]
        have h3 : i * 1 ≤ i * (l / 2) := Nat.mul_le_mul_left _ (by omega)
        rw [Nat.mul_assoc] at hj'
        refine ⟨okMul_pow hb (by omega), l / 2, by omega, j', 2 * i, l / 2, ⟨rfl, ?_, rfl⟩, by rw [Nat.mul_assoc]; exact hj', rfl⟩
        rw [← Int.natCast_mul, ← Nat.pow_add, Nat.two_mul]
      · rw [if_neg h2]
        have h0 : l / 2 = 0 := by omega
        rw [h0, Nat.mul_zero] at hj'
        exact ⟨l / 2, by omega, j', i, l / 2, ⟨rfl, rfl, rfl⟩, by rw [h0, Nat.mul_zero]; exact hj', rfl⟩
    by_cases ho : (l : Int) % 2 = 1
    · rw [if_pos ho]
      have e : l = 2 * (l / 2) + 1 := by omega
      have e2 : i * l = 2 * i * (l / 2) + i := by
        conv => lhs; rw [e]
        rw [Nat.mul_add, Nat.mul_one, ← Nat.mul_assoc, Nat.mul_comm i 2]
      refine ⟨okMul_pow hb (by omega), ?_⟩
      rw [← Int.natCast_mul, ← Nat.pow_add]
      exact tail (j + i) (by omega)
    · rw [if_neg ho]
      have e : l = 2 * (l / 2) := by omega
      have e2 : i * l = 2 * i * (l / 2) := by
        conv => lhs; rw [e]
        rw [← Nat.mul_assoc, Nat.mul_comm i 2]
      exact tail j (by omega)
  · rw [if_neg hl]
    have h0 : l = 0 := by omega
    rw [h0, Nat.mul_zero, Nat.add_zero] at hj
    rw [hj]
    exact h
/-! ### whole_numbers -/
def sp_whole_numbers : DSp := fun as Q => ∃ (es : List Rat) (M : Nat), as = [.val (.list (es.map frq))] ∧ es.length ≤ 12 ∧ 0 < M ∧ M ≤ 1000 ∧ (∀ e ∈ es, e.den ∣ M ∧ Bi 20 e.num) ∧
  ∀ L : Nat, 0 < L → L ∣ M → (∀ e ∈ es, e.den ∣ L) → Q (.val (.tuple [.list ((es.map (ex L)).map .int), .int L])) as
def d_whole_numbers : DS := sSeq (sSet 1 (dVal (dC (.int 1))))
  (sSeq (sFor (diV (dName 0)) (dgName 2)
  (sSet 1 (dVal (dOp fMul (dOp fDiv (dName 1) (dFrz (dCall sp_common (arV (dName 1) (arV (dOpNs fIx 2 (dC (.int 1))) (arNil)))))) (dOpNs fIx 2 (dC (.int 1)))))))
  (sRet (dVal (dTup (dCons (dFrz (dLc [2] (diV (dName 0)) (dgName 2) (dtYes) (dOp fMul (dOpNs fIx 2 (dC (.int 0))) (dOp fDiv (dName 1) (dOpNs fIx 2 (dC (.int 1))))))) (dCons (dName 1) (dNil)))))))
theorem lcm_fold_dvd {M : Nat} : ∀ (es : List Rat) (b : Nat), b ∣ M → (∀ e ∈ es, e.den ∣ M) → es.foldl (fun b e => Nat.lcm b e.den) b ∣ M
  | [], b, h, _ => h
  | e :: es, b, h, h' => lcm_fold_dvd es _ (Nat.lcm_dvd h (h' e List.mem_cons_self)) fun x hx => h' x (List.mem_cons_of_mem _ hx)
theorem dvd_lcm_fold : ∀ (es : List Rat) (b : Nat), b ∣ es.foldl (fun b e => Nat.lcm b e.den) b ∧ ∀ e ∈ es, e.den ∣ es.foldl (fun b e => Nat.lcm b e.den) b
  | [], b => ⟨Nat.dvd_refl _, fun e h => by cases h⟩
  | e :: es, b => by
    obtain ⟨h1, h2⟩ := dvd_lcm_fold es (Nat.lcm b e.den)
    refine ⟨Nat.dvd_trans (Nat.dvd_lcm_left _ _) h1, fun x hx => ?_⟩
    rcases List.mem_cons.mp hx with rfl | hx
    · exact Nat.dvd_trans (Nat.dvd_lcm_right _ _) h1
    · exact h2 x hx
theorem lcm_step (b d : Nat) : (b : Int) / (Int.gcd b d : Int) * (d : Int) = ((Nat.lcm b d : Nat) : Int) := by
  rw [Int.gcd_natCast_natCast, ← Int.natCast_ediv, ← Int.natCast_mul]
  congr 1
  unfold Nat.lcm
  exact (Nat.mul_comm _ _).trans ((Nat.mul_div_assoc _ (Nat.gcd_dvd_left b d)).symm.trans (by rw [Nat.mul_comm]))
theorem bi_small {x : Nat} (h : x ≤ 1000) : Bi 10 (x : Int) := .of_le 1000 (by omega)
theorem i_whole_numbers : ∀ as Q, sp_whole_numbers as Q → fnSpec [0] 1 2 d_whole_numbers as Q := by
  rintro as Q ⟨es, M, rfl, hlen, hM, hM2, hes, h⟩
  dsimp! [d_whole_numbers]
  refine forGo_inv (β := Nat) frq (fun b τ => 0 < b ∧ b ∣ M ∧ ∃ x, τ = [.val (.list (es.map frq)), .val (.int b), x]) (fun b e => Nat.lcm b e.den) es 1 _ ⟨by decide, Nat.one_dvd _, _, rfl⟩ ?_ ?_
  · rintro p e s _ C hl ⟨h1, h2, x, rfl⟩ hC
    have he : e ∈ es := by rw [hl]; exact List.mem_append_right _ List.mem_cons_self
    generalize p.foldl (fun b e => Nat.lcm b e.den) 1 = b at h1 h2 hC
    have hb : b ≤ 1000 := Nat.le_trans (Nat.le_of_dvd hM h2) hM2
    have hd : e.den ≤ 1000 := Nat.le_trans (Nat.le_of_dvd hM (hes e he).1) hM2
    dsimp! [cl_common]
    have hg : (0 : Int) < (Int.gcd b e.den : Int) := by
      have := gcd_pos (a := b) (den_pos' e)
      omega
    have hg2 : Int.gcd b e.den ≤ 1000 := Nat.le_trans (gcd_dvd_le (den_pos' e)) (by omega)
    have bq : Bi 10 ((b : Int) / (Int.gcd b e.den : Int)) := bi_div (bi_small hb) hg
    refine ⟨(bi_small hg2).okDiv hg, bq.okMul (bi_small hd), ?_⟩
    rw [lcm_step]
    exact hC _ ⟨Nat.lcm_pos h1 e.den_pos, Nat.lcm_dvd h2 (hes e he).1, _, rfl⟩
  · rintro _ ⟨h1, h2, x, rfl⟩
    obtain ⟨_, h3⟩ := dvd_lcm_fold es 1
    generalize es.foldl (fun b e => Nat.lcm b e.den) 1 = L at h1 h2 h3
    have hL : L ≤ 1000 := Nat.le_trans (Nat.le_of_dvd hM h2) hM2
    dsimp! []
    refine lcGo_map (τ0 := [.val (.list (es.map frq)), .val (.int L), .un]) frq (fun e => .int (ex L e)) es [] (fun e he C hC => ?_) (by simp only [List.length_nil]; omega) ?_
    · dsimp! []
      have hq : (L : Int) / (e.den : Int) = ((L / e.den : Nat) : Int) := by rw [Int.natCast_ediv]
      have hdn : e.den ≤ 1000 := Nat.le_trans (Nat.le_of_dvd h1 (h3 e he)) hL
      refine ⟨(bi_small hdn).okDiv (den_pos' e), ?_⟩
      rw [hq]
      exact ⟨(hes e he).2.okMul (bi_small (Nat.le_trans (Nat.div_le_self _ _) hL)), hC⟩
    · dsimp! []
      have := h L h1 h2 h3
      rw [List.map_map] at this
      exact this
/-! ### are_powers -/
abbrev pd (p : Pr) : D := .tuple [frq p.1, frq p.2]
abbrev c_MOST_PAIRS : DL.D := .int 12
abbrev c_MOST_POWERS : DL.D := .int 400
def sp_are_powers : DSp := fun as Q => ∃ ps : List Pr, as = [.val (.tuple (ps.map pd))] ∧ 1 ≤ ps.length ∧ ps.length ≤ 12 ∧ (∀ p ∈ ps, 0 < p.1) ∧ Q (.val (.bool true)) as
def d_are_powers : DS := sSeq (sIf (dOr (dNot (dTest (dIsi "tuple" (dName 0)))) (dNot (dTest (dChain fLe fLe (dC (.int 1)) (dCBN fLen 0) (dC c_MOST_PAIRS)))))
  (sRet (dVal (dC (.bool false))))
  (sNext))
  (sSeq (sIf (dNot (dTest (dCB fAll (dCons (dFrz (dLc [1] (diV (dName 0)) (dgName 1) (dtYes) (dAndV (dIsi "tuple" (dName 1)) (dOp fEq (dCBN fLen 1) (dC (.int 2)))))) (dNil)))))
  (sRet (dVal (dC (.bool false))))
  (sNext))
  (sRet (dVal (dCB fAll (dCons (dFrz (dLc [1] (diV (dName 0)) (dgName 1) (dtYes) (dAndV (dFrz (dCall sp_is_told_fraction (arV (dOpNs fIx 1 (dC (.int 0))) (arNil)))) (dAndV (dFrz (dCall sp_is_told_fraction (arV (dOpNs fIx 1 (dC (.int 1))) (arNil)))) (dOp fGt (dOp fIx (dOpNs fIx 1 (dC (.int 0))) (dC (.int 0))) (dC (.int 0))))))) (dNil))))))
theorem num_pos' {r : Rat} (h : 0 < r) : 0 < r.num := by
  have := (Rat.lt_iff 0 r).mp h
  simpa using this
theorem i_are_powers : ∀ as Q, sp_are_powers as Q → fnSpec [0] 1 1 d_are_powers as Q := by
  rintro as Q ⟨ps, rfl, h1, h2, h0, h⟩
  have l1 : (1 : Int) ≤ (ps.length : Int) := by omega
  have l2 : (ps.length : Int) ≤ 12 := by omega
  dsimp! [d_are_powers, List.length_map, l1, l2]
  refine lcGo_map (τ0 := [.val (.tuple (ps.map pd)), .un]) pd (fun e => .bool true) ps [] (fun e he C hC => ?_) (by simp only [List.length_nil]; omega) ?_
  · dsimp! [eqv_intB]
    exact ⟨okEq_int _ _, hC⟩
  dsimp! [boolsOf_all]
  rw [if_neg (by simp)]
  refine lcGo_map (τ0 := [.val (.tuple (ps.map pd)), .un]) pd (fun e => .bool true) ps [] (fun e he C hC => ?_) (by simp only [List.length_nil]; omega) ?_
  · dsimp! [cl_is_told, num_pos' (h0 e he)]
    exact hC
  dsimp! [boolsOf_all]
  have : (ps.map fun _ => true).all id = true := by simp
  rw [this]
  exact h
end K28

namespace K28
open PySem PySem.Spec PyProof.Rows L2 DL FQ
/-! ### powers_compared -/
def sp_powers_compared : DSp := fun as Q => ∃ (ps : List Pr) (M : Nat), as = [.val (.tuple (ps.map pd))] ∧ 1 ≤ ps.length ∧ ps.length ≤ 12 ∧ 0 < M ∧ M ≤ 1000 ∧ (∀ p ∈ ps, 0 < p.1 ∧ Sz 30 p.1 ∧ p.2.den ∣ M ∧ Bi 20 p.2.num) ∧
  (ps.map fun p => (ex M p.2).natAbs).sum ≤ 400 ∧ Q (.val (.int (sgn (val M ps)))) as
def d_powers_compared : DS := sSeq (sIf (dNot (dTest (dFrz (dCall sp_are_powers (arV (dName 0) (arNil))))))
  (sNever)
  (sNext))
  (sSeq (sSet 1 (dVal (dOp fIx (dFrz (dCall sp_whole_numbers (arV (dFrz (dLc [2] (diV (dName 0)) (dgName 2) (dtYes) (dOpNs fIx 2 (dC (.int 1))))) (arNil)))) (dC (.int 0)))))
  (sSeq (sIf (dTest (dOp fGt (dCB fSum (dCons (dFrz (dLc [3] (diV (dName 1)) (dgName 3) (dtYes) (dCBN fAbs 3))) (dNil))) (dC c_MOST_POWERS)))
  (sNever)
  (sNext))
  (sSeq (sAsg (dTup (dCons (dC (.int 1)) (dCons (dC (.int 1)) (dNil)))) (dgTup 2 (dgCons (dgName 4) (dgCons (dgName 5) (dgNil)))))
  (sSeq (sFor (diZip (dCons (dName 0) (dCons (dName 1) (dNil)))) (dgTup 2 (dgCons (dgTup 2 (dgCons (dgName 6) (dgCons (dgName 7) (dgNil)))) (dgCons (dgName 3) (dgNil))))
  (sSeq (sAsg (dIf (dTest (dOp fGt (dName 3) (dC (.int 0)))) (dName 6) (dTup (dCons (dOpNs fIx 6 (dC (.int 1))) (dCons (dOpNs fIx 6 (dC (.int 0))) (dNil))))) (dgTup 2 (dgCons (dgName 8) (dgCons (dgName 9) (dgNil)))))
  (sSeq (sSet 4 (dVal (dOp fMul (dName 4) (dFrz (dCall sp_power_of_integer (arV (dName 8) (arV (dCBN fAbs 3) (arNil))))))))
  (sSet 5 (dVal (dOp fMul (dName 5) (dFrz (dCall sp_power_of_integer (arV (dName 9) (arV (dCBN fAbs 3) (arNil)))))))))))
  (sRet (dVal (dOp fSub (dCB fInt (dCons (dOp fGt (dName 4) (dName 5)) (dNil))) (dCB fInt (dCons (dOp fLt (dName 4) (dName 5)) (dNil))))))))))
theorem rat_frac (r : Rat) : r * ((r.den : Int) : Rat) = (r.num : Rat) := by
  have h : r = (r.num : Rat) / ((r.den : Int) : Rat) := by
    rw [← Rat.divInt_eq_div, divInt_self']
  have hd : ((r.den : Int) : Rat) ≠ 0 := by
    intro z
    have : (r.den : Int) = 0 := by exact_mod_cast z
    have := den_pos' r
    omega
  grind
/-- numbers over a common one of more parts -/
theorem ex_dvd {L M : Nat} {e : Rat} (h : e.den ∣ L) (h2 : L ∣ M) : ∃ k : Nat, M = L * k ∧ ex M e = ex L e * k := by
  obtain ⟨k, rfl⟩ := h2
  exact ⟨k, rfl, ex_mul k h⟩
theorem ex_le {L M : Nat} {e : Rat} (hM : 0 < M) (h : e.den ∣ L) (h2 : L ∣ M) : (ex L e).natAbs ≤ (ex M e).natAbs := by
  obtain ⟨k, rfl, e2⟩ := ex_dvd h h2
  rw [e2, Int.natAbs_mul, Int.natAbs_natCast]
  have hk : 0 < k := Nat.pos_of_ne_zero fun z => by subst z; omega
  exact Nat.le_mul_of_pos_right _ hk
def S (L : Nat) (ps : List Pr) : Nat := (ps.map fun p => (ex L p.2).natAbs).sum
theorem S_le {L M : Nat} (hM : 0 < M) : ∀ {ps : List Pr}, (∀ p ∈ ps, p.2.den ∣ L) → L ∣ M → S L ps ≤ S M ps
  | [], _, _ => Nat.le_refl _
  | p :: ps, h, h2 => by
    have h1 := ex_le hM (h p List.mem_cons_self) h2
    have h3 := S_le hM (fun q hq => h q (List.mem_cons_of_mem _ hq)) h2
    unfold S at *
    simp only [List.map_cons, List.sum_cons]
    omega
theorem S_snoc (L : Nat) (ps : List Pr) (p : Pr) : S L (ps ++ [p]) = S L ps + (ex L p.2).natAbs := by
  unfold S
  simp
theorem S_mid (L : Nat) (ps qs : List Pr) (p : Pr) : S L (ps ++ p :: qs) = S L ps + (ex L p.2).natAbs + S L qs := by
  unfold S
  simp only [List.map_append, List.map_cons, List.sum_append, List.sum_cons]
  omega
theorem val_snoc (M : Nat) (ps : List Pr) (p : Pr) : val M (ps ++ [p]) = val M ps * p.1 ^ ex M p.2 := by
  rw [val_append, val_cons, val_nil, Rat.mul_one]
theorem cast_pow (a k : Nat) : (((a ^ k : Nat) : Int) : Rat) = (((a : Nat) : Int) : Rat) ^ k := by
  rw [Int.natCast_pow, Rat.intCast_pow]
/-- one step of the two products -/
theorem ratio_step {r : Rat} {n : Rat} {m : Int} {a b : Nat} (hn : 0 < n) (h : ((a : Int) : Rat) = r * ((b : Int) : Rat)) (t l : Nat) (ht : if 0 < m then (t : Int) = n.num ∧ l = n.den else t = n.den ∧ (l : Int) = n.num) :
    (((a * t ^ m.natAbs : Nat) : Int) : Rat) = r * n ^ m * (((b * l ^ m.natAbs : Nat) : Int) : Rat) := by
  have hf := rat_frac n
  rw [Int.natCast_mul, Int.natCast_mul, Rat.intCast_mul, Rat.intCast_mul, cast_pow, cast_pow, h]
  by_cases hm : 0 < m
  · rw [if_pos hm] at ht
    obtain ⟨h1, rfl⟩ := ht
    obtain ⟨k, rfl⟩ := Int.eq_ofNat_of_zero_le (Int.le_of_lt hm)
    rw [Int.natAbs_natCast, Rat.zpow_natCast, h1, ← hf, mul_pow']
    grind
  · rw [if_neg hm] at ht
    obtain ⟨rfl, h2⟩ := ht
    obtain ⟨k, hk⟩ := Int.eq_ofNat_of_zero_le (show 0 ≤ -m by omega)
    have hm' : m = -(k : Int) := by omega
    subst hm'
    rw [Int.natAbs_neg, Int.natAbs_natCast, Rat.zpow_neg, Rat.zpow_natCast, h2, ← hf, mul_pow']
    have : n ^ k * (n ^ k)⁻¹ = 1 := Rat.mul_inv_cancel _ (by have := Rat.pow_pos (n := k) hn; grind)
    grind
theorem le_pow_step {a t k s : Nat} (ha : a ≤ 2 ^ (31 * s)) (ht : t < 2 ^ 30) : a * t ^ k ≤ 2 ^ (31 * (s + k)) := by
  have h1 : t ^ k ≤ 2 ^ (31 * k) := by
    have : t ^ k ≤ (2 ^ 31) ^ k := Nat.pow_le_pow_left (by omega) k
    rwa [← Nat.pow_mul] at this
  rw [Nat.mul_add, Nat.pow_add]
  exact Nat.mul_le_mul ha h1
theorem okMul_step {a t k s : Nat} (ha : a ≤ 2 ^ (31 * s)) (ht : t < 2 ^ 30) (hs : s + k ≤ 400) : okMul (a : Int) ((t ^ k : Nat) : Int) := by
  unfold okMul
  rw [Int.natAbs_natCast, Int.natAbs_natCast]
  have h1 := log2_le_of ha
  have h2 := log_pow t k
  have h3 : (t.log2 + 1) * k ≤ 31 * k := Nat.mul_le_mul_right _ (by have := log2_lt ht; omega)
  omega
theorem cl_power (a m : Nat) (Q : Res → List Sl → Prop) (h : (a.log2 + 1) * m ≤ 400000) (q : Q (.val (.int ((a ^ m : Nat) : Int))) [.val (.int a), .val (.int m)]) : sp_power_of_integer [.val (.int a), .val (.int m)] Q := ⟨a, m, rfl, h, q⟩
theorem sgn_ratio {a b : Nat} {v : Rat} (hb : 0 < b) (h : ((a : Int) : Rat) = v * ((b : Int) : Rat)) : sgn v = (if (b : Int) < a then 1 else 0) - (if (a : Int) < b then 1 else 0) := by
  have hb' : (0 : Rat) < ((b : Int) : Rat) := by
    have : ((0 : Int) : Rat) < ((b : Int) : Rat) := Rat.intCast_lt_intCast.mpr (by omega)
    simpa using this
  have key : ∀ x : Rat, x = v * ((b : Int) : Rat) → (1 < v ↔ ((b : Int) : Rat) < x) ∧ (v < 1 ↔ x < ((b : Int) : Rat)) := fun x hx => by
    subst hx
    constructor
    · have := Rat.mul_lt_mul_right (a := 1) (b := v) hb'
      rw [Rat.one_mul] at this
      exact this.symm
    · have := Rat.mul_lt_mul_right (a := v) (b := 1) hb'
      rw [Rat.one_mul] at this
      exact this.symm
  obtain ⟨k1, k2⟩ := key _ h
  rw [Rat.intCast_lt_intCast] at k1 k2
  unfold sgn
  by_cases c1 : 1 < v
  · have := k1.mp c1
    rw [if_pos c1, if_pos this, if_neg (by omega)]; rfl
  · have n1 := fun z => c1 (k1.mpr z)
    rw [if_neg c1, if_neg n1]
    by_cases c2 : v < 1
    · rw [if_pos c2, if_pos (k2.mp c2)]; rfl
    · rw [if_neg c2, if_neg fun z => c2 (k2.mpr z)]; rfl
theorem zipD_map {α : Type} (f g : α → D) (l : List α) : zipD (l.map f) (l.map g) = l.map fun a => .tuple [f a, g a] := by
  unfold zipD
  rw [List.zip_map', List.map_map]
  rfl
theorem sum_cast (L : Nat) (ps : List Pr) : (ps.map fun p => ((ex L p.2).natAbs : Int)).sum = ((S L ps : Nat) : Int) := by
  induction ps with
  | nil => rfl
  | cons p ps ih =>
    have : S L (p :: ps) = (ex L p.2).natAbs + S L ps := by unfold S; simp
    rw [this]
    simp only [List.map_cons, List.sum_cons, ih, Int.natCast_add]
theorem i_powers_compared : ∀ as Q, sp_powers_compared as Q → fnSpec [0] 1 9 d_powers_compared as Q := by
  rintro as Q ⟨ps, M, rfl, h1, h2, hM, hM2, hp, hS, h⟩
  dsimp! [d_powers_compared]
  refine ⟨ps, rfl, h1, h2, fun p hp' => (hp p hp').1, ?_⟩
  dsimp! []
  refine lcGo_map (τ0 := [.val (.tuple (ps.map pd)), .un, .un, .un, .un, .un, .un, .un, .un, .un]) pd (fun p => frq p.2) ps [] (fun p hp' C hC => ?_) (by simp only [List.length_nil]; omega) ?_
  · dsimp! []
    exact hC
  dsimp! []
  refine ⟨ps.map (·.2), M, by rw [List.map_map]; rfl, by rw [List.length_map]; exact h2, hM, hM2, fun e he => ?_, fun L l1 l2 l3 => ?_⟩
  · obtain ⟨p, hp', rfl⟩ := List.mem_map.mp he
    exact ⟨(hp p hp').2.2.1, (hp p hp').2.2.2⟩
  have l3' : ∀ p ∈ ps, p.2.den ∣ L := fun p hp' => l3 p.2 (List.mem_map.mpr ⟨p, hp', rfl⟩)
  have hSL : S L ps ≤ 400 := Nat.le_trans (S_le hM l3' l2) hS
  rw [← sgn_val l1 hM (fun p hp' => (hp p hp').1) l3' (fun p hp' => (hp p hp').2.2.1)] at h
  dsimp! [List.map_map]
  have e1 : ps.map (PyData.int ∘ ex L ∘ fun x => x.snd) = ps.map fun p => .int (ex L p.2) := rfl
  rw [e1]
  refine lcGo_map (τ0 := [.val (.tuple (ps.map pd)), .val (.list (ps.map fun p => .int (ex L p.2))), .un, .un, .un, .un, .un, .un, .un, .un]) (fun p => .int (ex L p.2)) (fun p => .int (ex L p.2).natAbs) ps [] (fun p hp' C hC => ?_) (by simp only [List.length_nil]; omega) ?_
  · dsimp! []
    exact hC
  dsimp! [intsOf_all]
  rw [sum_cast, if_neg (by omega)]
  dsimp! [and_assoc]
  rw [zipD_map]
  refine forGo_pre (fun p => .tuple [pd p, .int (ex L p.2)]) (fun pr τ => ∃ (a b : Nat) (x3 x2 x6 x7 x8 x9 : Sl), τ = [.val (.tuple (ps.map pd)), .val (.list (ps.map fun p => .int (ex L p.2))), x2, x3, .val (.int a), .val (.int b), x6, x7, x8, x9] ∧ 0 < b ∧ ((a : Int) : Rat) = val L pr * ((b : Int) : Rat) ∧ a ≤ 2 ^ (31 * S L pr) ∧ b ≤ 2 ^ (31 * S L pr)) ps _
    ⟨1, 1, _, _, _, _, _, _, rfl, by decide, by rw [val_nil, Rat.one_mul], Nat.one_le_two_pow, Nat.one_le_two_pow⟩ ?_ ?_
  · rintro pr p s _ C hl ⟨a, b, x3, x2, x6, x7, x8, x9, rfl, hb, hv, ha', hb'⟩ hC
    have hmem : p ∈ ps := by rw [hl]; exact List.mem_append_right _ List.mem_cons_self
    obtain ⟨p0, pz, pdv, pn⟩ := hp p hmem
    have hSp : S L pr + (ex L p.2).natAbs ≤ 400 := by
      rw [hl, S_mid] at hSL
      omega
    have hn : ((p.1.num.toNat : Nat) : Int) = p.1.num := Int.toNat_of_nonneg (Int.le_of_lt (num_pos' p0))
    have zn : p.1.num.toNat < 2 ^ 30 := by
      have := pz.num
      unfold Bi at this
      omega
    have zd : p.1.den < 2 ^ 30 := by
      have := pz.den
      unfold Bi at this
      omega
    have pos1 : 0 < p.1.num.toNat := by have := num_pos' p0; omega
    have pos2 : 0 < p.1.den := p.1.den_pos
    -- the step, whichever way round
    have fin : ∀ t l : Nat, (if 0 < ex L p.2 then (t : Int) = p.1.num ∧ l = p.1.den else t = p.1.den ∧ (l : Int) = p.1.num) → t < 2 ^ 30 → l < 2 ^ 30 → 0 < l → ∀ y3 y2 y6 y7 y8 y9 : Sl,
        C [.val (.tuple (ps.map pd)), .val (.list (ps.map fun p => .int (ex L p.2))), y2, y3, .val (.int ((a * t ^ (ex L p.2).natAbs : Nat) : Int)), .val (.int ((b * l ^ (ex L p.2).natAbs : Nat) : Int)), y6, y7, y8, y9] := fun t l htl z1 z2 z3 y3 y2 y6 y7 y8 y9 => by
      refine hC _ ⟨_, _, _, _, _, _, _, _, rfl, Nat.mul_pos hb (Nat.pow_pos z3), ?_, ?_, ?_⟩
      · rw [val_snoc]
        exact ratio_step p0 hv t l htl
      · rw [S_snoc]
        exact le_pow_step ha' z1
      · rw [S_snoc]
        exact le_pow_step hb' z2
    have okl : ∀ t : Nat, t < 2 ^ 30 → (t.log2 + 1) * (ex L p.2).natAbs ≤ 400000 := fun t ht => by
      have := log2_lt ht
      have : (t.log2 + 1) * (ex L p.2).natAbs ≤ 31 * 400 := Nat.mul_le_mul (by omega) (by omega)
      omega
    by_cases hm : 0 < ex L p.2
    · dsimp! [if_pos hm]
      rw [← hn]
      refine cl_power _ _ _ (okl _ zn) ?_
      dsimp! []
      refine ⟨okMul_step ha' zn hSp, cl_power _ _ _ (okl _ zd) ?_⟩
      dsimp! []
      refine ⟨okMul_step hb' zd hSp, ?_⟩
      exact fin _ _ (by rw [if_pos hm]; exact ⟨hn, rfl⟩) zn zd pos2 _ _ _ _ _ _
    · dsimp! [if_neg hm]
      refine cl_power _ _ _ (okl _ zd) ?_
      dsimp! []
      rw [← hn]
      refine ⟨okMul_step ha' zd hSp, cl_power _ _ _ (okl _ zn) ?_⟩
      dsimp! []
      refine ⟨okMul_step hb' zn hSp, ?_⟩
      exact fin _ _ (by rw [if_neg hm]; exact ⟨rfl, hn⟩) zd zn pos1 _ _ _ _ _ _
  · rintro _ ⟨a, b, x3, x2, x6, x7, x8, x9, rfl, hb, hv, ha', hb'⟩
    rw [sgn_ratio hb hv] at h
    dsimp! []
    simpa using h
end K28

namespace K28
open PySem PySem.Spec PyProof.Rows L2 DL FQ
/-! ### common_of -/
def gcdL (ks : List Int) : Nat := ks.foldl (fun a k => Nat.gcd a k.natAbs) 0
def sp_common_of : DSp := fun as Q => ∃ (ks : List Int) (d0 : D), as = [.val d0] ∧ (d0 = .list (ks.map .int) ∨ d0 = .tuple (ks.map .int)) ∧ Q (.val (.int (gcdL ks))) as
def d_common_of : DS := sSeq (sSet 1 (dVal (dC (.int 0))))
  (sSeq (sFor (diV (dName 0)) (dgName 2)
  (sSet 1 (dCall sp_common (arV (dName 1) (arV (dName 2) (arNil))))))
  (sRetN 1))
theorem i_common_of : ∀ as Q, sp_common_of as Q → fnSpec [0] 1 2 d_common_of as Q := by
  rintro as Q ⟨ks, d0, rfl, hd, h⟩
  rcases hd with rfl | rfl <;> {
    dsimp! [d_common_of]
    refine forGo_inv (β := Nat) PyData.int (fun b τ => ∃ x, τ = [.val _, .val (.int b), x]) (fun a k => Nat.gcd a k.natAbs) ks 0 _ ⟨_, rfl⟩ ?_ ?_
    · rintro p k s _ C hl ⟨x, rfl⟩ hC
      generalize p.foldl (fun a k => Nat.gcd a k.natAbs) 0 = b at hC
      dsimp! [cl_common]
      exact hC _ ⟨_, rfl⟩
    · rintro _ ⟨x, rfl⟩
      dsimp! []
      exact h }
/-! ### exponent_in -/
/-- how often p is in n -/
def Mul (p n k : Nat) : Prop := 2 ≤ p ∧ p < 2 ^ 100 ∧ ∃ r, n = p ^ k * r ∧ ¬ p ∣ r
def sp_exponent_in : DSp := fun as Q => ∃ p n k : Nat, as = [.val (.int n), .val (.int p)] ∧ Mul p n k ∧ Q (.val (.int k)) as
def d_exponent_in : DS := sSeq (sPar [2, 3] (drCons (dVal (dC (.int 0))) (drCons (dVal (dName 0)) (drNil))))
  (sSeq (sWhile (dTest (dOp fEq (dOp fMod (dName 3) (dName 1)) (dC (.int 0))))
  (sPar [2, 3] (drCons (dVal (dOp fAdd (dName 2) (dC (.int 1)))) (drCons (dVal (dOp fDiv (dName 3) (dName 1))) (drNil)))))
  (sRetN 2))
theorem i_exponent_in : ∀ as Q, sp_exponent_in as Q → fnSpec [0, 1] 2 2 d_exponent_in as Q := by
  rintro as Q ⟨p, n, k, rfl, ⟨hp, hp2, r, hn, hr⟩, h⟩
  have bp : Bi 100 (p : Int) := hp2
  dsimp! [d_exponent_in]
  refine ⟨fun m τ => ∃ f : Nat, τ = [.val (.int n), .val (.int p), .val (.int f), .val (.int ((p ^ m * r : Nat) : Int))] ∧ f + m = k, ⟨k, 0, by rw [hn]; rfl, by omega⟩, ?_⟩
  rintro m _ ⟨f, rfl, hf⟩
  dsimp! [eqv_intB]
  refine ⟨by omega, okEq_int _ _, ?_⟩
  cases m with
  | zero =>
    rw [Nat.pow_zero, Nat.one_mul]
    have : ¬ ((r : Int) % (p : Int) = 0) := fun z => hr (by
      have := Int.dvd_of_emod_eq_zero z
      exact Int.natCast_dvd_natCast.mp this)
    rw [if_neg this]
    have e : f = k := by omega
    rw [e]
    exact h
  | succ m =>
    have e : p ^ (m + 1) * r = p * (p ^ m * r) := by rw [Nat.pow_succ, Nat.mul_comm (p ^ m) p, Nat.mul_assoc]
    have d1 : ((p ^ (m + 1) * r : Nat) : Int) % (p : Int) = 0 := by
      rw [e, Int.natCast_mul]
      exact Int.mul_emod_right _ _
    have d2 : ((p ^ (m + 1) * r : Nat) : Int) / (p : Int) = ((p ^ m * r : Nat) : Int) := by
      rw [e, Int.natCast_mul]
      exact Int.mul_ediv_cancel_left _ (by omega)
    rw [if_pos d1, d2]
    exact ⟨bp.okDiv (by omega), m, by omega, f + 1, ⟨by omega, rfl⟩, by omega⟩
/-! ### exponents_over -/
def sp_exponents_over : DSp := fun as Q => ∃ (ts : List (Nat × Nat × Nat)) (n d : Nat), as = [.val (.list (ts.map fun t => .int t.1)), .val (fr n d)] ∧ ts.length ≤ 100 ∧ (∀ t ∈ ts, Mul t.1 n t.2.1 ∧ Mul t.1 d t.2.2) ∧ Q (.val (.tuple (ts.map fun t => .int ((t.2.1 : Int) - t.2.2)))) as
def d_exponents_over : DS := sRet (dVal (dCB fTuple (dCons (dFrz (dLc [2] (diV (dName 0)) (dgName 2) (dtYes) (dOp fSub (dFrz (dCall sp_exponent_in (arV (dOpNs fIx 1 (dC (.int 0))) (arV (dName 2) (arNil))))) (dFrz (dCall sp_exponent_in (arV (dOpNs fIx 1 (dC (.int 1))) (arV (dName 2) (arNil)))))))) (dNil))))
theorem i_exponents_over : ∀ as Q, sp_exponents_over as Q → fnSpec [0, 1] 2 1 d_exponents_over as Q := by
  rintro as Q ⟨ts, n, d, rfl, hl, ht, h⟩
  dsimp! [d_exponents_over]
  refine lcGo_map (τ0 := [.val (.list (ts.map fun t => .int t.1)), .val (fr n d), .un]) (fun t => .int t.1) (fun t => .int ((t.2.1 : Int) - t.2.2)) ts [] (fun t ht' C hC => ?_) (by simp only [List.length_nil]; omega) ?_
  · dsimp! []
    refine ⟨_, _, _, rfl, (ht t ht').1, ?_⟩
    dsimp! []
    refine ⟨_, _, _, rfl, (ht t ht').2, ?_⟩
    dsimp! []
    exact hC
  · dsimp! []
    exact h
/-! ### made_of_base -/
def topP (ts : List (Nat × Int)) : Nat := ts.foldl (fun a t => if 0 < t.2 then a * t.1 ^ t.2.natAbs else a) 1
def lowP (ts : List (Nat × Int)) : Nat := ts.foldl (fun a t => if 0 < t.2 then a else a * t.1 ^ t.2.natAbs) 1
/-- how many bits all of them are -/
def bits (ts : List (Nat × Int)) : Nat := (ts.map fun t => (t.1.log2 + 1) * t.2.natAbs).sum
def sp_made_of_base : DSp := fun as Q => ∃ ts : List (Nat × Int), as = [.val (.list (ts.map fun t => .int t.1)), .val (.list (ts.map fun t => .int t.2))] ∧ bits ts ≤ 400000 ∧ Q (.val (fr (topP ts) (lowP ts))) as
def d_made_of_base : DS := sSeq (sAsg (dTup (dCons (dC (.int 1)) (dCons (dC (.int 1)) (dNil)))) (dgTup 2 (dgCons (dgName 2) (dgCons (dgName 3) (dgNil)))))
  (sSeq (sFor (diZip (dCons (dName 0) (dCons (dName 1) (dNil)))) (dgTup 2 (dgCons (dgName 4) (dgCons (dgName 5) (dgNil))))
  (sIf (dTest (dOp fGt (dName 5) (dC (.int 0))))
  (sSet 2 (dVal (dOp fMul (dName 2) (dFrz (dCall sp_power_of_integer (arV (dName 4) (arV (dName 5) (arNil))))))))
  (sSet 3 (dVal (dOp fMul (dName 3) (dFrz (dCall sp_power_of_integer (arV (dName 4) (arV (dOp fSub (dC (.int 0)) (dName 5)) (arNil))))))))))
  (sRet (dVal (dTup (dCons (dName 2) (dCons (dName 3) (dNil)))))))
theorem topP_snoc (ts : List (Nat × Int)) (t : Nat × Int) : topP (ts ++ [t]) = if 0 < t.2 then topP ts * t.1 ^ t.2.natAbs else topP ts := by
  unfold topP
  rw [List.foldl_append, List.foldl_cons, List.foldl_nil]
theorem lowP_snoc (ts : List (Nat × Int)) (t : Nat × Int) : lowP (ts ++ [t]) = if 0 < t.2 then lowP ts else lowP ts * t.1 ^ t.2.natAbs := by
  unfold lowP
  rw [List.foldl_append, List.foldl_cons, List.foldl_nil]
theorem bits_mid (ps ss : List (Nat × Int)) (t : Nat × Int) : bits (ps ++ t :: ss) = bits ps + (t.1.log2 + 1) * t.2.natAbs + bits ss := by
  unfold bits
  simp only [List.map_append, List.map_cons, List.sum_append, List.sum_cons]
  omega
theorem pow_bits (a k : Nat) : a ^ k ≤ 2 ^ ((a.log2 + 1) * k) := by
  have h1 : a ^ k ≤ (2 ^ (a.log2 + 1)) ^ k := Nat.pow_le_pow_left (Nat.le_of_lt (lt_log2 a)) k
  rwa [← Nat.pow_mul] at h1
theorem okMul_bits {a t k s : Nat} (ha : a ≤ 2 ^ s) (hs : s + (t.log2 + 1) * k ≤ 400000) : okMul (a : Int) ((t ^ k : Nat) : Int) := by
  unfold okMul
  rw [Int.natAbs_natCast, Int.natAbs_natCast]
  have h1 := log2_le_of ha
  have h2 := log_pow t k
  omega
theorem i_made_of_base : ∀ as Q, sp_made_of_base as Q → fnSpec [0, 1] 2 4 d_made_of_base as Q := by
  rintro as Q ⟨ts, rfl, hb, h⟩
  dsimp! [d_made_of_base, and_assoc]
  rw [zipD_map]
  refine forGo_pre (fun t : Nat × Int => .tuple [.int t.1, .int t.2]) (fun p τ => ∃ x4 x5 : Sl, τ = [.val (.list (ts.map fun t => .int t.1)), .val (.list (ts.map fun t => .int t.2)), .val (.int (topP p)), .val (.int (lowP p)), x4, x5] ∧ topP p ≤ 2 ^ bits p ∧ lowP p ≤ 2 ^ bits p) ts _ ⟨_, _, rfl, by decide, by decide⟩ ?_ ?_
  · rintro p t s _ C hl ⟨x4, x5, rfl, h1, h2⟩ hC
    have hbb : bits p + (t.1.log2 + 1) * t.2.natAbs ≤ 400000 := by
      rw [hl, bits_mid] at hb
      omega
    have bs : bits (p ++ [t]) = bits p + (t.1.log2 + 1) * t.2.natAbs := by
      rw [bits_mid]
      unfold bits
      simp
    have up : ∀ {a : Nat}, a ≤ 2 ^ bits p → a ≤ 2 ^ bits (p ++ [t]) := fun h => Nat.le_trans h (pow2_le (by omega))
    have mul : ∀ {a : Nat}, a ≤ 2 ^ bits p → a * t.1 ^ t.2.natAbs ≤ 2 ^ bits (p ++ [t]) := fun h => by
      rw [bs, Nat.pow_add]
      exact Nat.mul_le_mul h (pow_bits _ _)
    by_cases ht : 0 < t.2
    · dsimp! [if_pos ht]
      have e : t.2 = (t.2.natAbs : Int) := by omega
      conv => arg 1; rw [e]
      refine cl_power _ _ _ (by omega) ?_
      dsimp! []
      refine ⟨okMul_bits h1 hbb, hC _ ⟨.val (.int t.1), .val (.int t.2), by rw [topP_snoc, lowP_snoc, if_pos ht, if_pos ht, Int.natCast_mul], ?_, ?_⟩⟩
      · rw [topP_snoc, if_pos ht]; exact mul h1
      · rw [lowP_snoc, if_pos ht]; exact up h2
    · dsimp! [if_neg ht]
      have e : 0 - t.2 = (t.2.natAbs : Int) := by omega
      rw [e]
      refine cl_power _ _ _ (by omega) ?_
      dsimp! []
      refine ⟨okMul_bits h2 hbb, hC _ ⟨.val (.int t.1), .val (.int t.2), by rw [topP_snoc, lowP_snoc, if_neg ht, if_neg ht, Int.natCast_mul], ?_, ?_⟩⟩
      · rw [topP_snoc, if_neg ht]; exact up h1
      · rw [lowP_snoc, if_neg ht]; exact mul h2
  · rintro _ ⟨x4, x5, rfl, h1, h2⟩
    dsimp! []
    exact h
end K28

namespace K28
open PySem PySem.Spec PyProof.Rows L2 DL FQ
/-! ### base_of: powers of few numbers without a common part -/
abbrev El := Nat × Nat
/-- the numbers without a common part -/
structure Bs (B : Nat → Nat) : Prop where
  co : ∀ s t, s ≠ t → Nat.gcd (B s) (B t) = 1
  pos : ∀ t, 1 ≤ B t
def vl (B : Nat → Nat) (e : El) : Nat := B e.1 ^ e.2
structure OkE (B : Nat → Nat) (e : El) : Prop where
  tag : e.1 < 3
  two : e.2 = 0 ∨ 2 ≤ B e.1
  small : vl B e < 2 ^ 100
theorem pow_gcd {x : Nat} (a b : Nat) : Nat.gcd (x ^ a) (x ^ b) = x ^ min a b := by
  rcases Nat.le_total a b with h | h
  · rw [Nat.min_eq_left h]
    exact Nat.gcd_eq_left (Nat.pow_dvd_pow x h)
  · rw [Nat.min_eq_right h]
    exact Nat.gcd_eq_right (Nat.pow_dvd_pow x h)
theorem vl_gcd_ne {B : Nat → Nat} (hB : Bs B) {e f : El} (h : e.1 ≠ f.1) : Nat.gcd (vl B e) (vl B f) = 1 :=
  Nat.Coprime.pow _ _ (hB.co e.1 f.1 h)
theorem vl_gcd_eq {B : Nat → Nat} {e f : El} (h : e.1 = f.1) : Nat.gcd (vl B e) (vl B f) = vl B (e.1, min e.2 f.2) := by
  unfold vl
  rw [← h]
  exact pow_gcd _ _
theorem one_lt_vl {B : Nat → Nat} {e : El} (h : OkE B e) : 1 < vl B e ↔ 0 < e.2 := by
  unfold vl
  constructor
  · intro h1
    rcases Nat.eq_zero_or_pos e.2 with z | z
    · rw [z, Nat.pow_zero] at h1
      omega
    · exact z
  · intro h1
    have h2 : 2 ≤ B e.1 := h.two.resolve_left (by omega)
    exact Nat.one_lt_pow (by omega) h2
theorem vl_pos {B : Nat → Nat} (hB : Bs B) (e : El) : 0 < vl B e := Nat.pow_pos (hB.pos _)
/-- the greatest common part of the exponents of one of them -/
def gt (t : Nat) (es : List El) : Nat := es.foldr (fun e g => if e.1 = t then Nat.gcd e.2 g else g) 0
theorem gt_nil (t : Nat) : gt t [] = 0 := rfl
theorem gt_cons (t : Nat) (e : El) (es : List El) : gt t (e :: es) = if e.1 = t then Nat.gcd e.2 (gt t es) else gt t es := rfl
theorem gt_append (t : Nat) (xs ys : List El) : gt t (xs ++ ys) = Nat.gcd (gt t xs) (gt t ys) := by
  induction xs with
  | nil => rw [List.nil_append, gt_nil, Nat.gcd_zero_left]
  | cons e xs ih =>
    rw [List.cons_append, gt_cons, gt_cons, ih]
    split
    · rw [Nat.gcd_assoc]
    · rfl
theorem gt_one (t : Nat) (e : El) : gt t [e] = if e.1 = t then e.2 else 0 := by
  rw [gt_cons, gt_nil, Nat.gcd_zero_right]
theorem gt_perm {t : Nat} {xs ys : List El} (h : xs.Perm ys) : gt t xs = gt t ys := by
  induction h with
  | nil => rfl
  | cons e _ ih => rw [gt_cons, gt_cons, ih]
  | swap e f l =>
    simp only [gt_cons]
    split <;> split <;> try rfl
    rw [← Nat.gcd_assoc, ← Nat.gcd_assoc, Nat.gcd_comm e.2 f.2]
  | trans _ _ h1 h2 => exact h1.trans h2
/-- the parts found: different ones, none to the power 0 -/
structure Fi (B : Nat → Nat) (fs : List El) : Prop where
  ok : ∀ e ∈ fs, OkE B e ∧ 0 < e.2
  nd : (fs.map (·.1)).Nodup
theorem gt_none {t : Nat} : ∀ {fs : List El}, (∀ e ∈ fs, e.1 ≠ t) → gt t fs = 0
  | [], _ => rfl
  | e :: fs, h => by
    rw [gt_cons, if_neg (h e List.mem_cons_self)]
    exact gt_none fun f hf => h f (List.mem_cons_of_mem _ hf)
theorem gt_mem {B : Nat → Nat} : ∀ {fs : List El}, Fi B fs → ∀ e ∈ fs, gt e.1 fs = e.2
  | [], _, e, h => by cases h
  | f :: fs, hf, e, h => by
    have nd := hf.nd
    rw [List.map_cons, List.nodup_cons] at nd
    have hfs : Fi B fs := ⟨fun x hx => hf.ok x (List.mem_cons_of_mem _ hx), nd.2⟩
    rw [gt_cons]
    rcases List.mem_cons.mp h with rfl | h
    · rw [if_pos rfl, gt_none, Nat.gcd_zero_right]
      intro x hx z
      exact nd.1 (List.mem_map.mpr ⟨x, hx, z⟩)
    · have : f.1 ≠ e.1 := fun z => nd.1 (by rw [z]; exact List.mem_map.mpr ⟨e, h, rfl⟩)
      rw [if_neg this]
      exact gt_mem hfs e h
theorem nodup_of_map {α β : Type} (f : α → β) {l : List α} (h : (l.map f).Nodup) : l.Nodup := (List.pairwise_map.mp h).imp fun n z => n (congrArg f z)
/-- what comes out, in some order -/
def fin (g : Nat → Nat) : List El := ([0, 1, 2].filter fun t => decide (0 < g t)).map fun t => (t, g t)
theorem fin_perm {B : Nat → Nat} {fs : List El} (h : Fi B fs) {g : Nat → Nat} (hg : ∀ t, gt t fs = g t) : fs.Perm (fin g) := by
  have n1 : fs.Nodup := nodup_of_map _ h.nd
  have n2 : (fin g).Nodup := by
    unfold fin
    refine nodup_of_map (·.1) ?_
    rw [List.map_map]
    show (List.map (fun t => t) _).Nodup
    rw [List.map_id']
    exact List.Pairwise.filter _ (show ([0, 1, 2] : List Nat).Nodup by decide)
  rw [List.perm_ext_iff_of_nodup n1 n2]
  intro e
  unfold fin
  rw [List.mem_map]
  constructor
  · intro he
    have h1 := gt_mem h e he
    obtain ⟨h2, h3⟩ := h.ok e he
    refine ⟨e.1, List.mem_filter.mpr ⟨?_, ?_⟩, ?_⟩
    · have := h2.tag
      have : e.1 = 0 ∨ e.1 = 1 ∨ e.1 = 2 := by omega
      rcases this with z | z | z <;> simp [z]
    · rw [← hg, h1]
      exact decide_eq_true h3
    · rw [← hg, h1]
  · rintro ⟨t, ht, rfl⟩
    obtain ⟨_, h2⟩ := List.mem_filter.mp ht
    have h3 : 0 < g t := of_decide_eq_true h2
    by_cases hx : ∃ x ∈ fs, x.1 = t
    · obtain ⟨x, hx, rfl⟩ := hx
      rw [← hg, gt_mem h x hx]
      exact hx
    · have := gt_none (t := t) (fs := fs) fun x hx' z => hx ⟨x, hx', z⟩
      rw [hg] at this
      omega
theorem gcd_split (a b : Nat) : Nat.gcd (a - min a b) (Nat.gcd (b - min a b) (min a b)) = Nat.gcd a b := by
  rcases Nat.le_total a b with h | h
  · rw [Nat.min_eq_left h, Nat.sub_self, Nat.gcd_zero_left, Nat.gcd_sub_self_left h, Nat.gcd_comm]
  · rw [Nat.min_eq_right h, Nat.sub_self, Nat.gcd_zero_left, Nat.gcd_sub_self_left h]
def tot (es : List El) : Nat := (es.map (·.2)).sum
theorem tot_append (xs ys : List El) : tot (xs ++ ys) = tot xs + tot ys := by
  unfold tot
  rw [List.map_append, List.sum_append]
theorem tot_cons (e : El) (ys : List El) : tot (e :: ys) = e.2 + tot ys := by
  unfold tot
  simp
end K28

namespace K28
open PySem PySem.Spec PyProof.Rows L2 DL FQ
/-! ### the walk of base_of -/
abbrev vd (B : Nat → Nat) (e : El) : D := .int (vl B e)
def sp_base_of : DSp := fun as Q => ∃ (B : Nat → Nat) (els : List El), as = [.val (.list (els.map (vd B)))] ∧ Bs B ∧ els.length ≤ 100 ∧ (∀ e ∈ els, OkE B e) ∧
  ∀ fs : List El, fs.Perm (fin fun t => gt t els) → (fs.map (vl B)).Pairwise (· ≤ ·) → Q (.own (fs.map (vd B))) as
def d_base_of : DS := sSeq (sSet 1 (dLst (dNil)))
  (sSeq (sFor (diV (dName 0)) (dgName 2)
  (sSeq (sSet 3 (dLst (dCons (dName 2) (dNil))))
  (sWhile (dTest (dOpNs fNe 3 (dFrz (dLst (dNil)))))
  (sSeq (sSet 4 (dVal (dMet0 fPop 3)))
  (sSeq (sSet 5 (dLcN [6, 7] 1 enumD (dgTup 2 (dgCons (dgName 6) (dgCons (dgName 7) (dgNil)))) (dTest (dOp fGt (dFrz (dCall sp_common (arV (dName 4) (arV (dName 7) (arNil))))) (dC (.int 1)))) (dName 6)))
  (sIf (dAnd (dTest (dOp fGt (dName 4) (dC (.int 1)))) (dTest (dOp fEq (dName 5) (dFrz (dLst (dNil))))))
  (sDrop (dMet fAppend 1 (dCons (dName 4) (dNil))))
  (sIf (dTest (dOp fGt (dName 4) (dC (.int 1))))
  (sSeq (sSet 7 (dVal (dMet fPopAt 1 (dCons (dOpNs fIx 5 (dC (.int 0))) (dNil)))))
  (sSeq (sSet 8 (dCall sp_common (arV (dName 4) (arV (dName 7) (arNil)))))
  (sDrop (dMet fExtend 3 (dCons (dFrz (dLst (dCons (dOp fDiv (dName 4) (dName 8)) (dCons (dOp fDiv (dName 7) (dName 8)) (dCons (dName 8) (dNil)))))) (dNil))))))
  (sNext))))))))
  (sRet (dCBEN fSortedI 1)))
/-- the while's state -/
def St (B : Nat → Nat) (hd : D) (G : Nat → Nat) (m : Nat) (τ : SD) : Prop := ∃ (fs ws : List El) (x2 x4 x5 x6 x7 x8 : Sl), τ = [.val hd, .own (fs.map (vd B)), x2, .own (ws.map (vd B)), x4, x5, x6, x7, x8] ∧
  Fi B fs ∧ (∀ e ∈ ws, OkE B e) ∧ (∀ t, Nat.gcd (gt t fs) (gt t ws) = G t) ∧ m = 3 * (tot fs + tot ws) + ws.length ∧ m ≤ 2000
theorem Fi.length {B : Nat → Nat} {fs : List El} (h : Fi B fs) : fs.length ≤ 3 := by
  have p := fin_perm h (g := fun t => gt t fs) fun _ => rfl
  rw [p.length_eq]
  unfold fin
  rw [List.length_map]
  exact List.length_filter_le _ _
theorem exp_le {B : Nat → Nat} {e : El} (h : OkE B e) : e.2 ≤ 100 := by
  rcases h.two with z | z
  · omega
  · have h1 : 2 ^ e.2 ≤ vl B e := Nat.pow_le_pow_left z e.2
    have h2 : 2 ^ e.2 < 2 ^ 100 := Nat.lt_of_le_of_lt h1 h.small
    exact Nat.le_of_lt ((Nat.pow_lt_pow_iff_right (by decide)).mp h2)
theorem tot_le {B : Nat → Nat} : ∀ {fs : List El}, (∀ e ∈ fs, OkE B e) → tot fs ≤ 100 * fs.length
  | [], _ => by simp [tot]
  | e :: fs, h => by
    rw [tot_cons, List.length_cons]
    have h1 := exp_le (h e List.mem_cons_self)
    have h2 := tot_le (fs := fs) fun x hx => h x (List.mem_cons_of_mem _ hx)
    omega
theorem nms_ints (xs : List Int) : Nms 0 (xs.map PyData.int) := .of fun d hd => by
  obtain ⟨i, _, rfl⟩ := List.mem_map.mp hd
  exact .int i
theorem nms_vd (B : Nat → Nat) (es : List El) : Nms 0 (es.map (vd B)) := .of fun d hd => by
  obtain ⟨i, _, rfl⟩ := List.mem_map.mp hd
  exact .int _
theorem eqv_nil {k : Nat} {xs : List D} (h : Nms k xs) : PyData.eqv (.list xs) (.list []) = decide (xs = []) := by
  by_cases z : xs = []
  · subst z
    rw [decide_eq_true rfl]
    exact (eqv_num rfl rfl).mpr rfl
  · rw [decide_eq_false z]
    exact Bool.eq_false_iff.mpr fun q => z (by
      have := (eqv_num h.lst.num rfl).mp q
      cases this; rfl)
theorem enum_map {α : Type} (f : α → D) (l : List α) (d : α) : enumD (l.map f) = (List.range l.length).map fun i => .tuple [.int (i : Nat), f (l.getD i d)] := by
  unfold enumD
  rw [List.length_map]
  refine List.map_congr_left fun i hi => ?_
  have hi : i < l.length := List.mem_range.mp hi
  rw [List.getD_eq_getElem?_getD, List.getD_eq_getElem?_getD, List.getElem?_map, List.getElem?_eq_getElem hi]
  rfl
theorem erase_map {α β : Type} (f : α → β) : ∀ (l : List α) (i : Nat), (l.map f).eraseIdx i = (l.eraseIdx i).map f
  | [], _ => rfl
  | _ :: _, 0 => rfl
  | a :: l, i + 1 => by
    show f a :: (l.map f).eraseIdx i = f a :: (l.eraseIdx i).map f
    rw [erase_map f l i]
theorem erase_perm {α : Type} : ∀ (l : List α) (i : Nat) (h : i < l.length), (l[i] :: l.eraseIdx i).Perm l
  | [], i, h => absurd h (Nat.not_lt_zero i)
  | a :: l, 0, _ => List.Perm.refl _
  | a :: l, i + 1, h => by
    have h' : i < l.length := by simpa using h
    have ih := erase_perm l i h'
    exact (List.Perm.swap _ _ _).trans (ih.cons a)
theorem tot_perm {xs ys : List El} (h : xs.Perm ys) : tot xs = tot ys := by
  induction h with
  | nil => rfl
  | cons e _ ih => rw [tot_cons, tot_cons, ih]
  | swap e f l => simp only [tot_cons]; omega
  | trans _ _ h1 h2 => exact h1.trans h2
theorem keep_tag {B : Nat → Nat} (hB : Bs B) {w e : El} (hw : OkE B w) (he : OkE B e) (h0 : 0 < e.2) (h1 : 1 < vl B w) : 1 < Nat.gcd (vl B w) (vl B e) ↔ w.1 = e.1 := by
  constructor
  · intro h
    by_cases z : w.1 = e.1
    · exact z
    · rw [vl_gcd_ne hB z] at h
      omega
  · intro z
    rw [vl_gcd_eq z]
    have h2 := (one_lt_vl hw).mp h1
    have h3 : 2 ≤ B w.1 := hw.two.resolve_left (by omega)
    exact Nat.one_lt_pow (by show min w.2 e.2 ≠ 0; omega) h3
theorem perm_lift {α β : Type} (f : α → β) {ms ns : List β} (h : ms.Perm ns) : ∀ l : List α, ns = l.map f → ∃ l' : List α, l'.Perm l ∧ l'.map f = ms := by
  induction h with
  | nil => exact fun l e => ⟨l, List.Perm.refl _, e.symm⟩
  | cons x _ ih =>
    intro l e
    cases l with
    | nil => cases e
    | cons a l =>
      rw [List.map_cons] at e
      injection e with e1 e2
      obtain ⟨l', p, e3⟩ := ih l e2
      exact ⟨a :: l', p.cons a, by rw [List.map_cons, e3, e1]⟩
  | swap x y t =>
    intro l e
    match l, e with
    | a :: b :: r, e =>
      rw [List.map_cons, List.map_cons] at e
      injection e with e1 e2
      injection e2 with e2 e3
      exact ⟨b :: a :: r, List.Perm.swap _ _ _, by rw [List.map_cons, List.map_cons, e1, e2, e3]⟩
  | trans _ _ ih1 ih2 =>
    intro l e
    obtain ⟨l2, p2, e2⟩ := ih2 l e
    obtain ⟨l1, p1, e1⟩ := ih1 l2 e2.symm
    exact ⟨l1, p1.trans p2, e1⟩
theorem i_base_of : ∀ as Q, sp_base_of as Q → fnSpec [0] 1 8 d_base_of as Q := by
  rintro as Q ⟨B, els, rfl, hB, hlen, hok, h⟩
  dsimp! [d_base_of]
  refine forGo_pre (vd B) (fun p τ => ∃ (fs : List El) (x2 x3 x4 x5 x6 x7 x8 : Sl), τ = [.val (.list (els.map (vd B))), .own (fs.map (vd B)), x2, x3, x4, x5, x6, x7, x8] ∧ Fi B fs ∧ ∀ t, gt t fs = gt t p) els _
    ⟨[], _, _, _, _, _, _, _, rfl, ⟨fun e he => absurd he List.not_mem_nil, List.nodup_nil⟩, fun t => rfl⟩ ?_ ?_
  · rintro p e s _ C hl ⟨fs, x2, x3, x4, x5, x6, x7, x8, rfl, hfi, hg⟩ hC
    have he : OkE B e := hok e (by rw [hl]; exact List.mem_append_right _ List.mem_cons_self)
    dsimp! []
    refine ⟨St B (.list (els.map (vd B))) (fun t => gt t (p ++ [e])), ⟨_, fs, [e], _, _, _, _, _, _, rfl, hfi, fun x hx => by rw [List.mem_singleton.mp hx]; exact he, fun t => by rw [hg]; exact (gt_append t p [e]).symm, rfl, ?_⟩, ?_⟩
    · have h1 := exp_le he
      have h2 := tot_le (fs := fs) fun x hx => (hfi.ok x hx).1
      have h3 := hfi.length
      have h4 : tot [e] = e.2 := by simp [tot]
      rw [h4, List.length_singleton]
      omega
    rintro m _ ⟨fs, ws, x2, x4, x5, x6, x7, x8, rfl, hfi, hws, hG, rfl, hm⟩
    have hG : ∀ t, Nat.gcd (gt t fs) (gt t ws) = gt t (p ++ [e]) := hG
    dsimp! [eqv_nil (nms_vd B ws), List.map_eq_nil_iff]
    refine ⟨(nms_vd B ws).lst.okEq (k := 1) Nms.nil.lst, ?_⟩
    rcases List.eq_nil_or_concat ws with rfl | ⟨ws, w, rfl⟩
    · dsimp! []
      exact hC _ ⟨fs, _, _, _, _, _, _, _, rfl, hfi, fun t => by rw [← hG, gt_nil, Nat.gcd_zero_right]⟩
    · rw [List.concat_eq_append] at *
      have hw : OkE B w := hws w (List.mem_append_right _ (List.mem_singleton.mpr rfl))
      have hws : ∀ x ∈ ws, OkE B x := fun x hx => hws x (List.mem_append_left _ hx)
      have ne : ¬ (ws ++ [w] = []) := by simp
      simp only [ne, decide_false, Bool.not_false, if_true]
      refine ⟨vd B w, by simp, ?_⟩
      rw [List.map_append, List.map_cons, List.map_nil, List.dropLast_concat, enum_map (vd B) fs (0, 0)]
      have hlen3 := hfi.length
      refine lcGo_filter (τ0 := [.val (.list (els.map (vd B))), .own (fs.map (vd B)), x2, .own (ws.map (vd B)), .val (vd B w), x5, .un, .un, x8]) (fun i : Nat => .tuple [.int (i : Int), vd B (fs.getD i (0, 0))]) (fun i => .int (i : Int)) (fun i => decide (1 < Nat.gcd (vl B w) (vl B (fs.getD i (0, 0))))) (List.range fs.length) [] (fun i hi C1 C2 hC1 hC2 => ?_) (by rw [List.length_range, List.length_nil]; omega) ?_
      · dsimp! [cl_common, Int.gcd_natCast_natCast]
        by_cases hk : 1 < Nat.gcd (vl B w) (vl B (fs.getD i (0, 0)))
        · have hk' : (1 : Int) < ((Nat.gcd (vl B w) (vl B (fs.getD i (0, 0))) : Nat) : Int) := by omega
          rw [if_pos hk']
          exact hC1 (decide_eq_true hk)
        · have hk' : ¬ (1 : Int) < ((Nat.gcd (vl B w) (vl B (fs.getD i (0, 0))) : Nat) : Int) := by omega
          rw [if_neg hk']
          exact hC2 (decide_eq_false hk)
      · generalize hidx : (List.range fs.length).filter (fun i => decide (1 < Nat.gcd (vl B w) (vl B (fs.getD i (0, 0))))) = idx
        have nmi : Nms 0 (idx.map fun (i : Nat) => PyData.int (i : Int)) := .of fun d hd => by
          obtain ⟨i, _, rfl⟩ := List.mem_map.mp hd
          exact .int _
        dsimp! [eqv_nil nmi, List.map_eq_nil_iff, List.length_map]
        by_cases h1 : 1 < vl B w
        · have h1' : (1 : Int) < (vl B w : Int) := by omega
          have hw2 := (one_lt_vl hw).mp h1
          simp only [h1', if_true]
          refine ⟨nmi.lst.okEq (k := 1) Nms.nil.lst, ?_⟩
          cases idx with
          | nil =>
            dsimp! []
            have hdis : ∀ x ∈ fs, x.1 ≠ w.1 := fun x hx z => by
              obtain ⟨i, hi, ei⟩ := List.getElem_of_mem hx
              have hmem : i ∈ (List.range fs.length).filter (fun i => decide (1 < Nat.gcd (vl B w) (vl B (fs.getD i (0, 0))))) := by
                refine List.mem_filter.mpr ⟨List.mem_range.mpr hi, decide_eq_true ?_⟩
                rw [List.getD_eq_getElem?_getD, List.getElem?_eq_getElem hi, Option.getD_some, ei]
                exact (keep_tag hB hw (hfi.ok x hx).1 (hfi.ok x hx).2 h1).mpr z.symm
              rw [hidx] at hmem
              cases hmem
            refine ⟨by omega, _, ?_, fs ++ [w], ws, _, _, _, _, _, _, by rw [List.map_append]; rfl, ⟨fun x hx => ?_, ?_⟩, hws, fun t => ?_, rfl, ?_⟩
            · rw [tot_append, tot_append, List.length_append, List.length_singleton]
              omega
            · rcases List.mem_append.mp hx with hx | hx
              · exact hfi.ok x hx
              · rw [List.mem_singleton.mp hx]
                exact ⟨hw, hw2⟩
            · rw [List.map_append, List.nodup_append]
              refine ⟨hfi.nd, by simp, fun a ha b hb => ?_⟩
              obtain ⟨x, hx, rfl⟩ := List.mem_map.mp ha
              have hb : b = w.1 := by simpa using hb
              rw [hb]
              exact hdis x hx
            · show _ = gt t (p ++ [e])
              rw [← hG t, gt_append, gt_append, Nat.gcd_assoc, Nat.gcd_comm (gt t [w])]
            · rw [tot_append, List.length_append, List.length_singleton] at hm
              rw [tot_append]
              omega
          | cons i0 rest =>
            have hm0 : i0 ∈ (List.range fs.length).filter (fun i => decide (1 < Nat.gcd (vl B w) (vl B (fs.getD i (0, 0))))) := by rw [hidx]; exact List.mem_cons_self
            obtain ⟨hr, hk⟩ := List.mem_filter.mp hm0
            have hi : i0 < fs.length := List.mem_range.mp hr
            have eg : fs.getD i0 (0, 0) = fs[i0] := by rw [List.getD_eq_getElem?_getD, List.getElem?_eq_getElem hi, Option.getD_some]
            rw [eg] at hk
            have hx : fs[i0] ∈ fs := List.getElem_mem hi
            have tg := (keep_tag hB hw (hfi.ok _ hx).1 (hfi.ok _ hx).2 h1).mp (of_decide_eq_true hk)
            generalize ho : fs[i0] = o at tg hx
            obtain ⟨ook, o0⟩ := hfi.ok o hx
            have go : (fs.map (vd B))[i0]? = some (vd B o) := by rw [List.getElem?_map, List.getElem?_eq_getElem hi, ho]; rfl
            have nn : ¬ (i0 :: rest = []) := by simp
            dsimp! [nn, go, cl_common, Int.gcd_natCast_natCast, Int.toNat_natCast]
            have hgv := vl_gcd_eq (B := B) tg
            generalize hmn : min w.2 o.2 = mn at hgv
            have hmw : mn ≤ w.2 := by omega
            have hmo : mn ≤ o.2 := by omega
            have hb2 : 2 ≤ B w.1 := hw.two.resolve_left (by omega)
            have dw : vl B w / vl B (w.1, mn) = vl B (w.1, w.2 - mn) := Nat.pow_div hmw (by omega)
            have dO : vl B o / vl B (w.1, mn) = vl B (o.1, o.2 - mn) := by
              unfold vl
              rw [tg]
              exact Nat.pow_div hmo (by rw [← tg]; omega)
            have hbo : 2 ≤ B o.1 := by rw [← tg]; exact hb2
            have le1 : ∀ k, k ≤ w.2 → vl B (w.1, k) < 2 ^ 100 := fun k hk => Nat.lt_of_le_of_lt (show B w.1 ^ k ≤ B w.1 ^ w.2 from Nat.pow_le_pow_right (Nat.le_of_succ_le hb2) hk) hw.small
            have le2 : ∀ k, k ≤ o.2 → vl B (o.1, k) < 2 ^ 100 := fun k hk => Nat.lt_of_le_of_lt (show B o.1 ^ k ≤ B o.1 ^ o.2 from Nat.pow_le_pow_right (Nat.le_of_succ_le hbo) hk) ook.small
            have hgp := vl_pos hB (w.1, mn)
            have bg : Bi 100 ((vl B (w.1, mn) : Nat) : Int) := le1 mn hmw
            have perm : (o :: fs.eraseIdx i0).Perm fs := by
              rw [← ho]
              exact erase_perm fs i0 hi
            have hlt : tot fs = o.2 + tot (fs.eraseIdx i0) := by
              rw [← tot_cons]
              exact (tot_perm perm).symm
            have t3 : tot [(w.1, w.2 - mn), (o.1, o.2 - mn), (w.1, mn)] = (w.2 - mn) + ((o.2 - mn) + mn) := by simp [tot]
            have tw : tot (ws ++ [w]) = tot ws + w.2 := by rw [tot_append]; simp [tot]
            rw [hgv, ← Int.natCast_ediv, ← Int.natCast_ediv, dw, dO]
            rw [List.length_append, List.length_singleton] at hm ⊢
            refine ⟨by omega, by omega, bg.okDiv (by omega), bg.okDiv (by omega), by rw [List.length_map]; omega, _, ?_, fs.eraseIdx i0, ws ++ [(w.1, w.2 - mn), (o.1, o.2 - mn), (w.1, mn)], _, _, _, _, _, _, by rw [List.map_append, erase_map]; rfl, ⟨fun x hx => hfi.ok x (List.mem_of_mem_eraseIdx hx), ?_⟩, fun x hx => ?_, fun t => ?_, rfl, ?_⟩
            · rw [tot_append, t3, List.length_append]
              show _ + (ws.length + 3) < _
              omega
            · rw [← erase_map]
              exact List.Nodup.sublist (List.eraseIdx_sublist _ _) hfi.nd
            · rcases List.mem_append.mp hx with hx | hx
              · exact hws x hx
              · rcases List.mem_cons.mp hx with rfl | hx
                · exact ⟨hw.tag, .inr hb2, le1 _ (Nat.sub_le _ _)⟩
                · rcases List.mem_cons.mp hx with rfl | hx
                  · exact ⟨ook.tag, .inr (by show 2 ≤ B o.1; rw [← tg]; exact hb2), le2 _ (Nat.sub_le _ _)⟩
                  · rw [List.mem_singleton.mp hx]
                    exact ⟨hw.tag, .inr hb2, le1 _ hmw⟩
            · show _ = gt t (p ++ [e])
              rw [← hG t, ← gt_perm perm, gt_cons, gt_append, gt_append, gt_cons, gt_cons, gt_one, gt_one]
              show Nat.gcd (gt t (fs.eraseIdx i0)) (Nat.gcd (gt t ws) (if w.1 = t then Nat.gcd (w.2 - mn) (if o.1 = t then Nat.gcd (o.2 - mn) (if w.1 = t then mn else 0) else if w.1 = t then mn else 0) else if o.1 = t then Nat.gcd (o.2 - mn) (if w.1 = t then mn else 0) else if w.1 = t then mn else 0)) = _
              by_cases z : w.1 = t
              · rw [if_pos z, if_pos (tg.symm.trans z), if_pos z, if_pos (tg.symm.trans z), if_pos z, ← hmn, gcd_split]
                simp only [Nat.gcd_assoc, Nat.gcd_comm, Nat.gcd_left_comm]
              · have z2 : ¬ o.1 = t := fun q => z (tg.trans q)
                rw [if_neg z, if_neg z2, if_neg z, if_neg z2, if_neg z, Nat.gcd_zero_right]
            · rw [tot_append, t3, List.length_append]
              show _ + (ws.length + 3) ≤ _
              omega
        · have h1' : ¬ (1 : Int) < (vl B w : Int) := by omega
          simp only [h1', if_false]
          have hw2 : w.2 = 0 := by
            rcases Nat.eq_zero_or_pos w.2 with z | z
            · exact z
            · exact absurd ((one_lt_vl hw).mpr z) h1
          refine ⟨_, ?_, fs, ws, _, _, _, _, _, _, rfl, hfi, hws, fun t => ?_, rfl, ?_⟩
          · rw [tot_append, List.length_append, List.length_singleton]
            omega
          · show _ = gt t (p ++ [e])
            have : gt t [w] = 0 := by rw [gt_one, hw2]; split <;> rfl
            rw [← hG t, gt_append, this, Nat.gcd_zero_right]
          · rw [tot_append, List.length_append, List.length_singleton] at hm
            omega
  · rintro _ ⟨fs, x2, x3, x4, x5, x6, x7, x8, rfl, hfi, hg⟩
    dsimp! [intsOf_all]
    intro ms hp hs
    obtain ⟨fs', p, e⟩ := perm_lift (fun e : El => (vl B e : Int)) hp fs rfl
    have hh := h fs' (p.trans (fin_perm hfi hg)) ?_
    · rw [← e, List.map_map]
      exact hh
    · rw [← e] at hs
      refine List.pairwise_map.mpr ((List.pairwise_map.mp hs).imp fun {a b} z => ?_)
      have z : (vl B a : Int) ≤ (vl B b : Int) := z
      omega
end K28

namespace K28
open PySem PySem.Spec PyProof.Rows L2 DL FQ
/-! ### two for: what each row gives -/
theorem lc2Go_flat {α : Type} {vs vs1 : List Nat} {g g1 : DG} {di1 : DI} {el : DV} {Q : List D → SD → Prop} {τ0 : SD} (f : α → D) (F : α → List D) : ∀ (rows : List α) (acc : List D),
    (∀ a ∈ rows, ∀ (acc : List D) (C : List D → SD → Prop), acc.length + (F a).length ≤ 100000 → C (acc ++ F a) τ0 → g (f a) τ0 fun τ2 => di1 τ2 fun its1 τ4 => lcGo vs1 g1 dtYes el (fun acc' τ5 => C acc' (wipeD τ5 vs)) its1 acc (wipeD τ4 vs1)) →
    acc.length + (rows.flatMap F).length ≤ 100000 → Q (acc ++ rows.flatMap F) τ0 → lc2Go vs vs1 g dtYes di1 g1 dtYes el Q (rows.map f) acc τ0
  | [], acc, _, _, hq => by
    rw [List.flatMap_nil, List.append_nil] at hq
    exact hq
  | a :: rows, acc, hs, hl, hq => by
    rw [List.flatMap_cons] at hl hq
    rw [List.length_append] at hl
    show g (f a) τ0 fun τ2 => dtYes τ2 fun k τ3 => if k = true then di1 τ3 fun its1 τ4 => lcGo vs1 g1 dtYes el (fun acc' τ5 => lc2Go vs vs1 g dtYes di1 g1 dtYes el Q (rows.map f) acc' (wipeD τ5 vs)) its1 acc (wipeD τ4 vs1) else lc2Go vs vs1 g dtYes di1 g1 dtYes el Q (rows.map f) acc (wipeD τ3 vs)
    simp only [dtYes, if_true]
    refine hs a List.mem_cons_self acc (fun acc' τ => lc2Go vs vs1 g dtYes di1 g1 dtYes el Q (rows.map f) acc' τ) (by omega) ?_
    refine lc2Go_flat f F rows _ (fun b hb => hs b (List.mem_cons_of_mem _ hb)) (by rw [List.length_append]; omega) ?_
    rw [List.append_assoc]
    exact hq
/-! ### the greatest common part of a row -/
theorem gcdL_go : ∀ (ks : List Int) (a : Nat), ks.foldl (fun a k => Nat.gcd a k.natAbs) a = Nat.gcd a (gcdL ks)
  | [], a => by unfold gcdL; rw [List.foldl_nil, List.foldl_nil, Nat.gcd_zero_right]
  | k :: ks, a => by
    unfold gcdL
    rw [List.foldl_cons, List.foldl_cons, gcdL_go ks, gcdL_go ks (Nat.gcd 0 k.natAbs), Nat.gcd_zero_left, Nat.gcd_assoc]
theorem gcdL_cons (k : Int) (ks : List Int) : gcdL (k :: ks) = Nat.gcd k.natAbs (gcdL ks) := by
  show ks.foldl _ (Nat.gcd 0 k.natAbs) = _
  rw [gcdL_go, Nat.gcd_zero_left]
theorem gcdL_nil : gcdL [] = 0 := rfl
theorem gcdL_dvd : ∀ {ks : List Int} {k : Int}, k ∈ ks → (gcdL ks : Int) ∣ k
  | [], k, h => by cases h
  | a :: ks, k, h => by
    rw [gcdL_cons]
    rcases List.mem_cons.mp h with rfl | h
    · exact Int.natAbs_dvd_natAbs.mp (by rw [Int.natAbs_natCast]; exact Nat.gcd_dvd_left _ _)
    · have := gcdL_dvd h
      exact Int.dvd_trans (Int.natCast_dvd_natCast.mpr (Nat.gcd_dvd_right _ _)) this
theorem gcdL_pos : ∀ {ks : List Int} {k : Int}, k ∈ ks → k ≠ 0 → 0 < gcdL ks
  | [], k, h, _ => by cases h
  | a :: ks, k, h, h0 => by
    rw [gcdL_cons]
    rcases List.mem_cons.mp h with rfl | h
    · exact Nat.gcd_pos_of_pos_left _ (by omega)
    · exact Nat.gcd_pos_of_pos_right _ (gcdL_pos h h0)
theorem gcdL_neg (ks : List Int) : gcdL (ks.map fun k => -1 * k) = gcdL ks := by
  induction ks with
  | nil => rfl
  | cons k ks ih =>
    rw [List.map_cons, gcdL_cons, gcdL_cons, ih]
    congr 1
    omega
theorem gcdL_mul (c : Int) (ks : List Int) : gcdL (ks.map fun k => c * k) = c.natAbs * gcdL ks := by
  induction ks with
  | nil => rfl
  | cons k ks ih =>
    rw [List.map_cons, gcdL_cons, gcdL_cons, ih, Int.natAbs_mul, Nat.gcd_mul_left]
/-- the way: 0, 1 or -1 for each part; the first that is not 0 -/
structure Way (zs : List Int) (wp : Int) (rest : List Int) : Prop where
  zero : ∀ z ∈ zs, z = 0
  one : wp = 1 ∨ wp = -1
  tri : ∀ w ∈ rest, w = 0 ∨ w = 1 ∨ w = -1
  len : zs.length + rest.length ≤ 9
theorem Way.all {zs rest : List Int} {wp : Int} (h : Way zs wp rest) : ∀ w ∈ zs ++ wp :: rest, w = 0 ∨ w = 1 ∨ w = -1 := fun w hw => by
  rcases List.mem_append.mp hw with hw | hw
  · exact .inl (h.zero w hw)
  · rcases List.mem_cons.mp hw with rfl | hw
    · exact .inr h.one
    · exact h.tri w hw
theorem Way.gcd {zs rest : List Int} {wp : Int} (h : Way zs wp rest) : gcdL (zs ++ wp :: rest) = 1 := by
  have h1 := gcdL_dvd (ks := zs ++ wp :: rest) (k := wp) (List.mem_append_right _ List.mem_cons_self)
  have : (gcdL (zs ++ wp :: rest) : Int) ∣ 1 := by
    rcases h.one with z | z
    · rw [z] at h1
      rw [z]
      exact h1
    · rw [z] at h1
      rw [z]
      exact Int.dvd_neg.mp h1
  have := Int.natCast_dvd_natCast.mp (show ((gcdL (zs ++ wp :: rest) : Nat) : Int) ∣ ((1 : Nat) : Int) from this)
  exact Nat.dvd_one.mp this
/-! ### the products, turned -/
theorem topP_neg (ts : List (Nat × Int)) : topP (ts.map fun t => (t.1, -1 * t.2)) = lowP ts := by
  unfold topP lowP
  rw [List.foldl_map]
  congr 1
  funext a t
  by_cases h : 0 < t.2
  · rw [if_neg (by show ¬ 0 < -1 * t.2; omega), if_pos h]
  · rw [if_neg h]
    by_cases h2 : t.2 = 0
    · rw [h2, if_neg (by show ¬ (0 : Int) < -1 * 0; omega), Int.natAbs_zero, Nat.pow_zero, Nat.mul_one]
    · rw [if_pos (by show 0 < -1 * t.2; omega)]
      congr 2
      show (-1 * t.2).natAbs = t.2.natAbs
      omega
theorem lowP_neg (ts : List (Nat × Int)) : lowP (ts.map fun t => (t.1, -1 * t.2)) = topP ts := by
  have := topP_neg (ts.map fun t => (t.1, -1 * t.2))
  rw [List.map_map] at this
  have e : (ts.map ((fun t : Nat × Int => (t.1, -1 * t.2)) ∘ fun t => (t.1, -1 * t.2))) = ts := by
    have : ((fun t : Nat × Int => (t.1, -1 * t.2)) ∘ fun t => (t.1, -1 * t.2)) = id := by
      funext t
      show (t.1, -1 * (-1 * t.2)) = t
      have : -1 * (-1 * t.2) = t.2 := by omega
      rw [this]
    rw [this, List.map_id]
  rw [e] at this
  exact this.symm
/-! ### root_of_rows -/
abbrev rowD (r : List Int) : D := .tuple (r.map .int)
structure Rows (ps : List Nat) (zs : List Int) (wp : Int) (rest ks : List Int) : Prop where
  way : Way zs wp rest
  len : ps.length = (zs ++ wp :: rest).length
  small : ∀ p ∈ ps, p < 2 ^ 100
  low : ∀ k ∈ ks, k.natAbs ≤ 100
  many : ks.length ≤ 12
  some : ∃ k ∈ ks, k ≠ 0
/-- the parts with what they are taken to -/
def taken (ps : List Nat) (way : List Int) (by' : Int) : List (Nat × Int) := ps.zip (way.map fun w => w * by')
def sp_root_of_rows : DSp := fun as Q => ∃ (ps : List Nat) (zs : List Int) (wp : Int) (rest ks : List Int) (rows : List (List Int)), as = [.val (.list (ps.map fun p => .int (p : Nat))), .val (.list (rows.map rowD))] ∧ Rows ps zs wp rest ks ∧
  ((rows = ks.map (fun k => (zs ++ wp :: rest).map fun w => k * w) ∧ lowP (taken ps (zs ++ wp :: rest) (gcdL ks)) < topP (taken ps (zs ++ wp :: rest) (gcdL ks)) ∧
      Q (.val (.tuple [fr (topP (taken ps (zs ++ wp :: rest) (gcdL ks))) (lowP (taken ps (zs ++ wp :: rest) (gcdL ks))), rowD (ks.map fun k => k / (gcdL ks : Int))])) as) ∨
   (∃ ls : List Int, rows = ks.map (fun k => (zs ++ wp :: rest).map fun w => k * w) ++ [ls] ∧ ls.length = (zs ++ wp :: rest).length ∧ ls[zs.length]? = some 0 ∧ (∃ l ∈ ls, l ≠ 0) ∧ (∀ l ∈ ls, l.natAbs ≤ 100) ∧ Q (.val .none) as))
def d_root_of_rows : DS := sSeq (sSet 2 (dVal (dOp fIx (dFrz (dLc [3] (diV (dName 1)) (dgName 3) (dTest (dCB fAny (dCons (dFrz (dLc [4] (diV (dName 3)) (dgName 4) (dtYes) (dOp fNe (dName 4) (dC (.int 0))))) (dNil)))) (dName 3))) (dC (.int 0)))))
  (sSeq (sSet 5 (dVal (dCB fTuple (dCons (dFrz (dLc [4] (diV (dName 2)) (dgName 4) (dtYes) (dOp fDivG (dName 4) (dFrz (dCall sp_common_of (arV (dName 2) (arNil))))))) (dNil)))))
  (sSeq (sSet 6 (dVal (dOp fIx (dFrz (dLc [7, 4] (diEnum (dCons (dName 5) (dNil))) (dgTup 2 (dgCons (dgName 7) (dgCons (dgName 4) (dgNil)))) (dTest (dOp fNe (dName 4) (dC (.int 0)))) (dName 7))) (dC (.int 0)))))
  (sSeq (sIf (dNot (dTest (dCB fAll (dCons (dFrz (dLc2 [3, 7] [7] (diV (dName 1)) (dgName 3) (dtYes) (diRng (dCons (dCBN fLen 5) (dNil))) (dgName 7) (dtYes) (dOp fEq (dOp fMul (dOpNs fIx 3 (dName 7)) (dOpNs fIx 5 (dName 6))) (dOp fMul (dOpNs fIx 3 (dName 6)) (dOpNs fIx 5 (dName 7)))))) (dNil)))))
  (sRet (dVal (dC .none)))
  (sNext))
  (sSeq (sSet 8 (dLc [3] (diV (dName 1)) (dgName 3) (dtYes) (dOp fDivG (dOpNs fIx 3 (dName 6)) (dOpNs fIx 5 (dName 6)))))
  (sSeq (sSet 9 (dCall sp_common_of (arV (dName 8) (arNil))))
  (sSeq (sSet 10 (dCall sp_made_of_base (arV (dName 0) (arV (dFrz (dLc [4] (diV (dName 5)) (dgName 4) (dtYes) (dOp fMul (dName 4) (dName 9)))) (arNil)))))
  (sSeq (sSet 8 (dLc [4] (diV (dName 8)) (dgName 4) (dtYes) (dOp fDivG (dName 4) (dName 9))))
  (sSeq (sIf (dTest (dOp fLt (dOpNs fIx 10 (dC (.int 0))) (dOpNs fIx 10 (dC (.int 1)))))
  (sPar [10, 8] (drCons (dVal (dTup (dCons (dOpNs fIx 10 (dC (.int 1))) (dCons (dOpNs fIx 10 (dC (.int 0))) (dNil))))) (drCons (dLc [4] (diV (dName 8)) (dgName 4) (dtYes) (dOp fSub (dC (.int 0)) (dName 4))) (drNil))))
  (sNext))
  (sRet (dVal (dTup (dCons (dName 10) (dCons (dCBN fTuple 8) (dNil))))))))))))))

/-- the first row that is not all 0 -/
def nz (r : List Int) : Bool := r.any fun x => decide (x ≠ 0)
theorem filter_head {α : Type} (p : α → Bool) : ∀ {l : List α}, (∃ x ∈ l, p x = true) → ∃ y r, l.filter p = y :: r ∧ y ∈ l ∧ p y = true
  | [], h => by obtain ⟨x, hx, _⟩ := h; cases hx
  | a :: l, h => by
    by_cases ha : p a = true
    · exact ⟨a, l.filter p, by rw [List.filter_cons, if_pos ha], List.mem_cons_self, ha⟩
    · obtain ⟨x, hx, hp⟩ := h
      rcases List.mem_cons.mp hx with rfl | hx
      · exact absurd hp ha
      · obtain ⟨y, r, e, hy, py⟩ := filter_head p ⟨x, hx, hp⟩
        exact ⟨y, r, by rw [List.filter_cons, if_neg ha]; exact e, List.mem_cons_of_mem _ hy, py⟩
theorem eqv_intN (i j : Int) : (!PyData.eqv (.int i) (.int j)) = decide (i ≠ j) := by
  rw [eqv_intB]
  by_cases h : i = j <;> simp [h]
theorem any_id {α : Type} (p : α → Bool) (l : List α) : (l.map p).any id = l.any p := by
  rw [List.any_map]; rfl
theorem all_id {α : Type} (p : α → Bool) (l : List α) : (l.map p).all id = l.all p := by
  rw [List.all_map]; rfl
theorem first_at {zs rest : List Int} {wp : Int} (hz : ∀ z ∈ zs, z = 0) (hw : wp ≠ 0) : ∃ r, (List.range (zs ++ wp :: rest).length).filter (fun i => decide ((zs ++ wp :: rest).getD i 0 ≠ 0)) = zs.length :: r := by
  have e : (zs ++ wp :: rest).length = zs.length + (1 + rest.length) := by rw [List.length_append, List.length_cons]; omega
  rw [e, List.range_add, List.filter_append]
  have h0 : (List.range zs.length).filter (fun i => decide ((zs ++ wp :: rest).getD i 0 ≠ 0)) = [] := by
    rw [List.filter_eq_nil_iff]
    intro i hi
    have hi : i < zs.length := List.mem_range.mp hi
    rw [List.getD_eq_getElem?_getD, List.getElem?_append_left hi, List.getElem?_eq_getElem hi, Option.getD_some, hz _ (List.getElem_mem hi)]
    decide
  rw [h0, List.nil_append, Nat.add_comm 1, List.range_succ_eq_map, List.map_cons, Nat.add_zero, List.filter_cons]
  have h1 : (zs ++ wp :: rest).getD zs.length 0 = wp := by
    rw [List.getD_eq_getElem?_getD, List.getElem?_append_right (Nat.le_refl _), Nat.sub_self, List.getElem?_cons_zero, Option.getD_some]
  rw [h1, if_pos (decide_eq_true hw)]
  exact ⟨_, rfl⟩
theorem int_at {r : List Int} {i : Nat} (h : i < r.length) : (r.map PyData.int)[i]? = some (.int (r.getD i 0)) := by
  rw [List.getElem?_map, List.getElem?_eq_getElem h, List.getD_eq_getElem?_getD, List.getElem?_eq_getElem h]
  rfl
theorem flat_bools {α : Type} (b : α → Nat → Bool) (n : Nat) (rows : List α) : boolsOf (rows.flatMap fun r => (List.range n).map fun i => PyData.bool (b r i)) = some (rows.flatMap fun r => (List.range n).map fun i => b r i) := by
  have : (rows.flatMap fun r => (List.range n).map fun i => PyData.bool (b r i)) = (rows.flatMap fun r => (List.range n).map fun i => b r i).map PyData.bool := by
    rw [List.map_flatMap]
    congr 1
    funext r
    rw [List.map_map]
    rfl
  rw [this, boolsOf_map]
theorem flat_len {α β : Type} (f : Nat → α → β) (n : Nat) (rows : List α) : (rows.flatMap fun r => (List.range n).map fun i => f i r).length = rows.length * n := by
  induction rows with
  | nil => simp
  | cons r rows ih => rw [List.flatMap_cons, List.length_append, ih, List.length_map, List.length_range, List.length_cons, Nat.succ_mul, Nat.add_comm]
theorem bi7 {x : Int} (h : x.natAbs ≤ 100) : Bi 7 x := .of_le 100 h
theorem getD_mem {r : List Int} {i : Nat} (h : i < r.length) : r.getD i 0 ∈ r := by
  rw [List.getD_eq_getElem?_getD, List.getElem?_eq_getElem h]
  exact List.getElem_mem h
theorem taken_fst {ps : List Nat} {way : List Int} {b : Int} (h : ps.length = way.length) : (taken ps way b).map (fun t => PyData.int (t.1 : Nat)) = ps.map fun p => PyData.int (p : Nat) := by
  have : (taken ps way b).map (·.1) = ps := by
    unfold taken
    exact List.map_fst_zip (by rw [List.length_map]; omega)
  conv => rhs; rw [← this]
  rw [List.map_map]
  rfl
theorem taken_snd {ps : List Nat} {way : List Int} {b : Int} (h : ps.length = way.length) : (taken ps way b).map (fun t => PyData.int t.2) = way.map fun w => PyData.int (w * b) := by
  have : (taken ps way b).map (·.2) = way.map fun w => w * b := by
    unfold taken
    exact List.map_snd_zip (by rw [List.length_map]; omega)
  have e : (taken ps way b).map (fun t => PyData.int t.2) = ((taken ps way b).map (·.2)).map PyData.int := by rw [List.map_map]; rfl
  rw [e, this, List.map_map]
  rfl
theorem taken_bits {ps : List Nat} {b : Int} (hb : b.natAbs ≤ 100) : ∀ {way : List Int}, (∀ p ∈ ps, p < 2 ^ 100) → (∀ w ∈ way, w = 0 ∨ w = 1 ∨ w = -1) → bits (taken ps way b) ≤ 10200 * way.length := by
  induction ps with
  | nil => intro way _ _; simp [taken, bits]
  | cons p ps ih =>
    intro way h1 h2
    cases way with
    | nil => simp [taken, bits]
    | cons w way =>
      have h3 := ih (way := way) (fun x hx => h1 x (List.mem_cons_of_mem _ hx)) fun x hx => h2 x (List.mem_cons_of_mem _ hx)
      have e : bits (taken (p :: ps) (w :: way) b) = (p.log2 + 1) * (w * b).natAbs + bits (taken ps way b) := by
        unfold taken bits
        simp
      have h4 : (w * b).natAbs ≤ 100 := by
        rcases h2 w List.mem_cons_self with z | z | z <;> rw [z] <;> omega
      have h5 := log2_lt (h1 p List.mem_cons_self)
      have h6 : (p.log2 + 1) * (w * b).natAbs ≤ 101 * 100 := Nat.mul_le_mul (by omega) h4
      rw [e, List.length_cons]
      omega
theorem taken_neg (ps : List Nat) (way : List Int) (b : Int) : taken ps (way.map fun w => -1 * w) b = (taken ps way b).map fun t => (t.1, -1 * t.2) := by
  unfold taken
  rw [List.map_map]
  induction ps generalizing way with
  | nil => simp
  | cons p ps ih =>
    cases way with
    | nil => simp
    | cons w way =>
      simp only [List.map_cons, List.zip_cons_cons, ih, Function.comp_apply, Int.mul_assoc]
theorem i_root_of_rows : ∀ as Q, sp_root_of_rows as Q → fnSpec [0, 1] 2 9 d_root_of_rows as Q := by
  rintro as Q ⟨ps, zs, wp, rest, ks, rows, rfl, hr, h⟩
  obtain ⟨hw, hlen, hps, hks, hmany, ⟨k0, hk0, hk1⟩⟩ := hr
  generalize hway : zs ++ wp :: rest = way at h hlen
  have hwl : way.length ≤ 10 := by
    rw [← hway, List.length_append, List.length_cons]
    have := hw.len
    omega
  have htri : ∀ w ∈ way, w = 0 ∨ w = 1 ∨ w = -1 := by rw [← hway]; exact hw.all
  -- all rows are as long as the way
  have rlen : ∀ r ∈ rows, r.length = way.length := fun r hr => by
    rcases h with ⟨e, _⟩ | ⟨ls, e, e2, _⟩
    · rw [e] at hr
      obtain ⟨k, _, rfl⟩ := List.mem_map.mp hr
      rw [List.length_map]
    · rw [e] at hr
      rcases List.mem_append.mp hr with hr | hr
      · obtain ⟨k, _, rfl⟩ := List.mem_map.mp hr
        rw [List.length_map]
      · rw [List.mem_singleton.mp hr, e2]
  have rmany : rows.length ≤ 13 := by
    rcases h with ⟨e, _⟩ | ⟨ls, e, _⟩
    · rw [e, List.length_map]; omega
    · rw [e, List.length_append, List.length_map, List.length_singleton]; omega
  dsimp! [d_root_of_rows]
  refine lcGo_filter (τ0 := [.val (.list (ps.map fun p => .int (p : Nat))), .val (.list (rows.map rowD)), .un, .un, .un, .un, .un, .un, .un, .un, .un]) rowD rowD nz rows [] (fun r hr C1 C2 hC1 hC2 => ?_) (by rw [List.length_nil]; omega) ?_
  · dsimp! []
    refine lcGo_map (τ0 := [.val (.list (ps.map fun p => .int (p : Nat))), .val (.list (rows.map rowD)), .un, .val (rowD r), .un, .un, .un, .un, .un, .un, .un]) PyData.int (fun x => .bool (decide (x ≠ 0))) r [] (fun x hx C hC => ?_) (by rw [List.length_nil, rlen r hr]; omega) ?_
    · dsimp! []
      refine ⟨okEq_int _ _, ?_⟩
      rw [eqv_intN]
      exact hC
    · dsimp! [boolsOf_all]
      rw [any_id]
      cases hn : nz r with
      | true =>
        have : (r.any fun x => decide (x ≠ 0)) = true := hn
        rw [this, if_pos rfl]
        exact hC1 hn
      | false =>
        have : (r.any fun x => decide (x ≠ 0)) = false := hn
        rw [this, if_neg (by decide)]
        exact hC2 hn
  -- the first row is a multiple of the way
  have hkrow : ∀ k : Int, nz (way.map fun w => k * w) = true ↔ k ≠ 0 := fun k => by
    unfold nz
    rw [List.any_eq_true]
    constructor
    · rintro ⟨x, hx, h0⟩ z
      obtain ⟨w, _, rfl⟩ := List.mem_map.mp hx
      subst z
      rw [Int.zero_mul] at h0
      exact absurd h0 (by decide)
    · intro h0
      refine ⟨k * wp, List.mem_map.mpr ⟨wp, by rw [← hway]; exact List.mem_append_right _ List.mem_cons_self, rfl⟩, decide_eq_true ?_⟩
      rcases hw.one with z | z <;> rw [z] <;> omega
  obtain ⟨kf, more, ef, hkf, hkf0⟩ : ∃ kf more, rows.filter nz = (way.map fun w => kf * w) :: more ∧ kf ∈ ks ∧ kf ≠ 0 := by
    have first : ∃ y r, (ks.map fun k => way.map fun w => k * w).filter nz = y :: r ∧ y ∈ (ks.map fun k => way.map fun w => k * w) ∧ nz y = true := filter_head nz ⟨_, List.mem_map.mpr ⟨k0, hk0, rfl⟩, (hkrow k0).mpr hk1⟩
    obtain ⟨y, r, e1, e2, e3⟩ := first
    obtain ⟨k, hk, rfl⟩ := List.mem_map.mp e2
    rcases h with ⟨e, _⟩ | ⟨ls, e, _⟩
    · exact ⟨k, r, by rw [e, e1], hk, (hkrow k).mp e3⟩
    · exact ⟨k, r ++ [ls].filter nz, by rw [e, List.filter_append, e1]; rfl, hk, (hkrow k).mp e3⟩
  rw [ef]
  -- the way with the first row's sign
  obtain ⟨σ, hσ, hσf⟩ : ∃ σ : Int, (σ = 1 ∨ σ = -1) ∧ kf = σ * (kf.natAbs : Int) := by
    rcases Int.le_total 0 kf with z | z
    · exact ⟨1, .inl rfl, by omega⟩
    · exact ⟨-1, .inr rfl, by omega⟩
  have hg : gcdL (way.map fun w => kf * w) = kf.natAbs := by
    rw [gcdL_mul, ← hway, hw.gcd, Nat.mul_one]
  have hkb : Bi 7 (kf.natAbs : Int) := by
    have := hks kf hkf
    unfold Bi
    omega
  have hdiv : ∀ w : Int, (kf * w).fdiv (kf.natAbs : Int) = σ * w := fun w => by
    have : kf * w = (kf.natAbs : Int) * (σ * w) := by
      conv => lhs; rw [hσf]
      rw [Int.mul_assoc, Int.mul_left_comm]
    rw [this]
    exact Int.mul_fdiv_cancel_left _ (by omega)
  dsimp! []
  refine lcGo_map (τ0 := [.val (.list (ps.map fun p => .int (p : Nat))), .val (.list (rows.map rowD)), .val (rowD (way.map fun w => kf * w)), .un, .un, .un, .un, .un, .un, .un, .un]) PyData.int (fun x => .int (x.fdiv (kf.natAbs : Int))) (way.map fun w => kf * w) [] (fun x hx C hC => ?_) (by rw [List.length_nil, List.length_map]; omega) ?_
  · dsimp! []
    refine ⟨_, _, rfl, .inr rfl, ?_⟩
    rw [hg]
    dsimp! []
    exact ⟨⟨by omega, Nat.lt_of_le_of_lt hkb.log (by decide)⟩, hC⟩
  have e1 : ((way.map fun w => kf * w).map fun x => PyData.int (x.fdiv (kf.natAbs : Int))) = (way.map fun w => σ * w).map .int := by
    rw [List.map_map, List.map_map]
    exact List.map_congr_left fun w _ => congrArg PyData.int (hdiv w)
  rw [e1]
  have hwl' : (way.map fun w => σ * w).length = way.length := List.length_map _
  have hway' : (way.map fun w => σ * w) = (zs.map fun w => σ * w) ++ (σ * wp) :: rest.map fun w => σ * w := by rw [← hway, List.map_append, List.map_cons]
  have tri' : ∀ w ∈ (way.map fun w => σ * w), w = 0 ∨ w = 1 ∨ w = -1 := fun w hw' => by
    obtain ⟨v, hv, rfl⟩ := List.mem_map.mp hw'
    rcases hσ with z | z <;> rcases htri v hv with y | y | y <;> rw [z, y] <;> decide
  obtain ⟨ir, eir⟩ := first_at (zs := zs.map fun w => σ * w) (rest := rest.map fun w => σ * w) (wp := σ * wp) (fun z hz => by
    obtain ⟨v, hv, rfl⟩ := List.mem_map.mp hz
    rw [hw.zero v hv, Int.mul_zero]) (by rcases hσ with z | z <;> rcases hw.one with y | y <;> rw [z, y] <;> decide)
  rw [← hway', List.length_map] at eir
  generalize hw2 : (way.map fun w => σ * w) = way2 at eir hwl' tri'
  dsimp! []
  rw [enum_map PyData.int way2 0]
  refine lcGo_filter (τ0 := [.val (.list (ps.map fun p => .int (p : Nat))), .val (.list (rows.map rowD)), .val (rowD (way.map fun w => kf * w)), .un, .un, .val (rowD way2), .un, .un, .un, .un, .un]) (fun i : Nat => .tuple [.int (i : Int), .int (way2.getD i 0)]) (fun i => .int (i : Int)) (fun i => decide (way2.getD i 0 ≠ 0)) (List.range way2.length) [] (fun i hi C1 C2 hC1 hC2 => ?_) (by rw [List.length_nil, List.length_range]; omega) ?_
  · dsimp! []
    refine ⟨okEq_int _ _, ?_⟩
    rw [eqv_intN]
    by_cases hz : way2.getD i 0 ≠ 0
    · rw [decide_eq_true hz, if_pos rfl]
      exact hC1 (decide_eq_true hz)
    · rw [decide_eq_false hz, if_neg (by decide)]
      exact hC2 (decide_eq_false hz)
  rw [hwl', eir]
  dsimp! []
  have rsmall : ∀ r ∈ rows, ∀ x ∈ r, x.natAbs ≤ 100 := fun r hr x hx => by
    have mul : ∀ k ∈ ks, x ∈ (way.map fun w => k * w) → x.natAbs ≤ 100 := fun k hk hx => by
      obtain ⟨w, hw', rfl⟩ := List.mem_map.mp hx
      have := hks k hk
      rcases htri w hw' with z | z | z <;> rw [z] <;> omega
    rcases h with ⟨e, _⟩ | ⟨ls, e, _, _, _, e2, _⟩
    · rw [e] at hr
      obtain ⟨k, hk, rfl⟩ := List.mem_map.mp hr
      exact mul k hk hx
    · rw [e] at hr
      rcases List.mem_append.mp hr with hr | hr
      · obtain ⟨k, hk, rfl⟩ := List.mem_map.mp hr
        exact mul k hk hx
      · rw [List.mem_singleton.mp hr] at hx
        exact e2 x hx
  have hpl : zs.length < way.length := by rw [← hway, List.length_append, List.length_cons]; omega
  rw [List.length_map]
  have w2small : ∀ i, i < way.length → (way2.getD i 0).natAbs ≤ 100 := fun i hi => by
    rcases tri' _ (getD_mem (r := way2) (i := i) (by omega)) with z | z | z <;> rw [z] <;> decide
  refine lc2Go_flat (τ0 := [.val (.list (ps.map fun p => .int (p : Nat))), .val (.list (rows.map rowD)), .val (rowD (way.map fun w => kf * w)), .un, .un, .val (rowD way2), .val (.int (zs.length : Int)), .un, .un, .un, .un]) rowD (fun r => (List.range way.length).map fun i => .bool (decide (r.getD i 0 * way2.getD zs.length 0 = r.getD zs.length 0 * way2.getD i 0))) rows [] (fun r hr acc C hl hC => ?_) (by
    have fl := flat_len (fun (i : Nat) (r : List Int) => PyData.bool (decide (r.getD i 0 * way2.getD zs.length 0 = r.getD zs.length 0 * way2.getD i 0))) way.length rows
    rw [fl, List.length_nil]
    have := Nat.mul_le_mul rmany hwl
    omega) ?_
  · dsimp! [List.length_map, hwl', Int.toNat_natCast]
    refine ⟨⟨by omega, by omega⟩, ?_⟩
    have hrl := rlen r hr
    refine lcGo_map (τ0 := [.val (.list (ps.map fun p => .int (p : Nat))), .val (.list (rows.map rowD)), .val (rowD (way.map fun w => kf * w)), .val (rowD r), .un, .val (rowD way2), .val (.int (zs.length : Int)), .un, .un, .un, .un]) (fun i : Nat => .int (0 + (i : Int))) (fun i => .bool (decide (r.getD i 0 * way2.getD zs.length 0 = r.getD zs.length 0 * way2.getD i 0))) (List.range way.length) acc (fun i hi C1 hC1 => ?_) (by rw [List.length_map] at hl; exact hl) ?_
    · have hi : i < way.length := List.mem_range.mp hi
      dsimp! [Int.zero_add, int_at (r := r) (i := i) (by omega), int_at (r := r) (i := zs.length) (by omega), int_at (r := way2) (i := i) (by omega), int_at (r := way2) (i := zs.length) (by omega), eqv_intB]
      exact ⟨(bi7 (rsmall r hr _ (getD_mem (by omega)))).okMul (bi7 (w2small _ hpl)), (bi7 (rsmall r hr _ (getD_mem (by omega)))).okMul (bi7 (w2small _ hi)), okEq_int _ _, hC1⟩
    · dsimp! []
      exact hC
  dsimp! [flat_bools]
  have w2at : way2.getD zs.length 0 = σ * wp := by
    rw [← hw2, hway', List.getD_eq_getElem?_getD, List.getElem?_append_right (by rw [List.length_map]; exact Nat.le_refl _), List.length_map, Nat.sub_self]
    rfl
  have w2way : ∀ i, i < way.length → way2.getD i 0 = σ * way.getD i 0 := fun i hi => by
    rw [← hw2, List.getD_eq_getElem?_getD, List.getElem?_map, List.getElem?_eq_getElem hi, List.getD_eq_getElem?_getD, List.getElem?_eq_getElem hi]
    rfl
  have rowat : ∀ (k : Int) i, i < way.length → (way.map fun w => k * w).getD i 0 = k * way.getD i 0 := fun k i hi => by
    rw [List.getD_eq_getElem?_getD, List.getElem?_map, List.getElem?_eq_getElem hi, List.getD_eq_getElem?_getD, List.getElem?_eq_getElem hi]
    rfl
  rcases h with ⟨e, hlow, h⟩ | ⟨ls, e, l1, l2, ⟨l, hl, l0⟩, l3, h⟩
  · have allt : (rows.flatMap fun r => (List.range way.length).map fun i => decide (r.getD i 0 * way2.getD zs.length 0 = r.getD zs.length 0 * way2.getD i 0)).all id = true := by
      rw [List.all_eq_true]
      intro b hb
      obtain ⟨r, hr, hb⟩ := List.mem_flatMap.mp hb
      obtain ⟨i, hi, rfl⟩ := List.mem_map.mp hb
      have hi : i < way.length := List.mem_range.mp hi
      rw [e] at hr
      obtain ⟨k, hk, rfl⟩ := List.mem_map.mp hr
      refine decide_eq_true ?_
      rw [rowat k i hi, rowat k _ hpl, w2way i hi, w2way _ hpl]
      simp only [Int.mul_assoc, Int.mul_comm, Int.mul_left_comm]
    rw [allt]
    subst e
    rw [List.map_map]
    dsimp! []
    have wpat : way.getD zs.length 0 = wp := by
      rw [← hway, List.getD_eq_getElem?_getD, List.getElem?_append_right (Nat.le_refl _), Nat.sub_self]
      rfl
    have wp0 : σ * wp ≠ 0 := by rcases hσ with y | y <;> rcases hw.one with y2 | y2 <;> rw [y, y2] <;> decide
    have wpb : (σ * wp).natAbs.log2 < 9000 := by rcases hσ with y | y <;> rcases hw.one with y2 | y2 <;> rw [y, y2] <;> decide
    refine lcGo_map (τ0 := [.val (.list (ps.map fun p => .int (p : Nat))), .val (.list (ks.map (rowD ∘ fun k => way.map fun w => k * w))), .val (rowD (way.map fun w => kf * w)), .un, .un, .val (rowD way2), .val (.int (zs.length : Int)), .un, .un, .un, .un]) (rowD ∘ fun k => way.map fun w => k * w) (fun k => .int (σ * k)) ks [] (fun k hk C hC => ?_) (by rw [List.length_nil]; omega) ?_
    · have a1 := int_at (r := way.map fun w => k * w) (i := zs.length) (by rw [List.length_map]; omega)
      rw [rowat k _ hpl, wpat] at a1
      have a2 := int_at (r := way2) (i := zs.length) (by omega)
      rw [w2at] at a2
      dsimp! [Function.comp_apply, a1, a2]
      refine ⟨⟨wp0, wpb⟩, ?_⟩
      have : k * wp = (σ * wp) * (σ * k) := by rcases hσ with y | y <;> rcases hw.one with y2 | y2 <;> rw [y, y2] <;> omega
      rw [this, Int.mul_fdiv_cancel_left _ wp0]
      exact hC
    dsimp! []
    refine ⟨ks.map fun k => σ * k, _, rfl, .inl (by rw [List.map_map]; rfl), ?_⟩
    have hgs : gcdL (ks.map fun k => σ * k) = gcdL ks := by
      rw [gcdL_mul]
      rcases hσ with y | y <;> rw [y] <;> simp
    rw [hgs]
    have gpos : 0 < gcdL ks := gcdL_pos hk0 hk1
    have g100 : gcdL ks ≤ 100 := by
      have h1 := gcdL_dvd hk0
      have h2 := Int.natAbs_dvd_natAbs.mpr h1
      rw [Int.natAbs_natCast] at h2
      exact Nat.le_trans (Nat.le_of_dvd (by omega) h2) (hks k0 hk0)
    generalize hby : gcdL ks = b at h hlow gpos g100 hgs
    dsimp! []
    refine lcGo_map (τ0 := [.val (.list (ps.map fun p => .int (p : Nat))), .val (.list (ks.map (rowD ∘ fun k => way.map fun w => k * w))), .val (rowD (way.map fun w => kf * w)), .un, .un, .val (rowD way2), .val (.int (zs.length : Int)), .un, .val (.list (ks.map fun k => .int (σ * k))), .val (.int b), .un]) PyData.int (fun w => .int (w * b)) way2 [] (fun w hw' C hC => ?_) (by rw [List.length_nil]; omega) ?_
    · dsimp! []
      refine ⟨(bi7 (by rcases tri' w hw' with y | y | y <;> rw [y] <;> decide)).okMul (bi7 (x := (b : Int)) (by omega)), hC⟩
    dsimp! []
    refine ⟨taken ps way2 b, ?_, ?_, ?_⟩
    · rw [taken_fst (by omega), taken_snd (by omega)]
    · have := taken_bits (ps := ps) (b := (b : Int)) (by omega) hps tri'
      omega
    dsimp! []
    have bb : okDivG 0 (b : Int) := ⟨by omega, Nat.lt_of_le_of_lt (bi7 (x := (b : Int)) (by omega)).log (by decide)⟩
    have dvd : ∀ k ∈ ks, ∃ q, k = (b : Int) * q := fun k hk => by
      obtain ⟨q, e⟩ := gcdL_dvd hk
      rw [hby] at e
      exact ⟨q, e⟩
    have exd : ∀ k ∈ ks, (σ * k).fdiv (b : Int) = σ * (k / (b : Int)) := fun k hk => by
      obtain ⟨q, rfl⟩ := dvd k hk
      rw [Int.mul_left_comm, Int.mul_fdiv_cancel_left _ (by omega), Int.mul_ediv_cancel_left _ (by omega)]
    refine lcGo_map (τ0 := [.val (.list (ps.map fun p => .int (p : Nat))), .val (.list (ks.map (rowD ∘ fun k => way.map fun w => k * w))), .val (rowD (way.map fun w => kf * w)), .un, .un, .val (rowD way2), .val (.int (zs.length : Int)), .un, .val (.list (ks.map fun k => .int (σ * k))), .val (.int b), .val (fr (topP (taken ps way2 b)) (lowP (taken ps way2 b)))]) (fun k => .int (σ * k)) (fun k => .int ((σ * k).fdiv b)) ks [] (fun k hk C hC => ?_) (by rw [List.length_nil]; omega) ?_
    · dsimp! []
      exact ⟨bb, hC⟩
    have e3 : (ks.map fun k => PyData.int ((σ * k).fdiv b)) = ks.map fun k => PyData.int (σ * (k / (b : Int))) := List.map_congr_left fun k hk => congrArg PyData.int (exd k hk)
    rw [e3]
    dsimp! []
    rw [← hw2]
    rcases hσ with y | y
    · subst y
      simp only [Int.one_mul, List.map_id'] at h hlow ⊢
      rw [if_neg (by omega)]
      have h2 : rowD (ks.map fun k => k / (b : Int)) = .tuple (ks.map fun k => .int (k / (b : Int))) := by
        show PyData.tuple _ = PyData.tuple _
        rw [List.map_map]
        rfl
      rw [List.map_map, h2] at h
      exact h
    · subst y
      rw [taken_neg, topP_neg, lowP_neg]
      rw [if_pos (by omega)]
      refine lcGo_map (τ0 := [.val (.list (ps.map fun p => .int (p : Nat))), .val (.list (ks.map (rowD ∘ fun k => way.map fun w => k * w))), .val (rowD (way.map fun w => kf * w)), .un, .un, .val (rowD (way.map fun w => -1 * w)), .val (.int (zs.length : Int)), .un, .val (.list (ks.map fun k => .int (-1 * (k / (b : Int))))), .val (.int b), .val (fr (lowP (taken ps way b)) (topP (taken ps way b)))]) (fun k => .int (-1 * (k / (b : Int)))) (fun k => .int (k / (b : Int))) ks [] (fun k hk C hC => ?_) (by rw [List.length_nil]; omega) ?_
      · dsimp! []
        have : 0 - -1 * (k / (b : Int)) = k / (b : Int) := by omega
        rw [this]
        exact hC
      dsimp! []
      have h2 : rowD (ks.map fun k => k / (b : Int)) = .tuple (ks.map fun k => .int (k / (b : Int))) := by
        show PyData.tuple _ = PyData.tuple _
        rw [List.map_map]
        rfl
      rw [List.map_map, h2] at h
      exact h
  · have no : (rows.flatMap fun r => (List.range way.length).map fun i => decide (r.getD i 0 * way2.getD zs.length 0 = r.getD zs.length 0 * way2.getD i 0)).all id = false := by
      obtain ⟨i, hi, ei⟩ := List.getElem_of_mem hl
      refine Bool.eq_false_iff.mpr fun z => ?_
      rw [List.all_eq_true] at z
      have hmem : decide (ls.getD i 0 * way2.getD zs.length 0 = ls.getD zs.length 0 * way2.getD i 0) ∈ (rows.flatMap fun r => (List.range way.length).map fun i => decide (r.getD i 0 * way2.getD zs.length 0 = r.getD zs.length 0 * way2.getD i 0)) := by
        refine List.mem_flatMap.mpr ⟨ls, by rw [e]; exact List.mem_append_right _ (List.mem_singleton.mpr rfl), List.mem_map.mpr ⟨i, List.mem_range.mpr (by omega), rfl⟩⟩
      have := of_decide_eq_true (z _ hmem)
      rw [w2at] at this
      have a1 : ls.getD i 0 = l := by rw [List.getD_eq_getElem?_getD, List.getElem?_eq_getElem hi, ei]; rfl
      have a2 : ls.getD zs.length 0 = 0 := by rw [List.getD_eq_getElem?_getD, l2]; rfl
      rw [a1, a2, Int.zero_mul] at this
      rcases hσ with y | y <;> rcases hw.one with y2 | y2 <;> rw [y, y2] at this <;> omega
    rw [no]
    dsimp! []
    exact h
end K28

namespace K28
open PySem PySem.Spec PyProof.Rows L2 DL FQ
/-! ### common_root -/
/-- the base p / q -/
structure GB (p q : Nat) : Prop where
  lt : q < p
  pos : 1 ≤ q
  co : Nat.gcd p q = 1
  small : p ≤ 12
  p17 : Nat.gcd p 17 = 1
  q17 : Nat.gcd q 17 = 1
/-- p ^ m over q ^ m, the right way round -/
def nu (p q : Nat) (m : Int) : Nat := if 0 ≤ m then p ^ m.natAbs else q ^ m.natAbs
def de (p q : Nat) (m : Int) : Nat := if 0 ≤ m then q ^ m.natAbs else p ^ m.natAbs
def bq (p q : Nat) : Rat := Rat.divInt p q
theorem bq_num {p q : Nat} (h : GB p q) : (bq p q).num = p ∧ (bq p q).den = q := by
  have hq : (0 : Int) < (q : Int) := by have := h.pos; omega
  have hg : Int.gcd (p : Int) (q : Int) = 1 := by rw [Int.gcd_natCast_natCast]; exact h.co
  have h1 := rat_num (t := p) hq
  have h2 := rat_den (t := p) hq
  rw [hg] at h1 h2
  refine ⟨by unfold bq; rw [h1]; simp, ?_⟩
  have : (((bq p q).den : Nat) : Int) = q := by unfold bq; rw [h2]; simp
  omega
theorem inv_parts {r : Rat} (h : 0 < r) : (r⁻¹).num = r.den ∧ ((r⁻¹).den : Int) = r.num := by
  have hn := num_pos' h
  rw [Rat.inv_def]
  have hg : Int.gcd (r.den : Int) r.num = 1 := by rw [Int.gcd_comm]; exact gcd_frq r
  have h1 := rat_num (t := r.den) hn
  have h2 := rat_den (t := r.den) hn
  rw [hg] at h1 h2
  exact ⟨by rw [h1]; simp, by rw [h2]; simp⟩
theorem bq_pos {p q : Nat} (h : GB p q) : 0 < bq p q := by
  have h1 := (bq_num h).1
  rw [Rat.lt_iff]
  rw [h1]
  have := h.lt
  have := (bq p q).den_pos
  show (0 : Int) * _ < _ * 1
  omega
theorem bq_parts {p q : Nat} (h : GB p q) (m : Int) : ((bq p q) ^ m).num = nu p q m ∧ (((bq p q) ^ m).den : Int) = de p q m := by
  obtain ⟨h1, h2⟩ := bq_num h
  unfold nu de
  rcases zpow_cases m with ⟨n, rfl⟩ | ⟨n, rfl⟩
  · rw [if_pos (by omega), if_pos (by omega), Rat.zpow_natCast, Rat.num_pow, Rat.den_pow, h1, h2, Int.natAbs_natCast]
    exact ⟨by rw [Int.natCast_pow], rfl⟩
  · rw [Rat.zpow_neg, Rat.zpow_natCast]
    obtain ⟨i1, i2⟩ := inv_parts (Rat.pow_pos (n := n) (bq_pos h))
    rw [i1, i2, Rat.num_pow, Rat.den_pow, h1, h2, Int.natAbs_neg, Int.natAbs_natCast]
    by_cases hn : n = 0
    · subst hn
      simp
    · rw [if_neg (by omega), if_neg (by omega)]
      exact ⟨rfl, by rw [Int.natCast_pow]⟩
/-- the numbers without a common part -/
def bB (p q : Nat) : Nat → Nat := fun t => if t = 0 then p else if t = 1 then q else if t = 2 then 17 else 1
theorem bB_bs {p q : Nat} (h : GB p q) : Bs (bB p q) := by
  have h1 := h.co
  have h2 := h.p17
  have h3 := h.q17
  refine ⟨fun s t hst => ?_, fun t => ?_⟩
  · unfold bB
    split
    · split
      · omega
      · split
        · exact h1
        · split
          · exact h2
          · exact Nat.gcd_one_right _
    · split
      · split
        · rw [Nat.gcd_comm]; exact h1
        · split
          · omega
          · split
            · exact h3
            · exact Nat.gcd_one_right _
      · split
        · split
          · rw [Nat.gcd_comm]; exact h2
          · split
            · rw [Nat.gcd_comm]; exact h3
            · split
              · omega
              · exact Nat.gcd_one_right _
        · exact Nat.gcd_one_left _
  · unfold bB
    have := h.pos
    have := h.lt
    split
    · omega
    · split
      · omega
      · split <;> omega
/-- the exponent that q's part is told with -/
def qe (q n : Nat) : Nat := if q = 1 then 0 else n
def elM (q : Nat) (m : Int) : List El := if 0 ≤ m then [(0, m.natAbs), (1, qe q m.natAbs)] else [(1, qe q m.natAbs), (0, m.natAbs)]
def els (q : Nat) (ms : List Int) (x : Bool) : List El := ms.flatMap (elM q) ++ if x then [(2, 1), (2, 0)] else []
def nums (p q : Nat) (ms : List Int) (x : Bool) : List Rat := ms.map (fun m => bq p q ^ m) ++ if x then [17] else []
theorem vl_qe (p q n : Nat) : vl (bB p q) (1, qe q n) = q ^ n := by
  unfold vl qe
  show q ^ (if q = 1 then 0 else n) = q ^ n
  split
  · rename_i h; rw [h, Nat.one_pow, Nat.one_pow]
  · rfl
theorem vl_0 (p q n : Nat) : vl (bB p q) (0, n) = p ^ n := rfl
theorem vl_2 (p q n : Nat) : vl (bB p q) (2, n) = 17 ^ n := rfl
theorem small_pow {x n : Nat} (hx : x ≤ 12) (hn : n ≤ 6) : x ^ n < 2 ^ 100 := by
  have h1 : x ^ n ≤ 12 ^ n := Nat.pow_le_pow_left hx n
  have h2 : 12 ^ n ≤ 12 ^ 6 := Nat.pow_le_pow_right (by decide) hn
  have h3 : (12 : Nat) ^ 6 < 2 ^ 100 := by decide
  omega
theorem els_ok {p q : Nat} (h : GB p q) {ms : List Int} {x : Bool} (hm : ∀ m ∈ ms, m.natAbs ≤ 6) : ∀ e ∈ els q ms x, OkE (bB p q) e := by
  have hp := h.lt
  have hq := h.pos
  have hs := h.small
  have o0 : ∀ n, n ≤ 6 → OkE (bB p q) (0, n) := fun n hn => ⟨by show (0 : Nat) < 3; decide, .inr (by show 2 ≤ p; omega), small_pow (x := p) (by omega) hn⟩
  have o1 : ∀ n, n ≤ 6 → OkE (bB p q) (1, qe q n) := fun n hn => ⟨by show (1 : Nat) < 3; decide, by
    unfold qe
    by_cases z : q = 1
    · rw [if_pos z]; exact .inl rfl
    · exact .inr (by show 2 ≤ q; omega), by rw [vl_qe]; exact small_pow (by omega) hn⟩
  intro e he
  unfold els at he
  rcases List.mem_append.mp he with he | he
  · obtain ⟨m, hm', he⟩ := List.mem_flatMap.mp he
    have h6 := hm m hm'
    unfold elM at he
    split at he <;> rcases List.mem_cons.mp he with rfl | he
    · exact o0 _ h6
    · rw [List.mem_singleton.mp he]; exact o1 _ h6
    · exact o1 _ h6
    · rw [List.mem_singleton.mp he]; exact o0 _ h6
  · cases x with
    | false => cases he
    | true =>
      rcases List.mem_cons.mp he with rfl | he
      · exact ⟨by decide, .inr (by show 2 ≤ 17; decide), by show 17 ^ 1 < 2 ^ 100; decide⟩
      · rw [List.mem_singleton.mp he]; exact ⟨by decide, .inl rfl, by show 17 ^ 0 < 2 ^ 100; decide⟩
theorem gt_elM0 (q : Nat) (m : Int) : gt 0 (elM q m) = m.natAbs := by
  unfold elM; split <;> simp [gt]
theorem gt_elM1 (q : Nat) (m : Int) : gt 1 (elM q m) = qe q m.natAbs := by
  unfold elM; split <;> simp [gt]
theorem gt_elM2 (q : Nat) (m : Int) : gt 2 (elM q m) = 0 := by
  unfold elM; split <;> simp [gt]
theorem gt_flat0 (q : Nat) (ms : List Int) : gt 0 (ms.flatMap (elM q)) = gcdL ms := by
  induction ms with
  | nil => rfl
  | cons m ms ih => rw [List.flatMap_cons, gt_append, ih, gt_elM0, gcdL_cons]
theorem gt_flat1 (q : Nat) (ms : List Int) : gt 1 (ms.flatMap (elM q)) = qe q (gcdL ms) := by
  induction ms with
  | nil => unfold qe; split <;> rfl
  | cons m ms ih =>
    rw [List.flatMap_cons, gt_append, ih, gt_elM1, gcdL_cons]
    unfold qe
    split <;> rfl
theorem gt_flat2 (q : Nat) (ms : List Int) : gt 2 (ms.flatMap (elM q)) = 0 := by
  induction ms with
  | nil => rfl
  | cons m ms ih => rw [List.flatMap_cons, gt_append, ih, gt_elM2]; rfl
theorem gt_els (q : Nat) (ms : List Int) (x : Bool) : gt 0 (els q ms x) = gcdL ms ∧ gt 1 (els q ms x) = qe q (gcdL ms) ∧ gt 2 (els q ms x) = if x then 1 else 0 := by
  unfold els
  rw [gt_append, gt_append, gt_append, gt_flat0, gt_flat1, gt_flat2]
  cases x with
  | false => exact ⟨Nat.gcd_zero_right _, Nat.gcd_zero_right _, rfl⟩
  | true => exact ⟨Nat.gcd_zero_right _, Nat.gcd_zero_right _, by decide⟩
/-- the parts of the numbers, one behind the other -/
theorem parts_els {p q : Nat} (h : GB p q) (ms : List Int) (x : Bool) : (nums p q ms x).flatMap (fun r => [PyData.int r.num, .int (r.den : Int)]) = (els q ms x).map (vd (bB p q)) := by
  unfold nums els
  rw [List.flatMap_append, List.map_append]
  congr 1
  · rw [List.flatMap_map, List.map_flatMap]
    congr 1
    funext m
    obtain ⟨h1, h2⟩ := bq_parts h m
    rw [h1, h2]
    unfold nu de elM
    split
    · simp only [List.map_cons, List.map_nil, vd, vl_qe, vl_0]
    · simp only [List.map_cons, List.map_nil, vd, vl_qe, vl_0]
  · cases x <;> rfl
def sp_common_root : DSp := fun as Q => ∃ (p q : Nat) (ms : List Int) (x : Bool), as = [.val (.tuple ((nums p q ms x).map frq))] ∧ GB p q ∧ 1 ≤ ms.length ∧ ms.length ≤ 8 ∧ (∀ m ∈ ms, m.natAbs ≤ 6) ∧
  (x = false → Q (.val (.tuple [frq (bq p q ^ ((gcdL ms : Nat) : Int)), rowD (ms.map fun m => m / (gcdL ms : Int))])) as) ∧ (x = true → gcdL ms ≠ 0 ∧ Q (.val .none) as)
abbrev c_ONE : DL.D := .tuple [.int 1, .int 1]
def d_common_root : DS := sSeq (sIf (dOr (dNot (dTest (dIsi "tuple" (dName 0)))) (dNot (dTest (dChain fLe fLe (dC (.int 1)) (dCBN fLen 0) (dC c_MOST_PAIRS)))))
  (sNever)
  (sNext))
  (sSeq (sIf (dNot (dTest (dCB fAll (dCons (dFrz (dLc [1] (diV (dName 0)) (dgName 1) (dtYes) (dAndV (dFrz (dCall sp_is_told_fraction (arV (dName 1) (arNil)))) (dOp fGt (dOpNs fIx 1 (dC (.int 0))) (dC (.int 0)))))) (dNil)))))
  (sNever)
  (sNext))
  (sSeq (sSet 2 (dCall sp_base_of (arV (dFrz (dLc2 [1, 3] [3] (diV (dName 0)) (dgName 1) (dtYes) (diV (dName 1)) (dgName 3) (dtYes) (dName 3))) (arNil))))
  (sSeq (sIf (dTest (dOp fEq (dName 2) (dFrz (dLst (dNil)))))
  (sRet (dVal (dTup (dCons (dC c_ONE) (dCons (dOp fRepT (dTup (dCons (dC (.int 0)) (dNil))) (dCBN fLen 0)) (dNil))))))
  (sNext))
  (sRet (dCall sp_root_of_rows (arV (dName 2) (arV (dFrz (dLc [1] (diV (dName 0)) (dgName 1) (dtYes) (dFrz (dCall sp_exponents_over (arV (dName 2) (arV (dName 1) (arNil))))))) (arNil))))))))

/-- how a part stands in the number of m -/
def ek (g : Nat) (m : Int) (t : Nat) : Nat × Nat :=
  if t = 0 then (if 0 ≤ m then (m.natAbs / g, 0) else (0, m.natAbs / g)) else if t = 1 then (if 0 ≤ m then (0, m.natAbs / g) else (m.natAbs / g, 0)) else (0, 0)
def wt (t : Nat) : Int := if t = 0 then 1 else if t = 1 then -1 else 0
theorem mul_self {P k : Nat} (h : 2 ≤ P) (hs : P < 2 ^ 100) : Mul P (P ^ k) k := ⟨h, hs, 1, (Nat.mul_one _).symm, fun z => by have := Nat.le_of_dvd (by decide) z; omega⟩
theorem mul_none {P n : Nat} (h : 2 ≤ P) (hs : P < 2 ^ 100) (hc : Nat.gcd P n = 1) : Mul P n 0 := ⟨h, hs, n, by rw [Nat.pow_zero, Nat.one_mul], fun z => by
  rw [Nat.gcd_eq_left z] at hc
  omega⟩
theorem co_pow {a b : Nat} (h : Nat.gcd a b = 1) (m n : Nat) : Nat.gcd (a ^ m) (b ^ n) = 1 := Nat.Coprime.pow m n h
theorem pow_split {x g m : Nat} (hg : g ∣ m) : x ^ m = (x ^ g) ^ (m / g) := by rw [← Nat.pow_mul, Nat.mul_div_cancel' hg]
theorem mem_fin {g : Nat → Nat} {f : El} (h : f ∈ fin g) : f.1 < 3 ∧ f.2 = g f.1 ∧ 0 < f.2 := by
  unfold fin at h
  obtain ⟨t, ht, rfl⟩ := List.mem_map.mp h
  obtain ⟨h1, h2⟩ := List.mem_filter.mp ht
  refine ⟨?_, rfl, of_decide_eq_true h2⟩
  have : t ∈ [0, 1, 2] := h1
  simp at this
  show t < 3
  omega
theorem eq_nil_ints {α : Type} (f : α → Int) (l : List α) : PyData.eqv (.list (l.map fun a => .int (f a))) (.list []) = decide (l = []) := by
  have n : Nms 0 (l.map fun a => PyData.int (f a)) := .of fun d hd => by
    obtain ⟨a, _, rfl⟩ := List.mem_map.mp hd
    exact .int _
  rw [eqv_nil n]
  congr 1
  exact propext List.map_eq_nil_iff
theorem els_len (q : Nat) (ms : List Int) (x : Bool) : (els q ms x).length ≤ 2 * ms.length + 2 := by
  unfold els
  rw [List.length_append]
  have : (ms.flatMap (elM q)).length = 2 * ms.length := by
    induction ms with
    | nil => rfl
    | cons m ms ih =>
      rw [List.flatMap_cons, List.length_append, ih, List.length_cons]
      have : (elM q m).length = 2 := by unfold elM; split <;> rfl
      omega
  rw [this]
  cases x
  · simp
  · simp
def toR (p q : Nat) : Option Int → Rat
  | some m => bq p q ^ m
  | none => 17
def its (ms : List Int) (x : Bool) : List (Option Int) := ms.map some ++ if x then [none] else []
theorem nums_its (p q : Nat) (ms : List Int) (x : Bool) : nums p q ms x = (its ms x).map (toR p q) := by
  unfold nums its
  rw [List.map_append, List.map_map]
  cases x <;> rfl
/-- the row of a number over the parts found -/
def rwO (g : Nat) (fs : List El) : Option Int → List Int
  | some m => fs.map fun f => (m / (g : Int)) * wt f.1
  | none => fs.map fun f => if f.1 = 2 then 1 else 0
/-- how often the parts are in a number -/
def exO (g : Nat) : Option Int → Nat → Nat × Nat
  | some m, t => ek g m t
  | none, t => if t = 2 then (1, 0) else (0, 0)
theorem parts_at {p q : Nat} (h : GB p q) {g : Nat} {m : Int} (hg : (g : Int) ∣ m) (g0 : 0 < g) (hm : m.natAbs ≤ 6) (hg6 : g ≤ 6) (x : Bool) {f : El} (hf : f.1 < 3) (h2 : f.2 = (if f.1 = 0 then g else if f.1 = 1 then qe q g else if x then 1 else 0)) (h0 : 0 < f.2) :
    Mul (vl (bB p q) f) (nu p q m) (ek g m f.1).1 ∧ Mul (vl (bB p q) f) (de p q m) (ek g m f.1).2 ∧ (((ek g m f.1).1 : Int) - (ek g m f.1).2) = (m / (g : Int)) * wt f.1 := by
  have hgn : g ∣ m.natAbs := by
    have := Int.natAbs_dvd_natAbs.mpr hg
    rwa [Int.natAbs_natCast] at this
  have hp := h.lt
  have hq := h.pos
  have hs := h.small
  obtain ⟨t, n⟩ := f
  simp only at hf h2 h0 ⊢
  have ht : t = 0 ∨ t = 1 ∨ t = 2 := by omega
  obtain ⟨c, hc⟩ := hg
  have hmg : m / (g : Int) = c := by rw [hc]; exact Int.mul_ediv_cancel_left _ (by omega)
  have hcn : m.natAbs / g = c.natAbs := by rw [hc, Int.natAbs_mul, Int.natAbs_natCast]; exact Nat.mul_div_cancel_left _ g0
  rw [hmg]
  have sgn : 0 ≤ m ↔ 0 ≤ c := by
    rw [hc]
    constructor
    · intro z
      rcases Int.lt_or_le c 0 with y | y
      · have := Int.mul_neg_of_pos_of_neg (show (0 : Int) < g by omega) y
        omega
      · exact y
    · exact fun z => Int.mul_nonneg (by omega) z
  rcases ht with rfl | rfl | rfl
  · have hn : n = g := by simpa using h2
    subst hn
    have P2 : 2 ≤ p ^ n := by
      have := Nat.one_lt_pow (n := n) (by omega) (show 1 < p by omega)
      omega
    have Ps : p ^ n < 2 ^ 100 := small_pow hs hg6
    have co : ∀ k, Nat.gcd (p ^ n) (q ^ k) = 1 := fun k => co_pow h.co n k
    unfold nu de ek wt
    rw [vl_0]
    simp only [if_true]
    by_cases z : 0 ≤ m
    · rw [if_pos z, if_pos z, if_pos z, hcn, pow_split hgn, hcn]
      exact ⟨mul_self P2 Ps, mul_none P2 Ps (co _), by have := sgn.mp z; simp only; omega⟩
    · rw [if_neg z, if_neg z, if_neg z, hcn]
      refine ⟨mul_none P2 Ps (co _), ?_, ?_⟩
      · rw [pow_split hgn, hcn]
        exact mul_self P2 Ps
      · have : ¬ 0 ≤ c := fun y => z (sgn.mpr y)
        simp only
        omega
  · have hn : n = qe q g := by simpa using h2
    have hq1 : q ≠ 1 := fun y => by
      unfold qe at hn
      rw [if_pos y] at hn
      omega
    have hn : n = g := by unfold qe at hn; rw [if_neg hq1] at hn; exact hn
    subst hn
    have P2 : 2 ≤ q ^ n := by
      have := Nat.one_lt_pow (n := n) (by omega) (show 1 < q by omega)
      omega
    have Ps : q ^ n < 2 ^ 100 := small_pow (by omega) hg6
    have co : ∀ k, Nat.gcd (q ^ n) (p ^ k) = 1 := fun k => by rw [Nat.gcd_comm]; exact co_pow h.co k n
    have v1 : vl (bB p q) (1, n) = q ^ n := rfl
    unfold nu de ek wt
    rw [v1]
    simp only [if_neg (show ¬ (1 : Nat) = 0 by decide), if_true]
    by_cases z : 0 ≤ m
    · rw [if_pos z, if_pos z, if_pos z, hcn]
      refine ⟨mul_none P2 Ps (co _), ?_, ?_⟩
      · rw [pow_split hgn, hcn]
        exact mul_self P2 Ps
      · have := sgn.mp z
        simp only
        omega
    · rw [if_neg z, if_neg z, if_neg z, hcn, pow_split hgn, hcn]
      refine ⟨mul_self P2 Ps, mul_none P2 Ps (co _), ?_⟩
      have : ¬ 0 ≤ c := fun y => z (sgn.mpr y)
      simp only
      omega
  · have hx : n = 1 := by
      cases x <;> simp at h2 <;> omega
    subst hx
    have co1 : ∀ k, Nat.gcd (17 ^ 1) (p ^ k) = 1 := fun k => by rw [Nat.gcd_comm]; exact co_pow h.p17 k 1
    have co2 : ∀ k, Nat.gcd (17 ^ 1) (q ^ k) = 1 := fun k => by rw [Nat.gcd_comm]; exact co_pow h.q17 k 1
    unfold nu de ek wt
    rw [vl_2]
    simp only [if_neg (show ¬ (2 : Nat) = 0 by decide), if_neg (show ¬ (2 : Nat) = 1 by decide)]
    by_cases z : 0 ≤ m
    · rw [if_pos z, if_pos z]
      exact ⟨mul_none (by decide) (by decide) (co1 _), mul_none (by decide) (by decide) (co2 _), by simp⟩
    · rw [if_neg z, if_neg z]
      exact ⟨mul_none (by decide) (by decide) (co2 _), mul_none (by decide) (by decide) (co1 _), by simp⟩
theorem way_split : ∀ (l : List Int), (∃ w ∈ l, w ≠ 0) → ∃ zs wp rest, l = zs ++ wp :: rest ∧ (∀ z ∈ zs, z = 0) ∧ wp ≠ 0
  | [], h => by obtain ⟨w, h, _⟩ := h; cases h
  | a :: l, h => by
    by_cases ha : a = 0
    · obtain ⟨w, hw, h0⟩ := h
      rcases List.mem_cons.mp hw with rfl | hw
      · exact absurd ha h0
      · obtain ⟨zs, wp, rest, e, h1, h2⟩ := way_split l ⟨w, hw, h0⟩
        refine ⟨a :: zs, wp, rest, by rw [e]; rfl, fun z hz => ?_, h2⟩
        rcases List.mem_cons.mp hz with rfl | hz
        · exact ha
        · exact h1 z hz
    · exact ⟨[], a, l, rfl, fun z hz => (List.not_mem_nil hz).elim, ha⟩
theorem wt_tri (t : Nat) : wt t = 0 ∨ wt t = 1 ∨ wt t = -1 := by
  unfold wt
  split
  · exact .inr (.inl rfl)
  · split
    · exact .inr (.inr rfl)
    · exact .inl rfl
theorem gcdL_div {ms : List Int} (h : 0 < gcdL ms) : gcdL (ms.map fun m => m / (gcdL ms : Int)) = 1 := by
  have h1 : (ms.map fun m => m / (gcdL ms : Int)).map (fun k => (gcdL ms : Int) * k) = ms := by
    rw [List.map_map]
    conv => rhs; rw [← List.map_id ms]
    refine List.map_congr_left fun m hm => ?_
    exact Int.mul_ediv_cancel' (gcdL_dvd hm)
  have h2 := gcdL_mul (gcdL ms : Int) (ms.map fun m => m / (gcdL ms : Int))
  rw [h1, Int.natAbs_natCast] at h2
  have : gcdL ms * 1 = gcdL ms * gcdL (ms.map fun m => m / (gcdL ms : Int)) := by rw [Nat.mul_one]; exact h2
  exact (Nat.eq_of_mul_eq_mul_left h this).symm
theorem perm_two {α : Type} {l : List α} {a b : α} (h : l.Perm [a, b]) : l = [a, b] ∨ l = [b, a] := by
  have hl := h.length_eq
  match l, hl with
  | [x, y], _ =>
    have hx : x ∈ [a, b] := h.subset List.mem_cons_self
    rcases List.mem_cons.mp hx with rfl | hx
    · have := (List.perm_cons x).mp h
      rw [List.perm_singleton.mp this]
      exact .inl rfl
    · have e := List.mem_singleton.mp hx
      subst e
      have h2 : [x, y].Perm [x, a] := h.trans (List.Perm.swap _ _ _)
      have := (List.perm_cons x).mp h2
      rw [List.perm_singleton.mp this]
      exact .inr rfl
theorem vl_two {p q G : Nat} (h : GB p q) (hG : G ≤ 6) (x : Bool) {f : El} (hf : f.1 < 3) (h2 : f.2 = (if f.1 = 0 then G else if f.1 = 1 then qe q G else if x then 1 else 0)) (h0 : 0 < f.2) : 2 ≤ vl (bB p q) f ∧ vl (bB p q) f < 2 ^ 100 ∧ (f.1 ≠ 2 → Nat.gcd (vl (bB p q) f) 17 = 1) ∧ (f.1 = 2 → vl (bB p q) f = 17) ∧ (f.1 = 1 → q ≠ 1 ∧ f.2 = G) := by
  obtain ⟨t, n⟩ := f
  simp only at hf h2 h0 ⊢
  have hp := h.lt
  have hq := h.pos
  have hs := h.small
  have ht : t = 0 ∨ t = 1 ∨ t = 2 := by omega
  rcases ht with rfl | rfl | rfl
  · have hn : n = G := by simpa using h2
    rw [vl_0]
    have := Nat.one_lt_pow (n := n) (by omega) (show 1 < p by omega)
    exact ⟨by omega, small_pow hs (by omega), fun _ => by have := co_pow h.p17 n 1; rwa [Nat.pow_one] at this, fun z => by omega, fun z => by omega⟩
  · have hn : n = qe q G := by simpa using h2
    have hq1 : q ≠ 1 := fun y => by
      unfold qe at hn
      rw [if_pos y] at hn
      omega
    have hn : n = G := by unfold qe at hn; rw [if_neg hq1] at hn; exact hn
    have v1 : vl (bB p q) (1, n) = q ^ n := rfl
    rw [v1]
    have := Nat.one_lt_pow (n := n) (by omega) (show 1 < q by omega)
    exact ⟨by omega, small_pow (by omega) (by omega), fun _ => by have := co_pow h.q17 n 1; rwa [Nat.pow_one] at this, fun z => by omega, fun _ => ⟨hq1, hn⟩⟩
  · have hx : n = 1 := by
      cases x <;> simp at h2 <;> omega
    subst hx
    exact ⟨by rw [vl_2]; decide, by rw [vl_2]; decide, fun z => absurd rfl z, fun _ => rfl, fun z => by omega⟩
theorem i_common_root : ∀ as Q, sp_common_root as Q → fnSpec [0] 1 3 d_common_root as Q := by
  rintro as Q ⟨p, q, ms, x, rfl, hb, hm1, hm2, hm, hf, ht⟩
  have hlen : (nums p q ms x).length ≤ 9 ∧ 1 ≤ (nums p q ms x).length := by
    unfold nums
    rw [List.length_append, List.length_map]
    cases x <;> simp <;> omega
  have npos : ∀ r ∈ nums p q ms x, 0 < r := fun r hr => by
    unfold nums at hr
    rcases List.mem_append.mp hr with hr | hr
    · obtain ⟨m, _, rfl⟩ := List.mem_map.mp hr
      exact Rat.zpow_pos (bq_pos hb)
    · cases x with
      | false => cases hr
      | true => rw [List.mem_singleton.mp hr]; decide
  have l1 : (1 : Int) ≤ ((nums p q ms x).length : Int) := by omega
  have l2 : ((nums p q ms x).length : Int) ≤ 12 := by omega
  dsimp! [d_common_root, List.length_map, l1, l2]
  refine lcGo_map (τ0 := [.val (.tuple ((nums p q ms x).map frq)), .un, .un, .un]) frq (fun _ => .bool true) (nums p q ms x) [] (fun r hr C hC => ?_) (by rw [List.length_nil]; omega) ?_
  · dsimp! [cl_is_told, num_pos' (npos r hr)]
    exact hC
  dsimp! [boolsOf_all]
  rw [if_neg (by simp)]
  refine lc2Go_flat (τ0 := [.val (.tuple ((nums p q ms x).map frq)), .un, .un, .un]) frq (fun r => [PyData.int r.num, .int (r.den : Int)]) (nums p q ms x) [] (fun r hr acc C hl hC => ?_) ?_ ?_
  · have hl' : acc.length + 2 ≤ 100000 := hl
    dsimp! [lcGo]
    refine ⟨by omega, by rw [List.length_append, List.length_singleton]; omega, ?_⟩
    rw [List.append_assoc]
    exact hC
  · rw [parts_els hb, List.length_nil, List.length_map]
    have := els_len q ms x
    omega
  rw [parts_els hb]
  dsimp! []
  refine ⟨bB p q, els q ms x, rfl, bB_bs hb, by have := els_len q ms x; omega, els_ok hb hm, fun fs hp hs => ?_⟩
  obtain ⟨g0, g1, g2⟩ := gt_els q ms x
  have hfs : ∀ f ∈ fs, f.1 < 3 ∧ f.2 = (if f.1 = 0 then gcdL ms else if f.1 = 1 then qe q (gcdL ms) else if x then 1 else 0) ∧ 0 < f.2 := fun f hf => by
    obtain ⟨h1, h2, h3⟩ := mem_fin (hp.subset hf)
    refine ⟨h1, ?_, h3⟩
    have : f.1 = 0 ∨ f.1 = 1 ∨ f.1 = 2 := by omega
    rcases this with z | z | z <;> rw [z] at h2 ⊢
    · simpa [g0] using h2
    · simpa [g1] using h2
    · simpa [g2] using h2
  have hfl : fs.length ≤ 3 := by
    rw [hp.length_eq]
    unfold fin
    rw [List.length_map]
    exact List.length_filter_le _ _
  dsimp! [eqv_nil (nms_vd _ _), List.map_eq_nil_iff, List.length_map]
  refine ⟨(nms_vd _ _).lst.okEq (k := 1) Nms.nil.lst, ?_⟩
  by_cases hn : fs = []
  · simp only [hn, decide_true, if_true]
    refine ⟨⟨by simp, by omega, by omega⟩, ?_⟩
    have z0 : gcdL ms = 0 := by
      refine Nat.eq_zero_of_not_pos fun z => ?_
      have : ((0 : Nat), gcdL ms) ∈ fin (fun t => gt t (els q ms x)) := by
        unfold fin
        refine List.mem_map.mpr ⟨0, List.mem_filter.mpr ⟨List.mem_cons_self, decide_eq_true (by show 0 < gt 0 _; rw [g0]; exact z)⟩, by show (0, gt 0 _) = _; rw [g0]⟩
      have := hp.symm.subset this
      rw [hn] at this
      cases this
    have xf : x = false := by
      cases x with
      | false => rfl
      | true => exact absurd z0 (ht rfl).1
    have hq := hf xf
    rw [z0] at hq
    subst xf
    have e1 : (List.replicate ((nums p q ms false).length : Int).toNat [PyData.int 0]).flatten = (ms.map fun m => m / ((0 : Nat) : Int)).map PyData.int := by
      have : (nums p q ms false).length = ms.length := by unfold nums; simp
      rw [this, Int.toNat_natCast, List.map_map]
      clear hq hp hs hfs hfl hn g0 g1 g2 z0 hf ht hm hm1 hm2 hlen npos l1 l2 this
      induction ms with
      | nil => rfl
      | cons m ms ih =>
        rw [List.length_cons, List.replicate_succ, List.flatten_cons, ih, List.map_cons]
        show _ = PyData.int (m / ((0 : Nat) : Int)) :: _
        rw [Int.natCast_zero, Int.ediv_zero]
        rfl
    rw [e1]
    have e2 : frq (bq p q ^ ((0 : Nat) : Int)) = c_ONE := by
      rw [Rat.zpow_natCast, Rat.pow_zero]
      rfl
    rw [e2] at hq
    exact hq
  · simp only [hn, decide_false, Bool.false_eq_true, if_false]
    have G0 : 0 < gcdL ms := by
      cases x with
      | true => exact Nat.pos_of_ne_zero (ht rfl).1
      | false =>
        cases fs with
        | nil => exact absurd rfl hn
        | cons f fs =>
          obtain ⟨h1, h2, h3⟩ := hfs f List.mem_cons_self
          rw [h2] at h3
          split at h3
          · exact h3
          · split at h3
            · unfold qe at h3
              split at h3
              · omega
              · exact h3
            · simp at h3
    have G6 : gcdL ms ≤ 6 := by
      obtain ⟨m, hmm, hm0⟩ : ∃ m ∈ ms, m ≠ 0 := by
        refine Classical.byContradiction fun z => ?_
        have all0 : ∀ m ∈ ms, m = 0 := fun m hm => Classical.byContradiction fun y => z ⟨m, hm, y⟩
        have : gcdL ms = 0 := by
          clear G0 hfs g0 g1 g2 hp hf ht hm hm1 hm2 hlen npos l1 l2 z hs hfl hn
          induction ms with
          | nil => rfl
          | cons m ms ih => rw [gcdL_cons, ih fun k hk => all0 k (List.mem_cons_of_mem _ hk), all0 m List.mem_cons_self]; rfl
        omega
      have h1 := Int.natAbs_dvd_natAbs.mpr (gcdL_dvd hmm)
      rw [Int.natAbs_natCast] at h1
      exact Nat.le_trans (Nat.le_of_dvd (by omega) h1) (hm m hmm)
    rw [nums_its, List.map_map]
    have itsm : ∀ o ∈ its ms x, (∃ m ∈ ms, o = some m) ∨ (x = true ∧ o = none) := fun o ho => by
      unfold its at ho
      rcases List.mem_append.mp ho with ho | ho
      · obtain ⟨m, hm', rfl⟩ := List.mem_map.mp ho
        exact .inl ⟨m, hm', rfl⟩
      · cases x with
        | false => cases ho
        | true => exact .inr ⟨rfl, List.mem_singleton.mp ho⟩
    have itsl : (its ms x).length ≤ 9 := by
      have := hlen.1
      rw [nums_its, List.length_map] at this
      exact this
    refine lcGo_map (τ0 := [.val (.tuple ((its ms x).map (frq ∘ toR p q))), .un, .val (.list (fs.map (vd (bB p q)))), .un]) (frq ∘ toR p q) (fun o => rowD (rwO (gcdL ms) fs o)) (its ms x) [] (fun o ho C hC => ?_) (by rw [List.length_nil]; omega) ?_
    · dsimp! [Function.comp_apply]
      rcases itsm o ho with ⟨m, hmm, rfl⟩ | ⟨rfl, rfl⟩
      · obtain ⟨n1, n2⟩ := bq_parts hb m
        have ok : ∀ f ∈ fs, _ := fun f hf => parts_at hb (gcdL_dvd hmm) G0 (hm m hmm) G6 x (hfs f hf).1 (hfs f hf).2.1 (hfs f hf).2.2
        refine ⟨fs.map fun f => (vl (bB p q) f, ek (gcdL ms) m f.1), nu p q m, de p q m, ?_, by rw [List.length_map]; omega, fun t ht' => ?_, ?_⟩
        · rw [List.map_map]
          show [Sl.val _, Sl.val (fr (bq p q ^ m).num (bq p q ^ m).den)] = _
          rw [n1, n2]
          rfl
        · obtain ⟨f, hf', rfl⟩ := List.mem_map.mp ht'
          exact ⟨(ok f hf').1, (ok f hf').2.1⟩
        · dsimp! []
          have e : ((fs.map fun f => (vl (bB p q) f, ek (gcdL ms) m f.1)).map fun t => PyData.int ((t.2.1 : Int) - t.2.2)) = (rwO (gcdL ms) fs (some m)).map .int := by
            unfold rwO
            rw [List.map_map, List.map_map]
            exact List.map_congr_left fun f hf' => congrArg PyData.int (ok f hf').2.2
          rw [e]
          exact hC
      · refine ⟨fs.map fun f => (vl (bB p q) f, if f.1 = 2 then (1, 0) else (0, 0)), 17, 1, ?_, by rw [List.length_map]; omega, fun t ht' => ?_, ?_⟩
        · rw [List.map_map]
          rfl
        · obtain ⟨f, hf', rfl⟩ := List.mem_map.mp ht'
          obtain ⟨v1, v2, v3, v4, _⟩ := vl_two hb G6 true (hfs f hf').1 (hfs f hf').2.1 (hfs f hf').2.2
          by_cases z : f.1 = 2
          · simp only [if_pos z]
            exact ⟨by have := mul_self (k := 1) v1 v2; rw [Nat.pow_one, v4 z] at this; rw [v4 z]; exact this, mul_none v1 v2 (Nat.gcd_one_right _)⟩
          · simp only [if_neg z]
            exact ⟨mul_none v1 v2 (v3 z), mul_none v1 v2 (Nat.gcd_one_right _)⟩
        · dsimp! []
          have e : ((fs.map fun f => (vl (bB p q) f, if f.1 = 2 then ((1 : Nat), (0 : Nat)) else (0, 0))).map fun t => PyData.int ((t.2.1 : Int) - t.2.2)) = (rwO (gcdL ms) fs none).map .int := by
            unfold rwO
            rw [List.map_map, List.map_map]
            refine List.map_congr_left fun f hf' => ?_
            show PyData.int _ = PyData.int _
            by_cases z : f.1 = 2
            · simp only [if_pos z]; rfl
            · simp only [if_neg z]; rfl
          rw [e]
          exact hC
    · dsimp! []
      -- the way
      have m0 : ((0 : Nat), gcdL ms) ∈ fs := hp.symm.subset (by
        unfold fin
        exact List.mem_map.mpr ⟨0, List.mem_filter.mpr ⟨List.mem_cons_self, decide_eq_true (by show 0 < gt 0 _; rw [g0]; exact G0)⟩, by show (0, gt 0 _) = _; rw [g0]⟩)
      obtain ⟨zs, wp, rest, ew, hz, hw0⟩ := way_split (fs.map fun f => wt f.1) ⟨1, List.mem_map.mpr ⟨_, m0, rfl⟩, by decide⟩
      have tri : ∀ w ∈ zs ++ wp :: rest, w = 0 ∨ w = 1 ∨ w = -1 := fun w hw => by
        rw [← ew] at hw
        obtain ⟨f, _, rfl⟩ := List.mem_map.mp hw
        exact wt_tri _
      have wlen : (zs ++ wp :: rest).length = fs.length := by rw [← ew, List.length_map]
      have kone := gcdL_div G0
      have hrows : Rows (fs.map (vl (bB p q))) zs wp rest (ms.map fun m => m / (gcdL ms : Int)) := by
        refine ⟨⟨hz, (tri wp (List.mem_append_right _ List.mem_cons_self)).resolve_left hw0, fun w hw => tri w (List.mem_append_right _ (List.mem_cons_of_mem _ hw)), ?_⟩, by rw [List.length_map, wlen], fun P hP => ?_, fun k hk => ?_, by rw [List.length_map]; omega, ?_⟩
        · rw [List.length_append, List.length_cons] at wlen
          omega
        · obtain ⟨f, hf', rfl⟩ := List.mem_map.mp hP
          exact (vl_two hb G6 x (hfs f hf').1 (hfs f hf').2.1 (hfs f hf').2.2).2.1
        · obtain ⟨m, hm', rfl⟩ := List.mem_map.mp hk
          have := Int.natAbs_ediv_le_natAbs m (gcdL ms : Int)
          have := hm m hm'
          omega
        · refine Classical.byContradiction fun z => ?_
          have all0 : ∀ k ∈ (ms.map fun m => m / (gcdL ms : Int)), k = 0 := fun k hk => Classical.byContradiction fun y => z ⟨k, hk, y⟩
          have gz : ∀ l : List Int, (∀ k ∈ l, k = 0) → gcdL l = 0 := fun l => by
            induction l with
            | nil => intro _; rfl
            | cons k l ih => intro h; rw [gcdL_cons, ih fun k hk => h k (List.mem_cons_of_mem _ hk), h k List.mem_cons_self]; rfl
          rw [gz _ all0] at kone
          cases kone
      have rsome : ∀ m : Int, rwO (gcdL ms) fs (some m) = (zs ++ wp :: rest).map fun w => (m / (gcdL ms : Int)) * w := fun m => by
        rw [← ew, List.map_map]
        rfl
      refine ⟨fs.map (vl (bB p q)), zs, wp, rest, ms.map fun m => m / (gcdL ms : Int), (its ms x).map (rwO (gcdL ms) fs), by rw [List.map_map, List.map_map]; rfl, hrows, ?_⟩
      rw [kone]
      cases x with
      | false =>
        refine .inl ⟨?_, ?_⟩
        · unfold its
          simp only [Bool.false_eq_true, if_false, List.append_nil, List.map_map]
          exact List.map_congr_left fun m _ => rsome m
        have hq := hf rfl
        -- the two products
        have tl : topP (taken (fs.map (vl (bB p q))) (zs ++ wp :: rest) ((1 : Nat) : Int)) = p ^ gcdL ms ∧ lowP (taken (fs.map (vl (bB p q))) (zs ++ wp :: rest) ((1 : Nat) : Int)) = q ^ gcdL ms := by
          rw [← ew]
          have f0 : fin (fun t => gt t (els q ms false)) = if q = 1 then [((0 : Nat), gcdL ms)] else [(0, gcdL ms), (1, gcdL ms)] := by
            unfold fin
            simp only [List.filter_cons, List.filter_nil, g0, g1, g2, Bool.false_eq_true, if_false]
            unfold qe
            by_cases z : q = 1
            · subst z
              simp [G0, g0]
            · simp [z, G0, g0, g1, qe]
          rw [f0] at hp
          by_cases z : q = 1
          · rw [if_pos z] at hp
            rw [List.perm_singleton.mp hp]
            simp [taken, topP, lowP, wt, vl_0, z, Nat.one_pow]
          · rw [if_neg z] at hp
            have v1 : vl (bB p q) (1, gcdL ms) = q ^ gcdL ms := rfl
            rcases perm_two hp with e | e <;> rw [e] <;> simp [taken, topP, lowP, wt, vl_0, v1]
        rw [tl.1, tl.2]
        refine ⟨Nat.pow_lt_pow_left hb.lt (by omega), ?_⟩
        obtain ⟨n1, n2⟩ := bq_parts hb ((gcdL ms : Nat) : Int)
        have e1 : frq (bq p q ^ ((gcdL ms : Nat) : Int)) = fr ((p ^ gcdL ms : Nat) : Int) ((q ^ gcdL ms : Nat) : Int) := by
          show fr _ _ = _
          rw [n1, n2]
          unfold nu de
          rw [if_pos (by omega), if_pos (by omega), Int.natAbs_natCast]
        rw [e1] at hq
        have e2 : ((ms.map fun m => m / (gcdL ms : Int)).map fun k => k / ((1 : Nat) : Int)) = ms.map fun m => m / (gcdL ms : Int) := by
          rw [List.map_map]
          refine List.map_congr_left fun m _ => ?_
          show m / (gcdL ms : Int) / ((1 : Nat) : Int) = _
          exact Int.ediv_one _
        rw [e2]
        dsimp! []
        rw [nums_its, List.map_map] at hq
        exact hq
      | true =>
        obtain ⟨_, hq⟩ := ht rfl
        refine .inr ⟨rwO (gcdL ms) fs none, ?_, by unfold rwO; rw [List.length_map, wlen], ?_, ?_, fun l hl => ?_, ?_⟩
        · show (ms.map some ++ [none]).map (rwO (gcdL ms) fs) = _
          rw [List.map_append, List.map_map, List.map_map]
          congr 1
          exact List.map_congr_left fun m _ => rsome m
        · have hlt : zs.length < fs.length := by rw [← wlen, List.length_append, List.length_cons]; omega
          unfold rwO
          rw [List.getElem?_map, List.getElem?_eq_getElem hlt]
          have hwf : (fs.map fun f => wt f.1)[zs.length]? = some wp := by rw [ew, List.getElem?_append_right (Nat.le_refl _), Nat.sub_self]; rfl
          rw [List.getElem?_map, List.getElem?_eq_getElem hlt] at hwf
          have hwf : wt (fs[zs.length]).1 = wp := by simpa using hwf
          have : ¬ (fs[zs.length]).1 = 2 := fun z => by
            rw [z] at hwf
            exact hw0 hwf.symm
          show some (if (fs[zs.length]).1 = 2 then (1 : Int) else 0) = some 0
          rw [if_neg this]
        · have m2 : ((2 : Nat), (1 : Nat)) ∈ fs := hp.symm.subset (by
            unfold fin
            exact List.mem_map.mpr ⟨2, List.mem_filter.mpr ⟨by simp, decide_eq_true (by show 0 < gt 2 _; rw [g2]; decide)⟩, by show (2, gt 2 _) = _; rw [g2]; rfl⟩)
          exact ⟨1, List.mem_map.mpr ⟨_, m2, rfl⟩, by decide⟩
        · unfold rwO at hl
          obtain ⟨f, _, rfl⟩ := List.mem_map.mp hl
          show (if f.1 = 2 then (1 : Int) else 0).natAbs ≤ 100
          split <;> decide
        · dsimp! []
          rw [nums_its, List.map_map] at hq
          exact hq
end K28

namespace K28
open PySem PySem.Spec PyProof.Rows L2 DL FQ
/-- a row of what each item gives, where the slots go on -/
theorem lcGo_st {α : Type} {vs : List Nat} {g : DG} {el : DV} {Q : List D → SD → Prop} (f : α → D) (st : List D → SD → Prop) (N : Nat) (hN : N ≤ 100000) : ∀ (l : List α) (acc : List D) (τ : SD), st acc τ →
    (∀ a ∈ l, ∀ (acc : List D) (τ : SD) (C : D → SD → Prop), acc.length < N → st acc τ → (∀ d τ', st (acc ++ [d]) τ' → C d τ') → g (f a) τ fun τ2 => el τ2 fun d τ4 => C d (wipeD τ4 vs)) →
    acc.length + l.length ≤ N → (∀ acc' τ', st acc' τ' → acc'.length = acc.length + l.length → Q acc' τ') → lcGo vs g dtYes el Q (l.map f) acc τ
  | [], acc, τ, h0, _, _, hq => hq acc τ h0 rfl
  | a :: l, acc, τ, h0, hs, hl, hq => by
    have hlen : acc.length < N := by simp only [List.length_cons] at hl; omega
    show g (f a) τ fun τ2 => dtYes τ2 fun k τ3 => if k = true then el τ3 fun d τ4 => acc.length < 100000 ∧ lcGo vs g dtYes el Q (l.map f) (acc ++ [d]) (wipeD τ4 vs) else lcGo vs g dtYes el Q (l.map f) acc (wipeD τ3 vs)
    simp only [dtYes, if_true]
    refine hs a List.mem_cons_self acc τ (fun d τ => acc.length < 100000 ∧ lcGo vs g dtYes el Q (l.map f) (acc ++ [d]) τ) hlen h0 fun d τ' h' => ⟨by omega, ?_⟩
    refine lcGo_st f st N hN l _ τ' h' (fun b hb => hs b (List.mem_cons_of_mem _ hb)) (by simp only [List.length_append, List.length_cons, List.length_nil] at hl ⊢; omega) fun acc' τ'' h'' hl' => hq acc' τ'' h'' ?_
    rw [hl', List.length_append, List.length_cons, List.length_nil, List.length_cons]
    omega
/-! ### the law's own numbers -/
def sp__law_number : DSp := fun as Q => ∃ (c : Nat) (pot : Sl), as = [pot] ∧ PotA c pot ∧ c < 90000 ∧ ∀ (r : Rat) (pot' : Sl), 0 < r → Sz 4 r → PotA (c + 2) pot' → Q (.val (frq r)) [pot']
def d__law_number : DS := sRet (dCall sp__law_cut (arV (dOp fAdd (dC (.int 1)) (dFrz (dCall sp__law_take (arS 0 (arV (dC (.int 9)) (arNil)))))) (arV (dOp fAdd (dC (.int 1)) (dFrz (dCall sp__law_take (arS 0 (arV (dC (.int 9)) (arNil)))))) (arNil))))
theorem divInt_pos {t l : Int} (ht : 0 < t) (hl : 0 < l) : 0 < Rat.divInt t l := by
  rw [Rat.lt_iff]
  show (0 : Int) * _ < _ * 1
  rw [rat_num hl, Int.zero_mul, Int.mul_one]
  have hg : (0 : Int) < (Int.gcd t l : Int) := by have := gcd_pos (a := t) hl; omega
  obtain ⟨q, hq⟩ := Int.gcd_dvd_left t l
  have : t / (Int.gcd t l : Int) = q := by
    conv => lhs; arg 1; rw [hq]
    exact Int.mul_ediv_cancel_left _ (by omega)
  rw [this]
  refine Classical.byContradiction fun z => ?_
  have : (Int.gcd t l : Int) * q ≤ 0 := Int.mul_nonpos_of_nonneg_of_nonpos (by omega) (by omega)
  omega
theorem i__law_number : ∀ as Q, sp__law_number as Q → fnSpec [0] 1 0 d__law_number as Q := by
  rintro as Q ⟨c, pot, rfl, hp, hc, h⟩
  obtain ⟨own, seed, k, rfl, hh⟩ := id hp
  dsimp! [d__law_number]
  refine ⟨c, _, _, rfl, hp, by omega, by decide, by decide, fun d pot2 d0 d1 hp2 => ?_⟩
  obtain ⟨own2, seed2, k2, rfl, hh2⟩ := id hp2
  dsimp! []
  refine ⟨c + 1, _, _, rfl, hp2, by omega, by decide, by decide, fun e pot3 e0 e1 hp3 => ?_⟩
  obtain ⟨own3, seed3, k3, rfl, hh3⟩ := id hp3
  dsimp! []
  have bt : Bi 4 (1 + d) := .of_le 9 (by omega)
  have bl : Bi 4 (1 + e) := .of_le 9 (by omega)
  refine ⟨_, _, rfl, by omega, bl.mono (by decide), ?_⟩
  dsimp! []
  exact h _ _ (divInt_pos (by omega) (by omega)) (Sz.divInt (by omega) bt bl) hp3
def sp__law_sign : DSp := fun as Q => ∃ r : Rat, as = [.val (frq r)] ∧ Q (.val (.int (sgn r))) as
def d__law_sign : DS := sRet (dVal (dOp fSub (dCB fInt (dCons (dOp fGt (dOpNs fIx 0 (dC (.int 0))) (dOpNs fIx 0 (dC (.int 1)))) (dNil))) (dCB fInt (dCons (dOp fLt (dOpNs fIx 0 (dC (.int 0))) (dOpNs fIx 0 (dC (.int 1)))) (dNil)))))
theorem sgn_frq (r : Rat) : ((if (r.den : Int) < r.num then (1 : Int) else 0) - if r.num < (r.den : Int) then (1 : Int) else 0) = sgn r := by
  have h1 : 1 < r ↔ (r.den : Int) < r.num := by
    rw [Rat.lt_iff]
    show (1 : Int) * _ < _ * 1 ↔ _
    rw [Int.one_mul, Int.mul_one]
  have h2 : r < 1 ↔ r.num < (r.den : Int) := by
    rw [Rat.lt_iff]
    show _ * (1 : Int) < 1 * _ ↔ _
    rw [Int.one_mul, Int.mul_one]
  unfold sgn
  by_cases c1 : (r.den : Int) < r.num
  · rw [if_pos c1, if_neg (by omega), if_pos (h1.mpr c1)]; rfl
  · rw [if_neg c1, if_neg fun z => c1 (h1.mp z)]
    by_cases c2 : r.num < (r.den : Int)
    · rw [if_pos c2, if_pos (h2.mpr c2)]; rfl
    · rw [if_neg c2, if_neg fun z => c2 (h2.mp z)]; rfl
theorem i__law_sign : ∀ as Q, sp__law_sign as Q → fnSpec [0] 1 0 d__law_sign as Q := by
  rintro as Q ⟨r, rfl, h⟩
  dsimp! [d__law_sign]
  rw [← sgn_frq] at h
  simpa using h
/-! ### powers -/
def sp__law_power : DSp := fun as Q => ∃ (b : Rat) (m : Int) (k : Nat), as = [.val (frq b), .val (.int m)] ∧ 0 < b ∧ Sz k b ∧ k + k * m.natAbs + 1 ≤ 3000 ∧ m.natAbs ≤ 1000 ∧ Q (.val (frq (b ^ m))) as
def d__law_power : DS := sSeq (sSet 2 (dVal (dTup (dCons (dC (.int 1)) (dCons (dC (.int 1)) (dNil))))))
  (sSeq (sFor (diRng (dCons (dCBN fAbs 1) (dNil))) (dgName 3)
  (sSet 2 (dCall sp__law_times (arV (dName 2) (arV (dName 0) (arNil))))))
  (sRet (dVal (dIf (dTest (dOp fGe (dName 1) (dC (.int 0)))) (dName 2) (dTup (dCons (dOpNs fIx 2 (dC (.int 1))) (dCons (dOpNs fIx 2 (dC (.int 0))) (dNil))))))))
theorem sz_one {k : Nat} (h : 1 ≤ k) : Sz k 1 := ⟨Bi.mono (show Bi 1 (1 : Int) by unfold Bi; decide) h, Bi.mono (show Bi 1 (1 : Int) by unfold Bi; decide) h⟩
theorem sz_pow {k : Nat} {b : Rat} (h : Sz k b) : ∀ n, Sz (1 + k * n) (b ^ n)
  | 0 => by rw [Rat.pow_zero]; exact sz_one (by omega)
  | n + 1 => by
    rw [Rat.pow_succ]
    exact ((sz_pow h n).mul h).mono (by rw [Nat.mul_succ]; omega)
theorem i__law_power : ∀ as Q, sp__law_power as Q → fnSpec [0, 1] 2 2 d__law_power as Q := by
  rintro as Q ⟨b, m, k, rfl, hb, hk, hm, hm2, h⟩
  dsimp! [d__law_power]
  refine ⟨⟨by omega, by omega⟩, ?_⟩
  show forGo _ _ _ ((List.range _).map _) _
  refine forGo_pre (fun i : Nat => PyData.int (0 + (i : Int))) (fun p τ => ∃ x : Sl, τ = [.val (frq b), .val (.int m), .val (frq (b ^ p.length)), x]) _ _ ⟨_, by rw [List.length_nil, Rat.pow_zero]; rfl⟩ ?_ ?_
  · rintro p a s _ C hl ⟨x, rfl⟩ hC
    have hp : p.length ≤ m.natAbs := by
      have := congrArg List.length hl
      rw [List.length_range, List.length_append, List.length_cons, Int.toNat_natCast] at this
      omega
    have s1 : Sz 4000 (b ^ p.length) := (sz_pow hk _).mono (by have := Nat.mul_le_mul_left k hp; omega)
    dsimp! []
    refine ⟨_, _, rfl, s1, hk.mono (by omega), ?_⟩
    dsimp! []
    refine hC _ ⟨_, by rw [List.length_append, List.length_singleton, Rat.pow_succ]⟩
  · rintro _ ⟨x, rfl⟩
    rw [List.length_range, Int.toNat_natCast]
    dsimp! []
    by_cases hz : 0 ≤ m
    · rw [if_pos hz]
      have : m = (m.natAbs : Int) := by omega
      have e : b ^ m = b ^ m.natAbs := by conv => lhs; rw [this, Rat.zpow_natCast]
      rw [e] at h
      exact h
    · rw [if_neg hz]
      have : m = -(m.natAbs : Int) := by omega
      have e : frq (b ^ m) = fr ((b ^ m.natAbs).den : Int) (b ^ m.natAbs).num := by
        rw [this, Rat.zpow_neg, Rat.zpow_natCast, Int.natAbs_neg, Int.natAbs_natCast]
        obtain ⟨i1, i2⟩ := inv_parts (Rat.pow_pos (n := m.natAbs) hb)
        show fr _ _ = _
        rw [i1, i2]
      rw [e] at h
      exact h
/-! ### pairs -/
structure GP (p : Pr) : Prop where
  pos : 0 < p.1
  sz : Sz 4 p.1
  den : p.2.den ∣ 2
  num : p.2.num.natAbs ≤ 4
def sp__law_pairs : DSp := fun as Q => ∃ (c : Nat) (pot : Sl) (most : Int), as = [pot, .val (.int most)] ∧ PotA c pot ∧ c < 80000 ∧ 1 ≤ most ∧ most ≤ 4 ∧ ∀ (ps : List Pr) (pot' : Sl), 1 ≤ ps.length → (ps.length : Int) ≤ most → (∀ p ∈ ps, GP p) → PotA (c + 17) pot' → Q (.val (.tuple (ps.map pd))) [pot', .val (.int most)]
def d__law_pairs : DS := sSeq (sSet 2 (dLst (dNil)))
  (sSeq (sFor (diRng (dCons (dOp fAdd (dC (.int 1)) (dFrz (dCall sp__law_take (arS 0 (arV (dName 1) (arNil)))))) (dNil))) (dgName 3)
  (sDrop (dMet fAppend 2 (dCons (dTup (dCons (dFrz (dCall sp__law_number (arS 0 (arNil)))) (dCons (dFrz (dCall sp__law_cut (arV (dOp fSub (dFrz (dCall sp__law_take (arS 0 (arV (dC (.int 9)) (arNil))))) (dC (.int 4))) (arV (dOp fAdd (dC (.int 1)) (dFrz (dCall sp__law_take (arS 0 (arV (dC (.int 2)) (arNil)))))) (arNil))))) (dNil)))) (dNil)))))
  (sRet (dVal (dCBN fTuple 2))))
theorem small_exp {t l : Int} (ht : t.natAbs ≤ 4) (h1 : 1 ≤ l) (h2 : l ≤ 2) : (Rat.divInt t l).den ∣ 2 ∧ (Rat.divInt t l).num.natAbs ≤ 4 := by
  have hl : 0 < l := by omega
  have hg : (0 : Int) < (Int.gcd t l : Int) := by have := gcd_pos (a := t) hl; omega
  constructor
  · have h3 := rat_den (t := t) hl
    have h4 : (Int.gcd t l : Int) ∣ l := Int.gcd_dvd_right t l
    have h5 : ((Rat.divInt t l).den : Int) ∣ l := by
      rw [h3]
      exact Int.ediv_dvd_of_dvd h4
    have h6 : l ∣ 2 := by
      have : l = 1 ∨ l = 2 := by omega
      rcases this with z | z <;> rw [z] <;> decide
    exact Int.natCast_dvd_natCast.mp (Int.dvd_trans h5 h6)
  · rw [rat_num hl]
    have := Int.natAbs_ediv_le_natAbs t (Int.gcd t l : Int)
    omega
theorem i__law_pairs : ∀ as Q, sp__law_pairs as Q → fnSpec [0, 1] 2 2 d__law_pairs as Q := by
  rintro as Q ⟨c, pot, most, rfl, hp, hc, m1, m2, h⟩
  obtain ⟨own, seed, k, rfl, hh⟩ := id hp
  dsimp! [d__law_pairs]
  refine ⟨c, _, _, rfl, hp, by omega, by omega, by omega, fun d pot2 d0 d1 hp2 => ?_⟩
  obtain ⟨own2, seed2, k2, rfl, hh2⟩ := id hp2
  dsimp! []
  refine ⟨⟨by omega, by omega⟩, ?_⟩
  show forGo _ _ _ ((List.range _).map _) _
  have hn : (1 + d).toNat ≤ 4 ∧ 1 ≤ (1 + d).toNat ∧ ((1 + d).toNat : Int) ≤ most := by omega
  generalize (1 + d).toNat = n at hn
  refine forGo_pre (fun i : Nat => PyData.int (0 + (i : Int))) (fun p τ => ∃ (ps : List Pr) (pot : Sl) (x : Sl), τ = [pot, .val (.int most), .own (ps.map pd), x] ∧ PotA (c + 1 + 4 * p.length) pot ∧ ps.length = p.length ∧ ∀ q ∈ ps, GP q) _ _ ⟨[], _, _, rfl, hp2, rfl, fun q hq => (List.not_mem_nil hq).elim⟩ ?_ ?_
  · rintro p a s _ C hl ⟨ps, pot, x, rfl, hpot, hlen, hgp⟩ hC
    have hpl : p.length ≤ 4 := by
      have := congrArg List.length hl
      rw [List.length_range, List.length_append, List.length_cons] at this
      omega
    obtain ⟨own3, seed3, k3, rfl, hh3⟩ := id hpot
    dsimp! []
    refine ⟨_, _, rfl, hpot, by omega, fun r pot4 r0 rz hp4 => ?_⟩
    obtain ⟨own4, seed4, k4, rfl, hh4⟩ := id hp4
    dsimp! []
    refine ⟨_, _, _, rfl, hp4, by omega, by decide, by decide, fun e pot5 e0 e1 hp5 => ?_⟩
    obtain ⟨own5, seed5, k5, rfl, hh5⟩ := id hp5
    dsimp! []
    refine ⟨_, _, _, rfl, hp5, by omega, by decide, by decide, fun f pot6 f0 f1 hp6 => ?_⟩
    obtain ⟨own6, seed6, k6, rfl, hh6⟩ := id hp6
    dsimp! []
    refine ⟨_, _, rfl, by omega, Bi.mono (.of_le (k := 4) 2 (by omega)) (by decide), ?_⟩
    dsimp! []
    obtain ⟨g1, g2⟩ := small_exp (t := e - 4) (l := 1 + f) (by omega) (by omega) (by omega)
    refine ⟨by rw [List.length_map]; omega, hC _ ⟨ps ++ [(r, Rat.divInt (e - 4) (1 + f))], _, _, by rw [List.map_append]; rfl, hp6.mono (by rw [List.length_append, List.length_singleton]; omega), by rw [List.length_append, List.length_append, hlen]; rfl, fun q hq => ?_⟩⟩
    rcases List.mem_append.mp hq with hq | hq
    · exact hgp q hq
    · rw [List.mem_singleton.mp hq]
      exact ⟨r0, rz, g1, g2⟩
  · rintro _ ⟨ps, pot, x, rfl, hpot, hlen, hgp⟩
    rw [List.length_range] at hlen hpot
    obtain ⟨own3, seed3, k3, rfl, hh3⟩ := id hpot
    dsimp! []
    exact h ps _ (by omega) (by omega) hgp (hpot.mono (by omega))
/-! ### the product -/
def sp__law_product : DSp := fun as Q => ∃ ps : List Pr, as = [.val (.tuple (ps.map pd))] ∧ ps.length ≤ 10 ∧ (∀ p ∈ ps, GP p) ∧ Q (.val (frq (val 2 ps))) as
def d__law_product : DS := sSeq (sSet 1 (dVal (dTup (dCons (dC (.int 1)) (dCons (dC (.int 1)) (dNil))))))
  (sSeq (sFor (diV (dName 0)) (dgTup 2 (dgCons (dgName 2) (dgCons (dgName 3) (dgNil))))
  (sSet 1 (dCall sp__law_times (arV (dName 1) (arV (dFrz (dCall sp__law_power (arV (dName 2) (arV (dCB fInt (dCons (dOp fDiv (dOp fMul (dC (.int 2)) (dOpNs fIx 3 (dC (.int 0)))) (dOpNs fIx 3 (dC (.int 1)))) (dNil))) (arNil))))) (arNil))))))
  (sRetN 1))
theorem GP.ex2 {p : Pr} (h : GP p) : 2 * p.2.num / (p.2.den : Int) = ex 2 p.2 := by
  obtain ⟨c, hc⟩ := h.den
  have hd := p.2.den_pos
  unfold ex
  rw [hc, Nat.mul_div_cancel_left _ hd]
  have : (2 : Int) = (p.2.den : Int) * (c : Int) := by rw [← Int.natCast_mul, ← hc]; rfl
  rw [this, Int.mul_assoc, Int.mul_ediv_cancel_left _ (by omega), Int.mul_comm]
theorem GP.exb {p : Pr} (h : GP p) : (ex 2 p.2).natAbs ≤ 8 := by
  unfold ex
  rw [Int.natAbs_mul, Int.natAbs_natCast]
  have h1 := h.num
  have h2 : 2 / p.2.den ≤ 2 := Nat.div_le_self _ _
  exact Nat.mul_le_mul h1 h2
theorem sz_inv {k : Nat} {r : Rat} (h0 : 0 < r) (h : Sz k r) : Sz k r⁻¹ := by
  obtain ⟨i1, i2⟩ := inv_parts h0
  exact ⟨by rw [i1]; exact h.den, by rw [i2]; exact h.num⟩
theorem sz_zpow {k : Nat} {b : Rat} (h0 : 0 < b) (h : Sz k b) (m : Int) : Sz (1 + k * m.natAbs) (b ^ m) := by
  rcases zpow_cases m with ⟨n, rfl⟩ | ⟨n, rfl⟩
  · rw [Rat.zpow_natCast, Int.natAbs_natCast]
    exact sz_pow h n
  · rw [Rat.zpow_neg, Rat.zpow_natCast, Int.natAbs_neg, Int.natAbs_natCast]
    exact sz_inv (Rat.pow_pos h0) (sz_pow h n)
theorem sz_val : ∀ {ps : List Pr}, (∀ p ∈ ps, GP p) → Sz (1 + 33 * ps.length) (val 2 ps)
  | [], _ => by rw [val_nil]; exact sz_one (by simp)
  | p :: ps, h => by
    rw [val_cons, List.length_cons]
    have h1 := h p List.mem_cons_self
    have h2 := sz_zpow h1.pos h1.sz (ex 2 p.2)
    have h3 := sz_val (ps := ps) fun q hq => h q (List.mem_cons_of_mem _ hq)
    have := h1.exb
    exact (h2.mul h3).mono (by omega)
theorem i__law_product : ∀ as Q, sp__law_product as Q → fnSpec [0] 1 3 d__law_product as Q := by
  rintro as Q ⟨ps, rfl, hl, hg, h⟩
  dsimp! [d__law_product]
  refine forGo_pre pd (fun p τ => ∃ x y : Sl, τ = [.val (.tuple (ps.map pd)), .val (frq (val 2 p)), x, y]) ps _ ⟨_, _, by rw [val_nil]; rfl⟩ ?_ ?_
  · rintro pr p s _ C hls ⟨x, y, rfl⟩ hC
    have hmem : p ∈ ps := by rw [hls]; exact List.mem_append_right _ List.mem_cons_self
    have gp := hg p hmem
    have gpr : ∀ q ∈ pr, GP q := fun q hq => hg q (by rw [hls]; exact List.mem_append_left _ hq)
    have hprl : pr.length ≤ 10 := by
      have := congrArg List.length hls
      rw [List.length_append, List.length_cons] at this
      omega
    have b4 : Bi 4 p.2.num := .of_le 4 gp.num
    have dl2 : p.2.den ≤ 2 := Nat.le_of_dvd (by decide) gp.den
    dsimp! [gp.ex2]
    refine ⟨Bi.okMul (.of_le (k := 4) 2 (by decide)) b4, Bi.okDiv (den_pos' _) (Bi.mono (.of_le (k := 4) 2 (by omega)) (show 4 ≤ 4 by decide)), ?_⟩
    have := gp.exb
    refine ⟨p.1, _, 4, rfl, gp.pos, gp.sz, by omega, by omega, ?_⟩
    dsimp! []
    refine ⟨_, _, rfl, (sz_val gpr).mono (by omega), (sz_zpow gp.pos gp.sz _).mono (by omega), ?_⟩
    dsimp! []
    exact hC _ ⟨_, _, by rw [val_snoc]⟩
  · rintro _ ⟨x, y, rfl⟩
    dsimp! []
    exact h
/-! ### the exponents turned -/
def turn (p : Pr) : Pr := (p.1, -p.2)
def sp__law_turned : DSp := fun as Q => ∃ ps : List Pr, as = [.val (.tuple (ps.map pd))] ∧ ps.length ≤ 100 ∧ Q (.val (.tuple ((ps.map turn).map pd))) as
def d__law_turned : DS := sRet (dVal (dCB fTuple (dCons (dFrz (dLc [1, 2] (diV (dName 0)) (dgTup 2 (dgCons (dgName 1) (dgCons (dgName 2) (dgNil)))) (dtYes) (dTup (dCons (dName 1) (dCons (dTup (dCons (dOp fSub (dC (.int 0)) (dOpNs fIx 2 (dC (.int 0)))) (dCons (dOpNs fIx 2 (dC (.int 1))) (dNil)))) (dNil)))))) (dNil))))
theorem i__law_turned : ∀ as Q, sp__law_turned as Q → fnSpec [0] 1 2 d__law_turned as Q := by
  rintro as Q ⟨ps, rfl, hl, h⟩
  dsimp! [d__law_turned]
  refine lcGo_map (τ0 := [.val (.tuple (ps.map pd)), .un, .un]) pd (fun p => pd (turn p)) ps [] (fun p hp C hC => ?_) (by rw [List.length_nil]; omega) ?_
  · dsimp! []
    have e : pd (turn p) = .tuple [frq p.1, .tuple [.int (0 - p.2.num), .int (p.2.den : Int)]] := by
      unfold turn
      show PyData.tuple [frq p.1, fr (-p.2).num (-p.2).den] = _
      rw [Rat.neg_num, Rat.neg_den, ← Int.zero_sub]
    rw [e] at hC
    exact hC
  · dsimp! []
    rw [List.map_map] at h
    exact h
end K28

namespace K28
open PySem PySem.Spec PyProof.Rows L2 DL FQ
theorem S_gp : ∀ {ps : List Pr}, (∀ p ∈ ps, GP p) → S 2 ps ≤ 8 * ps.length
  | [], _ => Nat.le_refl _
  | p :: ps, h => by
    have h1 := (h p List.mem_cons_self).exb
    have h2 := S_gp (ps := ps) fun q hq => h q (List.mem_cons_of_mem _ hq)
    have : S 2 (p :: ps) = (ex 2 p.2).natAbs + S 2 ps := by unfold S; simp
    rw [this, List.length_cons]
    omega
theorem cl_pc {ps : List Pr} (M : Nat) {Q : Res → List Sl → Prop} (h1 : 1 ≤ ps.length) (h2 : ps.length ≤ 12) (hM : 0 < M) (hM2 : M ≤ 1000) (h : ∀ p ∈ ps, 0 < p.1 ∧ Sz 30 p.1 ∧ p.2.den ∣ M ∧ Bi 20 p.2.num) (hS : S M ps ≤ 400)
    (q : Q (.val (.int (sgn (val M ps)))) [.val (.tuple (ps.map pd))]) : sp_powers_compared [.val (.tuple (ps.map pd))] Q := ⟨ps, M, rfl, h1, h2, hM, hM2, h, hS, q⟩
theorem GP.pc {p : Pr} (h : GP p) : 0 < p.1 ∧ Sz 30 p.1 ∧ p.2.den ∣ 2 ∧ Bi 20 p.2.num := ⟨h.pos, h.sz.mono (by decide), h.den, Bi.mono (.of_le (k := 4) 4 h.num) (by decide)⟩
theorem cl_gp {ps : List Pr} {Q : Res → List Sl → Prop} (h : ∀ p ∈ ps, GP p) (h1 : 1 ≤ ps.length) (h2 : ps.length ≤ 12)
    (q : Q (.val (.int (sgn (val 2 ps)))) [.val (.tuple (ps.map pd))]) : sp_powers_compared [.val (.tuple (ps.map pd))] Q :=
  cl_pc 2 h1 h2 (by decide) (by decide) (fun p hp => (h p hp).pc) (by have := S_gp h; omega) q
theorem ex_turn (M : Nat) (e : Rat) : ex M (-e) = - ex M e := by
  unfold ex
  rw [Rat.neg_num, Rat.neg_den, Int.neg_mul]
theorem turn_gp {p : Pr} (h : GP p) : GP (turn p) := ⟨h.pos, h.sz, by show (-p.2).den ∣ 2; rw [Rat.neg_den]; exact h.den, by show (-p.2).num.natAbs ≤ 4; rw [Rat.neg_num, Int.natAbs_neg]; exact h.num⟩
theorem val_turn (M : Nat) (ps : List Pr) : val M (ps.map turn) = (val M ps)⁻¹ := by
  induction ps with
  | nil => rw [List.map_nil, val_nil, inv_one']
  | cons p ps ih =>
    rw [List.map_cons, val_cons, val_cons, ih, inv_mul']
    show p.1 ^ ex M (-p.2) * _ = _
    rw [ex_turn, Rat.zpow_neg]
def over (p : Pr) : Pr := (p.1⁻¹, -p.2)
theorem over_gp {p : Pr} (h : GP p) : GP (over p) := ⟨Rat.inv_pos.mpr h.pos, sz_inv h.pos h.sz, by show (-p.2).den ∣ 2; rw [Rat.neg_den]; exact h.den, by show (-p.2).num.natAbs ≤ 4; rw [Rat.neg_num, Int.natAbs_neg]; exact h.num⟩
theorem val_over (M : Nat) (ps : List Pr) : val M (ps.map over) = val M ps := by
  induction ps with
  | nil => rfl
  | cons p ps ih =>
    rw [List.map_cons, val_cons, val_cons, ih]
    show (p.1⁻¹) ^ ex M (-p.2) * _ = _
    rw [ex_turn, inv_zpow_neg]
/-- the exponents as fractions -/
theorem ex_rat {M : Nat} {e : Rat} (h : e.den ∣ M) : ((ex M e : Int) : Rat) = e * ((M : Int) : Rat) := by
  obtain ⟨c, hc⟩ := h
  have hd := e.den_pos
  unfold ex
  rw [hc, Nat.mul_div_cancel_left _ hd, Rat.intCast_mul, ← rat_frac, Int.natCast_mul, Rat.intCast_mul]
  grind
def scale (b : Rat) (p : Pr) : Pr := (p.1, p.2 * b)
theorem den_mul (a b : Rat) : (a * b).den ∣ a.den * b.den := by
  rw [mul_divInt]
  have hl : (0 : Int) < (a.den : Int) * b.den := mul_pos' (den_pos' a) (den_pos' b)
  have h3 := rat_den (t := a.num * b.num) hl
  have : ((Rat.divInt (a.num * b.num) (a.den * b.den)).den : Int) ∣ (a.den : Int) * b.den := by
    rw [h3]
    exact Int.ediv_dvd_of_dvd (Int.gcd_dvd_right _ _)
  rw [← Int.natCast_mul] at this
  exact Int.natCast_dvd_natCast.mp this
/-- by: 2, 1/3, 3/2 -/
structure By (b : Rat) (K : Nat) : Prop where
  eq : b * 6 = ((K : Int) : Rat)
  den : b.den ∣ 6
  d12 : 2 * b.den ∣ 12
  sz : Sz 2 b
  k : 0 < K ∧ K ≤ 12
theorem scale_den {p : Pr} (h : GP p) {b : Rat} {K : Nat} (hb : By b K) : (scale b p).2.den ∣ 12 := by
  have h1 := den_mul p.2 b
  exact Nat.dvd_trans h1 (Nat.dvd_trans (Nat.mul_dvd_mul_right h.den _) hb.d12)
theorem scale_ex {p : Pr} (h : GP p) {b : Rat} {K : Nat} (hb : By b K) : ex 12 (scale b p).2 = ex 2 p.2 * K := by
  have h1 := ex_rat (scale_den h hb)
  have h2 := ex_rat h.den
  have h3 : ((ex 12 (scale b p).2 : Int) : Rat) = ((ex 2 p.2 * K : Int) : Rat) := by
    rw [h1, Rat.intCast_mul, h2, ← hb.eq]
    show p.2 * b * ((12 : Int) : Rat) = p.2 * ((2 : Int) : Rat) * (b * 6)
    have e1 : ((12 : Int) : Rat) = 12 := rfl
    have e2 : ((2 : Int) : Rat) = 2 := rfl
    rw [e1, e2]
    grind
  exact Rat.intCast_inj.mp h3
theorem val_scale {b : Rat} {K : Nat} (hb : By b K) : ∀ {ps : List Pr}, (∀ p ∈ ps, GP p) → val 12 (ps.map (scale b)) = val 2 ps ^ K
  | [], _ => by rw [List.map_nil, val_nil, val_nil, one_pow']
  | p :: ps, h => by
    rw [List.map_cons, val_cons, val_cons, mul_pow', val_scale hb fun q hq => h q (List.mem_cons_of_mem _ hq), scale_ex (h p List.mem_cons_self) hb, zpow_mul_nat]
    rfl
theorem S_scale {b : Rat} {K : Nat} (hb : By b K) : ∀ {ps : List Pr}, (∀ p ∈ ps, GP p) → S 12 (ps.map (scale b)) ≤ 96 * ps.length
  | [], _ => Nat.le_refl _
  | p :: ps, h => by
    have h1 := (h p List.mem_cons_self).exb
    have h2 := S_scale hb (ps := ps) fun q hq => h q (List.mem_cons_of_mem _ hq)
    have : S 12 ((p :: ps).map (scale b)) = (ex 12 (scale b p).2).natAbs + S 12 (ps.map (scale b)) := by unfold S; simp
    have h3 : (ex 2 p.2).natAbs * K ≤ 8 * 12 := Nat.mul_le_mul h1 hb.k.2
    rw [this, scale_ex (h p List.mem_cons_self) hb, Int.natAbs_mul, Int.natAbs_natCast, List.length_cons]
    omega
theorem exp_sz {p : Pr} (h : GP p) : Sz 3 p.2 := ⟨.of_le 4 h.num, .of_le 2 (by have := Nat.le_of_dvd (by decide) h.den; omega)⟩
theorem cl_scale {ps : List Pr} {b : Rat} {K : Nat} {Q : Res → List Sl → Prop} (hb : By b K) (h : ∀ p ∈ ps, GP p) (h1 : 1 ≤ ps.length) (h2 : ps.length ≤ 4)
    (q : Q (.val (.int (sgn (val 2 ps)))) [.val (.tuple ((ps.map (scale b)).map pd))]) : sp_powers_compared [.val (.tuple ((ps.map (scale b)).map pd))] Q := by
  refine cl_pc 12 (by rw [List.length_map]; exact h1) (by rw [List.length_map]; omega) (by decide) (by decide) (fun p hp => ?_) (by have := S_scale hb h; omega) ?_
  · obtain ⟨r, hr, rfl⟩ := List.mem_map.mp hp
    have g := h r hr
    exact ⟨g.pos, g.sz.mono (by decide), scale_den g hb, (((exp_sz g).mul hb.sz).num).mono (by decide)⟩
  · rw [val_scale hb h, sgn_pow (val_pos fun p hp => (h p hp).pos) hb.k.1]
    exact q
def by1 : Rat := Rat.divInt 2 1
def by2 : Rat := Rat.divInt 1 3
def by3 : Rat := Rat.divInt 3 2
theorem by_1 : By by1 12 := ⟨by decide +kernel, by decide +kernel, by decide +kernel, ⟨by unfold Bi; decide +kernel, by unfold Bi; decide +kernel⟩, by decide⟩
theorem by_2 : By by2 2 := ⟨by decide +kernel, by decide +kernel, by decide +kernel, ⟨by unfold Bi; decide +kernel, by unfold Bi; decide +kernel⟩, by decide⟩
theorem by_3 : By by3 9 := ⟨by decide +kernel, by decide +kernel, by decide +kernel, ⟨by unfold Bi; decide +kernel, by unfold Bi; decide +kernel⟩, by decide⟩
theorem frq_by1 : frq by1 = fr 2 1 := by show fr _ _ = _; rw [show by1.num = 2 by decide +kernel, show (by1.den : Int) = 1 by decide +kernel]
theorem frq_by2 : frq by2 = fr 1 3 := by show fr _ _ = _; rw [show by2.num = 1 by decide +kernel, show (by2.den : Int) = 3 by decide +kernel]
theorem frq_by3 : frq by3 = fr 3 2 := by show fr _ _ = _; rw [show by3.num = 3 by decide +kernel, show (by3.den : Int) = 2 by decide +kernel]
end K28

namespace K28
open PySem PySem.Spec PyProof.Rows L2 DL FQ
/-- one statement at a time -/
theorem sSeq_i {t u : DS} {E : DEnds} {τ : SD} (h : ∀ nx : SD → Prop, (∀ τ, u E τ → nx τ) → t { E with nx := nx } τ) : sSeq t u E τ := h (u E) fun _ h => h
def sp__law_is_compared_right : DSp := fun as Q => ∃ (c : Nat) (pot : Sl) (ps os : List Pr), as = [pot, .val (.tuple (ps.map pd)), .val (.tuple (os.map pd))] ∧ PotA c pot ∧ c < 80000 ∧ 1 ≤ ps.length ∧ ps.length ≤ 4 ∧ 1 ≤ os.length ∧ os.length ≤ 4 ∧ (∀ p ∈ ps, GP p) ∧ (∀ p ∈ os, GP p) ∧
  ∀ pot', PotA (c + 1) pot' → Q (.val (.bool true)) [pot', .val (.tuple (ps.map pd)), .val (.tuple (os.map pd))]
def d__law_is_compared_right : DS := sSeq (sSet 3 (dCall sp_powers_compared (arV (dName 1) (arNil))))
  (sSeq (sIf (dOr (dTest (dOp fNe (dName 3) (dFrz (dCall sp__law_sign (arV (dFrz (dCall sp__law_product (arV (dName 1) (arNil)))) (arNil)))))) (dTest (dOp fNe (dFrz (dCall sp_powers_compared (arV (dFrz (dCall sp__law_turned (arV (dName 1) (arNil)))) (arNil)))) (dOp fSub (dC (.int 0)) (dName 3)))))
  (sRet (dVal (dC (.bool false))))
  (sNext))
  (sSeq (sSet 4 (dCall sp__law_of (arS 0 (arV (dFrz (dLst (dCons (dTup (dCons (dC (.int 2)) (dCons (dC (.int 1)) (dNil)))) (dCons (dTup (dCons (dC (.int 1)) (dCons (dC (.int 3)) (dNil)))) (dCons (dTup (dCons (dC (.int 3)) (dCons (dC (.int 2)) (dNil)))) (dNil)))))) (arNil)))))
  (sSeq (sIf (dTest (dOp fNe (dFrz (dCall sp_powers_compared (arV (dCB fTuple (dCons (dFrz (dLc [5, 6] (diV (dName 1)) (dgTup 2 (dgCons (dgName 5) (dgCons (dgName 6) (dgNil)))) (dtYes) (dTup (dCons (dName 5) (dCons (dFrz (dCall sp__law_times (arV (dName 6) (arV (dName 4) (arNil))))) (dNil)))))) (dNil))) (arNil)))) (dName 3)))
  (sRet (dVal (dC (.bool false))))
  (sNext))
  (sSeq (sSet 7 (dVal (dCB fTuple (dCons (dFrz (dLc [5, 6] (diV (dName 1)) (dgTup 2 (dgCons (dgName 5) (dgCons (dgName 6) (dgNil)))) (dtYes) (dTup (dCons (dTup (dCons (dOpNs fIx 5 (dC (.int 1))) (dCons (dOpNs fIx 5 (dC (.int 0))) (dNil)))) (dCons (dTup (dCons (dOp fSub (dC (.int 0)) (dOpNs fIx 6 (dC (.int 0)))) (dCons (dOpNs fIx 6 (dC (.int 1))) (dNil)))) (dNil)))))) (dNil)))))
  (sSeq (sIf (dOr (dTest (dOp fNe (dFrz (dCall sp_powers_compared (arV (dName 7) (arNil)))) (dName 3))) (dTest (dOp fNe (dFrz (dCall sp_powers_compared (arV (dRev (dName 1) (dUn fNeg (dC (.int 1)))) (arNil)))) (dName 3))))
  (sRet (dVal (dC (.bool false))))
  (sNext))
  (sSeq (sPar [8, 9] (drCons (dCall sp_powers_compared (arV (dOp fAdd (dName 1) (dName 2)) (arNil))) (drCons (dCall sp_powers_compared (arV (dName 2) (arNil))) (drNil))))
  (sSeq (sIf (dTest (dOp fNe (dName 8) (dFrz (dCall sp__law_sign (arV (dFrz (dCall sp__law_times (arV (dFrz (dCall sp__law_product (arV (dName 1) (arNil)))) (arV (dFrz (dCall sp__law_product (arV (dName 2) (arNil)))) (arNil))))) (arNil))))))
  (sRet (dVal (dC (.bool false))))
  (sNext))
  (sSeq (sIf (dOr (dAnd (dTest (dOp fEq (dName 3) (dName 9))) (dTest (dOp fNe (dName 8) (dName 3)))) (dAnd (dTest (dOp fEq (dName 3) (dC (.int 0)))) (dTest (dOp fNe (dName 8) (dName 9)))))
  (sRet (dVal (dC (.bool false))))
  (sNext))
  (sSeq (sSet 10 (dCall sp_powers_compared (arV (dOp fAdd (dName 1) (dFrz (dCall sp__law_turned (arV (dName 2) (arNil))))) (arNil))))
  (sRet (dVal (dOrV (dNotV (dAndV (dOp fGt (dName 3) (dC (.int 0))) (dOp fLt (dName 9) (dC (.int 0))))) (dOp fEq (dName 10) (dC (.int 1)))))))))))))))
theorem cl_sign (r : Rat) (Q : Res → List Sl → Prop) (q : Q (.val (.int (sgn r))) [.val (frq r)]) : sp__law_sign [.val (frq r)] Q := ⟨r, rfl, q⟩
theorem cl_prod {ps : List Pr} {Q : Res → List Sl → Prop} (h : ∀ p ∈ ps, GP p) (hl : ps.length ≤ 10) (q : Q (.val (frq (val 2 ps))) [.val (.tuple (ps.map pd))]) : sp__law_product [.val (.tuple (ps.map pd))] Q := ⟨ps, rfl, hl, h, q⟩
theorem cl_turned {ps : List Pr} {Q : Res → List Sl → Prop} (hl : ps.length ≤ 100) (q : Q (.val (.tuple ((ps.map turn).map pd))) [.val (.tuple (ps.map pd))]) : sp__law_turned [.val (.tuple (ps.map pd))] Q := ⟨ps, rfl, hl, q⟩
theorem cl_times {a b : Rat} {Q : Res → List Sl → Prop} (ha : Sz 4000 a) (hb : Sz 4000 b) (q : Q (.val (frq (a * b))) [.val (frq a), .val (frq b)]) : sp__law_times [.val (frq a), .val (frq b)] Q := ⟨a, b, rfl, ha, hb, q⟩
theorem sgn_pn {x : Rat} (h : 0 < x) : 0 - sgn x = sgn x⁻¹ := by rw [sgn_inv h]; omega
theorem i__law_is_compared_right : ∀ as Q, sp__law_is_compared_right as Q → fnSpec [0, 1, 2] 3 8 d__law_is_compared_right as Q := by
  rintro as Q ⟨c, pot, ps, os, rfl, hp, hc, p1, p2, o1, o2, gp, go, h⟩
  have vp : 0 < val 2 ps := val_pos fun p hp => (gp p hp).pos
  have vo : 0 < val 2 os := val_pos fun p hp => (go p hp).pos
  have zp : Sz 4000 (val 2 ps) := (sz_val gp).mono (by omega)
  have zo : Sz 4000 (val 2 os) := (sz_val go).mono (by omega)
  obtain ⟨own, seed, k, rfl, hh⟩ := id hp
  refine ⟨rfl, rfl, ?_⟩
  unfold d__law_is_compared_right
  refine sSeq_i fun nx hnx => ?_
  dsimp! []
  refine cl_gp gp p1 (by omega) ?_
  dsimp! []
  refine hnx _ (sSeq_i fun nx hnx => ?_)
  dsimp! []
  refine cl_prod gp (by omega) ?_
  dsimp! []
  refine cl_sign _ _ ?_
  dsimp! [eqv_intN]
  refine ⟨okEq_int _ _, ?_⟩
  simp only [ne_eq, not_true_eq_false, decide_false, Bool.false_eq_true, if_false]
  refine cl_turned (by omega) ?_
  dsimp! []
  refine cl_gp (fun q hq => by obtain ⟨r, hr, rfl⟩ := List.mem_map.mp hq; exact turn_gp (gp r hr)) (by rw [List.length_map]; exact p1) (by rw [List.length_map]; omega) ?_
  dsimp! [eqv_intN]
  refine ⟨okEq_int _ _, ?_⟩
  rw [val_turn, ← sgn_pn vp]
  simp only [ne_eq, not_true_eq_false, decide_false, Bool.false_eq_true, if_false]
  refine hnx _ (sSeq_i fun nx hnx => ?_)
  dsimp! []
  refine ⟨c, _, [frq by1, frq by2, frq by3], .list [fr 2 1, fr 1 3, fr 3 2], rfl, by rw [frq_by1, frq_by2, frq_by3]; rfl, hp, by omega, by decide, by decide, fun i x pot2 hi hp2 => ?_⟩
  obtain ⟨own2, seed2, k2, rfl, hh2⟩ := id hp2
  obtain ⟨b, K, hb, rfl⟩ : ∃ b K, By b K ∧ x = frq b := by
    match i, hi with
    | 0, hi => exact ⟨_, _, by_1, (Option.some.inj hi).symm⟩
    | 1, hi => exact ⟨_, _, by_2, (Option.some.inj hi).symm⟩
    | 2, hi => exact ⟨_, _, by_3, (Option.some.inj hi).symm⟩
  dsimp! []
  refine hnx _ (sSeq_i fun nx hnx => ?_)
  dsimp! []
  refine lcGo_map (τ0 := [.own [.int own2, .int seed2, .int k2], .val (.tuple (ps.map pd)), .val (.tuple (os.map pd)), .val (.int (sgn (val 2 ps))), .val (frq b), .un, .un, .un, .un, .un, .un]) pd (fun p => pd (scale b p)) ps [] (fun p hp C hC => ?_) (by rw [List.length_nil]; omega) ?_
  · dsimp! []
    refine cl_times ((exp_sz (gp p hp)).mono (by decide)) (hb.sz.mono (by decide)) ?_
    dsimp! []
    exact hC
  dsimp! []
  have e1 : (ps.map fun p => pd (scale b p)) = (ps.map (scale b)).map pd := by rw [List.map_map]; rfl
  rw [e1]
  refine cl_scale hb gp p1 p2 ?_
  dsimp! [eqv_intN]
  refine ⟨okEq_int _ _, ?_⟩
  simp only [ne_eq, not_true_eq_false, decide_false, Bool.false_eq_true, if_false]
  refine hnx _ (sSeq_i fun nx hnx => ?_)
  dsimp! []
  refine lcGo_map (τ0 := [.own [.int own2, .int seed2, .int k2], .val (.tuple (ps.map pd)), .val (.tuple (os.map pd)), .val (.int (sgn (val 2 ps))), .val (frq b), .un, .un, .un, .un, .un, .un]) pd (fun p => pd (over p)) ps [] (fun p hp C hC => ?_) (by rw [List.length_nil]; omega) ?_
  · dsimp! []
    have e : pd (over p) = .tuple [.tuple [.int (p.1.den : Int), .int p.1.num], .tuple [.int (0 - p.2.num), .int (p.2.den : Int)]] := by
      obtain ⟨i1, i2⟩ := inv_parts (gp p hp).pos
      show PyData.tuple [fr (p.1⁻¹).num (p.1⁻¹).den, fr (-p.2).num (-p.2).den] = _
      rw [Rat.neg_num, Rat.neg_den, ← Int.zero_sub, i1, i2]
    rw [e] at hC
    exact hC
  dsimp! []
  have e2 : (ps.map fun p => pd (over p)) = (ps.map over).map pd := by rw [List.map_map]; rfl
  rw [e2]
  refine hnx _ (sSeq_i fun nx hnx => ?_)
  dsimp! []
  refine cl_gp (fun q hq => by obtain ⟨r, hr, rfl⟩ := List.mem_map.mp hq; exact over_gp (gp r hr)) (by rw [List.length_map]; exact p1) (by rw [List.length_map]; omega) ?_
  dsimp! [eqv_intN]
  refine ⟨okEq_int _ _, ?_⟩
  rw [val_over]
  simp only [ne_eq, not_true_eq_false, decide_false, Bool.false_eq_true, if_false]
  rw [← List.map_reverse]
  refine cl_gp (fun q hq => gp q (List.mem_reverse.mp hq)) (by rw [List.length_reverse]; exact p1) (by rw [List.length_reverse]; omega) ?_
  dsimp! [eqv_intN]
  refine ⟨okEq_int _ _, ?_⟩
  rw [val_reverse]
  simp only [ne_eq, not_true_eq_false, decide_false, Bool.false_eq_true, if_false]
  refine hnx _ (sSeq_i fun nx hnx => ?_)
  dsimp! []
  have gpo : ∀ p ∈ ps ++ os, GP p := fun p hp => (List.mem_append.mp hp).elim (gp p) (go p)
  rw [← List.map_append]
  refine ⟨by rw [List.length_map, List.length_map]; omega, cl_gp gpo (by rw [List.length_append]; omega) (by rw [List.length_append]; omega) ?_⟩
  dsimp! []
  refine cl_gp go o1 (by omega) ?_
  dsimp! []
  rw [val_append]
  refine hnx _ (sSeq_i fun nx hnx => ?_)
  dsimp! []
  refine cl_prod gp (by omega) ?_
  dsimp! []
  refine cl_prod go (by omega) ?_
  dsimp! []
  refine cl_times zp zo ?_
  dsimp! []
  refine cl_sign _ _ ?_
  dsimp! [eqv_intN]
  refine ⟨okEq_int _ _, ?_⟩
  simp only [ne_eq, not_true_eq_false, decide_false, Bool.false_eq_true, if_false]
  refine hnx _ (sSeq_i fun nx hnx => ?_)
  dsimp! [eqv_intN, eqv_intB]
  -- the two tests
  have fin : nx [.own [.int own2, .int seed2, .int k2], .val (.tuple (ps.map pd)), .val (.tuple (os.map pd)), .val (.int (sgn (val 2 ps))), .val (frq b), .un, .un, .val (.tuple ((ps.map over).map pd)), .val (.int (sgn (val 2 ps * val 2 os))), .val (.int (sgn (val 2 os))), .un] := by
    refine hnx _ (sSeq_i fun nx hnx => ?_)
    dsimp! []
    refine cl_turned (by omega) ?_
    dsimp! []
    have gpt : ∀ p ∈ ps ++ os.map turn, GP p := fun p hp => (List.mem_append.mp hp).elim (gp p) fun hq => by
      obtain ⟨r, hr, rfl⟩ := List.mem_map.mp hq
      exact turn_gp (go r hr)
    rw [← List.map_append]
    refine ⟨by rw [List.length_map, List.length_map, List.length_map]; omega, cl_gp gpt (by rw [List.length_append]; omega) (by rw [List.length_append, List.length_map]; omega) ?_⟩
    dsimp! []
    refine hnx _ ?_
    rw [val_append, val_turn]
    dsimp! [eqv_intB]
    by_cases c1 : 0 < sgn (val 2 ps)
    · rw [if_pos c1]
      by_cases c2 : sgn (val 2 os) < 0
      · have a1 : sgn (val 2 ps) = 1 := by rcases sgn_cases (val 2 ps) with z | z | z <;> omega
        have a2 : sgn (val 2 os) = -1 := by rcases sgn_cases (val 2 os) with z | z | z <;> omega
        have a3 : sgn (val 2 os)⁻¹ = 1 := by rw [sgn_inv vo, a2]; rfl
        have a4 : sgn (val 2 ps * (val 2 os)⁻¹) = 1 := by rw [sgn_mul_same vp (Rat.inv_pos.mpr vo) (by rw [a1, a3]), a1]
        rw [a4]
        simp only [c2, decide_true, Bool.not_true, Bool.false_eq_true, if_false]
        exact ⟨okEq_int _ _, h _ hp2⟩
      · simp only [c2, decide_false, Bool.not_false, if_true]
        exact h _ hp2
    · rw [if_neg c1]
      exact h _ hp2
  have t1 : ¬ (sgn (val 2 ps) = sgn (val 2 os) ∧ sgn (val 2 ps * val 2 os) ≠ sgn (val 2 ps)) := fun ⟨a, b⟩ => b (sgn_mul_same vp vo a)
  have t2 : ¬ (sgn (val 2 ps) = 0 ∧ sgn (val 2 ps * val 2 os) ≠ sgn (val 2 os)) := fun ⟨a, b⟩ => b (sgn_mul_zero a)
  refine ⟨okEq_int _ _, ?_⟩
  have n0 : okEq (PyData.int (sgn (val 2 ps))) (PyData.int 0) := okEq_int _ _
  have second : (if sgn (val 2 ps) = 0 then okEq (PyData.int (sgn (val 2 ps * val 2 os))) (PyData.int (sgn (val 2 os))) ∧ if (!decide (sgn (val 2 ps * val 2 os) = sgn (val 2 os))) = true then Q (Res.val (PyData.bool false)) [Sl.own [PyData.int own2, PyData.int seed2, PyData.int k2], Sl.val (PyData.tuple (List.map pd ps)), Sl.val (PyData.tuple (List.map pd os))] else nx [.own [.int own2, .int seed2, .int k2], .val (.tuple (ps.map pd)), .val (.tuple (os.map pd)), .val (.int (sgn (val 2 ps))), .val (frq b), .un, .un, .val (.tuple ((ps.map over).map pd)), .val (.int (sgn (val 2 ps * val 2 os))), .val (.int (sgn (val 2 os))), .un]
      else nx [.own [.int own2, .int seed2, .int k2], .val (.tuple (ps.map pd)), .val (.tuple (os.map pd)), .val (.int (sgn (val 2 ps))), .val (frq b), .un, .un, .val (.tuple ((ps.map over).map pd)), .val (.int (sgn (val 2 ps * val 2 os))), .val (.int (sgn (val 2 os))), .un]) := by
    by_cases c2 : sgn (val 2 ps) = 0
    · rw [if_pos c2]
      have e : sgn (val 2 ps * val 2 os) = sgn (val 2 os) := sgn_mul_zero c2
      refine ⟨okEq_int _ _, ?_⟩
      rw [e] at fin ⊢
      simp only [decide_true, Bool.not_true, Bool.false_eq_true, if_false]
      exact fin
    · rw [if_neg c2]
      exact fin
  by_cases c1 : sgn (val 2 ps) = sgn (val 2 os)
  · rw [if_pos c1]
    have e : sgn (val 2 ps * val 2 os) = sgn (val 2 ps) := sgn_mul_same vp vo c1
    refine ⟨okEq_int _ _, ?_⟩
    rw [if_neg (by rw [e]; simp)]
    exact ⟨n0, second⟩
  · rw [if_neg c1]
    exact ⟨n0, second⟩
end K28

namespace K28
open PySem PySem.Spec PyProof.Rows L2 DL FQ
/-! ### powers of one number, each by its part: the product is beside 1 as the sum is beside 0 -/
theorem sgn_zpow {b : Rat} (h : 1 < b) (N : Int) : sgn (b ^ N) = (if 0 < N then (1 : Int) else 0) - if N < 0 then (1 : Int) else 0 := by
  have hb : 0 < b := Std.lt_trans (by decide : (0 : Rat) < 1) h
  rcases zpow_cases N with ⟨n, rfl⟩ | ⟨n, rfl⟩
  · rw [Rat.zpow_natCast]
    by_cases hn : 0 < n
    · rw [sgn_pow hb hn, sgn_gt h, if_pos (show (0 : Int) < (n : Int) by omega), if_neg (show ¬ (n : Int) < 0 by omega)]; rfl
    · have : n = 0 := by omega
      subst this
      rw [Rat.pow_zero, sgn_one]; rfl
  · rw [Rat.zpow_neg, Rat.zpow_natCast, sgn_inv (Rat.pow_pos hb)]
    by_cases hn : 0 < n
    · rw [sgn_pow hb hn, sgn_gt h, if_neg (show ¬ (0 : Int) < -(n : Int) by omega), if_pos (show -(n : Int) < 0 by omega)]; rfl
    · have : n = 0 := by omega
      subst this
      rw [Rat.pow_zero, sgn_one]; rfl
def wE (i : Nat) : Int := ((60 / (1 + i) : Nat) : Int)
def wN (m : Nat → Int) (l : List Nat) : Int := (l.map fun i => m i * wE i).sum
theorem unit_parts (i : Nat) : (Rat.divInt 1 (1 + (i : Int))).num = 1 ∧ (Rat.divInt 1 (1 + (i : Int))).den = 1 + i := by
  have hl : (0 : Int) < 1 + (i : Int) := by omega
  have h1 := rat_num (t := 1) hl
  have h2 := rat_den (t := 1) hl
  rw [Int.gcd_one_left] at h1 h2
  refine ⟨by rw [h1]; simp, ?_⟩
  have : (((Rat.divInt 1 (1 + (i : Int))).den : Nat) : Int) = 1 + i := by rw [h2]; simp
  omega
def rp (b : Rat) (m : Nat → Int) (i : Nat) : Pr := (b ^ m i, Rat.divInt 1 (1 + (i : Int)))
theorem ex_rp (b : Rat) (m : Nat → Int) (i : Nat) : ex 60 (rp b m i).2 = wE i := by
  obtain ⟨h1, h2⟩ := unit_parts i
  unfold ex rp wE
  rw [h1, h2, Int.one_mul]
theorem val_rp {b : Rat} (h : 0 < b) (m : Nat → Int) : ∀ l : List Nat, val 60 (l.map (rp b m)) = b ^ wN m l
  | [] => by
    show (1 : Rat) = b ^ (0 : Int)
    rw [Rat.zpow_zero]
  | i :: l => by
    rw [List.map_cons, val_cons, val_rp h m l, ex_rp]
    show (b ^ m i) ^ wE i * _ = b ^ ((m i * wE i) + wN m l)
    rw [Rat.zpow_add (by grind), zpow_mul']
theorem div_part (m : Int) {i : Nat} (h : 1 + i ∣ 60) : Rat.divInt m (1 + (i : Int)) * 60 = ((m * wE i : Int) : Rat) := by
  obtain ⟨c, hc⟩ := h
  have hw : wE i = c := by
    unfold wE
    rw [hc, Nat.mul_div_cancel_left _ (by omega)]
  rw [hw, Rat.divInt_eq_div, Rat.intCast_mul, Rat.div_def]
  have h60 : (60 : Rat) = ((1 + (i : Int) : Int) : Rat) * ((c : Int) : Rat) := by
    rw [← Rat.intCast_mul]
    have : (1 + (i : Int)) * (c : Int) = 60 := by
      have : (((1 + i) * c : Nat) : Int) = ((60 : Nat) : Int) := by rw [← hc]
      rw [Int.natCast_mul, Int.natCast_add] at this
      exact this
    rw [this]; rfl
  have hne : ((1 + (i : Int) : Int) : Rat) ≠ 0 := by
    intro z
    have : (1 + (i : Int)) = 0 := Rat.intCast_inj.mp z
    omega
  rw [h60]
  have := Rat.mul_inv_cancel _ hne
  grind
theorem sum_parts (m : Nat → Int) : ∀ (l : List Nat) (a : Rat), (∀ i ∈ l, 1 + i ∣ 60) → ((l.map fun i => Rat.divInt (m i) (1 + (i : Int))).foldl (· + ·) a) * 60 = a * 60 + ((wN m l : Int) : Rat)
  | [], a, _ => by
    show a * 60 = a * 60 + ((0 : Int) : Rat)
    rw [Rat.intCast_zero, Rat.add_zero]
  | i :: l, a, h => by
    rw [List.map_cons, List.foldl_cons, sum_parts m l _ fun j hj => h j (List.mem_cons_of_mem _ hj), Rat.add_mul, div_part _ (h i List.mem_cons_self)]
    show _ = a * 60 + ((m i * wE i + wN m l : Int) : Rat)
    rw [Rat.intCast_add, Rat.add_assoc]
theorem sum_sign {m : Nat → Int} {l : List Nat} (h : ∀ i ∈ l, 1 + i ∣ 60) : (0 < (sumR (l.map fun i => Rat.divInt (m i) (1 + (i : Int)))).num ↔ 0 < wN m l) ∧ ((sumR (l.map fun i => Rat.divInt (m i) (1 + (i : Int)))).num < 0 ↔ wN m l < 0) := by
  have e := sum_parts m l 0 h
  rw [Rat.zero_mul, Rat.zero_add] at e
  change sumR _ * 60 = _ at e
  generalize sumR (l.map fun i => Rat.divInt (m i) (1 + (i : Int))) = r at e ⊢
  have e2 := rat_frac r
  have e3 : ((r.num * 60 : Int) : Rat) = ((wN m l * (r.den : Int) : Int) : Rat) := by
    rw [Rat.intCast_mul, Rat.intCast_mul, ← e, ← e2]
    show r * _ * 60 = r * 60 * _
    grind
  have e4 : r.num * 60 = wN m l * (r.den : Int) := Rat.intCast_inj.mp e3
  have hd : (0 : Int) < (r.den : Int) := by have := r.den_pos; omega
  constructor
  · constructor
    · intro hn
      have : 0 < wN m l * (r.den : Int) := by omega
      exact Int.pos_of_mul_pos_left this hd
    · intro hn
      have := Int.mul_pos hn hd
      omega
  · constructor
    · intro hn
      have : wN m l * (r.den : Int) < 0 := by omega
      exact Int.neg_of_mul_neg_left this hd
    · intro hn
      have := Int.mul_neg_of_neg_of_pos hn hd
      omega
theorem S_rp (b : Rat) (m : Nat → Int) : ∀ l : List Nat, S 60 (l.map (rp b m)) ≤ 60 * l.length
  | [] => Nat.le_refl _
  | i :: l => by
    have h2 := S_rp b m l
    have : S 60 ((i :: l).map (rp b m)) = (ex 60 (rp b m i).2).natAbs + S 60 (l.map (rp b m)) := by unfold S; simp
    rw [this, ex_rp, List.length_cons]
    have h3 : (wE i).natAbs ≤ 60 := by
      unfold wE
      rw [Int.natAbs_natCast]
      exact Nat.div_le_self _ _
    omega
theorem pd_rp (b : Rat) (m : Nat → Int) (i : Nat) : pd (rp b m i) = .tuple [frq (b ^ m i), .tuple [.int 1, .int (1 + (i : Int))]] := by
  obtain ⟨h1, h2⟩ := unit_parts i
  show PyData.tuple [_, fr (Rat.divInt 1 (1 + (i : Int))).num (Rat.divInt 1 (1 + (i : Int))).den] = _
  rw [h1, h2]
  rfl
theorem szAll_of {k K : Nat} : ∀ {qs : List Rat}, (∀ q ∈ qs, Sz k q) → (k + 1) * qs.length + 1 ≤ K → k ≤ K → SzAll K qs := by
  intro qs h hK hk
  refine ⟨fun q hq => (h q hq).mono hk, fun n => ?_⟩
  have go : ∀ (l : List Rat) (a : Rat) (j : Nat), (∀ q ∈ l, Sz k q) → Sz j a → Sz (j + (k + 1) * l.length) (l.foldl (· + ·) a) := by
    intro l
    induction l with
    | nil => exact fun a j _ ha => ha
    | cons q l ih =>
      intro a j hl ha
      have := ih (a + q) (j + k + 1) (fun r hr => hl r (List.mem_cons_of_mem _ hr)) (ha.add (hl q List.mem_cons_self))
      rw [List.foldl_cons]
      exact this.mono (by rw [List.length_cons, Nat.mul_add]; omega)
  refine (go (qs.take n) 0 1 (fun q hq => h q (List.mem_of_mem_take hq)) ⟨by unfold Bi; decide, by unfold Bi; decide⟩).mono ?_
  have h1 : (qs.take n).length ≤ qs.length := by rw [List.length_take]; omega
  have := Nat.mul_le_mul_left (k + 1) h1
  omega
theorem getL_eq {n : Nat} (ms : List Int) (hn : ms.length = n) : (List.range n).map (fun i => ms.getD i 0) = ms := by
  subst hn
  refine List.ext_getElem (by simp) fun i h1 h2 => ?_
  simp [List.getD_eq_getElem?_getD, h2]
theorem gcd_two (a b : Int) : (gcdL [a, b] : Int) ∣ a ∧ (gcdL [a, b] : Int) ∣ b ∧ (a.natAbs ≤ 6 → b.natAbs ≤ 6 → gcdL [a, b] ≤ 6) := by
  have e : gcdL [a, b] = Nat.gcd a.natAbs b.natAbs := by
    unfold gcdL
    rw [List.foldl_cons, List.foldl_cons, List.foldl_nil, Nat.gcd_zero_left]
  rw [e]
  refine ⟨Int.ofNat_dvd_left.mpr (Nat.gcd_dvd_left _ _), Int.ofNat_dvd_left.mpr (Nat.gcd_dvd_right _ _), fun h1 h2 => ?_⟩
  by_cases h : a.natAbs = 0
  · rw [h, Nat.gcd_zero_left]; exact h2
  · exact Nat.le_trans (Nat.gcd_le_left _ (by omega)) h1
theorem pow_back {b : Rat} {g m : Int} (h : g ∣ m) : (b ^ g) ^ (m / g) = b ^ m := by
  rw [← zpow_mul', Int.mul_ediv_cancel' h]
end K28

namespace K28
open PySem PySem.Spec PyProof.Rows L2 DL FQ
def sp__law_are_roots_right : DSp := fun as Q => ∃ (c : Nat) (pot : Sl), as = [pot] ∧ PotA c pot ∧ c < 80000 ∧ ∀ pot', PotA (c + 7) pot' → Q (.val (.bool true)) [pot']
def d__law_are_roots_right : DS := sSeq (sSet 1 (dCall sp__law_of (arS 0 (arV (dFrz (dLst (dCons (dTup (dCons (dC (.int 2)) (dCons (dC (.int 1)) (dNil)))) (dCons (dTup (dCons (dC (.int 3)) (dCons (dC (.int 2)) (dNil)))) (dCons (dTup (dCons (dC (.int 6)) (dCons (dC (.int 5)) (dNil)))) (dCons (dTup (dCons (dC (.int 10)) (dCons (dC (.int 1)) (dNil)))) (dCons (dTup (dCons (dC (.int 4)) (dCons (dC (.int 3)) (dNil)))) (dCons (dTup (dCons (dC (.int 12)) (dCons (dC (.int 7)) (dNil)))) (dNil))))))))) (arNil)))))
  (sSeq (sSet 2 (dLc [3] (diRng (dCons (dOp fAdd (dC (.int 1)) (dFrz (dCall sp__law_take (arS 0 (arV (dC (.int 5)) (arNil)))))) (dNil))) (dgName 3) (dtYes) (dCB fInt (dCons (dOp fSub (dFrz (dCall sp__law_take (arS 0 (arV (dC (.int 13)) (arNil))))) (dC (.int 6))) (dNil)))))
  (sSeq (sSet 4 (dVal (dCB fTuple (dCons (dFrz (dLc [5] (diV (dName 2)) (dgName 5) (dtYes) (dFrz (dCall sp__law_power (arV (dName 1) (arV (dName 5) (arNil))))))) (dNil)))))
  (sSeq (sAsg (dTup (dCons (dFrz (dCall sp_common_root (arV (dName 4) (arNil)))) (dCons (dC (.int 0)) (dNil)))) (dgTup 2 (dgCons (dgName 6) (dgCons (dgName 7) (dgNil)))))
  (sSeq (sFor (diV (dName 2)) (dgName 5)
  (sSeq (sPar [8, 9] (drCons (dVal (dCBN fAbs 5)) (drCons (dVal (dName 7)) (drNil))))
  (sSeq (sFor (diRng (dCons (dC (.int 12)) (dNil))) (dgName 3)
  (sAsg (dIf (dTest (dOp fGt (dName 9) (dC (.int 0)))) (dTup (dCons (dName 9) (dCons (dOp fMod (dName 8) (dName 9)) (dNil)))) (dTup (dCons (dName 8) (dCons (dName 9) (dNil))))) (dgTup 2 (dgCons (dgName 8) (dgCons (dgName 9) (dgNil))))))
  (sSet 7 (dVal (dName 8))))))
  (sSeq (sIf (dTest (dOp fEq (dName 7) (dC (.int 0))))
  (sRet (dVal (dOp fEq (dName 6) (dTup (dCons (dTup (dCons (dC (.int 1)) (dCons (dC (.int 1)) (dNil)))) (dCons (dOp fRepT (dTup (dCons (dC (.int 0)) (dNil))) (dCBN fLen 4)) (dNil)))))))
  (sNext))
  (sSeq (sSet 10 (dVal (dTup (dCons (dFrz (dCall sp__law_power (arV (dName 1) (arV (dName 7) (arNil))))) (dCons (dCB fTuple (dCons (dFrz (dLc [5] (diV (dName 2)) (dgName 5) (dtYes) (dCB fInt (dCons (dOp fDiv (dName 5) (dName 7)) (dNil))))) (dNil))) (dNil))))))
  (sSeq (sIf (dTest (dOp fNeS (dCBN fRepr 6) (dCBN fRepr 10)))
  (sRet (dVal (dC (.bool false))))
  (sNext))
  (sSeq (sFor (diRng (dCons (dCBN fLen 4) (dNil))) (dgName 11)
  (sSeq (sSet 12 (dCall sp_common_root (arV (dTup (dCons (dOpNs fIx 4 (dC (.int 0))) (dCons (dOpNs fIx 4 (dName 11)) (dNil)))) (arNil))))
  (sSeq (sIf (dOr (dTest (dUn (fun d Q => Q (.bool (isNoneD d))) (dName 12))) (dTest (dOp fNe (dOpNs fIx 4 (dC (.int 0))) (dFrz (dCall sp__law_power (arV (dOpNs fIx 12 (dC (.int 0))) (arV (dOp fIx (dOpNs fIx 12 (dC (.int 1))) (dC (.int 0))) (arNil))))))))
  (sRet (dVal (dC (.bool false))))
  (sNext))
  (sIf (dTest (dOp fNe (dOpNs fIx 4 (dName 11)) (dFrz (dCall sp__law_power (arV (dOpNs fIx 12 (dC (.int 0))) (arV (dOp fIx (dOpNs fIx 12 (dC (.int 1))) (dC (.int 1))) (arNil)))))))
  (sRet (dVal (dC (.bool false))))
  (sNext)))))
  (sSeq (sSet 13 (dVal (dCB fTuple (dCons (dFrz (dLc [11, 14] (diEnum (dCons (dName 4) (dNil))) (dgTup 2 (dgCons (dgName 11) (dgCons (dgName 14) (dgNil)))) (dtYes) (dTup (dCons (dName 14) (dCons (dTup (dCons (dC (.int 1)) (dCons (dOp fAdd (dC (.int 1)) (dName 11)) (dNil)))) (dNil)))))) (dNil)))))
  (sSeq (sSet 15 (dCall sp__law_total (arV (dFrz (dLc [11, 5] (diEnum (dCons (dName 2) (dNil))) (dgTup 2 (dgCons (dgName 11) (dgCons (dgName 5) (dgNil)))) (dtYes) (dFrz (dCall sp__law_cut (arV (dName 5) (arV (dOp fAdd (dC (.int 1)) (dName 11)) (arNil))))))) (arNil))))
  (sSeq (sIf (dTest (dOp fNe (dFrz (dCall sp_powers_compared (arV (dName 13) (arNil)))) (dOp fSub (dCB fInt (dCons (dOp fGt (dOpNs fIx 15 (dC (.int 0))) (dC (.int 0))) (dNil))) (dCB fInt (dCons (dOp fLt (dOpNs fIx 15 (dC (.int 0))) (dC (.int 0))) (dNil))))))
  (sRet (dVal (dC (.bool false))))
  (sNext))
  (sRet (dVal (dAndV (dUn (fun d Q => Q (.bool (isNoneD d))) (dFrz (dCall sp_common_root (arV (dOp fAdd (dName 4) (dTup (dCons (dTup (dCons (dC (.int 17)) (dCons (dC (.int 1)) (dNil)))) (dNil)))) (arNil))))) (dOp fEq (dOp fIx (dFrz (dCall sp_common_root (arV (dOp fAdd (dName 4) (dTup (dCons (dTup (dCons (dC (.int 1)) (dCons (dC (.int 1)) (dNil)))) (dNil)))) (arNil)))) (dC (.int 0))) (dOpNs fIx 6 (dC (.int 0))))))))))))))))))
theorem frq_bq {p q : Nat} (h : GB p q) : frq (bq p q) = fr p q := by
  obtain ⟨h1, h2⟩ := bq_num h
  show fr _ _ = _
  rw [h1, h2]
theorem gb1 : GB 2 1 := ⟨by decide, by decide, by decide, by decide, by decide, by decide⟩
theorem gb2 : GB 3 2 := ⟨by decide, by decide, by decide, by decide, by decide, by decide⟩
theorem gb3 : GB 6 5 := ⟨by decide, by decide, by decide, by decide, by decide, by decide⟩
theorem gb4 : GB 10 1 := ⟨by decide, by decide, by decide, by decide, by decide, by decide⟩
theorem gb5 : GB 4 3 := ⟨by decide, by decide, by decide, by decide, by decide, by decide⟩
theorem gb6 : GB 12 7 := ⟨by decide, by decide, by decide, by decide, by decide, by decide⟩
theorem bq_sz {p q : Nat} (h : GB p q) : Sz 4 (bq p q) := by
  obtain ⟨h1, h2⟩ := bq_num h
  have := h.small
  have := h.lt
  exact ⟨by rw [h1]; exact .of_le 12 (by omega), by rw [h2]; exact .of_le 12 (by omega)⟩
theorem cl_pw {b : Rat} {m : Int} {k : Nat} {Q : Res → List Sl → Prop} (h0 : 0 < b) (hk : Sz k b) (h1 : k + k * m.natAbs + 1 ≤ 3000) (h2 : m.natAbs ≤ 1000) (q : Q (.val (frq (b ^ m))) [.val (frq b), .val (.int m)]) : sp__law_power [.val (frq b), .val (.int m)] Q := ⟨b, m, k, rfl, h0, hk, h1, h2, q⟩
theorem zeros_eq (ms : List Int) : rowD (ms.map fun m => m / ((0 : Nat) : Int)) = .tuple (List.replicate ms.length [PyData.int 0]).flatten := by
  show PyData.tuple _ = PyData.tuple _
  congr 1
  induction ms with
  | nil => rfl
  | cons m ms ih =>
    rw [List.length_cons, List.replicate_succ, List.flatten_cons, ← ih, List.map_cons, List.map_cons]
    show PyData.int (m / ((0 : Nat) : Int)) :: _ = _
    rw [Int.natCast_zero, Int.ediv_zero]
    rfl
theorem bq_one {p q : Nat} (h : GB p q) : 1 < bq p q := by
  obtain ⟨h1, h2⟩ := bq_num h
  rw [Rat.lt_iff, h1, h2]
  have := h.lt
  show (1 : Int) * _ < _ * 1
  omega
theorem cl_root {p q : Nat} {ms : List Int} {x : Bool} {Q : Res → List Sl → Prop} (hb : GB p q) (h1 : 1 ≤ ms.length) (h2 : ms.length ≤ 8) (hm : ∀ m ∈ ms, m.natAbs ≤ 6)
    (hf : x = false → Q (.val (.tuple [frq (bq p q ^ ((gcdL ms : Nat) : Int)), rowD (ms.map fun m => m / (gcdL ms : Int))])) [.val (.tuple ((nums p q ms x).map frq))]) (ht : x = true → gcdL ms ≠ 0 ∧ Q (.val .none) [.val (.tuple ((nums p q ms x).map frq))]) :
    sp_common_root [.val (.tuple ((nums p q ms x).map frq))] Q := ⟨p, q, ms, x, rfl, hb, h1, h2, hm, hf, ht⟩
theorem i__law_are_roots_right : ∀ as Q, sp__law_are_roots_right as Q → fnSpec [0] 1 15 d__law_are_roots_right as Q := by
  rintro as Q ⟨c, pot, rfl, hp, hc, h⟩
  obtain ⟨own, seed, k, rfl, hh⟩ := id hp
  refine ⟨rfl, rfl, ?_⟩
  unfold d__law_are_roots_right
  refine sSeq_i fun nx hnx => ?_
  dsimp! []
  refine ⟨c, _, [frq (bq 2 1), frq (bq 3 2), frq (bq 6 5), frq (bq 10 1), frq (bq 4 3), frq (bq 12 7)], .list [fr 2 1, fr 3 2, fr 6 5, fr 10 1, fr 4 3, fr 12 7], rfl, by rw [frq_bq gb1, frq_bq gb2, frq_bq gb3, frq_bq gb4, frq_bq gb5, frq_bq gb6]; rfl, hp, by omega, by decide, by decide, fun i x pot2 hi hp2 => ?_⟩
  obtain ⟨own2, seed2, k2, rfl, hh2⟩ := id hp2
  obtain ⟨p, q, hb, rfl⟩ : ∃ p q, GB p q ∧ x = frq (bq p q) := by
    match i, hi with
    | 0, hi => exact ⟨_, _, gb1, (Option.some.inj hi).symm⟩
    | 1, hi => exact ⟨_, _, gb2, (Option.some.inj hi).symm⟩
    | 2, hi => exact ⟨_, _, gb3, (Option.some.inj hi).symm⟩
    | 3, hi => exact ⟨_, _, gb4, (Option.some.inj hi).symm⟩
    | 4, hi => exact ⟨_, _, gb5, (Option.some.inj hi).symm⟩
    | 5, hi => exact ⟨_, _, gb6, (Option.some.inj hi).symm⟩
  dsimp! []
  refine hnx _ (sSeq_i fun nx hnx => ?_)
  dsimp! []
  refine ⟨c + 1, _, _, rfl, hp2, by omega, by decide, by decide, fun d pot3 d0 d1 hp3 => ?_⟩
  obtain ⟨own3, seed3, k3, rfl, hh3⟩ := id hp3
  dsimp! []
  refine ⟨⟨by omega, by omega⟩, ?_⟩
  show lcGo _ _ _ _ _ ((List.range _).map _) _ _
  have hn : (1 + d).toNat ≤ 5 ∧ 1 ≤ (1 + d).toNat := by omega
  generalize (1 + d).toNat = n at hn
  refine lcGo_st (fun i : Nat => PyData.int (0 + (i : Int))) (fun acc τ => ∃ (ms : List Int) (pot : Sl), acc = ms.map PyData.int ∧ (∀ m ∈ ms, m.natAbs ≤ 6) ∧ PotA (c + 2 + ms.length) pot ∧ τ = [pot, .val (frq (bq p q)), .un, .un, .un, .un, .un, .un, .un, .un, .un, .un, .un, .un, .un, .un]) n (by omega) (List.range n) [] _ ⟨[], _, rfl, fun m hm => (List.not_mem_nil hm).elim, hp3, rfl⟩ ?_ (by rw [List.length_range, List.length_nil]; omega) ?_
  · rintro a ha acc τ C hlt ⟨ms, pot, rfl, hms, hpot, rfl⟩ hC
    rw [List.length_map] at hlt
    obtain ⟨own4, seed4, k4, rfl, hh4⟩ := id hpot
    dsimp! []
    refine ⟨_, _, _, rfl, hpot, by omega, by decide, by decide, fun e pot5 e0 e1 hp5 => ?_⟩
    obtain ⟨own5, seed5, k5, rfl, hh5⟩ := id hp5
    dsimp! []
    refine hC _ _ ⟨ms ++ [e - 6], _, by rw [List.map_append]; rfl, fun m hm => ?_, hp5.mono (by rw [List.length_append, List.length_singleton]; omega), rfl⟩
    rcases List.mem_append.mp hm with hm | hm
    · exact hms m hm
    · rw [List.mem_singleton.mp hm]; omega
  rintro _ _ ⟨ms, pot, rfl, hms, hpot, rfl⟩ hlen
  rw [List.length_map, List.length_nil, List.length_range] at hlen
  obtain ⟨own4, seed4, k4, rfl, hh4⟩ := id hpot
  dsimp! []
  refine hnx _ (sSeq_i fun nx hnx => ?_)
  dsimp! []
  have e1 : ((nums p q ms false).map frq) = ms.map fun m => frq (bq p q ^ m) := by
    unfold nums
    simp only [Bool.false_eq_true, if_false, List.append_nil, List.map_map]
    rfl
  refine lcGo_map (τ0 := [.own [.int own4, .int seed4, .int k4], .val (frq (bq p q)), .val (.list (ms.map .int)), .un, .un, .un, .un, .un, .un, .un, .un, .un, .un, .un, .un, .un]) PyData.int (fun m => frq (bq p q ^ m)) ms [] (fun m hm C hC => ?_) (by rw [List.length_nil]; omega) ?_
  · have := hms m hm
    dsimp! []
    refine cl_pw (bq_pos hb) (bq_sz hb) (by omega) (by omega) ?_
    dsimp! []
    exact hC
  dsimp! []
  rw [← e1]
  refine hnx _ (sSeq_i fun nx hnx => ?_)
  dsimp! []
  have hml : ms.length ≤ 5 ∧ 1 ≤ ms.length := by omega
  refine cl_root (x := false) hb (by omega) (by omega) hms (fun _ => ?_) (fun z => by cases z)
  dsimp! []
  generalize hT : PyData.tuple [frq (bq p q ^ ((gcdL ms : Nat) : Int)), rowD (ms.map fun m => m / (gcdL ms : Int))] = T
  refine hnx _ (sSeq_i fun nx hnx => ?_)
  dsimp! []
  refine forGo_pre PyData.int (fun pr τ => ∃ x3 x5 x8 x9 : Sl, τ = [.own [.int own4, .int seed4, .int k4], .val (frq (bq p q)), .val (.list (ms.map .int)), x3, .val (.tuple ((nums p q ms false).map frq)), x5, .val T, .val (.int (gcdL pr)), x8, x9, .un, .un, .un, .un, .un, .un] ∧ gcdL pr ≤ 6) ms _ ⟨_, _, _, _, rfl, by decide⟩ ?_ ?_
  · rintro pr m s _ C hl ⟨x3, x5, x8, x9, rfl, hg6⟩ hC
    have hm6 := hms m (by rw [hl]; exact List.mem_append_right _ List.mem_cons_self)
    refine ⟨by simp, sSeq_i fun nx hnx => ?_⟩
    dsimp! []
    refine hnx _ (sSeq_i fun nx hnx => ?_)
    dsimp! []
    refine ⟨by decide, ?_⟩
    show forGo _ _ _ ((List.range 12).map _) _
    refine forGo_pre (fun i : Nat => PyData.int (0 + (i : Int))) (fun l τ => ∃ (a b : Nat) (y : Sl), τ = [.own [.int own4, .int seed4, .int k4], .val (frq (bq p q)), .val (.list (ms.map .int)), y, .val (.tuple ((nums p q ms false).map frq)), .val (.int m), .val T, .val (.int (gcdL pr)), .val (.int a), .val (.int b), .un, .un, .un, .un, .un, .un] ∧ Nat.gcd a b = Nat.gcd m.natAbs (gcdL pr) ∧ (b + l.length ≤ 6 ∨ b = 0)) _ _ ⟨_, _, _, rfl, rfl, .inl (by rw [List.length_nil]; omega)⟩ ?_ ?_
    · rintro l a s2 _ C2 hl2 ⟨x, y, z, rfl, hxy, hlen⟩ hC2
      dsimp! []
      by_cases hy : (0 : Int) < (y : Int)
      · rw [if_pos hy]
        refine ⟨hy, hC2 _ ⟨y, x % y, _, by rw [Int.natCast_emod], by rw [← hxy, Nat.gcd_comm y, ← Nat.gcd_rec, Nat.gcd_comm], .inl ?_⟩⟩
        have := Nat.mod_lt x (show 0 < y by omega)
        rw [List.length_append, List.length_singleton]
        omega
      · rw [if_neg hy]
        exact hC2 _ ⟨x, y, _, rfl, hxy, .inr (by omega)⟩
    · rintro _ ⟨x, y, z, rfl, hxy, hlen⟩
      rw [List.length_range] at hlen
      have y0 : y = 0 := by omega
      subst y0
      rw [Nat.gcd_zero_right] at hxy
      refine hnx _ ?_
      dsimp! []
      have eg : gcdL (pr ++ [m]) = x := by
        rw [hxy]
        unfold gcdL
        rw [List.foldl_append, List.foldl_cons, List.foldl_nil, Nat.gcd_comm]
      rw [← eg]
      refine hC _ ⟨_, _, _, _, rfl, ?_⟩
      rw [eg, hxy]
      by_cases hz : m.natAbs = 0
      · rw [hz, Nat.gcd_zero_left]
        exact hg6
      · exact Nat.le_trans (Nat.gcd_le_left _ (by omega)) hm6
  · rintro _ ⟨x3, x5, x8, x9, rfl, hg6⟩
    refine hnx _ (sSeq_i fun nx hnx => ?_)
    dsimp! [eqv_intB]
    refine ⟨okEq_int _ _, ?_⟩
    have nlen : ((nums p q ms false).map frq).length = ms.length := by rw [e1, List.length_map]
    have nmT : Nm 2 T := by
      rw [← hT]
      refine (Nms.cons ((Nm.fr _ _).mono (by decide)) (.cons ?_ .nil)).tup
      exact (nms_ints _).tup
    by_cases hG : gcdL ms = 0
    · have hG' : ((gcdL ms : Nat) : Int) = 0 := by omega
      rw [if_pos hG']
      have e2 : T = .tuple [.tuple [.int 1, .int 1], .tuple (List.replicate (((nums p q ms false).map frq).length : Int).toNat [PyData.int 0]).flatten] := by
        rw [← hT, hG, nlen, Int.toNat_natCast]
        congr 2
        · rw [Rat.zpow_natCast, Rat.pow_zero]; rfl
        · rw [zeros_eq ms]
      rw [← e2]
      refine ⟨⟨by simp, by rw [nlen]; omega, by rw [nlen]; omega⟩, nmT.okEq nmT, ?_⟩
      rw [(eqv_num nmT.num nmT.num).mpr rfl]
      exact h _ (hpot.mono (by omega))
    · have hG' : ¬ ((gcdL ms : Nat) : Int) = 0 := by omega
      rw [if_neg hG']
      refine hnx _ (sSeq_i fun nx hnx => ?_)
      dsimp! []
      refine cl_pw (bq_pos hb) (bq_sz hb) (by omega) (by omega) ?_
      dsimp! []
      refine lcGo_map (τ0 := [.own [.int own4, .int seed4, .int k4], .val (frq (bq p q)), .val (.list (ms.map .int)), x3, .val (.tuple ((nums p q ms false).map frq)), .un, .val T, .val (.int (gcdL ms)), x8, x9, .un, .un, .un, .un, .un, .un]) PyData.int (fun m => .int (m / (gcdL ms : Int))) ms [] (fun m hm C hC => ?_) (by rw [List.length_nil]; omega) ?_
      · dsimp! []
        exact ⟨Bi.okDiv (k := 4) (by omega) (.of_le 6 (by omega)), hC⟩
      dsimp! []
      have e3 : (.tuple [frq (bq p q ^ ((gcdL ms : Nat) : Int)), .tuple (ms.map fun m => .int (m / (gcdL ms : Int)))] : PyData) = T := by
        rw [← hT]
        show PyData.tuple [_, _] = PyData.tuple [_, PyData.tuple _]
        rw [List.map_map]
        rfl
      rw [e3]
      refine hnx _ (sSeq_i fun nx hnx => ?_)
      dsimp! []
      have rpT : okRepr T := by
        rw [← hT]
        have b1 := ((sz_zpow (bq_pos hb) (bq_sz hb) ((gcdL ms : Nat) : Int)).mono (show _ ≤ 25 by omega))
        have b2 : ∀ i ∈ (ms.map fun m => m / (gcdL ms : Int)), Bi 3 i := fun i hi => by
          obtain ⟨m, hm, rfl⟩ := List.mem_map.mp hi
          have := hms m hm
          have := Int.natAbs_ediv_le_natAbs m (gcdL ms : Int)
          exact .of_le 6 (by omega)
        exact ((Rps.cons (Rp.frq b1) (.cons ((Rp.ints _ b2).mono (Nat.le_refl _) (show _ ≤ 20 by rw [List.length_map]; omega)) (Rps.nil.mono (Nat.zero_le _) (Nat.le_refl _)))).tup).ok (by decide) (by decide) ⟨_, .inl rfl⟩
      refine ⟨rpT, rpT, ?_⟩
      refine hnx _ (sSeq_i fun nx hnx => ?_)
      dsimp! []
      have hnum : ∀ i, i < ms.length → ((nums p q ms false).map frq)[i]? = some (frq (bq p q ^ (ms.getD i 0))) := fun i hi => by
        rw [e1, List.getElem?_map, List.getElem?_eq_getElem hi, List.getD_eq_getElem?_getD, List.getElem?_eq_getElem hi]; rfl
      have hget : ∀ (i : Nat) (hi : i < ms.length), ms.getD i 0 = ms[i] := fun i hi => by
        rw [List.getD_eq_getElem?_getD, List.getElem?_eq_getElem hi]; rfl
      have hmi : ∀ i, (ms.getD i 0).natAbs ≤ 6 := fun i => by
        rw [List.getD_eq_getElem?_getD]
        by_cases hi : i < ms.length
        · rw [List.getElem?_eq_getElem hi]; exact hms _ (List.getElem_mem hi)
        · rw [List.getElem?_eq_none (by omega)]; decide
      refine ⟨by rw [nlen]; omega, ?_⟩
      rw [nlen, Int.toNat_natCast]
      show forGo _ _ _ ((List.range ms.length).map _) _
      refine forGo_pre (fun i : Nat => PyData.int (0 + (i : Int))) (fun _ τ => ∃ x11 x12 : Sl, τ = [.own [.int own4, .int seed4, .int k4], .val (frq (bq p q)), .val (.list (ms.map .int)), x3, .val (.tuple ((nums p q ms false).map frq)), .un, .val T, .val (.int (gcdL ms)), x8, x9, .val T, x11, x12, .un, .un, .un]) _ _ ⟨_, _, rfl⟩ ?_ ?_
      · rintro pr i s _ C hl ⟨x11, x12, rfl⟩ hC
        have hi : i < ms.length := List.mem_range.mp (by rw [hl]; exact List.mem_append_right _ List.mem_cons_self)
        obtain ⟨g1, g2, g3⟩ := gcd_two (ms.getD 0 0) (ms.getD i 0)
        have g4 := g3 (hmi 0) (hmi i)
        dsimp! [hnum 0 (by omega), hnum i hi, Int.zero_add]
        refine cl_root (ms := [ms.getD 0 0, ms.getD i 0]) (x := false) hb (show 1 ≤ 2 by decide) (show 2 ≤ 8 by decide) (fun m hm => ?_) (fun _ => ?_) (fun z => by cases z)
        · rcases List.mem_cons.mp hm with z | hm
          · rw [z]; exact hmi 0
          · rw [List.mem_singleton.mp hm]; exact hmi i
        dsimp! [hnum 0 (by omega), hnum i hi, Int.zero_add]
        have d1 := Int.natAbs_ediv_le_natAbs (ms.getD 0 0) (gcdL [ms.getD 0 0, ms.getD i 0] : Int)
        have d2 := Int.natAbs_ediv_le_natAbs (ms.getD i 0) (gcdL [ms.getD 0 0, ms.getD i 0] : Int)
        have d3 := hmi 0
        have d4 := hmi i
        have bp2 : 0 < bq p q ^ ((gcdL [ms.getD 0 0, ms.getD i 0] : Nat) : Int) := Rat.zpow_pos (bq_pos hb)
        have bz2 : Sz 25 (bq p q ^ ((gcdL [ms.getD 0 0, ms.getD i 0] : Nat) : Int)) := (sz_zpow (bq_pos hb) (bq_sz hb) _).mono (by omega)
        refine cl_pw bp2 bz2 (by omega) (by omega) ?_
        rw [pow_back g1]
        dsimp! [hnum 0 (by omega), hnum i hi, Int.zero_add, eqv_frq]
        refine ⟨(Nm.fr _ _).okEq (Nm.fr _ _), ?_⟩
        refine cl_pw bp2 bz2 (by omega) (by omega) ?_
        rw [pow_back g2]
        dsimp! [hnum 0 (by omega), hnum i hi, Int.zero_add, eqv_frq]
        refine ⟨(Nm.fr _ _).okEq (Nm.fr _ _), ?_⟩
        exact hC _ ⟨_, _, rfl⟩
      rintro _ ⟨x11, x12, rfl⟩
      refine hnx _ (sSeq_i fun nx hnx => ?_)
      dsimp! [enumD_len]
      unfold enumD
      rw [nlen]
      refine lcGo_map (τ0 := [.own [.int own4, .int seed4, .int k4], .val (frq (bq p q)), .val (.list (ms.map .int)), x3, .val (.tuple ((nums p q ms false).map frq)), .un, .val T, .val (.int (gcdL ms)), x8, x9, .val T, .un, x12, .un, .un, .un]) _ (fun i => pd (rp (bq p q) (fun i => ms.getD i 0) i)) (List.range ms.length) [] (fun i hi C hC => ?_) (by rw [List.length_range, List.length_nil]; omega) ?_
      · have hi' : i < ms.length := List.mem_range.mp hi
        rw [List.getD_eq_getElem?_getD, hnum i hi', pd_rp] at *
        dsimp! [Option.getD_some]
        exact hC
      dsimp! []
      have e4 : (List.range ms.length).map (fun i => pd (rp (bq p q) (fun i => ms.getD i 0) i)) = ((List.range ms.length).map (rp (bq p q) (fun i => ms.getD i 0))).map pd := by rw [List.map_map]; rfl
      rw [e4]
      refine hnx _ (sSeq_i fun nx hnx => ?_)
      dsimp! [enumD_len]
      unfold enumD
      rw [List.length_map]
      refine lcGo_map (τ0 := [.own [.int own4, .int seed4, .int k4], .val (frq (bq p q)), .val (.list (ms.map .int)), x3, .val (.tuple ((nums p q ms false).map frq)), .un, .val T, .val (.int (gcdL ms)), x8, x9, .val T, .un, x12, .val (.tuple (((List.range ms.length).map (rp (bq p q) (fun i => ms.getD i 0))).map pd)), .un, .un]) _ (fun i => frq (Rat.divInt (ms.getD i 0) (1 + (i : Int)))) (List.range ms.length) [] (fun i hi C hC => ?_) (by rw [List.length_range, List.length_nil]; omega) ?_
      · have hi' : i < ms.length := List.mem_range.mp hi
        rw [List.getD_eq_getElem?_getD, List.getElem?_map, List.getElem?_eq_getElem hi', ← hget i hi']
        dsimp! [Option.getD_some, Option.map_some]
        refine ⟨ms.getD i 0, 1 + (i : Int), rfl, by omega, (Bi.of_le (k := 4) 6 (by omega)).mono (by decide), ?_⟩
        dsimp! []
        exact hC
      dsimp! []
      have hR : ∀ i ∈ List.range ms.length, i < 5 := fun i hi => by have := List.mem_range.mp hi; omega
      refine ⟨(List.range ms.length).map (fun i => Rat.divInt (ms.getD i 0) (1 + (i : Int))), _, rfl, by rw [List.map_map]; rfl, szAll_of (k := 4) (fun q hq => ?_) (by rw [List.length_map, List.length_range]; omega) (by decide), ?_⟩
      · obtain ⟨i, hi, rfl⟩ := List.mem_map.mp hq
        have := hR i hi
        exact Sz.divInt (by omega) (.of_le 6 (hmi i)) (.of_le 6 (by omega))
      dsimp! []
      have h60 : ∀ i ∈ List.range ms.length, 1 + i ∣ 60 := fun i hi => by
        have := hR i hi
        have : i = 0 ∨ i = 1 ∨ i = 2 ∨ i = 3 ∨ i = 4 := by omega
        rcases this with z | z | z | z | z <;> subst z <;> decide
      obtain ⟨s1, s2⟩ := sum_sign (m := fun i => ms.getD i 0) h60
      generalize hsr : sumR ((List.range ms.length).map fun i => Rat.divInt (ms.getD i 0) (1 + (i : Int))) = sr at s1 s2 ⊢
      refine hnx _ (sSeq_i fun nx hnx => ?_)
      dsimp! []
      refine cl_pc 60 (by rw [List.length_map, List.length_range]; omega) (by rw [List.length_map, List.length_range]; omega) (by decide) (by decide) (fun t ht => ?_) (by
        have := S_rp (bq p q) (fun i => ms.getD i 0) (List.range ms.length)
        rw [List.length_range] at this
        omega) ?_
      · obtain ⟨i, hi, rfl⟩ := List.mem_map.mp ht
        have := hmi i
        obtain ⟨u1, u2⟩ := unit_parts i
        refine ⟨Rat.zpow_pos (bq_pos hb), (sz_zpow (bq_pos hb) (bq_sz hb) (ms.getD i 0)).mono (show 1 + 4 * (ms.getD i 0).natAbs ≤ 30 by omega), ?_, ?_⟩
        · show (Rat.divInt 1 (1 + (i : Int))).den ∣ 60
          rw [u2]; exact h60 i hi
        · show Bi 20 (Rat.divInt 1 (1 + (i : Int))).num
          rw [u1]; exact .of_le 1 (by decide)
      rw [val_rp (bq_pos hb), sgn_zpow (bq_one hb)]
      dsimp! [eqv_intN]
      simp only [s1, s2, ne_eq, not_true_eq_false, if_false]
      refine ⟨okEq_int _ _, ?_⟩
      refine hnx _ ?_
      dsimp! []
      have e5 : (nums p q ms false).map frq ++ [PyData.tuple [PyData.int 17, PyData.int 1]] = (nums p q ms true).map frq := by
        unfold nums
        simp only [Bool.false_eq_true, if_false, if_true, List.append_nil, List.map_append]
        rfl
      have e6 : (nums p q ms false).map frq ++ [PyData.tuple [PyData.int 1, PyData.int 1]] = (nums p q (ms ++ [0]) false).map frq := by
        unfold nums
        simp only [Bool.false_eq_true, if_false, List.append_nil, List.map_append, List.map_cons, List.map_nil, Rat.zpow_zero]
        rfl
      have g7 : gcdL (ms ++ [0]) = gcdL ms := by
        unfold gcdL
        rw [List.foldl_append, List.foldl_cons, List.foldl_nil]
        exact Nat.gcd_zero_right _
      rw [e5]
      refine ⟨by rw [nlen]; omega, cl_root (x := true) hb (by omega) (by omega) hms (fun z => by cases z) (fun _ => ⟨hG, ?_⟩)⟩
      dsimp! []
      rw [e6]
      refine ⟨by rw [nlen]; omega, cl_root (x := false) hb (by rw [List.length_append]; omega) (by rw [List.length_append, List.length_singleton]; omega) (fun m hm => ?_) (fun _ => ?_) (fun z => by cases z)⟩
      · rcases List.mem_append.mp hm with hm | hm
        · exact hms m hm
        · rw [List.mem_singleton.mp hm]; decide
      rw [g7, ← hT]
      dsimp! [eqv_frq]
      exact ⟨(Nm.fr _ _).okEq (Nm.fr _ _), h _ (hpot.mono (by omega))⟩
end K28

namespace K28
open PySem PySem.Spec PyProof.Rows L2 DL FQ
def sp__law_right : DSp := fun as Q => ∃ (c : Nat) (pot : Sl), as = [pot] ∧ PotA c pot ∧ c < 70000 ∧ ∀ pot', PotA (c + 42) pot' → Q (.val (.bool true)) [pot']
def d__law_right : DS := sSeq (sPar [1, 2] (drCons (dCall sp__law_pairs (arS 0 (arV (dC (.int 4)) (arNil)))) (drCons (dCall sp__law_pairs (arS 0 (arV (dC (.int 3)) (arNil)))) (drNil))))
  (sRet (dVal (dAndV (dFrz (dCall sp__law_is_compared_right (arS 0 (arV (dName 1) (arV (dName 2) (arNil)))))) (dFrz (dCall sp__law_are_roots_right (arS 0 (arNil)))))))
theorem i__law_right : ∀ as Q, sp__law_right as Q → fnSpec [0] 1 2 d__law_right as Q := by
  rintro as Q ⟨c, pot, rfl, hp, hc, h⟩
  obtain ⟨own, seed, k, rfl, hh⟩ := id hp
  refine ⟨rfl, rfl, ?_⟩
  unfold d__law_right
  refine sSeq_i fun nx hnx => ?_
  dsimp! []
  refine ⟨c, _, _, rfl, hp, by omega, by decide, by decide, fun ps pot2 l1 l2 gp hp2 => ?_⟩
  obtain ⟨own2, seed2, k2, rfl, hh2⟩ := id hp2
  dsimp! []
  refine ⟨c + 17, _, _, rfl, hp2, by omega, by decide, by decide, fun os pot3 m1 m2 go hp3 => ?_⟩
  obtain ⟨own3, seed3, k3, rfl, hh3⟩ := id hp3
  dsimp! []
  refine hnx _ ?_
  dsimp! []
  refine ⟨c + 34, _, ps, os, rfl, hp3, by omega, l1, by omega, m1, by omega, gp, go, fun pot4 hp4 => ?_⟩
  obtain ⟨own4, seed4, k4, rfl, hh4⟩ := id hp4
  dsimp! []
  refine ⟨c + 35, _, rfl, hp4, by omega, fun pot5 hp5 => ?_⟩
  obtain ⟨own5, seed5, k5, rfl, hh5⟩ := id hp5
  dsimp! []
  exact h _ hp5
def sp_law : DSp := fun as Q => ∃ ns : List Int, as = [.frn (ns.map .int)] ∧ ns.length ≤ 63 ∧ ∀ as', Q (.val (.bool true)) as'
def d_law : DS := sSeq (sFor (diV (dFrz (dCall sp__law_cells (arS 0 (arV (dC (.int 3)) (arNil)))))) (dgName 1)
  (sSeq (sSet 2 (dCall sp__law_pot (arS 0 (arV (dName 1) (arNil)))))
  (sIf (dNot (dTest (dCB fAll (dCons (dFrz (dLc [3] (diRng (dCons (dC (.int 5)) (dNil))) (dgName 3) (dtYes) (dFrz (dCall sp__law_right (arS 2 (arNil)))))) (dNil)))))
  (sRet (dVal (dC (.bool false))))
  (sNext))))
  (sRet (dVal (dC (.bool true))))
theorem i_law : ∀ as Q, sp_law as Q → fnSpec [0] 1 3 d_law as Q := by
  rintro as Q ⟨ns, rfl, hlen, h⟩
  refine ⟨rfl, rfl, ?_⟩
  unfold d_law
  refine sSeq_i fun nx hnx => ?_
  dsimp! []
  refine ⟨ns, 3, rfl, by decide, fun m hm => ?_⟩
  dsimp! []
  show forGo _ _ _ ((List.range m).map _) _
  refine forGo_pre (fun i : Nat => PyData.int (0 + (i : Int))) (fun pr τ => ∃ x1 x2 x3 : Sl, τ = [.frn (ns.map .int), x1, x2, x3]) (List.range m) _ ⟨_, _, _, rfl⟩ ?_ ?_
  · rintro pr i s _ C hl ⟨x1, x2, x3, rfl⟩ hC
    have hi : i < m := List.mem_range.mp (by rw [hl]; exact List.mem_append_right _ List.mem_cons_self)
    dsimp! []
    rw [Int.zero_add]
    refine ⟨ns, i, rfl, by omega, fun ds hp => ?_⟩
    dsimp! []
    refine ⟨by decide, ?_⟩
    show lcGo _ _ _ _ _ ((List.range 5).map _) _ _
    refine lcGo_st (fun i : Nat => PyData.int (0 + (i : Int))) (fun acc τ => ∃ (j : Nat) (pot : Sl), acc = (List.replicate j true).map PyData.bool ∧ PotA (42 * j) pot ∧ τ = [.frn (ns.map .int), .val (.int i), pot, .un]) 5 (by decide) (List.range 5) [] _ ⟨0, _, rfl, hp, rfl⟩ ?_ (by decide) ?_
    · rintro a ha acc τ C2 hlt ⟨j, pot, rfl, hpot, rfl⟩ hC2
      rw [List.length_map, List.length_replicate] at hlt
      obtain ⟨own, seed, k, rfl, hh⟩ := id hpot
      dsimp! []
      refine ⟨42 * j, _, rfl, hpot, by omega, fun pot5 hp5 => ?_⟩
      obtain ⟨own5, seed5, k5, rfl, hh5⟩ := id hp5
      dsimp! []
      exact hC2 _ _ ⟨j + 1, _, by rw [List.replicate_succ', List.map_append]; rfl, hp5.mono (by omega), rfl⟩
    rintro _ _ ⟨j, pot, rfl, hpot, rfl⟩ _
    obtain ⟨own, seed, k, rfl, hh⟩ := id hpot
    refine ⟨_, boolsOf_map _, ?_⟩
    have e : (List.replicate j true).all id = true := List.all_eq_true.mpr fun b hb => by rw [(List.mem_replicate.mp hb).2]; rfl
    rw [e]
    simp only [Bool.not_true, Bool.false_eq_true, if_false]
    exact hC _ ⟨_, _, _, rfl⟩
  · rintro _ ⟨x1, x2, x3, rfl⟩
    refine hnx _ ?_
    dsimp! []
    exact h _
end K28

namespace K28
open PySem PySem.Spec PyProof.Rows L2 DL FQ

def topS (i : Nat) : Stmt := PySem.Challenge.pw_themomentitturned_k28_whole_powers_and_r.main.body.getD i (.Pass ⟨0, 0, 0, 0⟩)
structure Txt (K : PySem.W.Frag) (mg : Str → Option Value) : Prop where
  n_abs : mg "abs" = none
  n_all : mg "all" = none
  n_any : mg "any" = none
  n_bool : mg "bool" = none
  n_enumerate : mg "enumerate" = none
  n_int : mg "int" = none
  n_isinstance : mg "isinstance" = none
  n_len : mg "len" = none
  n_list : mg "list" = none
  n_max : mg "max" = none
  n_min : mg "min" = none
  n_range : mg "range" = none
  n_repr : mg "repr" = none
  n_sorted : mg "sorted" = none
  n_sum : mg "sum" = none
  n_tuple : mg "tuple" = none
  n_zip : mg "zip" = none
  c_MOST_PAIRS : Gc K mg "MOST_PAIRS" c_MOST_PAIRS
  c_MOST_POWERS : Gc K mg "MOST_POWERS" c_MOST_POWERS
  c_ONE : Gc K mg "ONE" c_ONE
theorem hu64 {A : Around} {k : Nat} (hr : Rm k A) : A.units + 64 < cLine := hr.room.units
theorem hu65 {A : Around} {k : Nat} (hr : Rm k A) : A.units + 65 < cLine := by have := hr.room.un; omega
/-! ### is_integer -/
abbrev s_is_integer : Stmt := topS 5
abbrev N_is_integer : List Str := ["value"]
theorem sc_is_integer : FnScope N_is_integer ["value"] (defScope s_is_integer) := ⟨rfl, rfl, rfl, by decide +kernel, rfl, by decide +kernel, by decide +kernel⟩
theorem a_is_integer : arity sp_is_integer 1 := fun as Q h => (i_is_integer as Q h).1
section
set_option linter.unusedVariables false
variable {Pg : Program} {w : World} {K : PySem.W.Frag} {mg : Str → Option Value} {base : Heap}
theorem b_is_integer (T : Txt K mg) {f : Addr} (cdv : Value) (A : Around) (outer : List Env) (s : Shared) (H : Hp) (E : XK) (hr : Rm 0 (A.deeper (envOfC "is_integer" (defScope s_is_integer) s.heap.objs.size f cdv))) : PSsD (bodyCx Pg w K mg base N_is_integer "is_integer" s_is_integer f cdv A outer s H E) [0] (defBody s_is_integer) d_is_integer :=
  have nd := sc_is_integer.nd
  have hu := hu64 hr
  have hu5 := hu65 hr
  have hg5 := hr.gd
  ss_one (s_ret (pd_val (pv_and (pv_isi "int" (by decide) (pv_name 0) T.n_isinstance T.n_int) (pv_one (pv_not (pv_isi "bool" (by decide) (pv_name 0) T.n_isinstance T.n_bool))))))
theorem f_is_integer (T : Txt K mg) {f : Addr} {fd : FuncData} (F : Fun K "is_integer" "is_integer" s_is_integer f fd) (hm : mg "is_integer" = some (.ref f)) (imp : ∀ as Q, sp_is_integer as Q → fnSpec [0] 1 0 d_is_integer as Q) : FnD Pg w K mg base 1 "is_integer" ["value"] sp_is_integer :=
  fnD_of F hm (fn_of_body F sc_is_integer 0 rfl (fun cdv A outer s H E hr => b_is_integer T cdv A outer s H E hr) imp) (fun _ _ _ _ _ _ us hl => match us, hl with | [_], _ => rfl) (fun _ _ _ _ _ _ us hl => match us, hl with | [_], _ => rfl)
end

/-! ### common -/
abbrev s_common : Stmt := topS 10
abbrev N_common : List Str := ["one", "other"]
theorem sc_common : FnScope N_common ["one", "other"] (defScope s_common) := ⟨rfl, rfl, rfl, by decide +kernel, rfl, by decide +kernel, by decide +kernel⟩
theorem a_common : arity sp_common 2 := fun as Q h => (i_common as Q h).1
section
set_option linter.unusedVariables false
variable {Pg : Program} {w : World} {K : PySem.W.Frag} {mg : Str → Option Value} {base : Heap}
theorem b_common (T : Txt K mg) {f : Addr} (cdv : Value) (A : Around) (outer : List Env) (s : Shared) (H : Hp) (E : XK) (hr : Rm 0 (A.deeper (envOfC "common" (defScope s_common) s.heap.objs.size f cdv))) : PSsD (bodyCx Pg w K mg base N_common "common" s_common f cdv A outer s H E) [] (defBody s_common) d_common :=
  have nd := sc_common.nd
  have hu := hu64 hr
  have hu5 := hu65 hr
  have hg5 := hr.gd
  ss_cons (s_par 0 1 nd (pr_cons (pd_val (pv_bltN 0 call_abs cd_abs T.n_abs)) (pr_cons (pd_val (pv_bltN 1 call_abs cd_abs T.n_abs)) (pr_nil))))
  (ss_cons (s_while (ptd_cmp op_gt (opD_I0 fun _ _ _ => .bl _) (pv_name 1) (pv_int) (nomark _))
  (ss_one (s_par 0 1 nd (pr_cons (pd_val (pv_name 1)) (pr_cons (pd_val (pv_mod (pv_name 0) (pv_name 1))) (pr_nil))))))
  (ss_one (s_retN 0)))
theorem f_common (T : Txt K mg) {f : Addr} {fd : FuncData} (F : Fun K "common" "common" s_common f fd) (hm : mg "common" = some (.ref f)) (imp : ∀ as Q, sp_common as Q → fnSpec [] 2 0 d_common as Q) : FnD Pg w K mg base 1 "common" ["one", "other"] sp_common :=
  fnD_of F hm (fn_of_body F sc_common 0 rfl (fun cdv A outer s H E hr => b_common T cdv A outer s H E hr) imp) (fun _ _ _ _ _ _ us hl => match us, hl with | [_, _], _ => rfl) (fun _ _ _ _ _ _ us hl => match us, hl with | [_, _], _ => rfl)
end

/-! ### power_of_integer -/
abbrev s_power_of_integer : Stmt := topS 11
abbrev N_power_of_integer : List Str := ["one", "many", "found", "square", "left"]
theorem sc_power_of_integer : FnScope N_power_of_integer ["one", "many"] (defScope s_power_of_integer) := ⟨rfl, rfl, rfl, by decide +kernel, rfl, by decide +kernel, by decide +kernel⟩
theorem a_power_of_integer : arity sp_power_of_integer 2 := fun as Q h => (i_power_of_integer as Q h).1
section
set_option linter.unusedVariables false
variable {Pg : Program} {w : World} {K : PySem.W.Frag} {mg : Str → Option Value} {base : Heap}
theorem b_power_of_integer (T : Txt K mg) {f : Addr} (cdv : Value) (A : Around) (outer : List Env) (s : Shared) (H : Hp) (E : XK) (hr : Rm 0 (A.deeper (envOfC "power_of_integer" (defScope s_power_of_integer) s.heap.objs.size f cdv))) : PSsD (bodyCx Pg w K mg base N_power_of_integer "power_of_integer" s_power_of_integer f cdv A outer s H E) [0, 1] (defBody s_power_of_integer) d_power_of_integer :=
  have nd := sc_power_of_integer.nd
  have hu := hu64 hr
  have hu5 := hu65 hr
  have hg5 := hr.gd
  ss_cons (s_par3 2 3 4 nd (pr_cons (pd_val (pv_int)) (pr_cons (pd_val (pv_name 0)) (pr_cons (pd_val (pv_name 1)) (pr_nil)))))
  (ss_cons (s_while (ptd_cmp op_gt (opD_I0 fun _ _ _ => .bl _) (pv_name 4) (pv_int) (nomark _))
  (ss_cons (s_set 2 nd (pd_val (pv_if (ptd_cmp (op_eqD hu) opD_eq (pv_mod (pv_name 4) (pv_int)) (pv_int) (nomark _)) (pv_mul (pv_name 2) (pv_name 3)) (pv_name 2))))
  (ss_cons (s_set 4 nd (pd_val (pv_fdiv (pv_name 4) (pv_int))))
  (ss_one (s_set 3 nd (pd_val (pv_if (ptd_cmp op_gt (opD_I0 fun _ _ _ => .bl _) (pv_name 4) (pv_int) (nomark _)) (pv_mul (pv_name 3) (pv_name 3)) (pv_name 3))))))))
  (ss_one (s_retN 2)))
theorem f_power_of_integer (T : Txt K mg) {f : Addr} {fd : FuncData} (F : Fun K "power_of_integer" "power_of_integer" s_power_of_integer f fd) (hm : mg "power_of_integer" = some (.ref f)) (imp : ∀ as Q, sp_power_of_integer as Q → fnSpec [0, 1] 2 3 d_power_of_integer as Q) : FnD Pg w K mg base 1 "power_of_integer" ["one", "many"] sp_power_of_integer :=
  fnD_of F hm (fn_of_body F sc_power_of_integer 3 rfl (fun cdv A outer s H E hr => b_power_of_integer T cdv A outer s H E hr) imp) (fun _ _ _ _ _ _ us hl => match us, hl with | [_, _], _ => rfl) (fun _ _ _ _ _ _ us hl => match us, hl with | [_, _], _ => rfl)
end

/-! ### whole_numbers -/
abbrev s_whole_numbers : Stmt := topS 12
abbrev N_whole_numbers : List Str := ["some", "by", "one"]
theorem sc_whole_numbers : FnScope N_whole_numbers ["some"] (defScope s_whole_numbers) := ⟨rfl, rfl, rfl, by decide +kernel, rfl, by decide +kernel, by decide +kernel⟩
theorem a_whole_numbers : arity sp_whole_numbers 1 := fun as Q h => (i_whole_numbers as Q h).1
section
set_option linter.unusedVariables false
variable {Pg : Program} {w : World} {K : PySem.W.Frag} {mg : Str → Option Value} {base : Heap}
theorem b_whole_numbers (T : Txt K mg) (F_common : FnD Pg w K mg base 1 "common" ["one", "other"] sp_common) {f : Addr} (cdv : Value) (A : Around) (outer : List Env) (s : Shared) (H : Hp) (E : XK) (hr : Rm 1 (A.deeper (envOfC "whole_numbers" (defScope s_whole_numbers) s.heap.objs.size f cdv))) : PSsD (bodyCx Pg w K mg base N_whole_numbers "whole_numbers" s_whole_numbers f cdv A outer s H E) [0] (defBody s_whole_numbers) d_whole_numbers :=
  have nd := sc_whole_numbers.nd
  have hu := hu64 hr
  have hu5 := hu65 hr
  have hg5 := hr.gd
  ss_cons (s_set 1 nd (pd_val (pv_int)))
  (ss_cons (s_for (it_val (pv_name 0)) (g_name 2 nd)
  (ss_one (s_set 1 nd (pd_val (pv_mul (pv_fdiv (pv_name 1) (pv_frz (pd_call F_common a_common (hr.mono (by decide)) (ar_v (pv_name 1) (ar_v (pv_ixN 2 (pv_int)) (ar_nil)))))) (pv_ixN 2 (pv_int)))))))
  (ss_one (s_ret (pd_val (pv_tup (pad_cons (pv_frz (pd_lc (own := [("one", 2)]) 3 nd (it_val (pv_name 0)) (blkOk_by (N := N_whole_numbers) (sc := defScope s_whole_numbers) (by decide +kernel)) (fun _ _ _ _ _ => g_name 2 nd) (fun _ _ _ _ _ => ts_nil) (fun _ _ _ _ _ => pv_mul (pv_ixN 2 (pv_int)) (pv_fdiv (pv_name 1) (pv_ixN 2 (pv_int)))))) (pad_cons (pv_name 1) (pad_nil))))))))
theorem f_whole_numbers (T : Txt K mg) (F_common : FnD Pg w K mg base 1 "common" ["one", "other"] sp_common) {f : Addr} {fd : FuncData} (F : Fun K "whole_numbers" "whole_numbers" s_whole_numbers f fd) (hm : mg "whole_numbers" = some (.ref f)) (imp : ∀ as Q, sp_whole_numbers as Q → fnSpec [0] 1 2 d_whole_numbers as Q) : FnD Pg w K mg base 2 "whole_numbers" ["some"] sp_whole_numbers :=
  fnD_of F hm (fn_of_body F sc_whole_numbers 2 rfl (fun cdv A outer s H E hr => b_whole_numbers T F_common cdv A outer s H E hr) imp) (fun _ _ _ _ _ _ us hl => match us, hl with | [_], _ => rfl) (fun _ _ _ _ _ _ us hl => match us, hl with | [_], _ => rfl)
end

/-! ### is_told_fraction -/
abbrev s_is_told_fraction : Stmt := topS 13
abbrev N_is_told_fraction : List Str := ["value", "part"]
theorem sc_is_told_fraction : FnScope N_is_told_fraction ["value"] (defScope s_is_told_fraction) := ⟨rfl, rfl, rfl, by decide +kernel, rfl, by decide +kernel, by decide +kernel⟩
theorem a_is_told_fraction : arity sp_is_told_fraction 1 := fun as Q h => (i_is_told_fraction as Q h).1
section
set_option linter.unusedVariables false
variable {Pg : Program} {w : World} {K : PySem.W.Frag} {mg : Str → Option Value} {base : Heap}
theorem b_is_told_fraction (T : Txt K mg) (F_is_integer : FnD Pg w K mg base 1 "is_integer" ["value"] sp_is_integer) (F_common : FnD Pg w K mg base 1 "common" ["one", "other"] sp_common) {f : Addr} (cdv : Value) (A : Around) (outer : List Env) (s : Shared) (H : Hp) (E : XK) (hr : Rm 1 (A.deeper (envOfC "is_told_fraction" (defScope s_is_told_fraction) s.heap.objs.size f cdv))) : PSsD (bodyCx Pg w K mg base N_is_told_fraction "is_told_fraction" s_is_told_fraction f cdv A outer s H E) [0] (defBody s_is_told_fraction) d_is_told_fraction :=
  have nd := sc_is_told_fraction.nd
  have hu := hu64 hr
  have hu5 := hu65 hr
  have hg5 := hr.gd
  ss_cons (s_if ((pwd_or (ptd_not (ptd_val (pv_isi "tuple" (by decide) (pv_name 0) T.n_isinstance T.n_tuple))) (pwd_or (ptd_cmp (op_neD hu) opD_ne (pv_bltN 0 call_len_seq cd_len T.n_len) (pv_int) (nomark _)) (pwd_or1 (ptd_not (ptd_val (pv_blt (cr_all rfl) cd_all (pad_cons (pv_frz (pd_lc (own := [("part", 1)]) 2 nd (it_val (pv_name 0)) (blkOk_by (N := N_is_told_fraction) (sc := defScope s_is_told_fraction) (by decide +kernel)) (fun _ _ _ _ _ => g_name 1 nd) (fun _ _ _ _ _ => ts_nil) (fun _ _ _ _ _ => pv_frz (pd_call F_is_integer a_is_integer (hr.mono (by decide)) (ar_v (pv_name 1) (ar_nil)))))) (pad_nil)) T.n_all)))))).ptd)
  (ss_one (s_ret (pd_val (pv_bl))))
  (ss_nil))
  (ss_one (s_ret (pd_val (pv_and (pv_cmp op_gt (opD_I0 fun _ _ _ => .bl _) (pv_ixN 0 (pv_int)) (pv_int) (nomark _)) (pv_one (pv_cmp (op_eqD hu) opD_eq (pv_frz (pd_call F_common a_common (hr.mono (by decide)) (ar_v (pv_ixN 0 (pv_int)) (ar_v (pv_ixN 0 (pv_int)) (ar_nil))))) (pv_int) (nomark _)))))))
theorem f_is_told_fraction (T : Txt K mg) (F_is_integer : FnD Pg w K mg base 1 "is_integer" ["value"] sp_is_integer) (F_common : FnD Pg w K mg base 1 "common" ["one", "other"] sp_common) {f : Addr} {fd : FuncData} (F : Fun K "is_told_fraction" "is_told_fraction" s_is_told_fraction f fd) (hm : mg "is_told_fraction" = some (.ref f)) (imp : ∀ as Q, sp_is_told_fraction as Q → fnSpec [0] 1 1 d_is_told_fraction as Q) : FnD Pg w K mg base 2 "is_told_fraction" ["value"] sp_is_told_fraction :=
  fnD_of F hm (fn_of_body F sc_is_told_fraction 1 rfl (fun cdv A outer s H E hr => b_is_told_fraction T F_is_integer F_common cdv A outer s H E hr) imp) (fun _ _ _ _ _ _ us hl => match us, hl with | [_], _ => rfl) (fun _ _ _ _ _ _ us hl => match us, hl with | [_], _ => rfl)
end

/-! ### are_powers -/
abbrev s_are_powers : Stmt := topS 14
abbrev N_are_powers : List Str := ["value", "pair"]
theorem sc_are_powers : FnScope N_are_powers ["value"] (defScope s_are_powers) := ⟨rfl, rfl, rfl, by decide +kernel, rfl, by decide +kernel, by decide +kernel⟩
theorem a_are_powers : arity sp_are_powers 1 := fun as Q h => (i_are_powers as Q h).1
section
set_option linter.unusedVariables false
variable {Pg : Program} {w : World} {K : PySem.W.Frag} {mg : Str → Option Value} {base : Heap}
theorem b_are_powers (T : Txt K mg) (F_is_told_fraction : FnD Pg w K mg base 2 "is_told_fraction" ["value"] sp_is_told_fraction) {f : Addr} (cdv : Value) (A : Around) (outer : List Env) (s : Shared) (H : Hp) (E : XK) (hr : Rm 2 (A.deeper (envOfC "are_powers" (defScope s_are_powers) s.heap.objs.size f cdv))) : PSsD (bodyCx Pg w K mg base N_are_powers "are_powers" s_are_powers f cdv A outer s H E) [0] (defBody s_are_powers) d_are_powers :=
  have nd := sc_are_powers.nd
  have hu := hu64 hr
  have hu5 := hu65 hr
  have hg5 := hr.gd
  ss_cons (s_if ((pwd_or (ptd_not (ptd_val (pv_isi "tuple" (by decide) (pv_name 0) T.n_isinstance T.n_tuple))) (pwd_or1 (ptd_not (ptd_chain op_le op_le (opD_I0 fun _ _ _ => .bl _) (opD_I0 fun _ _ _ => .bl _) (pv_int) (pv_bltN 0 call_len_seq cd_len T.n_len) (pv_glob T.c_MOST_PAIRS))))).ptd)
  (ss_one (s_ret (pd_val (pv_bl))))
  (ss_nil))
  (ss_cons (s_if (ptd_not (ptd_val (pv_blt (cr_all rfl) cd_all (pad_cons (pv_frz (pd_lc (own := [("pair", 1)]) 2 nd (it_val (pv_name 0)) (blkOk_by (N := N_are_powers) (sc := defScope s_are_powers) (by decide +kernel)) (fun _ _ _ _ _ => g_name 1 nd) (fun _ _ _ _ _ => ts_nil) (fun _ _ _ _ _ => pv_and (pv_isi "tuple" (by decide) (pv_name 1) T.n_isinstance T.n_tuple) (pv_one (pv_cmp (op_eqD hu) opD_eq (pv_bltN 1 call_len_seq cd_len T.n_len) (pv_int) (nomark _)))))) (pad_nil)) T.n_all)))
  (ss_one (s_ret (pd_val (pv_bl))))
  (ss_nil))
  (ss_one (s_ret (pd_val (pv_blt (cr_all rfl) cd_all (pad_cons (pv_frz (pd_lc (own := [("pair", 1)]) 2 nd (it_val (pv_name 0)) (blkOk_by (N := N_are_powers) (sc := defScope s_are_powers) (by decide +kernel)) (fun _ _ _ _ _ => g_name 1 nd) (fun _ _ _ _ _ => ts_nil) (fun _ _ _ _ _ => pv_and (pv_frz (pd_call F_is_told_fraction a_is_told_fraction (hr.mono (by decide)) (ar_v (pv_ixN 1 (pv_int)) (ar_nil)))) (pv_and (pv_frz (pd_call F_is_told_fraction a_is_told_fraction (hr.mono (by decide)) (ar_v (pv_ixN 1 (pv_int)) (ar_nil)))) (pv_one (pv_cmp op_gt (opD_I0 fun _ _ _ => .bl _) (pv_ix (pv_ixN 1 (pv_int)) (pv_int)) (pv_int) (nomark _))))))) (pad_nil)) T.n_all)))))
theorem f_are_powers (T : Txt K mg) (F_is_told_fraction : FnD Pg w K mg base 2 "is_told_fraction" ["value"] sp_is_told_fraction) {f : Addr} {fd : FuncData} (F : Fun K "are_powers" "are_powers" s_are_powers f fd) (hm : mg "are_powers" = some (.ref f)) (imp : ∀ as Q, sp_are_powers as Q → fnSpec [0] 1 1 d_are_powers as Q) : FnD Pg w K mg base 3 "are_powers" ["value"] sp_are_powers :=
  fnD_of F hm (fn_of_body F sc_are_powers 1 rfl (fun cdv A outer s H E hr => b_are_powers T F_is_told_fraction cdv A outer s H E hr) imp) (fun _ _ _ _ _ _ us hl => match us, hl with | [_], _ => rfl) (fun _ _ _ _ _ _ us hl => match us, hl with | [_], _ => rfl)
end

/-! ### powers_compared -/
abbrev s_powers_compared : Stmt := topS 15
abbrev N_powers_compared : List Str := ["pairs", "exponents", "pair", "many", "more", "less", "number", "exponent", "top", "low"]
theorem sc_powers_compared : FnScope N_powers_compared ["pairs"] (defScope s_powers_compared) := ⟨rfl, rfl, rfl, by decide +kernel, rfl, by decide +kernel, by decide +kernel⟩
theorem a_powers_compared : arity sp_powers_compared 1 := fun as Q h => (i_powers_compared as Q h).1
section
set_option linter.unusedVariables false
variable {Pg : Program} {w : World} {K : PySem.W.Frag} {mg : Str → Option Value} {base : Heap}
theorem b_powers_compared (T : Txt K mg) (F_are_powers : FnD Pg w K mg base 3 "are_powers" ["value"] sp_are_powers) (F_whole_numbers : FnD Pg w K mg base 2 "whole_numbers" ["some"] sp_whole_numbers) (F_power_of_integer : FnD Pg w K mg base 1 "power_of_integer" ["one", "many"] sp_power_of_integer) {f : Addr} (cdv : Value) (A : Around) (outer : List Env) (s : Shared) (H : Hp) (E : XK) (hr : Rm 3 (A.deeper (envOfC "powers_compared" (defScope s_powers_compared) s.heap.objs.size f cdv))) : PSsD (bodyCx Pg w K mg base N_powers_compared "powers_compared" s_powers_compared f cdv A outer s H E) [0] (defBody s_powers_compared) d_powers_compared :=
  have nd := sc_powers_compared.nd
  have hu := hu64 hr
  have hu5 := hu65 hr
  have hg5 := hr.gd
  ss_cons (s_if (ptd_not (ptd_val (pv_frz (pd_call F_are_powers a_are_powers (hr.mono (by decide)) (ar_v (pv_name 0) (ar_nil))))))
  (ss_one (s_never))
  (ss_nil))
  (ss_cons (s_set 1 nd (pd_val (pv_ix (pv_frz (pd_call F_whole_numbers a_whole_numbers (hr.mono (by decide)) (ar_v (pv_frz (pd_lc (own := [("pair", 2)]) 10 nd (it_val (pv_name 0)) (blkOk_by (N := N_powers_compared) (sc := defScope s_powers_compared) (by decide +kernel)) (fun _ _ _ _ _ => g_name 2 nd) (fun _ _ _ _ _ => ts_nil) (fun _ _ _ _ _ => pv_ixN 2 (pv_int)))) (ar_nil)))) (pv_int))))
  (ss_cons (s_if (ptd_cmp op_gt (opD_I0 fun _ _ _ => .bl _) (pv_blt (cr_sum rfl) cd_sum (pad_cons (pv_frz (pd_lc (own := [("many", 3)]) 10 nd (it_val (pv_name 1)) (blkOk_by (N := N_powers_compared) (sc := defScope s_powers_compared) (by decide +kernel)) (fun _ _ _ _ _ => g_name 3 nd) (fun _ _ _ _ _ => ts_nil) (fun _ _ _ _ _ => pv_bltN 3 call_abs cd_abs T.n_abs))) (pad_nil)) T.n_sum) (pv_glob T.c_MOST_POWERS) (nomark _))
  (ss_one (s_never))
  (ss_nil))
  (ss_cons (s_asg (pv_tup (pad_cons (pv_int) (pad_cons (pv_int) (pad_nil)))) (g_tup (gs_cons (g_name 4 nd) (gs_cons (g_name 5 nd) (gs_nil)))))
  (ss_cons (s_for (it_zip (pad_cons (pv_name 0) (pad_cons (pv_name 1) (pad_nil))) T.n_zip) (g_tup (gs_cons (g_tup (gs_cons (g_name 6 nd) (gs_cons (g_name 7 nd) (gs_nil)))) (gs_cons (g_name 3 nd) (gs_nil))))
  (ss_cons (s_asg (pv_if (ptd_cmp op_gt (opD_I0 fun _ _ _ => .bl _) (pv_name 3) (pv_int) (nomark _)) (pv_name 6) (pv_tup (pad_cons (pv_ixN 6 (pv_int)) (pad_cons (pv_ixN 6 (pv_int)) (pad_nil))))) (g_tup (gs_cons (g_name 8 nd) (gs_cons (g_name 9 nd) (gs_nil)))))
  (ss_cons (s_set 4 nd (pd_val (pv_mul (pv_name 4) (pv_frz (pd_call F_power_of_integer a_power_of_integer (hr.mono (by decide)) (ar_v (pv_name 8) (ar_v (pv_bltN 3 call_abs cd_abs T.n_abs) (ar_nil))))))))
  (ss_one (s_set 5 nd (pd_val (pv_mul (pv_name 5) (pv_frz (pd_call F_power_of_integer a_power_of_integer (hr.mono (by decide)) (ar_v (pv_name 9) (ar_v (pv_bltN 3 call_abs cd_abs T.n_abs) (ar_nil))))))))))))
  (ss_one (s_ret (pd_val (pv_sub (pv_bty call_int1 cd_int (pad_cons (pv_cmp op_gt (opD_I0 fun _ _ _ => .bl _) (pv_name 4) (pv_name 5) (nomark _)) (pad_nil)) T.n_int) (pv_bty call_int1 cd_int (pad_cons (pv_cmp op_lt (opD_I0 fun _ _ _ => .bl _) (pv_name 4) (pv_name 5) (nomark _)) (pad_nil)) T.n_int)))))))))
theorem f_powers_compared (T : Txt K mg) (F_are_powers : FnD Pg w K mg base 3 "are_powers" ["value"] sp_are_powers) (F_whole_numbers : FnD Pg w K mg base 2 "whole_numbers" ["some"] sp_whole_numbers) (F_power_of_integer : FnD Pg w K mg base 1 "power_of_integer" ["one", "many"] sp_power_of_integer) {f : Addr} {fd : FuncData} (F : Fun K "powers_compared" "powers_compared" s_powers_compared f fd) (hm : mg "powers_compared" = some (.ref f)) (imp : ∀ as Q, sp_powers_compared as Q → fnSpec [0] 1 9 d_powers_compared as Q) : FnD Pg w K mg base 4 "powers_compared" ["pairs"] sp_powers_compared :=
  fnD_of F hm (fn_of_body F sc_powers_compared 9 rfl (fun cdv A outer s H E hr => b_powers_compared T F_are_powers F_whole_numbers F_power_of_integer cdv A outer s H E hr) imp) (fun _ _ _ _ _ _ us hl => match us, hl with | [_], _ => rfl) (fun _ _ _ _ _ _ us hl => match us, hl with | [_], _ => rfl)
end

/-! ### base_of -/
abbrev s_base_of : Stmt := topS 16
abbrev N_base_of : List Str := ["numbers", "found", "number", "waiting", "one", "some", "at", "other", "both"]
theorem sc_base_of : FnScope N_base_of ["numbers"] (defScope s_base_of) := ⟨rfl, rfl, rfl, by decide +kernel, rfl, by decide +kernel, by decide +kernel⟩
theorem a_base_of : arity sp_base_of 1 := fun as Q h => (i_base_of as Q h).1
section
set_option linter.unusedVariables false
variable {Pg : Program} {w : World} {K : PySem.W.Frag} {mg : Str → Option Value} {base : Heap}
theorem b_base_of (T : Txt K mg) (F_common : FnD Pg w K mg base 1 "common" ["one", "other"] sp_common) {f : Addr} (cdv : Value) (A : Around) (outer : List Env) (s : Shared) (H : Hp) (E : XK) (hr : Rm 1 (A.deeper (envOfC "base_of" (defScope s_base_of) s.heap.objs.size f cdv))) : PSsD (bodyCx Pg w K mg base N_base_of "base_of" s_base_of f cdv A outer s H E) [0] (defBody s_base_of) d_base_of :=
  have nd := sc_base_of.nd
  have hu := hu64 hr
  have hu5 := hu65 hr
  have hg5 := hr.gd
  ss_cons (s_set 1 nd (pd_lst (pad_nil)))
  (ss_cons (s_for (it_val (pv_name 0)) (g_name 2 nd)
  (ss_cons (s_set 3 nd (pd_lst (pad_cons (pv_name 2) (pad_nil))))
  (ss_one (s_while (ptd_cmpN 3 (op_neD hu) opD_ne (pv_frz (pd_lst (pad_nil))) (nomark _))
  (ss_cons (s_set 4 nd (pd_val (pv_pop 3)))
  (ss_cons (s_setLcN 5 (own := [("at", 6), ("other", 7)]) 9 nd (it_enumN 1 T.n_enumerate) (blkOk_by (N := N_base_of) (sc := defScope s_base_of) (by decide +kernel)) (fun _ _ _ _ _ => g_tup (gs_cons (g_name 6 nd) (gs_cons (g_name 7 nd) (gs_nil)))) (fun _ _ _ _ _ => ts_one (ptd_cmp op_gt (opD_I0 fun _ _ _ => .bl _) (pv_frz (pd_call F_common a_common (hr.mono (by decide)) (ar_v (pv_name 4) (ar_v (pv_name 7) (ar_nil))))) (pv_int) (nomark _))) (fun _ _ _ _ _ => pv_name 6) (sw_true rfl rfl rfl (by decide +kernel)))
  (ss_one (s_if ((pwd_and (ptd_cmp op_gt (opD_I0 fun _ _ _ => .bl _) (pv_name 4) (pv_int) (nomark _)) (pwd_and1 (ptd_cmp (op_eqD hu) opD_eq (pv_name 5) (pv_frz (pd_lst (pad_nil))) (nomark _)))).ptd)
  (ss_one (s_expr (pv_append 1 (pad_cons (pv_name 4) (pad_nil)))))
  (ss_one (s_if (ptd_cmp op_gt (opD_I0 fun _ _ _ => .bl _) (pv_name 4) (pv_int) (nomark _))
  (ss_cons (s_set 7 nd (pd_val (pv_popAt 1 (pad_cons (pv_ixN 5 (pv_int)) (pad_nil)))))
  (ss_cons (s_set 8 nd (pd_call F_common a_common (hr.mono (by decide)) (ar_v (pv_name 4) (ar_v (pv_name 7) (ar_nil)))))
  (ss_one (s_expr (pv_extend 3 (pad_cons (pv_frz (pd_lst (pad_cons (pv_fdiv (pv_name 4) (pv_name 8)) (pad_cons (pv_fdiv (pv_name 7) (pv_name 8)) (pad_cons (pv_name 8) (pad_nil)))))) (pad_nil)))))))
  (ss_nil)))))))))))
  (ss_one (s_ret (pd_bltN 1 cr_sortedI ce_sortedI T.n_sorted))))
theorem f_base_of (T : Txt K mg) (F_common : FnD Pg w K mg base 1 "common" ["one", "other"] sp_common) {f : Addr} {fd : FuncData} (F : Fun K "base_of" "base_of" s_base_of f fd) (hm : mg "base_of" = some (.ref f)) (imp : ∀ as Q, sp_base_of as Q → fnSpec [0] 1 8 d_base_of as Q) : FnD Pg w K mg base 2 "base_of" ["numbers"] sp_base_of :=
  fnD_of F hm (fn_of_body F sc_base_of 8 rfl (fun cdv A outer s H E hr => b_base_of T F_common cdv A outer s H E hr) imp) (fun _ _ _ _ _ _ us hl => match us, hl with | [_], _ => rfl) (fun _ _ _ _ _ _ us hl => match us, hl with | [_], _ => rfl)
end

/-! ### exponent_in -/
abbrev s_exponent_in : Stmt := topS 17
abbrev N_exponent_in : List Str := ["number", "part", "found", "left"]
theorem sc_exponent_in : FnScope N_exponent_in ["number", "part"] (defScope s_exponent_in) := ⟨rfl, rfl, rfl, by decide +kernel, rfl, by decide +kernel, by decide +kernel⟩
theorem a_exponent_in : arity sp_exponent_in 2 := fun as Q h => (i_exponent_in as Q h).1
section
set_option linter.unusedVariables false
variable {Pg : Program} {w : World} {K : PySem.W.Frag} {mg : Str → Option Value} {base : Heap}
theorem b_exponent_in (T : Txt K mg) {f : Addr} (cdv : Value) (A : Around) (outer : List Env) (s : Shared) (H : Hp) (E : XK) (hr : Rm 0 (A.deeper (envOfC "exponent_in" (defScope s_exponent_in) s.heap.objs.size f cdv))) : PSsD (bodyCx Pg w K mg base N_exponent_in "exponent_in" s_exponent_in f cdv A outer s H E) [0, 1] (defBody s_exponent_in) d_exponent_in :=
  have nd := sc_exponent_in.nd
  have hu := hu64 hr
  have hu5 := hu65 hr
  have hg5 := hr.gd
  ss_cons (s_par 2 3 nd (pr_cons (pd_val (pv_int)) (pr_cons (pd_val (pv_name 0)) (pr_nil))))
  (ss_cons (s_while (ptd_cmp (op_eqD hu) opD_eq (pv_mod (pv_name 3) (pv_name 1)) (pv_int) (nomark _))
  (ss_one (s_par 2 3 nd (pr_cons (pd_val (pv_add (pv_name 2) (pv_int))) (pr_cons (pd_val (pv_fdiv (pv_name 3) (pv_name 1))) (pr_nil))))))
  (ss_one (s_retN 2)))
theorem f_exponent_in (T : Txt K mg) {f : Addr} {fd : FuncData} (F : Fun K "exponent_in" "exponent_in" s_exponent_in f fd) (hm : mg "exponent_in" = some (.ref f)) (imp : ∀ as Q, sp_exponent_in as Q → fnSpec [0, 1] 2 2 d_exponent_in as Q) : FnD Pg w K mg base 1 "exponent_in" ["number", "part"] sp_exponent_in :=
  fnD_of F hm (fn_of_body F sc_exponent_in 2 rfl (fun cdv A outer s H E hr => b_exponent_in T cdv A outer s H E hr) imp) (fun _ _ _ _ _ _ us hl => match us, hl with | [_, _], _ => rfl) (fun _ _ _ _ _ _ us hl => match us, hl with | [_, _], _ => rfl)
end

/-! ### exponents_over -/
abbrev s_exponents_over : Stmt := topS 18
abbrev N_exponents_over : List Str := ["base", "number", "part"]
theorem sc_exponents_over : FnScope N_exponents_over ["base", "number"] (defScope s_exponents_over) := ⟨rfl, rfl, rfl, by decide +kernel, rfl, by decide +kernel, by decide +kernel⟩
theorem a_exponents_over : arity sp_exponents_over 2 := fun as Q h => (i_exponents_over as Q h).1
section
set_option linter.unusedVariables false
variable {Pg : Program} {w : World} {K : PySem.W.Frag} {mg : Str → Option Value} {base : Heap}
theorem b_exponents_over (T : Txt K mg) (F_exponent_in : FnD Pg w K mg base 1 "exponent_in" ["number", "part"] sp_exponent_in) {f : Addr} (cdv : Value) (A : Around) (outer : List Env) (s : Shared) (H : Hp) (E : XK) (hr : Rm 1 (A.deeper (envOfC "exponents_over" (defScope s_exponents_over) s.heap.objs.size f cdv))) : PSsD (bodyCx Pg w K mg base N_exponents_over "exponents_over" s_exponents_over f cdv A outer s H E) [0, 1] (defBody s_exponents_over) d_exponents_over :=
  have nd := sc_exponents_over.nd
  have hu := hu64 hr
  have hu5 := hu65 hr
  have hg5 := hr.gd
  ss_one (s_ret (pd_val (pv_bty call_tuple_of cd_tuple (pad_cons (pv_frz (pd_lc (own := [("part", 2)]) 3 nd (it_val (pv_name 0)) (blkOk_by (N := N_exponents_over) (sc := defScope s_exponents_over) (by decide +kernel)) (fun _ _ _ _ _ => g_name 2 nd) (fun _ _ _ _ _ => ts_nil) (fun _ _ _ _ _ => pv_sub (pv_frz (pd_call F_exponent_in a_exponent_in (hr.mono (by decide)) (ar_v (pv_ixN 1 (pv_int)) (ar_v (pv_name 2) (ar_nil))))) (pv_frz (pd_call F_exponent_in a_exponent_in (hr.mono (by decide)) (ar_v (pv_ixN 1 (pv_int)) (ar_v (pv_name 2) (ar_nil)))))))) (pad_nil)) T.n_tuple)))
theorem f_exponents_over (T : Txt K mg) (F_exponent_in : FnD Pg w K mg base 1 "exponent_in" ["number", "part"] sp_exponent_in) {f : Addr} {fd : FuncData} (F : Fun K "exponents_over" "exponents_over" s_exponents_over f fd) (hm : mg "exponents_over" = some (.ref f)) (imp : ∀ as Q, sp_exponents_over as Q → fnSpec [0, 1] 2 1 d_exponents_over as Q) : FnD Pg w K mg base 2 "exponents_over" ["base", "number"] sp_exponents_over :=
  fnD_of F hm (fn_of_body F sc_exponents_over 1 rfl (fun cdv A outer s H E hr => b_exponents_over T F_exponent_in cdv A outer s H E hr) imp) (fun _ _ _ _ _ _ us hl => match us, hl with | [_, _], _ => rfl) (fun _ _ _ _ _ _ us hl => match us, hl with | [_, _], _ => rfl)
end

/-! ### made_of_base -/
abbrev s_made_of_base : Stmt := topS 19
abbrev N_made_of_base : List Str := ["base", "exponents", "top", "low", "part", "many"]
theorem sc_made_of_base : FnScope N_made_of_base ["base", "exponents"] (defScope s_made_of_base) := ⟨rfl, rfl, rfl, by decide +kernel, rfl, by decide +kernel, by decide +kernel⟩
theorem a_made_of_base : arity sp_made_of_base 2 := fun as Q h => (i_made_of_base as Q h).1
section
set_option linter.unusedVariables false
variable {Pg : Program} {w : World} {K : PySem.W.Frag} {mg : Str → Option Value} {base : Heap}
theorem b_made_of_base (T : Txt K mg) (F_power_of_integer : FnD Pg w K mg base 1 "power_of_integer" ["one", "many"] sp_power_of_integer) {f : Addr} (cdv : Value) (A : Around) (outer : List Env) (s : Shared) (H : Hp) (E : XK) (hr : Rm 1 (A.deeper (envOfC "made_of_base" (defScope s_made_of_base) s.heap.objs.size f cdv))) : PSsD (bodyCx Pg w K mg base N_made_of_base "made_of_base" s_made_of_base f cdv A outer s H E) [0, 1] (defBody s_made_of_base) d_made_of_base :=
  have nd := sc_made_of_base.nd
  have hu := hu64 hr
  have hu5 := hu65 hr
  have hg5 := hr.gd
  ss_cons (s_asg (pv_tup (pad_cons (pv_int) (pad_cons (pv_int) (pad_nil)))) (g_tup (gs_cons (g_name 2 nd) (gs_cons (g_name 3 nd) (gs_nil)))))
  (ss_cons (s_for (it_zip (pad_cons (pv_name 0) (pad_cons (pv_name 1) (pad_nil))) T.n_zip) (g_tup (gs_cons (g_name 4 nd) (gs_cons (g_name 5 nd) (gs_nil))))
  (ss_one (s_if (ptd_cmp op_gt (opD_I0 fun _ _ _ => .bl _) (pv_name 5) (pv_int) (nomark _))
  (ss_one (s_set 2 nd (pd_val (pv_mul (pv_name 2) (pv_frz (pd_call F_power_of_integer a_power_of_integer (hr.mono (by decide)) (ar_v (pv_name 4) (ar_v (pv_name 5) (ar_nil)))))))))
  (ss_one (s_set 3 nd (pd_val (pv_mul (pv_name 3) (pv_frz (pd_call F_power_of_integer a_power_of_integer (hr.mono (by decide)) (ar_v (pv_name 4) (ar_v (pv_sub (pv_int) (pv_name 5)) (ar_nil))))))))))))
  (ss_one (s_ret (pd_val (pv_tup (pad_cons (pv_name 2) (pad_cons (pv_name 3) (pad_nil))))))))
theorem f_made_of_base (T : Txt K mg) (F_power_of_integer : FnD Pg w K mg base 1 "power_of_integer" ["one", "many"] sp_power_of_integer) {f : Addr} {fd : FuncData} (F : Fun K "made_of_base" "made_of_base" s_made_of_base f fd) (hm : mg "made_of_base" = some (.ref f)) (imp : ∀ as Q, sp_made_of_base as Q → fnSpec [0, 1] 2 4 d_made_of_base as Q) : FnD Pg w K mg base 2 "made_of_base" ["base", "exponents"] sp_made_of_base :=
  fnD_of F hm (fn_of_body F sc_made_of_base 4 rfl (fun cdv A outer s H E hr => b_made_of_base T F_power_of_integer cdv A outer s H E hr) imp) (fun _ _ _ _ _ _ us hl => match us, hl with | [_, _], _ => rfl) (fun _ _ _ _ _ _ us hl => match us, hl with | [_, _], _ => rfl)
end

/-! ### common_of -/
abbrev s_common_of : Stmt := topS 20
abbrev N_common_of : List Str := ["numbers", "found", "number"]
theorem sc_common_of : FnScope N_common_of ["numbers"] (defScope s_common_of) := ⟨rfl, rfl, rfl, by decide +kernel, rfl, by decide +kernel, by decide +kernel⟩
theorem a_common_of : arity sp_common_of 1 := fun as Q h => (i_common_of as Q h).1
section
set_option linter.unusedVariables false
variable {Pg : Program} {w : World} {K : PySem.W.Frag} {mg : Str → Option Value} {base : Heap}
theorem b_common_of (T : Txt K mg) (F_common : FnD Pg w K mg base 1 "common" ["one", "other"] sp_common) {f : Addr} (cdv : Value) (A : Around) (outer : List Env) (s : Shared) (H : Hp) (E : XK) (hr : Rm 1 (A.deeper (envOfC "common_of" (defScope s_common_of) s.heap.objs.size f cdv))) : PSsD (bodyCx Pg w K mg base N_common_of "common_of" s_common_of f cdv A outer s H E) [0] (defBody s_common_of) d_common_of :=
  have nd := sc_common_of.nd
  have hu := hu64 hr
  have hu5 := hu65 hr
  have hg5 := hr.gd
  ss_cons (s_set 1 nd (pd_val (pv_int)))
  (ss_cons (s_for (it_val (pv_name 0)) (g_name 2 nd)
  (ss_one (s_set 1 nd (pd_call F_common a_common (hr.mono (by decide)) (ar_v (pv_name 1) (ar_v (pv_name 2) (ar_nil)))))))
  (ss_one (s_retN 1)))
theorem f_common_of (T : Txt K mg) (F_common : FnD Pg w K mg base 1 "common" ["one", "other"] sp_common) {f : Addr} {fd : FuncData} (F : Fun K "common_of" "common_of" s_common_of f fd) (hm : mg "common_of" = some (.ref f)) (imp : ∀ as Q, sp_common_of as Q → fnSpec [0] 1 2 d_common_of as Q) : FnD Pg w K mg base 2 "common_of" ["numbers"] sp_common_of :=
  fnD_of F hm (fn_of_body F sc_common_of 2 rfl (fun cdv A outer s H E hr => b_common_of T F_common cdv A outer s H E hr) imp) (fun _ _ _ _ _ _ us hl => match us, hl with | [_], _ => rfl) (fun _ _ _ _ _ _ us hl => match us, hl with | [_], _ => rfl)
end

/-! ### root_of_rows -/
abbrev s_root_of_rows : Stmt := topS 21
abbrev N_root_of_rows : List Str := ["base", "rows", "first", "row", "many", "way", "place", "at", "exponents", "by", "root"]
theorem sc_root_of_rows : FnScope N_root_of_rows ["base", "rows"] (defScope s_root_of_rows) := ⟨rfl, rfl, rfl, by decide +kernel, rfl, by decide +kernel, by decide +kernel⟩
theorem a_root_of_rows : arity sp_root_of_rows 2 := fun as Q h => (i_root_of_rows as Q h).1
section
set_option linter.unusedVariables false
variable {Pg : Program} {w : World} {K : PySem.W.Frag} {mg : Str → Option Value} {base : Heap}
theorem b_root_of_rows (T : Txt K mg) (F_common_of : FnD Pg w K mg base 2 "common_of" ["numbers"] sp_common_of) (F_made_of_base : FnD Pg w K mg base 2 "made_of_base" ["base", "exponents"] sp_made_of_base) {f : Addr} (cdv : Value) (A : Around) (outer : List Env) (s : Shared) (H : Hp) (E : XK) (hr : Rm 2 (A.deeper (envOfC "root_of_rows" (defScope s_root_of_rows) s.heap.objs.size f cdv))) : PSsD (bodyCx Pg w K mg base N_root_of_rows "root_of_rows" s_root_of_rows f cdv A outer s H E) [0, 1] (defBody s_root_of_rows) d_root_of_rows :=
  have nd := sc_root_of_rows.nd
  have hu := hu64 hr
  have hu5 := hu65 hr
  have hg5 := hr.gd
  ss_cons (s_set 2 nd (pd_val (pv_ix (pv_frz (pd_lc (own := [("row", 3)]) 11 nd (it_val (pv_name 1)) (blkOk_by (N := N_root_of_rows) (sc := defScope s_root_of_rows) (by decide +kernel)) (fun _ _ _ _ _ => g_name 3 nd) (fun _ _ _ _ _ => ts_one (ptd_val (pv_blt (cr_any rfl) cd_any (pad_cons (pv_frz (pd_lc (own := [("many", 4)]) 11 nd (it_val (pv_name 3)) (blkOk_in (N := N_root_of_rows) (defScope s_root_of_rows) rfl (by decide +kernel)) (fun _ _ _ _ _ => g_name 4 nd) (fun _ _ _ _ _ => ts_nil) (fun _ _ _ _ _ => pv_cmp (op_neD hu) opD_ne (pv_name 4) (pv_int) (nomark _)))) (pad_nil)) T.n_any))) (fun _ _ _ _ _ => pv_name 3))) (pv_int))))
  (ss_cons (s_set 5 nd (pd_val (pv_bty call_tuple_of cd_tuple (pad_cons (pv_frz (pd_lc (own := [("many", 4)]) 11 nd (it_val (pv_name 2)) (blkOk_by (N := N_root_of_rows) (sc := defScope s_root_of_rows) (by decide +kernel)) (fun _ _ _ _ _ => g_name 4 nd) (fun _ _ _ _ _ => ts_nil) (fun _ _ _ _ _ => pv_fdivG (pv_name 4) (pv_frz (pd_call F_common_of a_common_of (hr.mono (by decide)) (ar_v (pv_name 2) (ar_nil))))))) (pad_nil)) T.n_tuple)))
  (ss_cons (s_set 6 nd (pd_val (pv_ix (pv_frz (pd_lc (own := [("at", 7), ("many", 4)]) 11 nd (it_enum (pad_cons (pv_name 5) (pad_nil)) T.n_enumerate) (blkOk_by (N := N_root_of_rows) (sc := defScope s_root_of_rows) (by decide +kernel)) (fun _ _ _ _ _ => g_tup (gs_cons (g_name 7 nd) (gs_cons (g_name 4 nd) (gs_nil)))) (fun _ _ _ _ _ => ts_one (ptd_cmp (op_neD hu) opD_ne (pv_name 4) (pv_int) (nomark _))) (fun _ _ _ _ _ => pv_name 7))) (pv_int))))
  (ss_cons (s_if (ptd_not (ptd_val (pv_blt (cr_all rfl) cd_all (pad_cons (pv_frz (pd_lc2 (own := [("row", 3), ("at", 7)]) 11 [7] nd (it_val (pv_name 1)) (blkOk_by (N := N_root_of_rows) (sc := defScope s_root_of_rows) (by decide +kernel)) (fun _ _ _ _ _ => g_name 3 nd) (fun _ _ _ _ _ => ts_nil) (fun _ _ _ _ _ => it_range1 (pad_cons (pv_bltN 5 call_len_seq cd_len T.n_len) (pad_nil)) T.n_range) (fun _ _ _ _ _ => g_name 7 nd) (fun _ _ _ _ _ => ts_nil) (fun _ _ _ _ _ => pv_cmp (op_eqD hu) opD_eq (pv_mul (pv_ixN 3 (pv_name 7)) (pv_ixN 5 (pv_name 6))) (pv_mul (pv_ixN 3 (pv_name 6)) (pv_ixN 5 (pv_name 7))) (nomark _)))) (pad_nil)) T.n_all)))
  (ss_one (s_ret (pd_val (pv_non))))
  (ss_nil))
  (ss_cons (s_setLc 8 (own := [("row", 3)]) 11 nd (it_val (pv_name 1)) (blkOk_by (N := N_root_of_rows) (sc := defScope s_root_of_rows) (by decide +kernel)) (fun _ _ _ _ _ => g_name 3 nd) (fun _ _ _ _ _ => ts_nil) (fun _ _ _ _ _ => pv_fdivG (pv_ixN 3 (pv_name 6)) (pv_ixN 5 (pv_name 6))) (sw_true rfl rfl rfl (by decide +kernel)))
  (ss_cons (s_set 9 nd (pd_call F_common_of a_common_of (hr.mono (by decide)) (ar_v (pv_name 8) (ar_nil))))
  (ss_cons (s_set 10 nd (pd_call F_made_of_base a_made_of_base (hr.mono (by decide)) (ar_v (pv_name 0) (ar_v (pv_frz (pd_lc (own := [("many", 4)]) 11 nd (it_val (pv_name 5)) (blkOk_by (N := N_root_of_rows) (sc := defScope s_root_of_rows) (by decide +kernel)) (fun _ _ _ _ _ => g_name 4 nd) (fun _ _ _ _ _ => ts_nil) (fun _ _ _ _ _ => pv_mul (pv_name 4) (pv_name 9)))) (ar_nil)))))
  (ss_cons (s_setLc 8 (own := [("many", 4)]) 11 nd (it_val (pv_name 8)) (blkOk_by (N := N_root_of_rows) (sc := defScope s_root_of_rows) (by decide +kernel)) (fun _ _ _ _ _ => g_name 4 nd) (fun _ _ _ _ _ => ts_nil) (fun _ _ _ _ _ => pv_fdivG (pv_name 4) (pv_name 9)) (sw_true rfl rfl rfl (by decide +kernel)))
  (ss_cons (s_if (ptd_cmp op_lt (opD_I0 fun _ _ _ => .bl _) (pv_ixN 10 (pv_int)) (pv_ixN 10 (pv_int)) (nomark _))
  (ss_one (s_par 10 8 nd (pr_cons (pd_val (pv_tup (pad_cons (pv_ixN 10 (pv_int)) (pad_cons (pv_ixN 10 (pv_int)) (pad_nil))))) (pr_cons (pd_lc (own := [("many", 4)]) 11 nd (it_val (pv_name 8)) (blkOk_by (N := N_root_of_rows) (sc := defScope s_root_of_rows) (by decide +kernel)) (fun _ _ _ _ _ => g_name 4 nd) (fun _ _ _ _ _ => ts_nil) (fun _ _ _ _ _ => pv_sub (pv_int) (pv_name 4))) (pr_nil)))))
  (ss_nil))
  (ss_one (s_ret (pd_val (pv_tup (pad_cons (pv_name 10) (pad_cons (pv_btyN 8 call_tuple_of cd_tuple T.n_tuple) (pad_nil)))))))))))))))
theorem f_root_of_rows (T : Txt K mg) (F_common_of : FnD Pg w K mg base 2 "common_of" ["numbers"] sp_common_of) (F_made_of_base : FnD Pg w K mg base 2 "made_of_base" ["base", "exponents"] sp_made_of_base) {f : Addr} {fd : FuncData} (F : Fun K "root_of_rows" "root_of_rows" s_root_of_rows f fd) (hm : mg "root_of_rows" = some (.ref f)) (imp : ∀ as Q, sp_root_of_rows as Q → fnSpec [0, 1] 2 9 d_root_of_rows as Q) : FnD Pg w K mg base 3 "root_of_rows" ["base", "rows"] sp_root_of_rows :=
  fnD_of F hm (fn_of_body F sc_root_of_rows 9 rfl (fun cdv A outer s H E hr => b_root_of_rows T F_common_of F_made_of_base cdv A outer s H E hr) imp) (fun _ _ _ _ _ _ us hl => match us, hl with | [_, _], _ => rfl) (fun _ _ _ _ _ _ us hl => match us, hl with | [_, _], _ => rfl)
end

/-! ### common_root -/
abbrev s_common_root : Stmt := topS 22
abbrev N_common_root : List Str := ["numbers", "one", "base", "part"]
theorem sc_common_root : FnScope N_common_root ["numbers"] (defScope s_common_root) := ⟨rfl, rfl, rfl, by decide +kernel, rfl, by decide +kernel, by decide +kernel⟩
theorem a_common_root : arity sp_common_root 1 := fun as Q h => (i_common_root as Q h).1
section
set_option linter.unusedVariables false
variable {Pg : Program} {w : World} {K : PySem.W.Frag} {mg : Str → Option Value} {base : Heap}
theorem b_common_root (T : Txt K mg) (F_is_told_fraction : FnD Pg w K mg base 2 "is_told_fraction" ["value"] sp_is_told_fraction) (F_base_of : FnD Pg w K mg base 2 "base_of" ["numbers"] sp_base_of) (F_root_of_rows : FnD Pg w K mg base 3 "root_of_rows" ["base", "rows"] sp_root_of_rows) (F_exponents_over : FnD Pg w K mg base 2 "exponents_over" ["base", "number"] sp_exponents_over) {f : Addr} (cdv : Value) (A : Around) (outer : List Env) (s : Shared) (H : Hp) (E : XK) (hr : Rm 3 (A.deeper (envOfC "common_root" (defScope s_common_root) s.heap.objs.size f cdv))) : PSsD (bodyCx Pg w K mg base N_common_root "common_root" s_common_root f cdv A outer s H E) [0] (defBody s_common_root) d_common_root :=
  have nd := sc_common_root.nd
  have hu := hu64 hr
  have hu5 := hu65 hr
  have hg5 := hr.gd
  ss_cons (s_if ((pwd_or (ptd_not (ptd_val (pv_isi "tuple" (by decide) (pv_name 0) T.n_isinstance T.n_tuple))) (pwd_or1 (ptd_not (ptd_chain op_le op_le (opD_I0 fun _ _ _ => .bl _) (opD_I0 fun _ _ _ => .bl _) (pv_int) (pv_bltN 0 call_len_seq cd_len T.n_len) (pv_glob T.c_MOST_PAIRS))))).ptd)
  (ss_one (s_never))
  (ss_nil))
  (ss_cons (s_if (ptd_not (ptd_val (pv_blt (cr_all rfl) cd_all (pad_cons (pv_frz (pd_lc (own := [("one", 1)]) 4 nd (it_val (pv_name 0)) (blkOk_by (N := N_common_root) (sc := defScope s_common_root) (by decide +kernel)) (fun _ _ _ _ _ => g_name 1 nd) (fun _ _ _ _ _ => ts_nil) (fun _ _ _ _ _ => pv_and (pv_frz (pd_call F_is_told_fraction a_is_told_fraction (hr.mono (by decide)) (ar_v (pv_name 1) (ar_nil)))) (pv_one (pv_cmp op_gt (opD_I0 fun _ _ _ => .bl _) (pv_ixN 1 (pv_int)) (pv_int) (nomark _)))))) (pad_nil)) T.n_all)))
  (ss_one (s_never))
  (ss_nil))
  (ss_cons (s_set 2 nd (pd_call F_base_of a_base_of (hr.mono (by decide)) (ar_v (pv_frz (pd_lc2 (own := [("one", 1), ("part", 3)]) 4 [3] nd (it_val (pv_name 0)) (blkOk_by (N := N_common_root) (sc := defScope s_common_root) (by decide +kernel)) (fun _ _ _ _ _ => g_name 1 nd) (fun _ _ _ _ _ => ts_nil) (fun _ _ _ _ _ => it_val (pv_name 1)) (fun _ _ _ _ _ => g_name 3 nd) (fun _ _ _ _ _ => ts_nil) (fun _ _ _ _ _ => pv_name 3))) (ar_nil))))
  (ss_cons (s_if (ptd_cmp (op_eqD hu) opD_eq (pv_name 2) (pv_frz (pd_lst (pad_nil))) (nomark _))
  (ss_one (s_ret (pd_val (pv_tup (pad_cons (pv_glob T.c_ONE) (pad_cons (pv_repT (pv_tup (pad_cons (pv_int) (pad_nil))) (pv_bltN 0 call_len_seq cd_len T.n_len)) (pad_nil)))))))
  (ss_nil))
  (ss_one (s_ret (pd_call F_root_of_rows a_root_of_rows (hr.mono (by decide)) (ar_v (pv_name 2) (ar_v (pv_frz (pd_lc (own := [("one", 1)]) 4 nd (it_val (pv_name 0)) (blkOk_by (N := N_common_root) (sc := defScope s_common_root) (by decide +kernel)) (fun _ _ _ _ _ => g_name 1 nd) (fun _ _ _ _ _ => ts_nil) (fun _ _ _ _ _ => pv_frz (pd_call F_exponents_over a_exponents_over (hr.mono (by decide)) (ar_v (pv_name 2) (ar_v (pv_name 1) (ar_nil))))))) (ar_nil)))))))))
theorem f_common_root (T : Txt K mg) (F_is_told_fraction : FnD Pg w K mg base 2 "is_told_fraction" ["value"] sp_is_told_fraction) (F_base_of : FnD Pg w K mg base 2 "base_of" ["numbers"] sp_base_of) (F_root_of_rows : FnD Pg w K mg base 3 "root_of_rows" ["base", "rows"] sp_root_of_rows) (F_exponents_over : FnD Pg w K mg base 2 "exponents_over" ["base", "number"] sp_exponents_over) {f : Addr} {fd : FuncData} (F : Fun K "common_root" "common_root" s_common_root f fd) (hm : mg "common_root" = some (.ref f)) (imp : ∀ as Q, sp_common_root as Q → fnSpec [0] 1 3 d_common_root as Q) : FnD Pg w K mg base 4 "common_root" ["numbers"] sp_common_root :=
  fnD_of F hm (fn_of_body F sc_common_root 3 rfl (fun cdv A outer s H E hr => b_common_root T F_is_told_fraction F_base_of F_root_of_rows F_exponents_over cdv A outer s H E hr) imp) (fun _ _ _ _ _ _ us hl => match us, hl with | [_], _ => rfl) (fun _ _ _ _ _ _ us hl => match us, hl with | [_], _ => rfl)
end

/-! ### _law_pot -/
abbrev s__law_pot : Stmt := topS 24
abbrev N__law_pot : List Str := ["script", "place", "cell", "own", "small"]
theorem sc__law_pot : FnScope N__law_pot ["script", "place"] (defScope s__law_pot) := ⟨rfl, rfl, rfl, by decide +kernel, rfl, by decide +kernel, by decide +kernel⟩
def d__law_pot : DS := sSeq (sSet 2 (dVal (dIf (dTest (dOp fLt (dName 1) (dCBN fLen 0))) (dOpNs fIx 0 (dName 1)) (dOp fAdd (dOp fAdd (dOp fMod (dCB fSum (dCons (dFrz (dSlL 0 (oNone) (oSome (dC (.int 1))))) (dNil))) (dC (.int 1000003))) (dOp fMul (dC (.int 55591)) (dName 1))) (dC (.int 18567))))))
  (sSeq (sSet 3 (dVal (dOp fMul (dOp fMod (dCB fInt (dCons (dCBN fAbs 2) (dNil))) (dOp fPowW (dOp fPowW (dC (.int 10)) (dC (.int 60))) (dC (.int 5)))) (dCB fInt (dCons (dOp fGe (dCBN fAbs 2) (dOp fPowW (dC (.int 10)) (dC (.int 18)))) (dNil))))))
  (sSeq (sSet 4 (dVal (dOp fMod (dCBN fInt 2) (dC (.int 2305843009213693951)))))
  (sRet (dLst (dCons (dName 3) (dCons (dOp fMod (dCB fInt (dCons (dOp fAdd (dOp fAdd (dOp fMul (dName 4) (dC (.int 360041))) (dOp fMul (dOp fMul (dC (.int 55263)) (dName 1)) (dName 1))) (dC (.int 28279))) (dNil))) (dC (.int 2305843009213693921))) (dCons (dC (.int 0)) (dNil))))))))
theorem a__law_pot : arity sp__law_pot 2 := fun as Q h => ((i_pot (c1 := 55591) (c2 := 18567) (c3 := 360041) (c4 := 55263) (c5 := 28279) (by unfold Bi; decide) (by unfold Bi; decide) (by unfold Bi; decide) (by unfold Bi; decide)) as Q h).1
section
set_option linter.unusedVariables false
variable {Pg : Program} {w : World} {K : PySem.W.Frag} {mg : Str → Option Value} {base : Heap}
theorem b__law_pot (T : Txt K mg) {f : Addr} (cdv : Value) (A : Around) (outer : List Env) (s : Shared) (H : Hp) (E : XK) (hr : Rm 0 (A.deeper (envOfC "_law_pot" (defScope s__law_pot) s.heap.objs.size f cdv))) : PSsD (bodyCx Pg w K mg base N__law_pot "_law_pot" s__law_pot f cdv A outer s H E) [0, 1] (defBody s__law_pot) d__law_pot :=
  have nd := sc__law_pot.nd
  have hu := hu64 hr
  have hu5 := hu65 hr
  have hg5 := hr.gd
  ss_cons (s_set 2 nd (pd_val (pv_if (ptd_cmp op_lt (opD_I0 fun _ _ _ => .bl _) (pv_name 1) (pv_bltN 0 call_len_seq cd_len T.n_len) (nomark _)) (pv_ixN 0 (pv_name 1)) (pv_add (pv_add (pv_mod (pv_blt (cr_sum rfl) cd_sum (pad_cons (pv_frz (pd_slL 0 (o_none) (o_some (pv_int)))) (pad_nil)) T.n_sum) (pv_int)) (pv_mul (pv_int) (pv_name 1))) (pv_int)))))
  (ss_cons (s_set 3 nd (pd_val (pv_mul (pv_mod (pv_bty call_int1 cd_int (pad_cons (pv_bltN 2 call_abs cd_abs T.n_abs) (pad_nil)) T.n_int) (pv_powW (pv_powW (pv_int) (pv_int)) (pv_int))) (pv_bty call_int1 cd_int (pad_cons (pv_cmp op_ge (opD_I0 fun _ _ _ => .bl _) (pv_bltN 2 call_abs cd_abs T.n_abs) (pv_powW (pv_int) (pv_int)) (nomark _)) (pad_nil)) T.n_int))))
  (ss_cons (s_set 4 nd (pd_val (pv_mod (pv_btyN 2 call_int1 cd_int T.n_int) (pv_int))))
  (ss_one (s_ret (pd_lst (pad_cons (pv_name 3) (pad_cons (pv_mod (pv_bty call_int1 cd_int (pad_cons (pv_add (pv_add (pv_mul (pv_name 4) (pv_int)) (pv_mul (pv_mul (pv_int) (pv_name 1)) (pv_name 1))) (pv_int)) (pad_nil)) T.n_int) (pv_int)) (pad_cons (pv_int) (pad_nil)))))))))
theorem f__law_pot (T : Txt K mg) {f : Addr} {fd : FuncData} (F : Fun K "_law_pot" "_law_pot" s__law_pot f fd) (hm : mg "_law_pot" = some (.ref f)) (imp : ∀ as Q, sp__law_pot as Q → fnSpec [0, 1] 2 3 d__law_pot as Q) : FnD Pg w K mg base 1 "_law_pot" ["script", "place"] sp__law_pot :=
  fnD_of F hm (fn_of_body F sc__law_pot 3 rfl (fun cdv A outer s H E hr => b__law_pot T cdv A outer s H E hr) imp) (fun _ _ _ _ _ _ us hl => match us, hl with | [_, _], _ => rfl) (fun _ _ _ _ _ _ us hl => match us, hl with | [_, _], _ => rfl)
end

/-! ### _law_take -/
abbrev s__law_take : Stmt := topS 25
abbrev N__law_take : List Str := ["pot", "upto", "digit", "prime", "blend"]
theorem sc__law_take : FnScope N__law_take ["pot", "upto"] (defScope s__law_take) := ⟨rfl, rfl, rfl, by decide +kernel, rfl, by decide +kernel, by decide +kernel⟩
def d__law_take : DS := sSeq (sIf (dTest (dOp fGt (dOpNs fIx 0 (dC (.int 0))) (dC (.int 0))))
  (sSeq (sSet 2 (dVal (dOp fMod (dCB fInt (dCons (dOpNs fIx 0 (dC (.int 0))) (dNil))) (dName 1))))
  (sSeq (sAsg (dOp fDiv (dOpNs fIx 0 (dC (.int 0))) (dName 1)) (dgSub 0 (dC (.int 0))))
  (sRetN 2)))
  (sNext))
  (sSeq (sAsg (dOp fAdd (dOpNs fIx 0 (dC (.int 2))) (dC (.int 1))) (dgSub 0 (dC (.int 2))))
  (sSeq (sSet 3 (dVal (dOp fIx (dFrz (dLst (dCons (dC (.int 2147483647)) (dCons (dC (.int 2147483629)) (dCons (dC (.int 2147483587)) (dCons (dC (.int 2147483579)) (dCons (dC (.int 2147483563)) (dNil)))))))) (dOp fMod (dCB fInt (dCons (dOpNs fIx 0 (dC (.int 2))) (dNil))) (dC (.int 5))))))
  (sSeq (sSet 4 (dVal (dOp fMod (dCB fInt (dCons (dOp fPowW (dCB fInt (dCons (dOp fAdd (dOp fAdd (dOpNs fIx 0 (dC (.int 1))) (dOp fMul (dOp fMul (dC (.int 148173)) (dOpNs fIx 0 (dC (.int 2)))) (dOpNs fIx 0 (dC (.int 2))))) (dC (.int 10817))) (dNil))) (dC (.int 3))) (dNil))) (dName 3))))
  (sSeq (sSet 4 (dVal (dOp fMod (dCB fInt (dCons (dOp fMul (dName 4) (dOp fAdd (dOp fMod (dCBN fInt 4) (dC (.int 40895))) (dOp fMul (dC (.int 6809)) (dOpNs fIx 0 (dC (.int 2)))))) (dNil))) (dC (.int 2305843009213693907)))))
  (sRet (dVal (dOp fMod (dCB fInt (dCons (dOp fDiv (dName 4) (dC (.int 12913))) (dNil))) (dName 1))))))))
theorem a__law_take : arity sp__law_take 2 := fun as Q h => ((i_take (k1 := 148173) (k2 := 10817) (k3 := 40895) (k4 := 6809) (k5 := 12913) (by decide) (by decide) (by decide) (by decide) (by decide)) as Q h).1
section
set_option linter.unusedVariables false
variable {Pg : Program} {w : World} {K : PySem.W.Frag} {mg : Str → Option Value} {base : Heap}
theorem b__law_take (T : Txt K mg) {f : Addr} (cdv : Value) (A : Around) (outer : List Env) (s : Shared) (H : Hp) (E : XK) (hr : Rm 0 (A.deeper (envOfC "_law_take" (defScope s__law_take) s.heap.objs.size f cdv))) : PSsD (bodyCx Pg w K mg base N__law_take "_law_take" s__law_take f cdv A outer s H E) [0, 1] (defBody s__law_take) d__law_take :=
  have nd := sc__law_take.nd
  have hu := hu64 hr
  have hu5 := hu65 hr
  have hg5 := hr.gd
  ss_cons (s_if (ptd_cmp op_gt (opD_I0 fun _ _ _ => .bl _) (pv_ixN 0 (pv_int)) (pv_int) (nomark _))
  (ss_cons (s_set 2 nd (pd_val (pv_mod (pv_bty call_int1 cd_int (pad_cons (pv_ixN 0 (pv_int)) (pad_nil)) T.n_int) (pv_name 1))))
  (ss_cons (s_asg (pv_fdiv (pv_ixN 0 (pv_int)) (pv_name 1)) (g_sub 0 (pv_int)))
  (ss_one (s_retN 2))))
  (ss_nil))
  (ss_cons (s_asg (pv_add (pv_ixN 0 (pv_int)) (pv_int)) (g_sub 0 (pv_int)))
  (ss_cons (s_set 3 nd (pd_val (pv_ix (pv_frz (pd_lst (pad_cons (pv_int) (pad_cons (pv_int) (pad_cons (pv_int) (pad_cons (pv_int) (pad_cons (pv_int) (pad_nil)))))))) (pv_mod (pv_bty call_int1 cd_int (pad_cons (pv_ixN 0 (pv_int)) (pad_nil)) T.n_int) (pv_int)))))
  (ss_cons (s_set 4 nd (pd_val (pv_mod (pv_bty call_int1 cd_int (pad_cons (pv_powW (pv_bty call_int1 cd_int (pad_cons (pv_add (pv_add (pv_ixN 0 (pv_int)) (pv_mul (pv_mul (pv_int) (pv_ixN 0 (pv_int))) (pv_ixN 0 (pv_int)))) (pv_int)) (pad_nil)) T.n_int) (pv_int)) (pad_nil)) T.n_int) (pv_name 3))))
  (ss_cons (s_set 4 nd (pd_val (pv_mod (pv_bty call_int1 cd_int (pad_cons (pv_mul (pv_name 4) (pv_add (pv_mod (pv_btyN 4 call_int1 cd_int T.n_int) (pv_int)) (pv_mul (pv_int) (pv_ixN 0 (pv_int))))) (pad_nil)) T.n_int) (pv_int))))
  (ss_one (s_ret (pd_val (pv_mod (pv_bty call_int1 cd_int (pad_cons (pv_fdiv (pv_name 4) (pv_int)) (pad_nil)) T.n_int) (pv_name 1)))))))))
theorem f__law_take (T : Txt K mg) {f : Addr} {fd : FuncData} (F : Fun K "_law_take" "_law_take" s__law_take f fd) (hm : mg "_law_take" = some (.ref f)) (imp : ∀ as Q, sp__law_take as Q → fnSpec [0, 1] 2 3 d__law_take as Q) : FnD Pg w K mg base 1 "_law_take" ["pot", "upto"] sp__law_take :=
  fnD_of F hm (fn_of_body F sc__law_take 3 rfl (fun cdv A outer s H E hr => b__law_take T cdv A outer s H E hr) imp) (fun _ _ _ _ _ _ us hl => match us, hl with | [_, _], _ => rfl) (fun _ _ _ _ _ _ us hl => match us, hl with | [_, _], _ => rfl)
end

/-! ### _law_of -/
abbrev s__law_of : Stmt := topS 26
abbrev N__law_of : List Str := ["pot", "some"]
theorem sc__law_of : FnScope N__law_of ["pot", "some"] (defScope s__law_of) := ⟨rfl, rfl, rfl, by decide +kernel, rfl, by decide +kernel, by decide +kernel⟩
theorem a__law_of : arity sp__law_of 2 := fun as Q h => (i__law_of as Q h).1
section
set_option linter.unusedVariables false
variable {Pg : Program} {w : World} {K : PySem.W.Frag} {mg : Str → Option Value} {base : Heap}
theorem b__law_of (T : Txt K mg) (F__law_take : FnD Pg w K mg base 1 "_law_take" ["pot", "upto"] sp__law_take) {f : Addr} (cdv : Value) (A : Around) (outer : List Env) (s : Shared) (H : Hp) (E : XK) (hr : Rm 1 (A.deeper (envOfC "_law_of" (defScope s__law_of) s.heap.objs.size f cdv))) : PSsD (bodyCx Pg w K mg base N__law_of "_law_of" s__law_of f cdv A outer s H E) [0, 1] (defBody s__law_of) d__law_of :=
  have nd := sc__law_of.nd
  have hu := hu64 hr
  have hu5 := hu65 hr
  have hg5 := hr.gd
  ss_one (s_ret (pd_val (pv_ixN 1 (pv_frz (pd_call F__law_take a__law_take (hr.mono (by decide)) (ar_s 0 (ar_v (pv_bltN 1 call_len_seq cd_len T.n_len) (ar_nil))))))))
theorem f__law_of (T : Txt K mg) (F__law_take : FnD Pg w K mg base 1 "_law_take" ["pot", "upto"] sp__law_take) {f : Addr} {fd : FuncData} (F : Fun K "_law_of" "_law_of" s__law_of f fd) (hm : mg "_law_of" = some (.ref f)) (imp : ∀ as Q, sp__law_of as Q → fnSpec [0, 1] 2 0 d__law_of as Q) : FnD Pg w K mg base 2 "_law_of" ["pot", "some"] sp__law_of :=
  fnD_of F hm (fn_of_body F sc__law_of 0 rfl (fun cdv A outer s H E hr => b__law_of T F__law_take cdv A outer s H E hr) imp) (fun _ _ _ _ _ _ us hl => match us, hl with | [_, _], _ => rfl) (fun _ _ _ _ _ _ us hl => match us, hl with | [_, _], _ => rfl)
end

/-! ### _law_cells -/
abbrev s__law_cells : Stmt := topS 28
abbrev N__law_cells : List Str := ["script", "most"]
theorem sc__law_cells : FnScope N__law_cells ["script", "most"] (defScope s__law_cells) := ⟨rfl, rfl, rfl, by decide +kernel, rfl, by decide +kernel, by decide +kernel⟩
theorem a__law_cells : arity sp__law_cells 2 := fun as Q h => (i__law_cells as Q h).1
section
set_option linter.unusedVariables false
variable {Pg : Program} {w : World} {K : PySem.W.Frag} {mg : Str → Option Value} {base : Heap}
theorem b__law_cells (T : Txt K mg) {f : Addr} (cdv : Value) (A : Around) (outer : List Env) (s : Shared) (H : Hp) (E : XK) (hr : Rm 0 (A.deeper (envOfC "_law_cells" (defScope s__law_cells) s.heap.objs.size f cdv))) : PSsD (bodyCx Pg w K mg base N__law_cells "_law_cells" s__law_cells f cdv A outer s H E) [0, 1] (defBody s__law_cells) d__law_cells :=
  have nd := sc__law_cells.nd
  have hu := hu64 hr
  have hu5 := hu65 hr
  have hg5 := hr.gd
  ss_one (s_ret (pd_listRg (pv_blt (call_max2 rfl) cd_max2 (pad_cons (pv_int) (pad_cons (pv_blt (call_min2 rfl) cd_min2 (pad_cons (pv_name 1) (pad_cons (pv_bltN 0 call_len_seq cd_len T.n_len) (pad_nil))) T.n_min) (pad_nil))) T.n_max) T.n_list T.n_range))
theorem f__law_cells (T : Txt K mg) {f : Addr} {fd : FuncData} (F : Fun K "_law_cells" "_law_cells" s__law_cells f fd) (hm : mg "_law_cells" = some (.ref f)) (imp : ∀ as Q, sp__law_cells as Q → fnSpec [0, 1] 2 0 d__law_cells as Q) : FnD Pg w K mg base 1 "_law_cells" ["script", "most"] sp__law_cells :=
  fnD_of F hm (fn_of_body F sc__law_cells 0 rfl (fun cdv A outer s H E hr => b__law_cells T cdv A outer s H E hr) imp) (fun _ _ _ _ _ _ us hl => match us, hl with | [_, _], _ => rfl) (fun _ _ _ _ _ _ us hl => match us, hl with | [_, _], _ => rfl)
end

/-! ### _law_cut -/
abbrev s__law_cut : Stmt := topS 29
abbrev N__law_cut : List Str := ["top", "low", "one", "other"]
theorem sc__law_cut : FnScope N__law_cut ["top", "low"] (defScope s__law_cut) := ⟨rfl, rfl, rfl, by decide +kernel, rfl, by decide +kernel, by decide +kernel⟩
theorem a__law_cut : arity sp__law_cut 2 := fun as Q h => (i__law_cut as Q h).1
section
set_option linter.unusedVariables false
variable {Pg : Program} {w : World} {K : PySem.W.Frag} {mg : Str → Option Value} {base : Heap}
theorem b__law_cut (T : Txt K mg) {f : Addr} (cdv : Value) (A : Around) (outer : List Env) (s : Shared) (H : Hp) (E : XK) (hr : Rm 0 (A.deeper (envOfC "_law_cut" (defScope s__law_cut) s.heap.objs.size f cdv))) : PSsD (bodyCx Pg w K mg base N__law_cut "_law_cut" s__law_cut f cdv A outer s H E) [0, 1] (defBody s__law_cut) d__law_cut :=
  have nd := sc__law_cut.nd
  have hu := hu64 hr
  have hu5 := hu65 hr
  have hg5 := hr.gd
  ss_cons (s_par 2 3 nd (pr_cons (pd_val (pv_bltN 0 call_abs cd_abs T.n_abs)) (pr_cons (pd_val (pv_name 1)) (pr_nil))))
  (ss_cons (s_while (ptd_cmp (op_neD hu) opD_ne (pv_name 3) (pv_int) (nomark _))
  (ss_one (s_par 2 3 nd (pr_cons (pd_val (pv_name 3)) (pr_cons (pd_val (pv_mod (pv_name 2) (pv_name 3))) (pr_nil))))))
  (ss_one (s_ret (pd_val (pv_tup (pad_cons (pv_bty call_int1 cd_int (pad_cons (pv_fdiv (pv_name 0) (pv_name 2)) (pad_nil)) T.n_int) (pad_cons (pv_bty call_int1 cd_int (pad_cons (pv_fdiv (pv_name 1) (pv_name 2)) (pad_nil)) T.n_int) (pad_nil))))))))
theorem f__law_cut (T : Txt K mg) {f : Addr} {fd : FuncData} (F : Fun K "_law_cut" "_law_cut" s__law_cut f fd) (hm : mg "_law_cut" = some (.ref f)) (imp : ∀ as Q, sp__law_cut as Q → fnSpec [0, 1] 2 2 d__law_cut as Q) : FnD Pg w K mg base 1 "_law_cut" ["top", "low"] sp__law_cut :=
  fnD_of F hm (fn_of_body F sc__law_cut 2 rfl (fun cdv A outer s H E hr => b__law_cut T cdv A outer s H E hr) imp) (fun _ _ _ _ _ _ us hl => match us, hl with | [_, _], _ => rfl) (fun _ _ _ _ _ _ us hl => match us, hl with | [_, _], _ => rfl)
end

/-! ### _law_added -/
abbrev s__law_added : Stmt := topS 30
abbrev N__law_added : List Str := ["one", "other"]
theorem sc__law_added : FnScope N__law_added ["one", "other"] (defScope s__law_added) := ⟨rfl, rfl, rfl, by decide +kernel, rfl, by decide +kernel, by decide +kernel⟩
theorem a__law_added : arity sp__law_added 2 := fun as Q h => (i__law_added as Q h).1
section
set_option linter.unusedVariables false
variable {Pg : Program} {w : World} {K : PySem.W.Frag} {mg : Str → Option Value} {base : Heap}
theorem b__law_added (T : Txt K mg) (F__law_cut : FnD Pg w K mg base 1 "_law_cut" ["top", "low"] sp__law_cut) {f : Addr} (cdv : Value) (A : Around) (outer : List Env) (s : Shared) (H : Hp) (E : XK) (hr : Rm 1 (A.deeper (envOfC "_law_added" (defScope s__law_added) s.heap.objs.size f cdv))) : PSsD (bodyCx Pg w K mg base N__law_added "_law_added" s__law_added f cdv A outer s H E) [0, 1] (defBody s__law_added) d__law_added :=
  have nd := sc__law_added.nd
  have hu := hu64 hr
  have hu5 := hu65 hr
  have hg5 := hr.gd
  ss_one (s_ret (pd_call F__law_cut a__law_cut (hr.mono (by decide)) (ar_v (pv_add (pv_mul (pv_ixN 0 (pv_int)) (pv_ixN 1 (pv_int))) (pv_mul (pv_ixN 1 (pv_int)) (pv_ixN 0 (pv_int)))) (ar_v (pv_mul (pv_ixN 0 (pv_int)) (pv_ixN 1 (pv_int))) (ar_nil)))))
theorem f__law_added (T : Txt K mg) (F__law_cut : FnD Pg w K mg base 1 "_law_cut" ["top", "low"] sp__law_cut) {f : Addr} {fd : FuncData} (F : Fun K "_law_added" "_law_added" s__law_added f fd) (hm : mg "_law_added" = some (.ref f)) (imp : ∀ as Q, sp__law_added as Q → fnSpec [0, 1] 2 0 d__law_added as Q) : FnD Pg w K mg base 2 "_law_added" ["one", "other"] sp__law_added :=
  fnD_of F hm (fn_of_body F sc__law_added 0 rfl (fun cdv A outer s H E hr => b__law_added T F__law_cut cdv A outer s H E hr) imp) (fun _ _ _ _ _ _ us hl => match us, hl with | [_, _], _ => rfl) (fun _ _ _ _ _ _ us hl => match us, hl with | [_, _], _ => rfl)
end

/-! ### _law_times -/
abbrev s__law_times : Stmt := topS 32
abbrev N__law_times : List Str := ["one", "other"]
theorem sc__law_times : FnScope N__law_times ["one", "other"] (defScope s__law_times) := ⟨rfl, rfl, rfl, by decide +kernel, rfl, by decide +kernel, by decide +kernel⟩
theorem a__law_times : arity sp__law_times 2 := fun as Q h => (i__law_times as Q h).1
section
set_option linter.unusedVariables false
variable {Pg : Program} {w : World} {K : PySem.W.Frag} {mg : Str → Option Value} {base : Heap}
theorem b__law_times (T : Txt K mg) (F__law_cut : FnD Pg w K mg base 1 "_law_cut" ["top", "low"] sp__law_cut) {f : Addr} (cdv : Value) (A : Around) (outer : List Env) (s : Shared) (H : Hp) (E : XK) (hr : Rm 1 (A.deeper (envOfC "_law_times" (defScope s__law_times) s.heap.objs.size f cdv))) : PSsD (bodyCx Pg w K mg base N__law_times "_law_times" s__law_times f cdv A outer s H E) [0, 1] (defBody s__law_times) d__law_times :=
  have nd := sc__law_times.nd
  have hu := hu64 hr
  have hu5 := hu65 hr
  have hg5 := hr.gd
  ss_one (s_ret (pd_call F__law_cut a__law_cut (hr.mono (by decide)) (ar_v (pv_mul (pv_ixN 0 (pv_int)) (pv_ixN 1 (pv_int))) (ar_v (pv_mul (pv_ixN 0 (pv_int)) (pv_ixN 1 (pv_int))) (ar_nil)))))
theorem f__law_times (T : Txt K mg) (F__law_cut : FnD Pg w K mg base 1 "_law_cut" ["top", "low"] sp__law_cut) {f : Addr} {fd : FuncData} (F : Fun K "_law_times" "_law_times" s__law_times f fd) (hm : mg "_law_times" = some (.ref f)) (imp : ∀ as Q, sp__law_times as Q → fnSpec [0, 1] 2 0 d__law_times as Q) : FnD Pg w K mg base 2 "_law_times" ["one", "other"] sp__law_times :=
  fnD_of F hm (fn_of_body F sc__law_times 0 rfl (fun cdv A outer s H E hr => b__law_times T F__law_cut cdv A outer s H E hr) imp) (fun _ _ _ _ _ _ us hl => match us, hl with | [_, _], _ => rfl) (fun _ _ _ _ _ _ us hl => match us, hl with | [_, _], _ => rfl)
end

/-! ### _law_total -/
abbrev s__law_total : Stmt := topS 34
abbrev N__law_total : List Str := ["some", "found", "one"]
theorem sc__law_total : FnScope N__law_total ["some"] (defScope s__law_total) := ⟨rfl, rfl, rfl, by decide +kernel, rfl, by decide +kernel, by decide +kernel⟩
theorem a__law_total : arity sp__law_total 1 := fun as Q h => (i__law_total as Q h).1
section
set_option linter.unusedVariables false
variable {Pg : Program} {w : World} {K : PySem.W.Frag} {mg : Str → Option Value} {base : Heap}
theorem b__law_total (T : Txt K mg) (F__law_added : FnD Pg w K mg base 2 "_law_added" ["one", "other"] sp__law_added) {f : Addr} (cdv : Value) (A : Around) (outer : List Env) (s : Shared) (H : Hp) (E : XK) (hr : Rm 2 (A.deeper (envOfC "_law_total" (defScope s__law_total) s.heap.objs.size f cdv))) : PSsD (bodyCx Pg w K mg base N__law_total "_law_total" s__law_total f cdv A outer s H E) [0] (defBody s__law_total) d__law_total :=
  have nd := sc__law_total.nd
  have hu := hu64 hr
  have hu5 := hu65 hr
  have hg5 := hr.gd
  ss_cons (s_set 1 nd (pd_val (pv_tup (pad_cons (pv_int) (pad_cons (pv_int) (pad_nil))))))
  (ss_cons (s_for (it_val (pv_name 0)) (g_name 2 nd)
  (ss_one (s_set 1 nd (pd_call F__law_added a__law_added (hr.mono (by decide)) (ar_v (pv_name 1) (ar_v (pv_name 2) (ar_nil)))))))
  (ss_one (s_retN 1)))
theorem f__law_total (T : Txt K mg) (F__law_added : FnD Pg w K mg base 2 "_law_added" ["one", "other"] sp__law_added) {f : Addr} {fd : FuncData} (F : Fun K "_law_total" "_law_total" s__law_total f fd) (hm : mg "_law_total" = some (.ref f)) (imp : ∀ as Q, sp__law_total as Q → fnSpec [0] 1 2 d__law_total as Q) : FnD Pg w K mg base 3 "_law_total" ["some"] sp__law_total :=
  fnD_of F hm (fn_of_body F sc__law_total 2 rfl (fun cdv A outer s H E hr => b__law_total T F__law_added cdv A outer s H E hr) imp) (fun _ _ _ _ _ _ us hl => match us, hl with | [_], _ => rfl) (fun _ _ _ _ _ _ us hl => match us, hl with | [_], _ => rfl)
end

/-! ### _law_number -/
abbrev s__law_number : Stmt := topS 35
abbrev N__law_number : List Str := ["pot"]
theorem sc__law_number : FnScope N__law_number ["pot"] (defScope s__law_number) := ⟨rfl, rfl, rfl, by decide +kernel, rfl, by decide +kernel, by decide +kernel⟩
theorem a__law_number : arity sp__law_number 1 := fun as Q h => (i__law_number as Q h).1
section
set_option linter.unusedVariables false
variable {Pg : Program} {w : World} {K : PySem.W.Frag} {mg : Str → Option Value} {base : Heap}
theorem b__law_number (T : Txt K mg) (F__law_cut : FnD Pg w K mg base 1 "_law_cut" ["top", "low"] sp__law_cut) (F__law_take : FnD Pg w K mg base 1 "_law_take" ["pot", "upto"] sp__law_take) {f : Addr} (cdv : Value) (A : Around) (outer : List Env) (s : Shared) (H : Hp) (E : XK) (hr : Rm 1 (A.deeper (envOfC "_law_number" (defScope s__law_number) s.heap.objs.size f cdv))) : PSsD (bodyCx Pg w K mg base N__law_number "_law_number" s__law_number f cdv A outer s H E) [0] (defBody s__law_number) d__law_number :=
  have nd := sc__law_number.nd
  have hu := hu64 hr
  have hu5 := hu65 hr
  have hg5 := hr.gd
  ss_one (s_ret (pd_call F__law_cut a__law_cut (hr.mono (by decide)) (ar_v (pv_add (pv_int) (pv_frz (pd_call F__law_take a__law_take (hr.mono (by decide)) (ar_s 0 (ar_v (pv_int) (ar_nil)))))) (ar_v (pv_add (pv_int) (pv_frz (pd_call F__law_take a__law_take (hr.mono (by decide)) (ar_s 0 (ar_v (pv_int) (ar_nil)))))) (ar_nil)))))
theorem f__law_number (T : Txt K mg) (F__law_cut : FnD Pg w K mg base 1 "_law_cut" ["top", "low"] sp__law_cut) (F__law_take : FnD Pg w K mg base 1 "_law_take" ["pot", "upto"] sp__law_take) {f : Addr} {fd : FuncData} (F : Fun K "_law_number" "_law_number" s__law_number f fd) (hm : mg "_law_number" = some (.ref f)) (imp : ∀ as Q, sp__law_number as Q → fnSpec [0] 1 0 d__law_number as Q) : FnD Pg w K mg base 2 "_law_number" ["pot"] sp__law_number :=
  fnD_of F hm (fn_of_body F sc__law_number 0 rfl (fun cdv A outer s H E hr => b__law_number T F__law_cut F__law_take cdv A outer s H E hr) imp) (fun _ _ _ _ _ _ us hl => match us, hl with | [_], _ => rfl) (fun _ _ _ _ _ _ us hl => match us, hl with | [_], _ => rfl)
end

/-! ### _law_power -/
abbrev s__law_power : Stmt := topS 36
abbrev N__law_power : List Str := ["base", "many", "found", "lap"]
theorem sc__law_power : FnScope N__law_power ["base", "many"] (defScope s__law_power) := ⟨rfl, rfl, rfl, by decide +kernel, rfl, by decide +kernel, by decide +kernel⟩
theorem a__law_power : arity sp__law_power 2 := fun as Q h => (i__law_power as Q h).1
section
set_option linter.unusedVariables false
variable {Pg : Program} {w : World} {K : PySem.W.Frag} {mg : Str → Option Value} {base : Heap}
theorem b__law_power (T : Txt K mg) (F__law_times : FnD Pg w K mg base 2 "_law_times" ["one", "other"] sp__law_times) {f : Addr} (cdv : Value) (A : Around) (outer : List Env) (s : Shared) (H : Hp) (E : XK) (hr : Rm 2 (A.deeper (envOfC "_law_power" (defScope s__law_power) s.heap.objs.size f cdv))) : PSsD (bodyCx Pg w K mg base N__law_power "_law_power" s__law_power f cdv A outer s H E) [0, 1] (defBody s__law_power) d__law_power :=
  have nd := sc__law_power.nd
  have hu := hu64 hr
  have hu5 := hu65 hr
  have hg5 := hr.gd
  ss_cons (s_set 2 nd (pd_val (pv_tup (pad_cons (pv_int) (pad_cons (pv_int) (pad_nil))))))
  (ss_cons (s_for (it_range1 (pad_cons (pv_bltN 1 call_abs cd_abs T.n_abs) (pad_nil)) T.n_range) (g_name 3 nd)
  (ss_one (s_set 2 nd (pd_call F__law_times a__law_times (hr.mono (by decide)) (ar_v (pv_name 2) (ar_v (pv_name 0) (ar_nil)))))))
  (ss_one (s_ret (pd_val (pv_if (ptd_cmp op_ge (opD_I0 fun _ _ _ => .bl _) (pv_name 1) (pv_int) (nomark _)) (pv_name 2) (pv_tup (pad_cons (pv_ixN 2 (pv_int)) (pad_cons (pv_ixN 2 (pv_int)) (pad_nil)))))))))
theorem f__law_power (T : Txt K mg) (F__law_times : FnD Pg w K mg base 2 "_law_times" ["one", "other"] sp__law_times) {f : Addr} {fd : FuncData} (F : Fun K "_law_power" "_law_power" s__law_power f fd) (hm : mg "_law_power" = some (.ref f)) (imp : ∀ as Q, sp__law_power as Q → fnSpec [0, 1] 2 2 d__law_power as Q) : FnD Pg w K mg base 3 "_law_power" ["base", "many"] sp__law_power :=
  fnD_of F hm (fn_of_body F sc__law_power 2 rfl (fun cdv A outer s H E hr => b__law_power T F__law_times cdv A outer s H E hr) imp) (fun _ _ _ _ _ _ us hl => match us, hl with | [_, _], _ => rfl) (fun _ _ _ _ _ _ us hl => match us, hl with | [_, _], _ => rfl)
end

/-! ### _law_sign -/
abbrev s__law_sign : Stmt := topS 37
abbrev N__law_sign : List Str := ["one"]
theorem sc__law_sign : FnScope N__law_sign ["one"] (defScope s__law_sign) := ⟨rfl, rfl, rfl, by decide +kernel, rfl, by decide +kernel, by decide +kernel⟩
theorem a__law_sign : arity sp__law_sign 1 := fun as Q h => (i__law_sign as Q h).1
section
set_option linter.unusedVariables false
variable {Pg : Program} {w : World} {K : PySem.W.Frag} {mg : Str → Option Value} {base : Heap}
theorem b__law_sign (T : Txt K mg) {f : Addr} (cdv : Value) (A : Around) (outer : List Env) (s : Shared) (H : Hp) (E : XK) (hr : Rm 0 (A.deeper (envOfC "_law_sign" (defScope s__law_sign) s.heap.objs.size f cdv))) : PSsD (bodyCx Pg w K mg base N__law_sign "_law_sign" s__law_sign f cdv A outer s H E) [0] (defBody s__law_sign) d__law_sign :=
  have nd := sc__law_sign.nd
  have hu := hu64 hr
  have hu5 := hu65 hr
  have hg5 := hr.gd
  ss_one (s_ret (pd_val (pv_sub (pv_bty call_int1 cd_int (pad_cons (pv_cmp op_gt (opD_I0 fun _ _ _ => .bl _) (pv_ixN 0 (pv_int)) (pv_ixN 0 (pv_int)) (nomark _)) (pad_nil)) T.n_int) (pv_bty call_int1 cd_int (pad_cons (pv_cmp op_lt (opD_I0 fun _ _ _ => .bl _) (pv_ixN 0 (pv_int)) (pv_ixN 0 (pv_int)) (nomark _)) (pad_nil)) T.n_int))))
theorem f__law_sign (T : Txt K mg) {f : Addr} {fd : FuncData} (F : Fun K "_law_sign" "_law_sign" s__law_sign f fd) (hm : mg "_law_sign" = some (.ref f)) (imp : ∀ as Q, sp__law_sign as Q → fnSpec [0] 1 0 d__law_sign as Q) : FnD Pg w K mg base 1 "_law_sign" ["one"] sp__law_sign :=
  fnD_of F hm (fn_of_body F sc__law_sign 0 rfl (fun cdv A outer s H E hr => b__law_sign T cdv A outer s H E hr) imp) (fun _ _ _ _ _ _ us hl => match us, hl with | [_], _ => rfl) (fun _ _ _ _ _ _ us hl => match us, hl with | [_], _ => rfl)
end

/-! ### _law_pairs -/
abbrev s__law_pairs : Stmt := topS 38
abbrev N__law_pairs : List Str := ["pot", "most", "found", "lap"]
theorem sc__law_pairs : FnScope N__law_pairs ["pot", "most"] (defScope s__law_pairs) := ⟨rfl, rfl, rfl, by decide +kernel, rfl, by decide +kernel, by decide +kernel⟩
theorem a__law_pairs : arity sp__law_pairs 2 := fun as Q h => (i__law_pairs as Q h).1
section
set_option linter.unusedVariables false
variable {Pg : Program} {w : World} {K : PySem.W.Frag} {mg : Str → Option Value} {base : Heap}
theorem b__law_pairs (T : Txt K mg) (F__law_take : FnD Pg w K mg base 1 "_law_take" ["pot", "upto"] sp__law_take) (F__law_cut : FnD Pg w K mg base 1 "_law_cut" ["top", "low"] sp__law_cut) (F__law_number : FnD Pg w K mg base 2 "_law_number" ["pot"] sp__law_number) {f : Addr} (cdv : Value) (A : Around) (outer : List Env) (s : Shared) (H : Hp) (E : XK) (hr : Rm 2 (A.deeper (envOfC "_law_pairs" (defScope s__law_pairs) s.heap.objs.size f cdv))) : PSsD (bodyCx Pg w K mg base N__law_pairs "_law_pairs" s__law_pairs f cdv A outer s H E) [0, 1] (defBody s__law_pairs) d__law_pairs :=
  have nd := sc__law_pairs.nd
  have hu := hu64 hr
  have hu5 := hu65 hr
  have hg5 := hr.gd
  ss_cons (s_set 2 nd (pd_lst (pad_nil)))
  (ss_cons (s_for (it_range1 (pad_cons (pv_add (pv_int) (pv_frz (pd_call F__law_take a__law_take (hr.mono (by decide)) (ar_s 0 (ar_v (pv_name 1) (ar_nil)))))) (pad_nil)) T.n_range) (g_name 3 nd)
  (ss_one (s_expr (pv_append 2 (pad_cons (pv_tup (pad_cons (pv_frz (pd_call F__law_number a__law_number (hr.mono (by decide)) (ar_s 0 (ar_nil)))) (pad_cons (pv_frz (pd_call F__law_cut a__law_cut (hr.mono (by decide)) (ar_v (pv_sub (pv_frz (pd_call F__law_take a__law_take (hr.mono (by decide)) (ar_s 0 (ar_v (pv_int) (ar_nil))))) (pv_int)) (ar_v (pv_add (pv_int) (pv_frz (pd_call F__law_take a__law_take (hr.mono (by decide)) (ar_s 0 (ar_v (pv_int) (ar_nil)))))) (ar_nil))))) (pad_nil)))) (pad_nil))))))
  (ss_one (s_ret (pd_val (pv_btyN 2 call_tuple_of cd_tuple T.n_tuple)))))
theorem f__law_pairs (T : Txt K mg) (F__law_take : FnD Pg w K mg base 1 "_law_take" ["pot", "upto"] sp__law_take) (F__law_cut : FnD Pg w K mg base 1 "_law_cut" ["top", "low"] sp__law_cut) (F__law_number : FnD Pg w K mg base 2 "_law_number" ["pot"] sp__law_number) {f : Addr} {fd : FuncData} (F : Fun K "_law_pairs" "_law_pairs" s__law_pairs f fd) (hm : mg "_law_pairs" = some (.ref f)) (imp : ∀ as Q, sp__law_pairs as Q → fnSpec [0, 1] 2 2 d__law_pairs as Q) : FnD Pg w K mg base 3 "_law_pairs" ["pot", "most"] sp__law_pairs :=
  fnD_of F hm (fn_of_body F sc__law_pairs 2 rfl (fun cdv A outer s H E hr => b__law_pairs T F__law_take F__law_cut F__law_number cdv A outer s H E hr) imp) (fun _ _ _ _ _ _ us hl => match us, hl with | [_, _], _ => rfl) (fun _ _ _ _ _ _ us hl => match us, hl with | [_, _], _ => rfl)
end

/-! ### _law_product -/
abbrev s__law_product : Stmt := topS 39
abbrev N__law_product : List Str := ["pairs", "found", "number", "exponent"]
theorem sc__law_product : FnScope N__law_product ["pairs"] (defScope s__law_product) := ⟨rfl, rfl, rfl, by decide +kernel, rfl, by decide +kernel, by decide +kernel⟩
theorem a__law_product : arity sp__law_product 1 := fun as Q h => (i__law_product as Q h).1
section
set_option linter.unusedVariables false
variable {Pg : Program} {w : World} {K : PySem.W.Frag} {mg : Str → Option Value} {base : Heap}
theorem b__law_product (T : Txt K mg) (F__law_times : FnD Pg w K mg base 2 "_law_times" ["one", "other"] sp__law_times) (F__law_power : FnD Pg w K mg base 3 "_law_power" ["base", "many"] sp__law_power) {f : Addr} (cdv : Value) (A : Around) (outer : List Env) (s : Shared) (H : Hp) (E : XK) (hr : Rm 3 (A.deeper (envOfC "_law_product" (defScope s__law_product) s.heap.objs.size f cdv))) : PSsD (bodyCx Pg w K mg base N__law_product "_law_product" s__law_product f cdv A outer s H E) [0] (defBody s__law_product) d__law_product :=
  have nd := sc__law_product.nd
  have hu := hu64 hr
  have hu5 := hu65 hr
  have hg5 := hr.gd
  ss_cons (s_set 1 nd (pd_val (pv_tup (pad_cons (pv_int) (pad_cons (pv_int) (pad_nil))))))
  (ss_cons (s_for (it_val (pv_name 0)) (g_tup (gs_cons (g_name 2 nd) (gs_cons (g_name 3 nd) (gs_nil))))
  (ss_one (s_set 1 nd (pd_call F__law_times a__law_times (hr.mono (by decide)) (ar_v (pv_name 1) (ar_v (pv_frz (pd_call F__law_power a__law_power (hr.mono (by decide)) (ar_v (pv_name 2) (ar_v (pv_bty call_int1 cd_int (pad_cons (pv_fdiv (pv_mul (pv_int) (pv_ixN 3 (pv_int))) (pv_ixN 3 (pv_int))) (pad_nil)) T.n_int) (ar_nil))))) (ar_nil)))))))
  (ss_one (s_retN 1)))
theorem f__law_product (T : Txt K mg) (F__law_times : FnD Pg w K mg base 2 "_law_times" ["one", "other"] sp__law_times) (F__law_power : FnD Pg w K mg base 3 "_law_power" ["base", "many"] sp__law_power) {f : Addr} {fd : FuncData} (F : Fun K "_law_product" "_law_product" s__law_product f fd) (hm : mg "_law_product" = some (.ref f)) (imp : ∀ as Q, sp__law_product as Q → fnSpec [0] 1 3 d__law_product as Q) : FnD Pg w K mg base 4 "_law_product" ["pairs"] sp__law_product :=
  fnD_of F hm (fn_of_body F sc__law_product 3 rfl (fun cdv A outer s H E hr => b__law_product T F__law_times F__law_power cdv A outer s H E hr) imp) (fun _ _ _ _ _ _ us hl => match us, hl with | [_], _ => rfl) (fun _ _ _ _ _ _ us hl => match us, hl with | [_], _ => rfl)
end

/-! ### _law_turned -/
abbrev s__law_turned : Stmt := topS 40
abbrev N__law_turned : List Str := ["pairs", "number", "exponent"]
theorem sc__law_turned : FnScope N__law_turned ["pairs"] (defScope s__law_turned) := ⟨rfl, rfl, rfl, by decide +kernel, rfl, by decide +kernel, by decide +kernel⟩
theorem a__law_turned : arity sp__law_turned 1 := fun as Q h => (i__law_turned as Q h).1
section
set_option linter.unusedVariables false
variable {Pg : Program} {w : World} {K : PySem.W.Frag} {mg : Str → Option Value} {base : Heap}
theorem b__law_turned (T : Txt K mg) {f : Addr} (cdv : Value) (A : Around) (outer : List Env) (s : Shared) (H : Hp) (E : XK) (hr : Rm 0 (A.deeper (envOfC "_law_turned" (defScope s__law_turned) s.heap.objs.size f cdv))) : PSsD (bodyCx Pg w K mg base N__law_turned "_law_turned" s__law_turned f cdv A outer s H E) [0] (defBody s__law_turned) d__law_turned :=
  have nd := sc__law_turned.nd
  have hu := hu64 hr
  have hu5 := hu65 hr
  have hg5 := hr.gd
  ss_one (s_ret (pd_val (pv_bty call_tuple_of cd_tuple (pad_cons (pv_frz (pd_lc (own := [("number", 1), ("exponent", 2)]) 3 nd (it_val (pv_name 0)) (blkOk_by (N := N__law_turned) (sc := defScope s__law_turned) (by decide +kernel)) (fun _ _ _ _ _ => g_tup (gs_cons (g_name 1 nd) (gs_cons (g_name 2 nd) (gs_nil)))) (fun _ _ _ _ _ => ts_nil) (fun _ _ _ _ _ => pv_tup (pad_cons (pv_name 1) (pad_cons (pv_tup (pad_cons (pv_sub (pv_int) (pv_ixN 2 (pv_int))) (pad_cons (pv_ixN 2 (pv_int)) (pad_nil)))) (pad_nil)))))) (pad_nil)) T.n_tuple)))
theorem f__law_turned (T : Txt K mg) {f : Addr} {fd : FuncData} (F : Fun K "_law_turned" "_law_turned" s__law_turned f fd) (hm : mg "_law_turned" = some (.ref f)) (imp : ∀ as Q, sp__law_turned as Q → fnSpec [0] 1 2 d__law_turned as Q) : FnD Pg w K mg base 1 "_law_turned" ["pairs"] sp__law_turned :=
  fnD_of F hm (fn_of_body F sc__law_turned 2 rfl (fun cdv A outer s H E hr => b__law_turned T cdv A outer s H E hr) imp) (fun _ _ _ _ _ _ us hl => match us, hl with | [_], _ => rfl) (fun _ _ _ _ _ _ us hl => match us, hl with | [_], _ => rfl)
end

/-! ### _law_is_compared_right -/
abbrev s__law_is_compared_right : Stmt := topS 41
abbrev N__law_is_compared_right : List Str := ["pot", "pairs", "other", "told", "by", "number", "exponent", "over", "both", "its", "rest"]
theorem sc__law_is_compared_right : FnScope N__law_is_compared_right ["pot", "pairs", "other"] (defScope s__law_is_compared_right) := ⟨rfl, rfl, rfl, by decide +kernel, rfl, by decide +kernel, by decide +kernel⟩
theorem a__law_is_compared_right : arity sp__law_is_compared_right 3 := fun as Q h => (i__law_is_compared_right as Q h).1
section
set_option linter.unusedVariables false
variable {Pg : Program} {w : World} {K : PySem.W.Frag} {mg : Str → Option Value} {base : Heap}
theorem b__law_is_compared_right (T : Txt K mg) (F_powers_compared : FnD Pg w K mg base 4 "powers_compared" ["pairs"] sp_powers_compared) (F__law_sign : FnD Pg w K mg base 1 "_law_sign" ["one"] sp__law_sign) (F__law_product : FnD Pg w K mg base 4 "_law_product" ["pairs"] sp__law_product) (F__law_turned : FnD Pg w K mg base 1 "_law_turned" ["pairs"] sp__law_turned) (F__law_of : FnD Pg w K mg base 2 "_law_of" ["pot", "some"] sp__law_of) (F__law_times : FnD Pg w K mg base 2 "_law_times" ["one", "other"] sp__law_times) {f : Addr} (cdv : Value) (A : Around) (outer : List Env) (s : Shared) (H : Hp) (E : XK) (hr : Rm 4 (A.deeper (envOfC "_law_is_compared_right" (defScope s__law_is_compared_right) s.heap.objs.size f cdv))) : PSsD (bodyCx Pg w K mg base N__law_is_compared_right "_law_is_compared_right" s__law_is_compared_right f cdv A outer s H E) [0, 1, 2] (defBody s__law_is_compared_right) d__law_is_compared_right :=
  have nd := sc__law_is_compared_right.nd
  have hu := hu64 hr
  have hu5 := hu65 hr
  have hg5 := hr.gd
  ss_cons (s_set 3 nd (pd_callK F_powers_compared a_powers_compared (hr.mono (by decide)) (kw_v (pv_name 1) (kw_nil))))
  (ss_cons (s_if ((pwd_or (ptd_cmp (op_neD hu) opD_ne (pv_name 3) (pv_frz (pd_call F__law_sign a__law_sign (hr.mono (by decide)) (ar_v (pv_frz (pd_call F__law_product a__law_product (hr.mono (by decide)) (ar_v (pv_name 1) (ar_nil)))) (ar_nil)))) (nomark _)) (pwd_or1 (ptd_cmp (op_neD hu) opD_ne (pv_frz (pd_call F_powers_compared a_powers_compared (hr.mono (by decide)) (ar_v (pv_frz (pd_call F__law_turned a__law_turned (hr.mono (by decide)) (ar_v (pv_name 1) (ar_nil)))) (ar_nil)))) (pv_sub (pv_int) (pv_name 3)) (nomark _)))).ptd)
  (ss_one (s_ret (pd_val (pv_bl))))
  (ss_nil))
  (ss_cons (s_set 4 nd (pd_call F__law_of a__law_of (hr.mono (by decide)) (ar_s 0 (ar_v (pv_frz (pd_lst (pad_cons (pv_tup (pad_cons (pv_int) (pad_cons (pv_int) (pad_nil)))) (pad_cons (pv_tup (pad_cons (pv_int) (pad_cons (pv_int) (pad_nil)))) (pad_cons (pv_tup (pad_cons (pv_int) (pad_cons (pv_int) (pad_nil)))) (pad_nil)))))) (ar_nil)))))
  (ss_cons (s_if (ptd_cmp (op_neD hu) opD_ne (pv_frz (pd_call F_powers_compared a_powers_compared (hr.mono (by decide)) (ar_v (pv_bty call_tuple_of cd_tuple (pad_cons (pv_frz (pd_lc (own := [("number", 5), ("exponent", 6)]) 11 nd (it_val (pv_name 1)) (blkOk_by (N := N__law_is_compared_right) (sc := defScope s__law_is_compared_right) (by decide +kernel)) (fun _ _ _ _ _ => g_tup (gs_cons (g_name 5 nd) (gs_cons (g_name 6 nd) (gs_nil)))) (fun _ _ _ _ _ => ts_nil) (fun _ _ _ _ _ => pv_tup (pad_cons (pv_name 5) (pad_cons (pv_frz (pd_call F__law_times a__law_times (hr.mono (by decide)) (ar_v (pv_name 6) (ar_v (pv_name 4) (ar_nil))))) (pad_nil)))))) (pad_nil)) T.n_tuple) (ar_nil)))) (pv_name 3) (nomark _))
  (ss_one (s_ret (pd_val (pv_bl))))
  (ss_nil))
  (ss_cons (s_set 7 nd (pd_val (pv_bty call_tuple_of cd_tuple (pad_cons (pv_frz (pd_lc (own := [("number", 5), ("exponent", 6)]) 11 nd (it_val (pv_name 1)) (blkOk_by (N := N__law_is_compared_right) (sc := defScope s__law_is_compared_right) (by decide +kernel)) (fun _ _ _ _ _ => g_tup (gs_cons (g_name 5 nd) (gs_cons (g_name 6 nd) (gs_nil)))) (fun _ _ _ _ _ => ts_nil) (fun _ _ _ _ _ => pv_tup (pad_cons (pv_tup (pad_cons (pv_ixN 5 (pv_int)) (pad_cons (pv_ixN 5 (pv_int)) (pad_nil)))) (pad_cons (pv_tup (pad_cons (pv_sub (pv_int) (pv_ixN 6 (pv_int))) (pad_cons (pv_ixN 6 (pv_int)) (pad_nil)))) (pad_nil)))))) (pad_nil)) T.n_tuple)))
  (ss_cons (s_if ((pwd_or (ptd_cmp (op_neD hu) opD_ne (pv_frz (pd_call F_powers_compared a_powers_compared (hr.mono (by decide)) (ar_v (pv_name 7) (ar_nil)))) (pv_name 3) (nomark _)) (pwd_or1 (ptd_cmp (op_neD hu) opD_ne (pv_frz (pd_call F_powers_compared a_powers_compared (hr.mono (by decide)) (ar_v (pv_rev (pv_name 1) (pv_neg (pv_int))) (ar_nil)))) (pv_name 3) (nomark _)))).ptd)
  (ss_one (s_ret (pd_val (pv_bl))))
  (ss_nil))
  (ss_cons (s_par 8 9 nd (pr_cons (pd_call F_powers_compared a_powers_compared (hr.mono (by decide)) (ar_v (pv_add (pv_name 1) (pv_name 2)) (ar_nil))) (pr_cons (pd_call F_powers_compared a_powers_compared (hr.mono (by decide)) (ar_v (pv_name 2) (ar_nil))) (pr_nil))))
  (ss_cons (s_if (ptd_cmp (op_neD hu) opD_ne (pv_name 8) (pv_frz (pd_call F__law_sign a__law_sign (hr.mono (by decide)) (ar_v (pv_frz (pd_call F__law_times a__law_times (hr.mono (by decide)) (ar_v (pv_frz (pd_call F__law_product a__law_product (hr.mono (by decide)) (ar_v (pv_name 1) (ar_nil)))) (ar_v (pv_frz (pd_call F__law_product a__law_product (hr.mono (by decide)) (ar_v (pv_name 2) (ar_nil)))) (ar_nil))))) (ar_nil)))) (nomark _))
  (ss_one (s_ret (pd_val (pv_bl))))
  (ss_nil))
  (ss_cons (s_if ((pwd_or ((pwd_and (ptd_cmp (op_eqD hu) opD_eq (pv_name 3) (pv_name 9) (nomark _)) (pwd_and1 (ptd_cmp (op_neD hu) opD_ne (pv_name 8) (pv_name 3) (nomark _)))).ptd) (pwd_or1 ((pwd_and (ptd_cmp (op_eqD hu) opD_eq (pv_name 3) (pv_int) (nomark _)) (pwd_and1 (ptd_cmp (op_neD hu) opD_ne (pv_name 8) (pv_name 9) (nomark _)))).ptd))).ptd)
  (ss_one (s_ret (pd_val (pv_bl))))
  (ss_nil))
  (ss_cons (s_set 10 nd (pd_call F_powers_compared a_powers_compared (hr.mono (by decide)) (ar_v (pv_add (pv_name 1) (pv_frz (pd_call F__law_turned a__law_turned (hr.mono (by decide)) (ar_v (pv_name 2) (ar_nil))))) (ar_nil))))
  (ss_one (s_ret (pd_val (pv_or (pv_not (pv_and (pv_cmp op_gt (opD_I0 fun _ _ _ => .bl _) (pv_name 3) (pv_int) (nomark _)) (pv_one (pv_cmp op_lt (opD_I0 fun _ _ _ => .bl _) (pv_name 9) (pv_int) (nomark _))))) (pv_one (pv_cmp (op_eqD hu) opD_eq (pv_name 10) (pv_int) (nomark _))))))))))))))))
theorem f__law_is_compared_right (T : Txt K mg) (F_powers_compared : FnD Pg w K mg base 4 "powers_compared" ["pairs"] sp_powers_compared) (F__law_sign : FnD Pg w K mg base 1 "_law_sign" ["one"] sp__law_sign) (F__law_product : FnD Pg w K mg base 4 "_law_product" ["pairs"] sp__law_product) (F__law_turned : FnD Pg w K mg base 1 "_law_turned" ["pairs"] sp__law_turned) (F__law_of : FnD Pg w K mg base 2 "_law_of" ["pot", "some"] sp__law_of) (F__law_times : FnD Pg w K mg base 2 "_law_times" ["one", "other"] sp__law_times) {f : Addr} {fd : FuncData} (F : Fun K "_law_is_compared_right" "_law_is_compared_right" s__law_is_compared_right f fd) (hm : mg "_law_is_compared_right" = some (.ref f)) (imp : ∀ as Q, sp__law_is_compared_right as Q → fnSpec [0, 1, 2] 3 8 d__law_is_compared_right as Q) : FnD Pg w K mg base 5 "_law_is_compared_right" ["pot", "pairs", "other"] sp__law_is_compared_right :=
  fnD_of F hm (fn_of_body F sc__law_is_compared_right 8 rfl (fun cdv A outer s H E hr => b__law_is_compared_right T F_powers_compared F__law_sign F__law_product F__law_turned F__law_of F__law_times cdv A outer s H E hr) imp) (fun _ _ _ _ _ _ us hl => match us, hl with | [_, _, _], _ => rfl) (fun _ _ _ _ _ _ us hl => match us, hl with | [_, _, _], _ => rfl)
end

/-! ### _law_are_roots_right -/
abbrev s__law_are_roots_right : Stmt := topS 42
abbrev N__law_are_roots_right : List Str := ["pot", "base", "exponents", "lap", "numbers", "many", "told", "by", "one", "other", "due", "at", "pair", "pairs", "number", "total"]
theorem sc__law_are_roots_right : FnScope N__law_are_roots_right ["pot"] (defScope s__law_are_roots_right) := ⟨rfl, rfl, rfl, by decide +kernel, rfl, by decide +kernel, by decide +kernel⟩
theorem a__law_are_roots_right : arity sp__law_are_roots_right 1 := fun as Q h => (i__law_are_roots_right as Q h).1
section
set_option linter.unusedVariables false
variable {Pg : Program} {w : World} {K : PySem.W.Frag} {mg : Str → Option Value} {base : Heap}
theorem b__law_are_roots_right (T : Txt K mg) (F__law_of : FnD Pg w K mg base 2 "_law_of" ["pot", "some"] sp__law_of) (F__law_take : FnD Pg w K mg base 1 "_law_take" ["pot", "upto"] sp__law_take) (F__law_power : FnD Pg w K mg base 3 "_law_power" ["base", "many"] sp__law_power) (F_common_root : FnD Pg w K mg base 4 "common_root" ["numbers"] sp_common_root) (F__law_total : FnD Pg w K mg base 3 "_law_total" ["some"] sp__law_total) (F__law_cut : FnD Pg w K mg base 1 "_law_cut" ["top", "low"] sp__law_cut) (F_powers_compared : FnD Pg w K mg base 4 "powers_compared" ["pairs"] sp_powers_compared) {f : Addr} (cdv : Value) (A : Around) (outer : List Env) (s : Shared) (H : Hp) (E : XK) (hr : Rm 4 (A.deeper (envOfC "_law_are_roots_right" (defScope s__law_are_roots_right) s.heap.objs.size f cdv))) : PSsD (bodyCx Pg w K mg base N__law_are_roots_right "_law_are_roots_right" s__law_are_roots_right f cdv A outer s H E) [0] (defBody s__law_are_roots_right) d__law_are_roots_right :=
  have nd := sc__law_are_roots_right.nd
  have hu := hu64 hr
  have hu5 := hu65 hr
  have hg5 := hr.gd
  ss_cons (s_set 1 nd (pd_call F__law_of a__law_of (hr.mono (by decide)) (ar_s 0 (ar_v (pv_frz (pd_lst (pad_cons (pv_tup (pad_cons (pv_int) (pad_cons (pv_int) (pad_nil)))) (pad_cons (pv_tup (pad_cons (pv_int) (pad_cons (pv_int) (pad_nil)))) (pad_cons (pv_tup (pad_cons (pv_int) (pad_cons (pv_int) (pad_nil)))) (pad_cons (pv_tup (pad_cons (pv_int) (pad_cons (pv_int) (pad_nil)))) (pad_cons (pv_tup (pad_cons (pv_int) (pad_cons (pv_int) (pad_nil)))) (pad_cons (pv_tup (pad_cons (pv_int) (pad_cons (pv_int) (pad_nil)))) (pad_nil))))))))) (ar_nil)))))
  (ss_cons (s_setLc 2 (own := [("lap", 3)]) 16 nd (it_range1 (pad_cons (pv_add (pv_int) (pv_frz (pd_call F__law_take a__law_take (hr.mono (by decide)) (ar_s 0 (ar_v (pv_int) (ar_nil)))))) (pad_nil)) T.n_range) (blkOk_by (N := N__law_are_roots_right) (sc := defScope s__law_are_roots_right) (by decide +kernel)) (fun _ _ _ _ _ => g_name 3 nd) (fun _ _ _ _ _ => ts_nil) (fun _ _ _ _ _ => pv_bty call_int1 cd_int (pad_cons (pv_sub (pv_frz (pd_call F__law_take a__law_take (hr.mono (by decide)) (ar_s 0 (ar_v (pv_int) (ar_nil))))) (pv_int)) (pad_nil)) T.n_int) (sw_true rfl rfl rfl (by decide +kernel)))
  (ss_cons (s_set 4 nd (pd_val (pv_bty call_tuple_of cd_tuple (pad_cons (pv_frz (pd_lc (own := [("many", 5)]) 16 nd (it_val (pv_name 2)) (blkOk_by (N := N__law_are_roots_right) (sc := defScope s__law_are_roots_right) (by decide +kernel)) (fun _ _ _ _ _ => g_name 5 nd) (fun _ _ _ _ _ => ts_nil) (fun _ _ _ _ _ => pv_frz (pd_call F__law_power a__law_power (hr.mono (by decide)) (ar_v (pv_name 1) (ar_v (pv_name 5) (ar_nil))))))) (pad_nil)) T.n_tuple)))
  (ss_cons (s_asg (pv_tup (pad_cons (pv_frz (pd_callK F_common_root a_common_root (hr.mono (by decide)) (kw_v (pv_name 4) (kw_nil)))) (pad_cons (pv_int) (pad_nil)))) (g_tup (gs_cons (g_name 6 nd) (gs_cons (g_name 7 nd) (gs_nil)))))
  (ss_cons (s_for (it_val (pv_name 2)) (g_name 5 nd)
  (ss_cons (s_par 8 9 nd (pr_cons (pd_val (pv_bltN 5 call_abs cd_abs T.n_abs)) (pr_cons (pd_val (pv_name 7)) (pr_nil))))
  (ss_cons (s_for (it_range1 (pad_cons (pv_int) (pad_nil)) T.n_range) (g_name 3 nd)
  (ss_one (s_asg (pv_if (ptd_cmp op_gt (opD_I0 fun _ _ _ => .bl _) (pv_name 9) (pv_int) (nomark _)) (pv_tup (pad_cons (pv_name 9) (pad_cons (pv_mod (pv_name 8) (pv_name 9)) (pad_nil)))) (pv_tup (pad_cons (pv_name 8) (pad_cons (pv_name 9) (pad_nil))))) (g_tup (gs_cons (g_name 8 nd) (gs_cons (g_name 9 nd) (gs_nil)))))))
  (ss_one (s_set 7 nd (pd_val (pv_name 8)))))))
  (ss_cons (s_if (ptd_cmp (op_eqD hu) opD_eq (pv_name 7) (pv_int) (nomark _))
  (ss_one (s_ret (pd_val (pv_cmp (op_eqD hu) opD_eq (pv_name 6) (pv_tup (pad_cons (pv_tup (pad_cons (pv_int) (pad_cons (pv_int) (pad_nil)))) (pad_cons (pv_repT (pv_tup (pad_cons (pv_int) (pad_nil))) (pv_bltN 4 call_len_seq cd_len T.n_len)) (pad_nil)))) (nomark _)))))
  (ss_nil))
  (ss_cons (s_set 10 nd (pd_val (pv_tup (pad_cons (pv_frz (pd_call F__law_power a__law_power (hr.mono (by decide)) (ar_v (pv_name 1) (ar_v (pv_name 7) (ar_nil))))) (pad_cons (pv_bty call_tuple_of cd_tuple (pad_cons (pv_frz (pd_lc (own := [("many", 5)]) 16 nd (it_val (pv_name 2)) (blkOk_by (N := N__law_are_roots_right) (sc := defScope s__law_are_roots_right) (by decide +kernel)) (fun _ _ _ _ _ => g_name 5 nd) (fun _ _ _ _ _ => ts_nil) (fun _ _ _ _ _ => pv_bty call_int1 cd_int (pad_cons (pv_fdiv (pv_name 5) (pv_name 7)) (pad_nil)) T.n_int))) (pad_nil)) T.n_tuple) (pad_nil))))))
  (ss_cons (s_if (ptd_cmp op_ne opD_neS (pv_bltN 6 (call_repr hr) cd_repr T.n_repr) (pv_bltN 10 (call_repr hr) cd_repr T.n_repr) (nomark _))
  (ss_one (s_ret (pd_val (pv_bl))))
  (ss_nil))
  (ss_cons (s_for (it_range1 (pad_cons (pv_bltN 4 call_len_seq cd_len T.n_len) (pad_nil)) T.n_range) (g_name 11 nd)
  (ss_cons (s_set 12 nd (pd_call F_common_root a_common_root (hr.mono (by decide)) (ar_v (pv_tup (pad_cons (pv_ixN 4 (pv_int)) (pad_cons (pv_ixN 4 (pv_name 11)) (pad_nil)))) (ar_nil))))
  (ss_cons (s_if ((pwd_or (ptd_isNone (pv_name 12)) (pwd_or1 (ptd_cmp (op_neD hu) opD_ne (pv_ixN 4 (pv_int)) (pv_frz (pd_call F__law_power a__law_power (hr.mono (by decide)) (ar_v (pv_ixN 12 (pv_int)) (ar_v (pv_ix (pv_ixN 12 (pv_int)) (pv_int)) (ar_nil))))) (nomark _)))).ptd)
  (ss_one (s_ret (pd_val (pv_bl))))
  (ss_nil))
  (ss_one (s_if (ptd_cmp (op_neD hu) opD_ne (pv_ixN 4 (pv_name 11)) (pv_frz (pd_call F__law_power a__law_power (hr.mono (by decide)) (ar_v (pv_ixN 12 (pv_int)) (ar_v (pv_ix (pv_ixN 12 (pv_int)) (pv_int)) (ar_nil))))) (nomark _))
  (ss_one (s_ret (pd_val (pv_bl))))
  (ss_nil))))))
  (ss_cons (s_set 13 nd (pd_val (pv_bty call_tuple_of cd_tuple (pad_cons (pv_frz (pd_lc (own := [("at", 11), ("number", 14)]) 16 nd (it_enum (pad_cons (pv_name 4) (pad_nil)) T.n_enumerate) (blkOk_by (N := N__law_are_roots_right) (sc := defScope s__law_are_roots_right) (by decide +kernel)) (fun _ _ _ _ _ => g_tup (gs_cons (g_name 11 nd) (gs_cons (g_name 14 nd) (gs_nil)))) (fun _ _ _ _ _ => ts_nil) (fun _ _ _ _ _ => pv_tup (pad_cons (pv_name 14) (pad_cons (pv_tup (pad_cons (pv_int) (pad_cons (pv_add (pv_int) (pv_name 11)) (pad_nil)))) (pad_nil)))))) (pad_nil)) T.n_tuple)))
  (ss_cons (s_set 15 nd (pd_call F__law_total a__law_total (hr.mono (by decide)) (ar_v (pv_frz (pd_lc (own := [("at", 11), ("many", 5)]) 16 nd (it_enum (pad_cons (pv_name 2) (pad_nil)) T.n_enumerate) (blkOk_by (N := N__law_are_roots_right) (sc := defScope s__law_are_roots_right) (by decide +kernel)) (fun _ _ _ _ _ => g_tup (gs_cons (g_name 11 nd) (gs_cons (g_name 5 nd) (gs_nil)))) (fun _ _ _ _ _ => ts_nil) (fun _ _ _ _ _ => pv_frz (pd_call F__law_cut a__law_cut (hr.mono (by decide)) (ar_v (pv_name 5) (ar_v (pv_add (pv_int) (pv_name 11)) (ar_nil))))))) (ar_nil))))
  (ss_cons (s_if (ptd_cmp (op_neD hu) opD_ne (pv_frz (pd_call F_powers_compared a_powers_compared (hr.mono (by decide)) (ar_v (pv_name 13) (ar_nil)))) (pv_sub (pv_bty call_int1 cd_int (pad_cons (pv_cmp op_gt (opD_I0 fun _ _ _ => .bl _) (pv_ixN 15 (pv_int)) (pv_int) (nomark _)) (pad_nil)) T.n_int) (pv_bty call_int1 cd_int (pad_cons (pv_cmp op_lt (opD_I0 fun _ _ _ => .bl _) (pv_ixN 15 (pv_int)) (pv_int) (nomark _)) (pad_nil)) T.n_int)) (nomark _))
  (ss_one (s_ret (pd_val (pv_bl))))
  (ss_nil))
  (ss_one (s_ret (pd_val (pv_and (pv_isNone (pv_frz (pd_call F_common_root a_common_root (hr.mono (by decide)) (ar_v (pv_add (pv_name 4) (pv_tup (pad_cons (pv_tup (pad_cons (pv_int) (pad_cons (pv_int) (pad_nil)))) (pad_nil)))) (ar_nil))))) (pv_one (pv_cmp (op_eqD hu) opD_eq (pv_ix (pv_frz (pd_call F_common_root a_common_root (hr.mono (by decide)) (ar_v (pv_add (pv_name 4) (pv_tup (pad_cons (pv_tup (pad_cons (pv_int) (pad_cons (pv_int) (pad_nil)))) (pad_nil)))) (ar_nil)))) (pv_int)) (pv_ixN 6 (pv_int)) (nomark _))))))))))))))))))
theorem f__law_are_roots_right (T : Txt K mg) (F__law_of : FnD Pg w K mg base 2 "_law_of" ["pot", "some"] sp__law_of) (F__law_take : FnD Pg w K mg base 1 "_law_take" ["pot", "upto"] sp__law_take) (F__law_power : FnD Pg w K mg base 3 "_law_power" ["base", "many"] sp__law_power) (F_common_root : FnD Pg w K mg base 4 "common_root" ["numbers"] sp_common_root) (F__law_total : FnD Pg w K mg base 3 "_law_total" ["some"] sp__law_total) (F__law_cut : FnD Pg w K mg base 1 "_law_cut" ["top", "low"] sp__law_cut) (F_powers_compared : FnD Pg w K mg base 4 "powers_compared" ["pairs"] sp_powers_compared) {f : Addr} {fd : FuncData} (F : Fun K "_law_are_roots_right" "_law_are_roots_right" s__law_are_roots_right f fd) (hm : mg "_law_are_roots_right" = some (.ref f)) (imp : ∀ as Q, sp__law_are_roots_right as Q → fnSpec [0] 1 15 d__law_are_roots_right as Q) : FnD Pg w K mg base 5 "_law_are_roots_right" ["pot"] sp__law_are_roots_right :=
  fnD_of F hm (fn_of_body F sc__law_are_roots_right 15 rfl (fun cdv A outer s H E hr => b__law_are_roots_right T F__law_of F__law_take F__law_power F_common_root F__law_total F__law_cut F_powers_compared cdv A outer s H E hr) imp) (fun _ _ _ _ _ _ us hl => match us, hl with | [_], _ => rfl) (fun _ _ _ _ _ _ us hl => match us, hl with | [_], _ => rfl)
end

/-! ### _law_right -/
abbrev s__law_right : Stmt := topS 43
abbrev N__law_right : List Str := ["pot", "pairs", "other"]
theorem sc__law_right : FnScope N__law_right ["pot"] (defScope s__law_right) := ⟨rfl, rfl, rfl, by decide +kernel, rfl, by decide +kernel, by decide +kernel⟩
theorem a__law_right : arity sp__law_right 1 := fun as Q h => (i__law_right as Q h).1
section
set_option linter.unusedVariables false
variable {Pg : Program} {w : World} {K : PySem.W.Frag} {mg : Str → Option Value} {base : Heap}
theorem b__law_right (T : Txt K mg) (F__law_pairs : FnD Pg w K mg base 3 "_law_pairs" ["pot", "most"] sp__law_pairs) (F__law_is_compared_right : FnD Pg w K mg base 5 "_law_is_compared_right" ["pot", "pairs", "other"] sp__law_is_compared_right) (F__law_are_roots_right : FnD Pg w K mg base 5 "_law_are_roots_right" ["pot"] sp__law_are_roots_right) {f : Addr} (cdv : Value) (A : Around) (outer : List Env) (s : Shared) (H : Hp) (E : XK) (hr : Rm 5 (A.deeper (envOfC "_law_right" (defScope s__law_right) s.heap.objs.size f cdv))) : PSsD (bodyCx Pg w K mg base N__law_right "_law_right" s__law_right f cdv A outer s H E) [0] (defBody s__law_right) d__law_right :=
  have nd := sc__law_right.nd
  have hu := hu64 hr
  have hu5 := hu65 hr
  have hg5 := hr.gd
  ss_cons (s_par 1 2 nd (pr_cons (pd_call F__law_pairs a__law_pairs (hr.mono (by decide)) (ar_s 0 (ar_v (pv_int) (ar_nil)))) (pr_cons (pd_call F__law_pairs a__law_pairs (hr.mono (by decide)) (ar_s 0 (ar_v (pv_int) (ar_nil)))) (pr_nil))))
  (ss_one (s_ret (pd_val (pv_and (pv_frz (pd_call F__law_is_compared_right a__law_is_compared_right (hr.mono (by decide)) (ar_s 0 (ar_v (pv_name 1) (ar_v (pv_name 2) (ar_nil)))))) (pv_one (pv_frz (pd_call F__law_are_roots_right a__law_are_roots_right (hr.mono (by decide)) (ar_s 0 (ar_nil)))))))))
theorem f__law_right (T : Txt K mg) (F__law_pairs : FnD Pg w K mg base 3 "_law_pairs" ["pot", "most"] sp__law_pairs) (F__law_is_compared_right : FnD Pg w K mg base 5 "_law_is_compared_right" ["pot", "pairs", "other"] sp__law_is_compared_right) (F__law_are_roots_right : FnD Pg w K mg base 5 "_law_are_roots_right" ["pot"] sp__law_are_roots_right) {f : Addr} {fd : FuncData} (F : Fun K "_law_right" "_law_right" s__law_right f fd) (hm : mg "_law_right" = some (.ref f)) (imp : ∀ as Q, sp__law_right as Q → fnSpec [0] 1 2 d__law_right as Q) : FnD Pg w K mg base 6 "_law_right" ["pot"] sp__law_right :=
  fnD_of F hm (fn_of_body F sc__law_right 2 rfl (fun cdv A outer s H E hr => b__law_right T F__law_pairs F__law_is_compared_right F__law_are_roots_right cdv A outer s H E hr) imp) (fun _ _ _ _ _ _ us hl => match us, hl with | [_], _ => rfl) (fun _ _ _ _ _ _ us hl => match us, hl with | [_], _ => rfl)
end

/-! ### law -/
abbrev s_law : Stmt := topS 44
abbrev N_law : List Str := ["script", "place", "pot", "lap"]
theorem sc_law : FnScope N_law ["script"] (defScope s_law) := ⟨rfl, rfl, rfl, by decide +kernel, rfl, by decide +kernel, by decide +kernel⟩
theorem a_law : arity sp_law 1 := fun as Q h => (i_law as Q h).1
section
set_option linter.unusedVariables false
variable {Pg : Program} {w : World} {K : PySem.W.Frag} {mg : Str → Option Value} {base : Heap}
theorem b_law (T : Txt K mg) (F__law_cells : FnD Pg w K mg base 1 "_law_cells" ["script", "most"] sp__law_cells) (F__law_pot : FnD Pg w K mg base 1 "_law_pot" ["script", "place"] sp__law_pot) (F__law_right : FnD Pg w K mg base 6 "_law_right" ["pot"] sp__law_right) {f : Addr} (cdv : Value) (A : Around) (outer : List Env) (s : Shared) (H : Hp) (E : XK) (hr : Rm 6 (A.deeper (envOfC "law" (defScope s_law) s.heap.objs.size f cdv))) : PSsD (bodyCx Pg w K mg base N_law "law" s_law f cdv A outer s H E) [0] (defBody s_law) d_law :=
  have nd := sc_law.nd
  have hu := hu64 hr
  have hu5 := hu65 hr
  have hg5 := hr.gd
  ss_cons (s_for (it_val (pv_frz (pd_call F__law_cells a__law_cells (hr.mono (by decide)) (ar_s 0 (ar_v (pv_int) (ar_nil)))))) (g_name 1 nd)
  (ss_cons (s_set 2 nd (pd_call F__law_pot a__law_pot (hr.mono (by decide)) (ar_s 0 (ar_v (pv_name 1) (ar_nil)))))
  (ss_one (s_if (ptd_not (ptd_val (pv_blt (cr_all rfl) cd_all (pad_cons (pv_frz (pd_lc (own := [("lap", 3)]) 4 nd (it_range1 (pad_cons (pv_int) (pad_nil)) T.n_range) (blkOk_by (N := N_law) (sc := defScope s_law) (by decide +kernel)) (fun _ _ _ _ _ => g_name 3 nd) (fun _ _ _ _ _ => ts_nil) (fun _ _ _ _ _ => pv_frz (pd_call F__law_right a__law_right (hr.mono (by decide)) (ar_s 2 (ar_nil)))))) (pad_nil)) T.n_all)))
  (ss_one (s_ret (pd_val (pv_bl))))
  (ss_nil)))))
  (ss_one (s_ret (pd_val (pv_bl))))
theorem f_law (T : Txt K mg) (F__law_cells : FnD Pg w K mg base 1 "_law_cells" ["script", "most"] sp__law_cells) (F__law_pot : FnD Pg w K mg base 1 "_law_pot" ["script", "place"] sp__law_pot) (F__law_right : FnD Pg w K mg base 6 "_law_right" ["pot"] sp__law_right) {f : Addr} {fd : FuncData} (F : Fun K "law" "law" s_law f fd) (hm : mg "law" = some (.ref f)) (imp : ∀ as Q, sp_law as Q → fnSpec [0] 1 3 d_law as Q) : FnD Pg w K mg base 7 "law" ["script"] sp_law :=
  fnD_of F hm (fn_of_body F sc_law 3 rfl (fun cdv A outer s H E hr => b_law T F__law_cells F__law_pot F__law_right cdv A outer s H E hr) imp) (fun _ _ _ _ _ _ us hl => match us, hl with | [_], _ => rfl) (fun _ _ _ _ _ _ us hl => match us, hl with | [_], _ => rfl)
end



theorem all_fn {Pg : Program} {w : World} {K : PySem.W.Frag} {h base : Heap} {mg : Str → Option Value} (X : K.In h) (G : h.Ns mainGlobals mg)
    {f0 : Addr} {od0 an0 : Option Addr} {sl0 : Array (Option Value)} {oc0 kV0 dc0 pm0 cd0 ct0 : Value}
    {f1 : Addr} {od1 an1 : Option Addr} {sl1 : Array (Option Value)} {oc1 kV1 dc1 pm1 cd1 ct1 : Value}
    {f2 : Addr} {od2 an2 : Option Addr} {sl2 : Array (Option Value)} {oc2 kV2 dc2 pm2 cd2 ct2 : Value}
    {f3 : Addr} {od3 an3 : Option Addr} {sl3 : Array (Option Value)} {oc3 kV3 dc3 pm3 cd3 ct3 : Value}
    {f4 : Addr} {od4 an4 : Option Addr} {sl4 : Array (Option Value)} {oc4 kV4 dc4 pm4 cd4 ct4 : Value}
    {f5 : Addr} {od5 an5 : Option Addr} {sl5 : Array (Option Value)} {oc5 kV5 dc5 pm5 cd5 ct5 : Value}
    {f6 : Addr} {od6 an6 : Option Addr} {sl6 : Array (Option Value)} {oc6 kV6 dc6 pm6 cd6 ct6 : Value}
    {f7 : Addr} {od7 an7 : Option Addr} {sl7 : Array (Option Value)} {oc7 kV7 dc7 pm7 cd7 ct7 : Value}
    {f8 : Addr} {od8 an8 : Option Addr} {sl8 : Array (Option Value)} {oc8 kV8 dc8 pm8 cd8 ct8 : Value}
    {f9 : Addr} {od9 an9 : Option Addr} {sl9 : Array (Option Value)} {oc9 kV9 dc9 pm9 cd9 ct9 : Value}
    {f10 : Addr} {od10 an10 : Option Addr} {sl10 : Array (Option Value)} {oc10 kV10 dc10 pm10 cd10 ct10 : Value}
    {f11 : Addr} {od11 an11 : Option Addr} {sl11 : Array (Option Value)} {oc11 kV11 dc11 pm11 cd11 ct11 : Value}
    {f12 : Addr} {od12 an12 : Option Addr} {sl12 : Array (Option Value)} {oc12 kV12 dc12 pm12 cd12 ct12 : Value}
    {f13 : Addr} {od13 an13 : Option Addr} {sl13 : Array (Option Value)} {oc13 kV13 dc13 pm13 cd13 ct13 : Value}
    {f14 : Addr} {od14 an14 : Option Addr} {sl14 : Array (Option Value)} {oc14 kV14 dc14 pm14 cd14 ct14 : Value}
    {f15 : Addr} {od15 an15 : Option Addr} {sl15 : Array (Option Value)} {oc15 kV15 dc15 pm15 cd15 ct15 : Value}
    {f16 : Addr} {od16 an16 : Option Addr} {sl16 : Array (Option Value)} {oc16 kV16 dc16 pm16 cd16 ct16 : Value}
    {f17 : Addr} {od17 an17 : Option Addr} {sl17 : Array (Option Value)} {oc17 kV17 dc17 pm17 cd17 ct17 : Value}
    {f18 : Addr} {od18 an18 : Option Addr} {sl18 : Array (Option Value)} {oc18 kV18 dc18 pm18 cd18 ct18 : Value}
    {f19 : Addr} {od19 an19 : Option Addr} {sl19 : Array (Option Value)} {oc19 kV19 dc19 pm19 cd19 ct19 : Value}
    {f20 : Addr} {od20 an20 : Option Addr} {sl20 : Array (Option Value)} {oc20 kV20 dc20 pm20 cd20 ct20 : Value}
    {f21 : Addr} {od21 an21 : Option Addr} {sl21 : Array (Option Value)} {oc21 kV21 dc21 pm21 cd21 ct21 : Value}
    {f22 : Addr} {od22 an22 : Option Addr} {sl22 : Array (Option Value)} {oc22 kV22 dc22 pm22 cd22 ct22 : Value}
    {f23 : Addr} {od23 an23 : Option Addr} {sl23 : Array (Option Value)} {oc23 kV23 dc23 pm23 cd23 ct23 : Value}
    {f24 : Addr} {od24 an24 : Option Addr} {sl24 : Array (Option Value)} {oc24 kV24 dc24 pm24 cd24 ct24 : Value}
    {f25 : Addr} {od25 an25 : Option Addr} {sl25 : Array (Option Value)} {oc25 kV25 dc25 pm25 cd25 ct25 : Value}
    {f26 : Addr} {od26 an26 : Option Addr} {sl26 : Array (Option Value)} {oc26 kV26 dc26 pm26 cd26 ct26 : Value}
    {f27 : Addr} {od27 an27 : Option Addr} {sl27 : Array (Option Value)} {oc27 kV27 dc27 pm27 cd27 ct27 : Value}
    {f28 : Addr} {od28 an28 : Option Addr} {sl28 : Array (Option Value)} {oc28 kV28 dc28 pm28 cd28 ct28 : Value}
    {f29 : Addr} {od29 an29 : Option Addr} {sl29 : Array (Option Value)} {oc29 kV29 dc29 pm29 cd29 ct29 : Value}
    {f30 : Addr} {od30 an30 : Option Addr} {sl30 : Array (Option Value)} {oc30 kV30 dc30 pm30 cd30 ct30 : Value}
    {f31 : Addr} {od31 an31 : Option Addr} {sl31 : Array (Option Value)} {oc31 kV31 dc31 pm31 cd31 ct31 : Value}
    {ti0 : Tok}
    {ti1 : Tok}
    {tt0_0 tt0_1 : Tok} {tf0 : Addr} {tod0 : Option Addr} {tsl0 : Array (Option Value)} {tn0 : Nat}
    (a0 : PySem.W.nsIn K mainGlobals "is_integer" = some (some (.ref f0))) (l0 : K.lookup f0 = some ⟨oc0, od0, .func (PySem.W.fnOf "is_integer" "is_integer" (defArgs s_is_integer) (defBody s_is_integer) (defScope s_is_integer) .none kV0 dc0 pm0 an0 cd0 ct0), sl0⟩) (c0 : PySem.W.codeIn K cd0 "is_integer" = true) (k0 : PySem.W.keepIn K (.ref f0) = true)
    (a1 : PySem.W.nsIn K mainGlobals "common" = some (some (.ref f1))) (l1 : K.lookup f1 = some ⟨oc1, od1, .func (PySem.W.fnOf "common" "common" (defArgs s_common) (defBody s_common) (defScope s_common) .none kV1 dc1 pm1 an1 cd1 ct1), sl1⟩) (c1 : PySem.W.codeIn K cd1 "common" = true) (k1 : PySem.W.keepIn K (.ref f1) = true)
    (a2 : PySem.W.nsIn K mainGlobals "power_of_integer" = some (some (.ref f2))) (l2 : K.lookup f2 = some ⟨oc2, od2, .func (PySem.W.fnOf "power_of_integer" "power_of_integer" (defArgs s_power_of_integer) (defBody s_power_of_integer) (defScope s_power_of_integer) .none kV2 dc2 pm2 an2 cd2 ct2), sl2⟩) (c2 : PySem.W.codeIn K cd2 "power_of_integer" = true) (k2 : PySem.W.keepIn K (.ref f2) = true)
    (a3 : PySem.W.nsIn K mainGlobals "whole_numbers" = some (some (.ref f3))) (l3 : K.lookup f3 = some ⟨oc3, od3, .func (PySem.W.fnOf "whole_numbers" "whole_numbers" (defArgs s_whole_numbers) (defBody s_whole_numbers) (defScope s_whole_numbers) .none kV3 dc3 pm3 an3 cd3 ct3), sl3⟩) (c3 : PySem.W.codeIn K cd3 "whole_numbers" = true) (k3 : PySem.W.keepIn K (.ref f3) = true)
    (a4 : PySem.W.nsIn K mainGlobals "is_told_fraction" = some (some (.ref f4))) (l4 : K.lookup f4 = some ⟨oc4, od4, .func (PySem.W.fnOf "is_told_fraction" "is_told_fraction" (defArgs s_is_told_fraction) (defBody s_is_told_fraction) (defScope s_is_told_fraction) .none kV4 dc4 pm4 an4 cd4 ct4), sl4⟩) (c4 : PySem.W.codeIn K cd4 "is_told_fraction" = true) (k4 : PySem.W.keepIn K (.ref f4) = true)
    (a5 : PySem.W.nsIn K mainGlobals "are_powers" = some (some (.ref f5))) (l5 : K.lookup f5 = some ⟨oc5, od5, .func (PySem.W.fnOf "are_powers" "are_powers" (defArgs s_are_powers) (defBody s_are_powers) (defScope s_are_powers) .none kV5 dc5 pm5 an5 cd5 ct5), sl5⟩) (c5 : PySem.W.codeIn K cd5 "are_powers" = true) (k5 : PySem.W.keepIn K (.ref f5) = true)
    (a6 : PySem.W.nsIn K mainGlobals "powers_compared" = some (some (.ref f6))) (l6 : K.lookup f6 = some ⟨oc6, od6, .func (PySem.W.fnOf "powers_compared" "powers_compared" (defArgs s_powers_compared) (defBody s_powers_compared) (defScope s_powers_compared) .none kV6 dc6 pm6 an6 cd6 ct6), sl6⟩) (c6 : PySem.W.codeIn K cd6 "powers_compared" = true) (k6 : PySem.W.keepIn K (.ref f6) = true)
    (a7 : PySem.W.nsIn K mainGlobals "base_of" = some (some (.ref f7))) (l7 : K.lookup f7 = some ⟨oc7, od7, .func (PySem.W.fnOf "base_of" "base_of" (defArgs s_base_of) (defBody s_base_of) (defScope s_base_of) .none kV7 dc7 pm7 an7 cd7 ct7), sl7⟩) (c7 : PySem.W.codeIn K cd7 "base_of" = true) (k7 : PySem.W.keepIn K (.ref f7) = true)
    (a8 : PySem.W.nsIn K mainGlobals "exponent_in" = some (some (.ref f8))) (l8 : K.lookup f8 = some ⟨oc8, od8, .func (PySem.W.fnOf "exponent_in" "exponent_in" (defArgs s_exponent_in) (defBody s_exponent_in) (defScope s_exponent_in) .none kV8 dc8 pm8 an8 cd8 ct8), sl8⟩) (c8 : PySem.W.codeIn K cd8 "exponent_in" = true) (k8 : PySem.W.keepIn K (.ref f8) = true)
    (a9 : PySem.W.nsIn K mainGlobals "exponents_over" = some (some (.ref f9))) (l9 : K.lookup f9 = some ⟨oc9, od9, .func (PySem.W.fnOf "exponents_over" "exponents_over" (defArgs s_exponents_over) (defBody s_exponents_over) (defScope s_exponents_over) .none kV9 dc9 pm9 an9 cd9 ct9), sl9⟩) (c9 : PySem.W.codeIn K cd9 "exponents_over" = true) (k9 : PySem.W.keepIn K (.ref f9) = true)
    (a10 : PySem.W.nsIn K mainGlobals "made_of_base" = some (some (.ref f10))) (l10 : K.lookup f10 = some ⟨oc10, od10, .func (PySem.W.fnOf "made_of_base" "made_of_base" (defArgs s_made_of_base) (defBody s_made_of_base) (defScope s_made_of_base) .none kV10 dc10 pm10 an10 cd10 ct10), sl10⟩) (c10 : PySem.W.codeIn K cd10 "made_of_base" = true) (k10 : PySem.W.keepIn K (.ref f10) = true)
    (a11 : PySem.W.nsIn K mainGlobals "common_of" = some (some (.ref f11))) (l11 : K.lookup f11 = some ⟨oc11, od11, .func (PySem.W.fnOf "common_of" "common_of" (defArgs s_common_of) (defBody s_common_of) (defScope s_common_of) .none kV11 dc11 pm11 an11 cd11 ct11), sl11⟩) (c11 : PySem.W.codeIn K cd11 "common_of" = true) (k11 : PySem.W.keepIn K (.ref f11) = true)
    (a12 : PySem.W.nsIn K mainGlobals "root_of_rows" = some (some (.ref f12))) (l12 : K.lookup f12 = some ⟨oc12, od12, .func (PySem.W.fnOf "root_of_rows" "root_of_rows" (defArgs s_root_of_rows) (defBody s_root_of_rows) (defScope s_root_of_rows) .none kV12 dc12 pm12 an12 cd12 ct12), sl12⟩) (c12 : PySem.W.codeIn K cd12 "root_of_rows" = true) (k12 : PySem.W.keepIn K (.ref f12) = true)
    (a13 : PySem.W.nsIn K mainGlobals "common_root" = some (some (.ref f13))) (l13 : K.lookup f13 = some ⟨oc13, od13, .func (PySem.W.fnOf "common_root" "common_root" (defArgs s_common_root) (defBody s_common_root) (defScope s_common_root) .none kV13 dc13 pm13 an13 cd13 ct13), sl13⟩) (c13 : PySem.W.codeIn K cd13 "common_root" = true) (k13 : PySem.W.keepIn K (.ref f13) = true)
    (a14 : PySem.W.nsIn K mainGlobals "_law_pot" = some (some (.ref f14))) (l14 : K.lookup f14 = some ⟨oc14, od14, .func (PySem.W.fnOf "_law_pot" "_law_pot" (defArgs s__law_pot) (defBody s__law_pot) (defScope s__law_pot) .none kV14 dc14 pm14 an14 cd14 ct14), sl14⟩) (c14 : PySem.W.codeIn K cd14 "_law_pot" = true) (k14 : PySem.W.keepIn K (.ref f14) = true)
    (a15 : PySem.W.nsIn K mainGlobals "_law_take" = some (some (.ref f15))) (l15 : K.lookup f15 = some ⟨oc15, od15, .func (PySem.W.fnOf "_law_take" "_law_take" (defArgs s__law_take) (defBody s__law_take) (defScope s__law_take) .none kV15 dc15 pm15 an15 cd15 ct15), sl15⟩) (c15 : PySem.W.codeIn K cd15 "_law_take" = true) (k15 : PySem.W.keepIn K (.ref f15) = true)
    (a16 : PySem.W.nsIn K mainGlobals "_law_of" = some (some (.ref f16))) (l16 : K.lookup f16 = some ⟨oc16, od16, .func (PySem.W.fnOf "_law_of" "_law_of" (defArgs s__law_of) (defBody s__law_of) (defScope s__law_of) .none kV16 dc16 pm16 an16 cd16 ct16), sl16⟩) (c16 : PySem.W.codeIn K cd16 "_law_of" = true) (k16 : PySem.W.keepIn K (.ref f16) = true)
    (a17 : PySem.W.nsIn K mainGlobals "_law_cells" = some (some (.ref f17))) (l17 : K.lookup f17 = some ⟨oc17, od17, .func (PySem.W.fnOf "_law_cells" "_law_cells" (defArgs s__law_cells) (defBody s__law_cells) (defScope s__law_cells) .none kV17 dc17 pm17 an17 cd17 ct17), sl17⟩) (c17 : PySem.W.codeIn K cd17 "_law_cells" = true) (k17 : PySem.W.keepIn K (.ref f17) = true)
    (a18 : PySem.W.nsIn K mainGlobals "_law_cut" = some (some (.ref f18))) (l18 : K.lookup f18 = some ⟨oc18, od18, .func (PySem.W.fnOf "_law_cut" "_law_cut" (defArgs s__law_cut) (defBody s__law_cut) (defScope s__law_cut) .none kV18 dc18 pm18 an18 cd18 ct18), sl18⟩) (c18 : PySem.W.codeIn K cd18 "_law_cut" = true) (k18 : PySem.W.keepIn K (.ref f18) = true)
    (a19 : PySem.W.nsIn K mainGlobals "_law_added" = some (some (.ref f19))) (l19 : K.lookup f19 = some ⟨oc19, od19, .func (PySem.W.fnOf "_law_added" "_law_added" (defArgs s__law_added) (defBody s__law_added) (defScope s__law_added) .none kV19 dc19 pm19 an19 cd19 ct19), sl19⟩) (c19 : PySem.W.codeIn K cd19 "_law_added" = true) (k19 : PySem.W.keepIn K (.ref f19) = true)
    (a20 : PySem.W.nsIn K mainGlobals "_law_times" = some (some (.ref f20))) (l20 : K.lookup f20 = some ⟨oc20, od20, .func (PySem.W.fnOf "_law_times" "_law_times" (defArgs s__law_times) (defBody s__law_times) (defScope s__law_times) .none kV20 dc20 pm20 an20 cd20 ct20), sl20⟩) (c20 : PySem.W.codeIn K cd20 "_law_times" = true) (k20 : PySem.W.keepIn K (.ref f20) = true)
    (a21 : PySem.W.nsIn K mainGlobals "_law_total" = some (some (.ref f21))) (l21 : K.lookup f21 = some ⟨oc21, od21, .func (PySem.W.fnOf "_law_total" "_law_total" (defArgs s__law_total) (defBody s__law_total) (defScope s__law_total) .none kV21 dc21 pm21 an21 cd21 ct21), sl21⟩) (c21 : PySem.W.codeIn K cd21 "_law_total" = true) (k21 : PySem.W.keepIn K (.ref f21) = true)
    (a22 : PySem.W.nsIn K mainGlobals "_law_number" = some (some (.ref f22))) (l22 : K.lookup f22 = some ⟨oc22, od22, .func (PySem.W.fnOf "_law_number" "_law_number" (defArgs s__law_number) (defBody s__law_number) (defScope s__law_number) .none kV22 dc22 pm22 an22 cd22 ct22), sl22⟩) (c22 : PySem.W.codeIn K cd22 "_law_number" = true) (k22 : PySem.W.keepIn K (.ref f22) = true)
    (a23 : PySem.W.nsIn K mainGlobals "_law_power" = some (some (.ref f23))) (l23 : K.lookup f23 = some ⟨oc23, od23, .func (PySem.W.fnOf "_law_power" "_law_power" (defArgs s__law_power) (defBody s__law_power) (defScope s__law_power) .none kV23 dc23 pm23 an23 cd23 ct23), sl23⟩) (c23 : PySem.W.codeIn K cd23 "_law_power" = true) (k23 : PySem.W.keepIn K (.ref f23) = true)
    (a24 : PySem.W.nsIn K mainGlobals "_law_sign" = some (some (.ref f24))) (l24 : K.lookup f24 = some ⟨oc24, od24, .func (PySem.W.fnOf "_law_sign" "_law_sign" (defArgs s__law_sign) (defBody s__law_sign) (defScope s__law_sign) .none kV24 dc24 pm24 an24 cd24 ct24), sl24⟩) (c24 : PySem.W.codeIn K cd24 "_law_sign" = true) (k24 : PySem.W.keepIn K (.ref f24) = true)
    (a25 : PySem.W.nsIn K mainGlobals "_law_pairs" = some (some (.ref f25))) (l25 : K.lookup f25 = some ⟨oc25, od25, .func (PySem.W.fnOf "_law_pairs" "_law_pairs" (defArgs s__law_pairs) (defBody s__law_pairs) (defScope s__law_pairs) .none kV25 dc25 pm25 an25 cd25 ct25), sl25⟩) (c25 : PySem.W.codeIn K cd25 "_law_pairs" = true) (k25 : PySem.W.keepIn K (.ref f25) = true)
    (a26 : PySem.W.nsIn K mainGlobals "_law_product" = some (some (.ref f26))) (l26 : K.lookup f26 = some ⟨oc26, od26, .func (PySem.W.fnOf "_law_product" "_law_product" (defArgs s__law_product) (defBody s__law_product) (defScope s__law_product) .none kV26 dc26 pm26 an26 cd26 ct26), sl26⟩) (c26 : PySem.W.codeIn K cd26 "_law_product" = true) (k26 : PySem.W.keepIn K (.ref f26) = true)
    (a27 : PySem.W.nsIn K mainGlobals "_law_turned" = some (some (.ref f27))) (l27 : K.lookup f27 = some ⟨oc27, od27, .func (PySem.W.fnOf "_law_turned" "_law_turned" (defArgs s__law_turned) (defBody s__law_turned) (defScope s__law_turned) .none kV27 dc27 pm27 an27 cd27 ct27), sl27⟩) (c27 : PySem.W.codeIn K cd27 "_law_turned" = true) (k27 : PySem.W.keepIn K (.ref f27) = true)
    (a28 : PySem.W.nsIn K mainGlobals "_law_is_compared_right" = some (some (.ref f28))) (l28 : K.lookup f28 = some ⟨oc28, od28, .func (PySem.W.fnOf "_law_is_compared_right" "_law_is_compared_right" (defArgs s__law_is_compared_right) (defBody s__law_is_compared_right) (defScope s__law_is_compared_right) .none kV28 dc28 pm28 an28 cd28 ct28), sl28⟩) (c28 : PySem.W.codeIn K cd28 "_law_is_compared_right" = true) (k28 : PySem.W.keepIn K (.ref f28) = true)
    (a29 : PySem.W.nsIn K mainGlobals "_law_are_roots_right" = some (some (.ref f29))) (l29 : K.lookup f29 = some ⟨oc29, od29, .func (PySem.W.fnOf "_law_are_roots_right" "_law_are_roots_right" (defArgs s__law_are_roots_right) (defBody s__law_are_roots_right) (defScope s__law_are_roots_right) .none kV29 dc29 pm29 an29 cd29 ct29), sl29⟩) (c29 : PySem.W.codeIn K cd29 "_law_are_roots_right" = true) (k29 : PySem.W.keepIn K (.ref f29) = true)
    (a30 : PySem.W.nsIn K mainGlobals "_law_right" = some (some (.ref f30))) (l30 : K.lookup f30 = some ⟨oc30, od30, .func (PySem.W.fnOf "_law_right" "_law_right" (defArgs s__law_right) (defBody s__law_right) (defScope s__law_right) .none kV30 dc30 pm30 an30 cd30 ct30), sl30⟩) (c30 : PySem.W.codeIn K cd30 "_law_right" = true) (k30 : PySem.W.keepIn K (.ref f30) = true)
    (a31 : PySem.W.nsIn K mainGlobals "law" = some (some (.ref f31))) (l31 : K.lookup f31 = some ⟨oc31, od31, .func (PySem.W.fnOf "law" "law" (defArgs s_law) (defBody s_law) (defScope s_law) .none kV31 dc31 pm31 an31 cd31 ct31), sl31⟩) (c31 : PySem.W.codeIn K cd31 "law" = true) (k31 : PySem.W.keepIn K (.ref f31) = true)
    (z0 : PySem.W.nsIn K mainGlobals "abs" = some none)
    (z1 : PySem.W.nsIn K mainGlobals "all" = some none)
    (z2 : PySem.W.nsIn K mainGlobals "any" = some none)
    (z3 : PySem.W.nsIn K mainGlobals "bool" = some none)
    (z4 : PySem.W.nsIn K mainGlobals "enumerate" = some none)
    (z5 : PySem.W.nsIn K mainGlobals "int" = some none)
    (z6 : PySem.W.nsIn K mainGlobals "isinstance" = some none)
    (z7 : PySem.W.nsIn K mainGlobals "len" = some none)
    (z8 : PySem.W.nsIn K mainGlobals "list" = some none)
    (z9 : PySem.W.nsIn K mainGlobals "max" = some none)
    (z10 : PySem.W.nsIn K mainGlobals "min" = some none)
    (z11 : PySem.W.nsIn K mainGlobals "range" = some none)
    (z12 : PySem.W.nsIn K mainGlobals "repr" = some none)
    (z13 : PySem.W.nsIn K mainGlobals "sorted" = some none)
    (z14 : PySem.W.nsIn K mainGlobals "sum" = some none)
    (z15 : PySem.W.nsIn K mainGlobals "tuple" = some none)
    (z16 : PySem.W.nsIn K mainGlobals "zip" = some none)
    (i0 : PySem.W.nsIn K mainGlobals "MOST_PAIRS" = some (some (.int 12 ti0)))
    (i1 : PySem.W.nsIn K mainGlobals "MOST_POWERS" = some (some (.int 400 ti1)))
    (t0 : PySem.W.nsIn K mainGlobals "ONE" = some (some (.ref tf0))) (u0 : K.lookup tf0 = some ⟨.type "tuple", tod0, .seq #[.int 1 tt0_0, .int 1 tt0_1] tn0, tsl0⟩) :
    FnD Pg w K mg base 7 "law" ["script"] sp_law := by
  have T : Txt K mg := ⟨PySem.W.mg_none_of X G z0, PySem.W.mg_none_of X G z1, PySem.W.mg_none_of X G z2, PySem.W.mg_none_of X G z3, PySem.W.mg_none_of X G z4, PySem.W.mg_none_of X G z5, PySem.W.mg_none_of X G z6, PySem.W.mg_none_of X G z7, PySem.W.mg_none_of X G z8, PySem.W.mg_none_of X G z9, PySem.W.mg_none_of X G z10, PySem.W.mg_none_of X G z11, PySem.W.mg_none_of X G z12, PySem.W.mg_none_of X G z13, PySem.W.mg_none_of X G z14, PySem.W.mg_none_of X G z15, PySem.W.mg_none_of X G z16, ⟨⟨.int 12, _, PySem.W.mg_of X G i0, ⟨_, rfl⟩, fun _ => .int _⟩⟩, ⟨⟨.int 400, _, PySem.W.mg_of X G i1, ⟨_, rfl⟩, fun _ => .int _⟩⟩, ⟨⟨.ref tf0, _, PySem.W.mg_of X G t0, rfl, fun _ => .tup (.inr ⟨_, _, _, u0, rfl, rfl, by show 2 ≤ sizeLine; decide, (.cons (show RelV (.int 1) (.int 1 _) from ⟨_, rfl⟩) (.cons (show RelV (.int 1) (.int 1 _) from ⟨_, rfl⟩) .nil))⟩) (.cons (.int _) (.cons (.int _) .nil))⟩⟩⟩
  have F_is_integer := f_is_integer (Pg := Pg) (w := w) (base := base) T (fun_mk (st := s_is_integer) l0 c0 k0) (PySem.W.mg_of X G a0) i_is_integer
  have F_common := f_common (Pg := Pg) (w := w) (base := base) T (fun_mk (st := s_common) l1 c1 k1) (PySem.W.mg_of X G a1) i_common
  have F_power_of_integer := f_power_of_integer (Pg := Pg) (w := w) (base := base) T (fun_mk (st := s_power_of_integer) l2 c2 k2) (PySem.W.mg_of X G a2) i_power_of_integer
  have F_whole_numbers := f_whole_numbers (Pg := Pg) (w := w) (base := base) T F_common (fun_mk (st := s_whole_numbers) l3 c3 k3) (PySem.W.mg_of X G a3) i_whole_numbers
  have F_is_told_fraction := f_is_told_fraction (Pg := Pg) (w := w) (base := base) T F_is_integer F_common (fun_mk (st := s_is_told_fraction) l4 c4 k4) (PySem.W.mg_of X G a4) i_is_told_fraction
  have F_are_powers := f_are_powers (Pg := Pg) (w := w) (base := base) T F_is_told_fraction (fun_mk (st := s_are_powers) l5 c5 k5) (PySem.W.mg_of X G a5) i_are_powers
  have F_powers_compared := f_powers_compared (Pg := Pg) (w := w) (base := base) T F_are_powers F_whole_numbers F_power_of_integer (fun_mk (st := s_powers_compared) l6 c6 k6) (PySem.W.mg_of X G a6) i_powers_compared
  have F_base_of := f_base_of (Pg := Pg) (w := w) (base := base) T F_common (fun_mk (st := s_base_of) l7 c7 k7) (PySem.W.mg_of X G a7) i_base_of
  have F_exponent_in := f_exponent_in (Pg := Pg) (w := w) (base := base) T (fun_mk (st := s_exponent_in) l8 c8 k8) (PySem.W.mg_of X G a8) i_exponent_in
  have F_exponents_over := f_exponents_over (Pg := Pg) (w := w) (base := base) T F_exponent_in (fun_mk (st := s_exponents_over) l9 c9 k9) (PySem.W.mg_of X G a9) i_exponents_over
  have F_made_of_base := f_made_of_base (Pg := Pg) (w := w) (base := base) T F_power_of_integer (fun_mk (st := s_made_of_base) l10 c10 k10) (PySem.W.mg_of X G a10) i_made_of_base
  have F_common_of := f_common_of (Pg := Pg) (w := w) (base := base) T F_common (fun_mk (st := s_common_of) l11 c11 k11) (PySem.W.mg_of X G a11) i_common_of
  have F_root_of_rows := f_root_of_rows (Pg := Pg) (w := w) (base := base) T F_common_of F_made_of_base (fun_mk (st := s_root_of_rows) l12 c12 k12) (PySem.W.mg_of X G a12) i_root_of_rows
  have F_common_root := f_common_root (Pg := Pg) (w := w) (base := base) T F_is_told_fraction F_base_of F_root_of_rows F_exponents_over (fun_mk (st := s_common_root) l13 c13 k13) (PySem.W.mg_of X G a13) i_common_root
  have F__law_pot := f__law_pot (Pg := Pg) (w := w) (base := base) T (fun_mk (st := s__law_pot) l14 c14 k14) (PySem.W.mg_of X G a14) (i_pot (c1 := 55591) (c2 := 18567) (c3 := 360041) (c4 := 55263) (c5 := 28279) (by unfold Bi; decide) (by unfold Bi; decide) (by unfold Bi; decide) (by unfold Bi; decide))
  have F__law_take := f__law_take (Pg := Pg) (w := w) (base := base) T (fun_mk (st := s__law_take) l15 c15 k15) (PySem.W.mg_of X G a15) (i_take (k1 := 148173) (k2 := 10817) (k3 := 40895) (k4 := 6809) (k5 := 12913) (by decide) (by decide) (by decide) (by decide) (by decide))
  have F__law_of := f__law_of (Pg := Pg) (w := w) (base := base) T F__law_take (fun_mk (st := s__law_of) l16 c16 k16) (PySem.W.mg_of X G a16) i__law_of
  have F__law_cells := f__law_cells (Pg := Pg) (w := w) (base := base) T (fun_mk (st := s__law_cells) l17 c17 k17) (PySem.W.mg_of X G a17) i__law_cells
  have F__law_cut := f__law_cut (Pg := Pg) (w := w) (base := base) T (fun_mk (st := s__law_cut) l18 c18 k18) (PySem.W.mg_of X G a18) i__law_cut
  have F__law_added := f__law_added (Pg := Pg) (w := w) (base := base) T F__law_cut (fun_mk (st := s__law_added) l19 c19 k19) (PySem.W.mg_of X G a19) i__law_added
  have F__law_times := f__law_times (Pg := Pg) (w := w) (base := base) T F__law_cut (fun_mk (st := s__law_times) l20 c20 k20) (PySem.W.mg_of X G a20) i__law_times
  have F__law_total := f__law_total (Pg := Pg) (w := w) (base := base) T F__law_added (fun_mk (st := s__law_total) l21 c21 k21) (PySem.W.mg_of X G a21) i__law_total
  have F__law_number := f__law_number (Pg := Pg) (w := w) (base := base) T F__law_cut F__law_take (fun_mk (st := s__law_number) l22 c22 k22) (PySem.W.mg_of X G a22) i__law_number
  have F__law_power := f__law_power (Pg := Pg) (w := w) (base := base) T F__law_times (fun_mk (st := s__law_power) l23 c23 k23) (PySem.W.mg_of X G a23) i__law_power
  have F__law_sign := f__law_sign (Pg := Pg) (w := w) (base := base) T (fun_mk (st := s__law_sign) l24 c24 k24) (PySem.W.mg_of X G a24) i__law_sign
  have F__law_pairs := f__law_pairs (Pg := Pg) (w := w) (base := base) T F__law_take F__law_cut F__law_number (fun_mk (st := s__law_pairs) l25 c25 k25) (PySem.W.mg_of X G a25) i__law_pairs
  have F__law_product := f__law_product (Pg := Pg) (w := w) (base := base) T F__law_times F__law_power (fun_mk (st := s__law_product) l26 c26 k26) (PySem.W.mg_of X G a26) i__law_product
  have F__law_turned := f__law_turned (Pg := Pg) (w := w) (base := base) T (fun_mk (st := s__law_turned) l27 c27 k27) (PySem.W.mg_of X G a27) i__law_turned
  have F__law_is_compared_right := f__law_is_compared_right (Pg := Pg) (w := w) (base := base) T F_powers_compared F__law_sign F__law_product F__law_turned F__law_of F__law_times (fun_mk (st := s__law_is_compared_right) l28 c28 k28) (PySem.W.mg_of X G a28) i__law_is_compared_right
  have F__law_are_roots_right := f__law_are_roots_right (Pg := Pg) (w := w) (base := base) T F__law_of F__law_take F__law_power F_common_root F__law_total F__law_cut F_powers_compared (fun_mk (st := s__law_are_roots_right) l29 c29 k29) (PySem.W.mg_of X G a29) i__law_are_roots_right
  have F__law_right := f__law_right (Pg := Pg) (w := w) (base := base) T F__law_pairs F__law_is_compared_right F__law_are_roots_right (fun_mk (st := s__law_right) l30 c30 k30) (PySem.W.mg_of X G a30) i__law_right
  have F_law := f_law (Pg := Pg) (w := w) (base := base) T F__law_cells F__law_pot F__law_right (fun_mk (st := s_law) l31 c31 k31) (PySem.W.mg_of X G a31) i_law
  exact F_law
end K28
open PySem PySem.W PyProof.Rows
set_option maxHeartbeats 0 in
theorem PySem.Challenge.cw_themomentitturned_k28_whole_powers_and_r_holds : PySem.Challenge.rw_themomentitturned_k28_whole_powers_and_r.Holds := by
  w_on; o_law; k_head; (case hw => w_witness2)
  k_fill
  refine DL.dl_walk (l := PySem.Challenge.rw_themomentitturned_k28_whole_powers_and_r) (n := 63) (k := 7) (x := "script") (dsp := K28.sp_law) rfl (by decide) rfl ⟨⟨rfl, by decide, by decide⟩, rfl⟩ (fun w h Y => PySem.W.kIn_of Y) ?F (fun ns hl => ⟨ns, rfl, hl, fun _ => rfl⟩)
  case F =>
    intro w mg h base KX G _ _
    refine' K28.all_fn KX G ?a0 ?l0 ?c0 ?k0 ?a1 ?l1 ?c1 ?k1 ?a2 ?l2 ?c2 ?k2 ?a3 ?l3 ?c3 ?k3 ?a4 ?l4 ?c4 ?k4 ?a5 ?l5 ?c5 ?k5 ?a6 ?l6 ?c6 ?k6 ?a7 ?l7 ?c7 ?k7 ?a8 ?l8 ?c8 ?k8 ?a9 ?l9 ?c9 ?k9 ?a10 ?l10 ?c10 ?k10 ?a11 ?l11 ?c11 ?k11 ?a12 ?l12 ?c12 ?k12 ?a13 ?l13 ?c13 ?k13 ?a14 ?l14 ?c14 ?k14 ?a15 ?l15 ?c15 ?k15 ?a16 ?l16 ?c16 ?k16 ?a17 ?l17 ?c17 ?k17 ?a18 ?l18 ?c18 ?k18 ?a19 ?l19 ?c19 ?k19 ?a20 ?l20 ?c20 ?k20 ?a21 ?l21 ?c21 ?k21 ?a22 ?l22 ?c22 ?k22 ?a23 ?l23 ?c23 ?k23 ?a24 ?l24 ?c24 ?k24 ?a25 ?l25 ?c25 ?k25 ?a26 ?l26 ?c26 ?k26 ?a27 ?l27 ?c27 ?k27 ?a28 ?l28 ?c28 ?k28 ?a29 ?l29 ?c29 ?k29 ?a30 ?l30 ?c30 ?k30 ?a31 ?l31 ?c31 ?k31 ?z0 ?z1 ?z2 ?z3 ?z4 ?z5 ?z6 ?z7 ?z8 ?z9 ?z10 ?z11 ?z12 ?z13 ?z14 ?z15 ?z16 ?i0 ?i1 ?t0 ?u0
    (case a0 => k_is); (case l0 => k_is); (case c0 => k_is); (case k0 => k_is)
    (case a1 => k_is); (case l1 => k_is); (case c1 => k_is); (case k1 => k_is)
    (case a2 => k_is); (case l2 => k_is); (case c2 => k_is); (case k2 => k_is)
    (case a3 => k_is); (case l3 => k_is); (case c3 => k_is); (case k3 => k_is)
    (case a4 => k_is); (case l4 => k_is); (case c4 => k_is); (case k4 => k_is)
    (case a5 => k_is); (case l5 => k_is); (case c5 => k_is); (case k5 => k_is)
    (case a6 => k_is); (case l6 => k_is); (case c6 => k_is); (case k6 => k_is)
    (case a7 => k_is); (case l7 => k_is); (case c7 => k_is); (case k7 => k_is)
    (case a8 => k_is); (case l8 => k_is); (case c8 => k_is); (case k8 => k_is)
    (case a9 => k_is); (case l9 => k_is); (case c9 => k_is); (case k9 => k_is)
    (case a10 => k_is); (case l10 => k_is); (case c10 => k_is); (case k10 => k_is)
    (case a11 => k_is); (case l11 => k_is); (case c11 => k_is); (case k11 => k_is)
    (case a12 => k_is); (case l12 => k_is); (case c12 => k_is); (case k12 => k_is)
    (case a13 => k_is); (case l13 => k_is); (case c13 => k_is); (case k13 => k_is)
    (case a14 => k_is); (case l14 => k_is); (case c14 => k_is); (case k14 => k_is)
    (case a15 => k_is); (case l15 => k_is); (case c15 => k_is); (case k15 => k_is)
    (case a16 => k_is); (case l16 => k_is); (case c16 => k_is); (case k16 => k_is)
    (case a17 => k_is); (case l17 => k_is); (case c17 => k_is); (case k17 => k_is)
    (case a18 => k_is); (case l18 => k_is); (case c18 => k_is); (case k18 => k_is)
    (case a19 => k_is); (case l19 => k_is); (case c19 => k_is); (case k19 => k_is)
    (case a20 => k_is); (case l20 => k_is); (case c20 => k_is); (case k20 => k_is)
    (case a21 => k_is); (case l21 => k_is); (case c21 => k_is); (case k21 => k_is)
    (case a22 => k_is); (case l22 => k_is); (case c22 => k_is); (case k22 => k_is)
    (case a23 => k_is); (case l23 => k_is); (case c23 => k_is); (case k23 => k_is)
    (case a24 => k_is); (case l24 => k_is); (case c24 => k_is); (case k24 => k_is)
    (case a25 => k_is); (case l25 => k_is); (case c25 => k_is); (case k25 => k_is)
    (case a26 => k_is); (case l26 => k_is); (case c26 => k_is); (case k26 => k_is)
    (case a27 => k_is); (case l27 => k_is); (case c27 => k_is); (case k27 => k_is)
    (case a28 => k_is); (case l28 => k_is); (case c28 => k_is); (case k28 => k_is)
    (case a29 => k_is); (case l29 => k_is); (case c29 => k_is); (case k29 => k_is)
    (case a30 => k_is); (case l30 => k_is); (case c30 => k_is); (case k30 => k_is)
    (case a31 => k_is); (case l31 => k_is); (case c31 => k_is); (case k31 => k_is)
    (case z0 => k_is); (case z1 => k_is); (case z2 => k_is); (case z3 => k_is)
    (case z4 => k_is); (case z5 => k_is); (case z6 => k_is); (case z7 => k_is)
    (case z8 => k_is); (case z9 => k_is); (case z10 => k_is); (case z11 => k_is)
    (case z12 => k_is); (case z13 => k_is); (case z14 => k_is); (case z15 => k_is)
    (case z16 => k_is); (case i0 => k_is); (case i1 => k_is); (case t0 => k_is)
    (case u0 => k_is)
