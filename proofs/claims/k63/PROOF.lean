import PyProof.Rows.All
import Wide.All
import OpenK.AllK
import Wide.FinOn
import HandS.ForMost
import HandS.IsInst
import HandS.Wide
import HandS.More
import HandS.Style
import HandS.TupAny
import HandS.TupMul
import HandS.Deep
import HandS.Text
import PyProof.Rows.IntBool
import HandS.Iter
import HandS.Zip
import HandS.Conv
import KE.KRevSl
import HandS.Strs
import HandS.Set
import HandS.SetFor
import HandS.TupSets
import HandS.StrMore
import HandS.FStr
import HandS.Codes
import HandS.EndTab
import HandS.HeadWalk
import KE.DataMinKey
import KE.KNestM
import KE.GoesMore
import KE.GoesEnum
import HandS.Steps
import PySem.Challenge.RW_panelead_k63_pictures_laid
set_option Elab.async false
set_option linter.all false
set_option maxRecDepth 100000
set_option maxHeartbeats 4000000
set_option autoImplicit false
/-! Px: a logic of typed values over the layer: what an expression gives is said as plain data; the heap stays behind the scenes. -/
namespace Px
open PySem PySem.Spec PyProof.Rows L2

/-! ### semantic readings -/
def wE (X : Cx) (e : Expr) : TE := fun σ H Q => ∀ pins s, Inv X pins σ H s → wpAny (model X.prog X.w) X.A (eval e X.env) (EP X pins σ Q) X.xe s
def wT (X : Cx) (e : Expr) : TT := fun σ H Q => ∀ pins s, Inv X pins σ H s → wpAny (model X.prog X.w) X.A (isTrue e X.env (eval e X.env)) (TP X pins σ Q) X.xe s
def wA (X : Cx) (es : List Expr) : TA := fun σ H Q => ∀ pos pins s, Inv X pins σ H s → wpAny (model X.prog X.w) X.A (spliced (backTo pos (starEach es X.env))) (AP X pins σ Q) X.xe s
def wS (X : Cx) (st : Stmt) : TS := fun D σ H => ∀ pins s, Inv X pins σ H s → wpAny (model X.prog X.w) X.A (exec st X.env) (SP X pins D) X.xe s
def wSs (X : Cx) (st : List Stmt) : TS := fun D σ H => ∀ pins s, Inv X pins σ H s → wpAny (model X.prog X.w) X.A (execs st X.env) (SP X pins D) X.xe s
section
variable {X : Cx}
theorem peW {e : Expr} : PE X e (wE X e) := ⟨fun pins s σ H Q I h => h pins s I⟩
theorem ptW {e : Expr} : PT X e (wT X e) := ⟨fun pins s σ H Q I h => h pins s I⟩
theorem paW {es : List Expr} : PA X es (wA X es) := ⟨fun pos pins s σ H Q I h => h pos pins s I⟩
theorem psW {st : Stmt} : PS X st (wS X st) := ⟨fun pins s σ H D I h => h pins s I⟩
theorem pssW {st : List Stmt} : PSs X st (wSs X st) := ⟨fun pins s σ H D I h => h pins s I⟩
theorem of_pe {e : Expr} {t : TE} (h : PE X e t) {σ : L2.St} {H : Hp} {Q : VK} (q : t σ H Q) : wE X e σ H Q := fun pins s I => h.run pins s σ H Q I q
theorem of_pt {e : Expr} {t : TT} (h : PT X e t) {σ : L2.St} {H : Hp} {Q : Bool → Hp → Prop} (q : t σ H Q) : wT X e σ H Q := fun pins s I => h.run pins s σ H Q I q
theorem of_pa {es : List Expr} {t : TA} (h : PA X es t) {σ : L2.St} {H : Hp} {Q : List V → Hp → Prop} (q : t σ H Q) : wA X es σ H Q := fun pos pins s I => h.run pos pins s σ H Q I q
theorem of_ps {st : Stmt} {t : TS} (h : PS X st t) {σ : L2.St} {H : Hp} {D : L2.Ends} (q : t D σ H) : wS X st D σ H := fun pins s I => h.run pins s σ H D I q
theorem of_pss {st : List Stmt} {t : TS} (h : PSs X st t) {σ : L2.St} {H : Hp} {D : L2.Ends} (q : t D σ H) : wSs X st D σ H := fun pins s I => h.run pins s σ H D I q
theorem SP.imp {pins : List (Addr × Obj)} {D D' : L2.Ends} (h1 : ∀ σ H, D.nx σ H → D'.nx σ H) (h2 : ∀ v H, D.rt v H → D'.rt v H) (h3 : ∀ σ H, D.bk σ H → D'.bk σ H) (h4 : ∀ σ H, D.ct σ H → D'.ct σ H) :
    ∀ (f : Flow) (s : Shared), SP X pins D f s → SP X pins D' f s := fun f s h => by
  cases f with
  | next => obtain ⟨σ, H, I, q⟩ := h; exact ⟨σ, H, I, h1 _ _ q⟩
  | brk => obtain ⟨σ, H, I, q⟩ := h; exact ⟨σ, H, I, h3 _ _ q⟩
  | cont => obtain ⟨σ, H, I, q⟩ := h; exact ⟨σ, H, I, h4 _ _ q⟩
  | ret u => obtain ⟨v, σ, H, I, r, q⟩ := h; exact ⟨v, σ, H, I, r, h2 _ _ q⟩
theorem wS_mono {st : Stmt} {D D' : L2.Ends} {σ : L2.St} {H : Hp} (h : wS X st D σ H) (h1 : ∀ σ H, D.nx σ H → D'.nx σ H) (h2 : ∀ v H, D.rt v H → D'.rt v H) (h3 : ∀ σ H, D.bk σ H → D'.bk σ H) (h4 : ∀ σ H, D.ct σ H → D'.ct σ H) : wS X st D' σ H :=
  fun pins s I => thn (h pins s I) (SP.imp h1 h2 h3 h4)
theorem wSs_mono {st : List Stmt} {D D' : L2.Ends} {σ : L2.St} {H : Hp} (h : wSs X st D σ H) (h1 : ∀ σ H, D.nx σ H → D'.nx σ H) (h2 : ∀ v H, D.rt v H → D'.rt v H) (h3 : ∀ σ H, D.bk σ H → D'.bk σ H) (h4 : ∀ σ H, D.ct σ H → D'.ct σ H) : wSs X st D' σ H :=
  fun pins s I => thn (h pins s I) (SP.imp h1 h2 h3 h4)
end

/-! ### typed values -/
structure Ty (K : PySem.W.Frag) (α : Type) where
  r : Hp → V → α → Prop
  mono : ∀ {F F' : Hp} {v : V} {a : α}, Same F F' → r F v a → r F' v a
def All2 {α β : Type} (R : α → β → Prop) : List α → List β → Prop
  | [], [] => True
  | x :: xs, y :: ys => R x y ∧ All2 R xs ys
  | _, _ => False
theorem All2.length {α β : Type} {R : α → β → Prop} : ∀ {xs : List α} {ys : List β}, All2 R xs ys → xs.length = ys.length
  | [], [], _ => rfl
  | _ :: _, _ :: _, h => congrArg (· + 1) (All2.length h.2)
theorem All2.imp {α β : Type} {R S : α → β → Prop} (f : ∀ x y, R x y → S x y) : ∀ {xs : List α} {ys : List β}, All2 R xs ys → All2 S xs ys
  | [], [], _ => trivial
  | _ :: _, _ :: _, h => ⟨f _ _ h.1, All2.imp f h.2⟩
theorem All2.get {α β : Type} {R : α → β → Prop} : ∀ {xs : List α} {ys : List β} {i : Nat} {x : α}, All2 R xs ys → xs[i]? = some x → ∃ y, ys[i]? = some y ∧ R x y
  | [], _, _, _, _, e => by simp at e
  | _ :: _, _ :: _, 0, _, h, e => by simp at e; subst e; exact ⟨_, rfl, h.1⟩
  | _ :: _, _ :: _, i + 1, x, h, e => by
    obtain ⟨y, h1, h2⟩ := All2.get (i := i) (x := x) h.2 (by simpa using e)
    exact ⟨y, by simpa using h1, h2⟩
theorem All2.getR {α β : Type} {R : α → β → Prop} : ∀ {xs : List α} {ys : List β} {i : Nat} {y : β}, All2 R xs ys → ys[i]? = some y → ∃ x, xs[i]? = some x ∧ R x y
  | [], [], _, _, _, e => by simp at e
  | _ :: _, _ :: _, 0, _, h, e => by simp at e; subst e; exact ⟨_, rfl, h.1⟩
  | _ :: _, _ :: _, i + 1, x, h, e => by
    obtain ⟨y, h1, h2⟩ := All2.getR (i := i) (y := x) h.2 (by simpa using e)
    exact ⟨y, by simpa using h1, h2⟩
theorem All2.append {α β : Type} {R : α → β → Prop} : ∀ {xs xs' : List α} {ys ys' : List β}, All2 R xs ys → All2 R xs' ys' → All2 R (xs ++ xs') (ys ++ ys')
  | [], _, [], _, _, h => h
  | _ :: _, _, _ :: _, _, h, h' => ⟨h.1, All2.append h.2 h'⟩
theorem All2.take {α β : Type} {R : α → β → Prop} : ∀ {xs : List α} {ys : List β} (n : Nat), All2 R xs ys → All2 R (xs.take n) (ys.take n)
  | [], [], n, _ => by simp [All2]
  | _ :: _, _ :: _, 0, _ => trivial
  | _ :: _, _ :: _, n + 1, h => ⟨h.1, All2.take n h.2⟩
theorem All2.drop {α β : Type} {R : α → β → Prop} : ∀ {xs : List α} {ys : List β} (n : Nat), All2 R xs ys → All2 R (xs.drop n) (ys.drop n)
  | [], [], n, _ => by simp [All2]
  | _ :: _, _ :: _, 0, h => h
  | _ :: _, _ :: _, n + 1, h => All2.drop n h.2
theorem All2.reverse {α β : Type} {R : α → β → Prop} : ∀ {xs : List α} {ys : List β}, All2 R xs ys → All2 R xs.reverse ys.reverse
  | [], [], _ => trivial
  | x :: xs, y :: ys, h => by
    rw [List.reverse_cons, List.reverse_cons]
    exact All2.append (All2.reverse h.2) ⟨h.1, trivial⟩
theorem All2.map_left {α β γ : Type} {R : α → β → Prop} {f : γ → α} : ∀ {xs : List γ} {ys : List β}, All2 (fun x y => R (f x) y) xs ys → All2 R (xs.map f) ys
  | [], [], _ => trivial
  | _ :: _, _ :: _, h => ⟨h.1, All2.map_left h.2⟩
/-- what a list's values are if each is told by its datum -/
theorem All2.eq_map {α β : Type} {R : α → β → Prop} {f : β → α} (h : ∀ x y, R x y → x = f y) : ∀ {xs : List α} {ys : List β}, All2 R xs ys → xs = ys.map f
  | [], [], _ => rfl
  | _ :: _, _ :: _, q => by rw [List.map_cons, ← h _ _ q.1, ← All2.eq_map h q.2]
theorem All2.eqR_map {α β : Type} {R : α → β → Prop} {f : α → β} (h : ∀ x y, R x y → y = f x) : ∀ {xs : List α} {ys : List β}, All2 R xs ys → ys = xs.map f
  | [], [], _ => rfl
  | _ :: _, _ :: _, q => by rw [List.map_cons, ← h _ _ q.1, ← All2.eqR_map h q.2]
theorem All2.of_map {α β : Type} {R : α → β → Prop} {f : β → α} (h : ∀ y, R (f y) y) : ∀ (ys : List β), All2 R (ys.map f) ys
  | [] => trivial
  | _ :: r => ⟨h _, All2.of_map h r⟩

section
variable {K : PySem.W.Frag} {α β γ δ ε : Type}
def tInt : Ty K Int := ⟨fun _ v a => v = .int a, fun _ h => h⟩
def tBool : Ty K Bool := ⟨fun _ v a => v = .bl a, fun _ h => h⟩
def tStr : Ty K Str := ⟨fun _ v a => v = .str a, fun _ h => h⟩
def tNon : Ty K Unit := ⟨fun _ v _ => v = .non, fun _ h => h⟩
theorem sqT_mono {F F' : Hp} {p : Addr} {xs : List V} (e : Same F F') (h : SqT K F p xs) : SqT K F' p xs := by
  rcases h with (h | ⟨o, h⟩) | h
  · exact .inl (.inl (e _ _ h))
  · exact .inl (.inr ⟨o, e _ _ h⟩)
  · exact .inr h
/-- a tuple, what its items are -/
def tupTy (R : Hp → List V → α → Prop) (m : ∀ {F F' : Hp} {vs : List V} {a : α}, Same F F' → R F vs a → R F' vs a) : Ty K α :=
  ⟨fun F v a => ∃ p xs, v = .ref p ∧ SqT K F p xs ∧ R F xs a, fun e ⟨p, xs, h1, h2, h3⟩ => ⟨p, xs, h1, sqT_mono e h2, m e h3⟩⟩
def tTup (A : Ty K α) : Ty K (List α) := tupTy (fun F xs as => All2 (A.r F) xs as) fun e h => All2.imp (fun _ _ => A.mono e) h
def tT1 (A : Ty K α) : Ty K α := tupTy (fun F xs a => ∃ x, xs = [x] ∧ A.r F x a) fun e ⟨x, h, h1⟩ => ⟨x, h, A.mono e h1⟩
def tT2 (A : Ty K α) (B : Ty K β) : Ty K (α × β) := tupTy (fun F xs a => ∃ x y, xs = [x, y] ∧ A.r F x a.1 ∧ B.r F y a.2) fun e ⟨x, y, h, h1, h2⟩ => ⟨x, y, h, A.mono e h1, B.mono e h2⟩
def tT3 (A : Ty K α) (B : Ty K β) (C : Ty K γ) : Ty K (α × β × γ) := tupTy (fun F xs a => ∃ x y z, xs = [x, y, z] ∧ A.r F x a.1 ∧ B.r F y a.2.1 ∧ C.r F z a.2.2)
  fun e ⟨x, y, z, h, h1, h2, h3⟩ => ⟨x, y, z, h, A.mono e h1, B.mono e h2, C.mono e h3⟩
def tT4 (A : Ty K α) (B : Ty K β) (C : Ty K γ) (D : Ty K δ) : Ty K (α × β × γ × δ) := tupTy (fun F xs a => ∃ x y z u, xs = [x, y, z, u] ∧ A.r F x a.1 ∧ B.r F y a.2.1 ∧ C.r F z a.2.2.1 ∧ D.r F u a.2.2.2)
  fun e ⟨x, y, z, u, h, h1, h2, h3, h4⟩ => ⟨x, y, z, u, h, A.mono e h1, B.mono e h2, C.mono e h3, D.mono e h4⟩
theorem sqL_mono {F F' : Hp} {p : Addr} {xs : List V} (e : Same F F') (h : SqL K F p xs) : SqL K F' p xs := e.seq h
/-- a list, made in the run -/
def tLst (A : Ty K α) : Ty K (List α) := ⟨fun F v as => ∃ p xs, v = .ref p ∧ F p = some (.lst xs) ∧ All2 (A.r F) xs as, fun e ⟨p, xs, h1, h2, h3⟩ => ⟨p, xs, h1, e _ _ h2, All2.imp (fun _ _ => A.mono e) h3⟩⟩
/-- a list of any make (the script) -/
def tSeq (A : Ty K α) : Ty K (List α) := ⟨fun F v as => ∃ p xs, v = .ref p ∧ SqL K F p xs ∧ All2 (A.r F) xs as, fun e ⟨p, xs, h1, h2, h3⟩ => ⟨p, xs, h1, sqL_mono e h2, All2.imp (fun _ _ => A.mono e) h3⟩⟩
theorem seq_of_lst {A : Ty K α} {F : Hp} {v : V} {as : List α} (h : (tLst A).r F v as) : (tSeq A).r F v as := let ⟨p, xs, h1, h2, h3⟩ := h; ⟨p, xs, h1, .inl (.inl h2), h3⟩
def tOpt (A : Ty K α) : Ty K (Option α) := ⟨fun F v a => match a with | none => v = .non | some x => v ≠ .non ∧ A.r F v x, fun {_ _ _ a} e h => match a, h with | none, h => h | some _, h => ⟨h.1, A.mono e h.2⟩⟩
theorem SqT.up {F H : Hp} {p : Addr} {xs : List V} (e : Same F H) (h : SqT K F p xs) : SqT K H p xs := sqT_mono e h
end

/-! ### what a slot holds -/
structure Ent where
  ok : V → (Addr → Prop) → Hp → Hp → Prop
  frz : Bool
  vol : Bool
  st : ∀ {v ps F F' H H'}, ok v ps F H → Same F F' → (∀ p, ps p → H' p = H p) → ok v ps F' H'
  fz : frz = true → ∀ {v ps F H}, ok v ps F H → ∀ p, ¬ ps p
def val {K : PySem.W.Frag} {α : Type} (T : Ty K α) (a : α) : Ent :=
  ⟨fun v ps F _ => (∀ p, ¬ ps p) ∧ T.r F v a, true, false, fun h e _ => ⟨h.1, T.mono e h.2⟩, fun _ _ _ _ _ h => h.1⟩
/-- an own list of frozen things -/
def ownL {K : PySem.W.Frag} {α : Type} (T : Ty K α) (as : List α) : Ent :=
  ⟨fun v ps F H => ∃ p vs, v = .ref p ∧ (∀ q, ps q ↔ q = p) ∧ H p = some (.lst vs) ∧ All2 (T.r F) vs as, false, false,
   fun ⟨p, vs, h1, h2, h3, h4⟩ e k => ⟨p, vs, h1, h2, by rw [k p ((h2 p).mpr rfl)]; exact h3, All2.imp (fun _ _ => T.mono e) h4⟩, fun h => nomatch h⟩

abbrev Gm := List (Option Ent)
structure Base where
  F : Hp
  H : Hp
  vol : Addr → Prop
  pin : Addr → Prop
  loc : Addr → Prop := fun _ => False
structure Sta (B : Base) (Γ : Gm) (σ : L2.St) (F H : Hp) : Prop where
  len : Γ.length = σ.length
  sub : Same F H
  ext : Same B.F F
  keep : ∀ b o, B.H b = some o → ¬ B.vol b → H b = some o
  dom : ∀ b, B.H b ≠ none → H b ≠ none
  new : ∀ b, B.H b ≠ none → B.F b = none → F b = none
  pnd : ∀ b, B.pin b → H b ≠ none ∧ F b = none
  own : ∃ O : Nat → Addr → Prop, (∀ i p, O i p → F p = none ∧ H p ≠ none ∧ (B.H p = none ∨ B.vol p) ∧ ¬ B.pin p) ∧ (∀ i j p, O i p → O j p → i = j) ∧
    ∀ (i : Nat) (e : Ent), Γ[i]? = some (some e) → ∃ v, σ[i]? = some (some v) ∧ e.ok v (O i) F H ∧ (e.vol = false → ∀ p, O i p → B.H p = none ∨ B.loc p)
/-- things are made anew, none is changed -/
structure Step (F H F' H' : Hp) : Prop where
  ff : Same F F'
  hh : Same H H'
  sub : Same F' H'
  new : ∀ b, H b ≠ none → F b = none → F' b = none
theorem Step.refl {F H : Hp} (h : Same F H) : Step F H F H := ⟨Same.refl _, Same.refl _, h, fun _ _ h => h⟩
theorem Same.dom {H H' : Hp} (h : Same H H') {b : Addr} (n : H b ≠ none) : H' b ≠ none := by
  cases q : H b with
  | none => exact absurd q n
  | some o => rw [h b o q]; exact fun z => nomatch z
theorem Step.trans {F H F1 H1 F2 H2 : Hp} (a : Step F H F1 H1) (b : Step F1 H1 F2 H2) : Step F H F2 H2 :=
  ⟨a.ff.trans b.ff, a.hh.trans b.hh, b.sub, fun c h1 h2 => b.new c (Same.dom a.hh h1) (a.new c h1 h2)⟩
theorem same_new {H : Hp} {p : Addr} {o : HO} (h : H p = none) : Same H (upd H p o) := fun b x e => by
  rw [upd_ne (ne_of_none e h)]
  exact e
theorem same_none {F H : Hp} (h : Same F H) {p : Addr} (e : H p = none) : F p = none := h.free e
/-- a new frozen thing -/
theorem Step.frozen {F H : Hp} (h : Same F H) {p : Addr} {o : HO} (e : H p = none) : Step F H (upd F p o) (upd H p o) :=
  ⟨same_new (h.free e), same_new e, fun b x q => by
    by_cases hb : b = p
    · subst hb; rw [upd_same] at q ⊢; exact q
    · rw [upd_ne hb] at q ⊢; exact h _ _ q, fun b n1 n2 => by
    have hb : b ≠ p := fun z => n1 (by rw [z]; exact e)
    rw [upd_ne hb]; exact n2⟩
/-- a new thing, not frozen -/
theorem Step.made {F H : Hp} (h : Same F H) {p : Addr} {o : HO} (e : H p = none) : Step F H F (upd H p o) :=
  ⟨Same.refl _, same_new e, h.trans (same_new e), fun b _ n2 => n2⟩
section
variable {B : Base} {Γ : Gm} {σ : L2.St} {F H F' H' : Hp}
theorem Sta.step (S : Sta B Γ σ F H) (e : Step F H F' H') : Sta B Γ σ F' H' := by
  obtain ⟨O, h1, h2, h3⟩ := S.own
  refine ⟨S.len, e.sub, S.ext.trans e.ff, fun b o q n => e.hh _ _ (S.keep b o q n), fun b n => Same.dom e.hh (S.dom b n), fun b n1 n2 => e.new b (S.dom b n1) (S.new b n1 n2), fun b z => ⟨Same.dom e.hh (S.pnd b z).1, e.new b (S.pnd b z).1 (S.pnd b z).2⟩, O, fun i p hp => ?_, h2, fun i x hx => ?_⟩
  · obtain ⟨a, b, c, d⟩ := h1 i p hp
    exact ⟨e.new p b a, Same.dom e.hh b, c, d⟩
  · obtain ⟨v, hv, ho, hw⟩ := h3 i x hx
    refine ⟨v, hv, x.st ho e.ff fun p hp => ?_, hw⟩
    obtain ⟨a, b, c, d⟩ := h1 i p hp
    cases q : H p with
    | none => exact absurd q b
    | some o => exact e.hh _ _ q
/-- a slot's value known to be typed is set -/
theorem Sta.set {i : Nat} {v : V} {e : Ent} (S : Sta B Γ σ F H) (hi : i < Γ.length) (h : e.ok v (fun _ => False) F H) : Sta B (Γ.set i (some e)) (σ.set i (some v)) F H := by
  obtain ⟨O, h1, h2, h3⟩ := S.own
  refine ⟨by rw [List.length_set, List.length_set]; exact S.len, S.sub, S.ext, S.keep, S.dom, S.new, S.pnd, fun j p => j ≠ i ∧ O j p, fun j p hp => h1 j p hp.2, fun j k p hp hq => h2 j k p hp.2 hq.2, fun j x hx => ?_⟩
  by_cases hj : j = i
  · subst hj
    rw [List.getElem?_set_self hi] at hx
    cases hx
    refine ⟨v, List.getElem?_set_self (by rw [← S.len]; exact hi), ?_, fun _ p hp => absurd rfl hp.1⟩
    have e0 : (fun p => j ≠ j ∧ O j p) = (fun _ => False) := by funext p; simp
    show e.ok v (fun p => j ≠ j ∧ O j p) F H
    rw [e0]
    exact h
  · rw [List.getElem?_set_ne (Ne.symm hj)] at hx
    obtain ⟨w, hw, ho, hz⟩ := h3 j x hx
    refine ⟨w, by rw [List.getElem?_set_ne (Ne.symm hj)]; exact hw, ?_, fun b p hp => hz b p hp.2⟩
    have e0 : (fun p => j ≠ i ∧ O j p) = O j := by funext p; simp [hj]
    show x.ok w (fun p => j ≠ i ∧ O j p) F H
    rw [e0]
    exact ho
/-- a new thing, pinned -/
theorem Sta.make {p : Addr} {o : HO} (S : Sta B Γ σ F H) (e : H p = none) : Sta { B with pin := fun q => q = p ∨ B.pin q } Γ σ F (upd H p o) ∧ B.H p = none ∧ ¬ B.pin p ∧ F p = none := by
  have hb : B.H p = none := by
    cases z : B.H p with
    | none => rfl
    | some o => exact absurd e (S.dom p (by rw [z]; exact fun y => nomatch y))
  have hf : F p = none := S.sub.free e
  refine ⟨?_, hb, fun z => (S.pnd p z).1 e, hf⟩
  have st := Step.made (o := o) S.sub e
  obtain ⟨O, h1, h2, h3⟩ := S.own
  have S2 := S.step st
  refine ⟨S.len, S2.sub, S2.ext, S2.keep, S2.dom, S2.new, fun q z => ?_, O, fun i q hq => ?_, h2, fun i x hx => ?_⟩
  · rcases z with z | z
    · subst z; exact ⟨by rw [upd_same]; (exact fun y => nomatch y), hf⟩
    · exact ⟨Same.dom st.hh (S.pnd q z).1, (S.pnd q z).2⟩
  · obtain ⟨a, b, c, d⟩ := h1 i q hq
    refine ⟨a, Same.dom st.hh b, c, fun z => ?_⟩
    rcases z with z | z
    · rw [z] at b; exact b e
    · exact d z
  · obtain ⟨v, hv, ho, hw⟩ := h3 i x hx
    refine ⟨v, hv, x.st ho (Same.refl _) fun q hq => ?_, hw⟩
    obtain ⟨a, b, c, d⟩ := h1 i q hq
    exact upd_ne fun z => b (by rw [z]; exact e)
theorem Sta.unpin {p : Addr} (S : Sta { B with pin := fun q => q = p ∨ B.pin q } Γ σ F H) : Sta B Γ σ F H := by
  obtain ⟨O, h1, h2, h3⟩ := S.own
  refine ⟨S.len, S.sub, S.ext, S.keep, S.dom, S.new, fun q z => S.pnd q (.inr z), O, fun i q hq => ?_, h2, h3⟩
  obtain ⟨a, b, c, d⟩ := h1 i q hq
  exact ⟨a, b, c, fun z => d (.inr z)⟩
/-- the pinned thing is changed -/
theorem Sta.pinUpd {p : Addr} {o : HO} (S : Sta { B with pin := fun q => q = p ∨ B.pin q } Γ σ F H) (e : B.H p = none) (f : F p = none) : Sta { B with pin := fun q => q = p ∨ B.pin q } Γ σ F (upd H p o) := by
  obtain ⟨O, h1, h2, h3⟩ := S.own
  have nop : ∀ i, ¬ O i p := fun i hp => (h1 i p hp).2.2.2 (.inl rfl)
  refine ⟨S.len, fun b x q => by rw [upd_ne (ne_of_none q f)]; exact S.sub b x q, S.ext, fun b x q n => by rw [upd_ne (ne_of_none q e)]; exact S.keep b x q n, fun b n => ?_, S.new, fun q z => ⟨?_, (S.pnd q z).2⟩, O, fun i q hq => ?_, h2, fun i x hx => ?_⟩
  · have hb : b ≠ p := fun z => n (by rw [z]; exact e)
    rw [upd_ne hb]; exact S.dom b n
  · by_cases hb : q = p
    · rw [hb, upd_same]; exact fun y => nomatch y
    · rw [upd_ne hb]; exact (S.pnd q z).1
  · obtain ⟨a, b, c, d⟩ := h1 i q hq
    have hq' : q ≠ p := fun z => nop i (z ▸ hq)
    exact ⟨a, by rw [upd_ne hq']; exact b, c, d⟩
  · obtain ⟨v, hv, ho, hw⟩ := h3 i x hx
    refine ⟨v, hv, x.st ho (Same.refl _) fun q hq => ?_, hw⟩
    have hq' : q ≠ p := fun z => nop i (z ▸ hq)
    rw [upd_ne hq']
/-- what was pinned becomes a slot's own -/
theorem Sta.take {i : Nat} {p : Addr} {e : Ent} (S : Sta { B with pin := fun q => q = p ∨ B.pin q } Γ σ F H) (hi : i < Γ.length) (h : e.ok (.ref p) (fun q => q = p) F H) (h1' : F p = none) (h2' : H p ≠ none) (h3' : B.H p = none) (h4' : ¬ B.pin p) :
    Sta B (Γ.set i (some e)) (σ.set i (some (.ref p))) F H := by
  obtain ⟨O, h1, h2, h3⟩ := S.own
  have nop : ∀ i, ¬ O i p := fun i hp => (h1 i p hp).2.2.2 (.inl rfl)
  refine ⟨by rw [List.length_set, List.length_set]; exact S.len, S.sub, S.ext, S.keep, S.dom, S.new, fun q z => S.pnd q (.inr z), fun j q => if j = i then q = p else O j q, fun j q hq => ?_, fun j k q hp hq => ?_, fun j x hx => ?_⟩
  · by_cases hj : j = i
    · simp only [hj, if_true] at hq
      subst hq
      exact ⟨h1', h2', .inl h3', h4'⟩
    · simp only [hj, if_false] at hq
      obtain ⟨a, b, c, d⟩ := h1 j q hq
      exact ⟨a, b, c, fun z => d (.inr z)⟩
  · by_cases hj : j = i
    · by_cases hk : k = i
      · rw [hj, hk]
      · simp only [hj, if_true] at hp
        simp only [hk, if_false] at hq
        subst hp
        exact absurd hq (nop k)
    · by_cases hk : k = i
      · simp only [hj, if_false] at hp
        simp only [hk, if_true] at hq
        subst hq
        exact absurd hp (nop j)
      · simp only [hj, if_false] at hp
        simp only [hk, if_false] at hq
        exact h2 j k q hp hq
  · by_cases hj : j = i
    · subst hj
      rw [List.getElem?_set_self hi] at hx
      cases hx
      refine ⟨.ref p, List.getElem?_set_self (by rw [← S.len]; exact hi), ?_, fun _ q hq => ?_⟩
      · simp only [if_true]
        exact h
      · simp only [if_true] at hq
        rw [hq]; exact .inl h3'
    · rw [List.getElem?_set_ne (Ne.symm hj)] at hx
      obtain ⟨w, hw, ho, hz⟩ := h3 j x hx
      refine ⟨w, by rw [List.getElem?_set_ne (Ne.symm hj)]; exact hw, ?_, fun b q hq => ?_⟩
      · simp only [hj, if_false]
        exact ho
      · simp only [hj, if_false] at hq
        exact hz b q hq
/-- a slot that owns is changed, with its things -/
theorem Sta.own_upd {i : Nat} {e : Ent} {e' : Ent} (S : Sta B Γ σ F H) (hi : Γ[i]? = some (some e)) (hvol : e'.vol = e.vol)
    (k : ∀ v ps, σ[i]? = some (some v) → e.ok v ps F H → (∀ p, ps p → F p = none ∧ H p ≠ none ∧ (B.H p = none ∨ B.vol p) ∧ ¬ B.pin p) →
      ∃ ps', Same F' H' ∧ Same F F' ∧ (∀ b o, H b = some o → ¬ ps b → H' b = some o) ∧ (∀ b, H b ≠ none → H' b ≠ none) ∧ (∀ b, H b ≠ none → F b = none → F' b = none) ∧ (∀ p, ps' p → (ps p ∨ H p = none) ∧ F' p = none ∧ H' p ≠ none ∧ ¬ B.pin p) ∧ e'.ok v ps' F' H') :
    Sta B (Γ.set i (some e')) σ F' H' := by
  obtain ⟨O, h1, h2, h3⟩ := S.own
  obtain ⟨v, hv, ho, hz⟩ := h3 i e hi
  obtain ⟨ps', s1, s2, s3, s4, s5, s6, s7⟩ := k v (O i) hv ho (h1 i)
  have hil : i < Γ.length := (List.getElem?_eq_some_iff.mp hi).1
  refine ⟨by rw [List.length_set]; exact S.len, s1, S.ext.trans s2, fun b o q n => s3 b o (S.keep b o q n) fun hb => ?_, fun b n => s4 b (S.dom b n), fun b n1 n2 => s5 b (S.dom b n1) (S.new b n1 n2), fun q z => ⟨s4 q (S.pnd q z).1, s5 q (S.pnd q z).1 (S.pnd q z).2⟩, fun j p => if j = i then ps' p else O j p, fun j p hp => ?_, fun j l p hp hq => ?_, fun j x hx => ?_⟩
  · rcases (h1 i b hb).2.2.1 with z | z
    · rw [z] at q; cases q
    · exact n z
  · by_cases hj : j = i
    · simp only [hj, if_true] at hp
      obtain ⟨a, b, c, d⟩ := s6 p hp
      refine ⟨b, c, ?_, d⟩
      rcases a with a | a
      · exact (h1 i p a).2.2.1
      · left
        cases q : B.H p with
        | none => rfl
        | some o => exact absurd a (S.dom p (by rw [q]; exact fun z => nomatch z))
    · simp only [hj, if_false] at hp
      obtain ⟨a, b, c, d⟩ := h1 j p hp
      exact ⟨s5 p b a, s4 p b, c, d⟩
  · have key : ∀ a b, a = i → b ≠ i → ps' p → O b p → False := fun a b ha hb q1 q2 => by
      rcases (s6 p q1).1 with z | z
      · exact hb (h2 b i p q2 z)
      · exact (h1 b p q2).2.1 z
    by_cases hj : j = i
    · by_cases hl : l = i
      · rw [hj, hl]
      · simp only [hj, if_true] at hp
        simp only [hl, if_false] at hq
        exact (key j l hj hl hp hq).elim
    · by_cases hl : l = i
      · simp only [hj, if_false] at hp
        simp only [hl, if_true] at hq
        exact (key l j hl hj hq hp).elim
      · simp only [hj, if_false] at hp
        simp only [hl, if_false] at hq
        exact h2 j l p hp hq
  · by_cases hj : j = i
    · subst hj
      rw [List.getElem?_set_self hil] at hx
      cases hx
      refine ⟨v, hv, ?_, fun b p hp => ?_⟩
      · simp only [if_true]
        exact s7
      · simp only [if_true] at hp
        rcases (s6 p hp).1 with z | z
        · exact hz (hvol ▸ b) p z
        · left
          cases q : B.H p with
          | none => rfl
          | some o => exact absurd z (S.dom p (by rw [q]; exact fun z => nomatch z))
    · rw [List.getElem?_set_ne (Ne.symm hj)] at hx
      obtain ⟨w, hw, hok, hz'⟩ := h3 j x hx
      refine ⟨w, hw, ?_, fun b p hp => by simp only [hj, if_false] at hp; exact hz' b p hp⟩
      simp only [hj, if_false]
      refine x.st hok s2 fun p hp => ?_
      obtain ⟨a, b, c, d⟩ := h1 j p hp
      cases q : H p with
      | none => exact absurd q b
      | some o => exact s3 p o q fun z => hj (h2 j i p hp z)
theorem Sta.get {i : Nat} {e : Ent} (S : Sta B Γ σ F H) (hi : Γ[i]? = some (some e)) : ∃ v ps, σ[i]? = some (some v) ∧ e.ok v ps F H ∧ ∀ p, ps p → F p = none ∧ H p ≠ none ∧ (B.H p = none ∨ B.vol p) ∧ ¬ B.pin p := by
  obtain ⟨O, h1, h2, h3⟩ := S.own
  obtain ⟨v, hv, ho, _⟩ := h3 i e hi
  exact ⟨v, O i, hv, ho, h1 i⟩
/-- the pinned thing is frozen -/
theorem Sta.freeze {p : Addr} {o : HO} (S : Sta { B with pin := fun q => q = p ∨ B.pin q } Γ σ F H) (h : H p = some o) (e : B.H p = none) (nb : ¬ B.pin p) : Sta B Γ σ (upd F p o) H ∧ Same F (upd F p o) := by
  have hf : F p = none := (S.pnd p (.inl rfl)).2
  have ff : Same F (upd F p o) := same_new hf
  obtain ⟨O, h1, h2, h3⟩ := S.own
  refine ⟨⟨S.len, fun b x q => ?_, S.ext.trans ff, S.keep, S.dom, fun b n1 n2 => ?_, fun q z => ⟨(S.pnd q (.inr z)).1, ?_⟩, O, fun i q hq => ?_, h2, fun i x hx => ?_⟩, ff⟩
  · by_cases hb : b = p
    · subst hb; rw [upd_same] at q; rw [h]; exact q
    · rw [upd_ne hb] at q; exact S.sub b x q
  · rw [upd_ne fun z => n1 (by rw [z]; exact e)]; exact S.new b n1 n2
  · rw [upd_ne (show q ≠ p from fun y => nb (by rw [← y]; exact z))]; exact (S.pnd q (.inr z)).2
  · obtain ⟨a, b, c, d⟩ := h1 i q hq
    exact ⟨by rw [upd_ne fun y => d (.inl y)]; exact a, b, c, fun z => d (.inr z)⟩
  · obtain ⟨v, hv, ho, hw⟩ := h3 i x hx
    exact ⟨v, hv, x.st ho ff fun _ _ => rfl, hw⟩
/-- slots forgotten -/
theorem Sta.weak {Γ' : Gm} (S : Sta B Γ σ F H) (hl : Γ'.length = Γ.length) (h : ∀ (i : Nat) (e : Ent), Γ'[i]? = some (some e) → Γ[i]? = some (some e)) : Sta B Γ' σ F H := by
  obtain ⟨O, h1, h2, h3⟩ := S.own
  exact ⟨hl.trans S.len, S.sub, S.ext, S.keep, S.dom, S.new, S.pnd, O, h1, h2, fun i e q => h3 i e (h i e q)⟩
end
end Px
/-! Px, second part: the judgements over typed slots and their first rules. -/
namespace Px
open PySem PySem.Spec PyProof.Rows L2

/-! ### the context -/
structure Ctx (P : Program) (w : World) (K : PySem.W.Frag) (mg : Str → Option Value) (base : Heap) (lv : Nat) (N : List Str) (sc : Scope) (fn : Str → Bool) where
  X : Cx
  hP : X.prog = P
  hw : X.w = w
  hK : X.K = K
  hmg : X.mg = mg
  hbase : X.base = base
  hN : X.N = N
  nd : N.Nodup
  hsc : X.env.scope = sc
  hfn : X.fn = fn
  calm : X.calm = true
  room : Room lv X.A
  pas : PassesOwn (model X.prog X.w) X.A X.env X.xe

def slotOf : List Str → Str → Nat → Option Nat
  | [], _, _ => none
  | y :: r, x, i => if y = x then some i else slotOf r x (i + 1)
theorem slotOf_get {x : Str} : ∀ {N : List Str} {j i : Nat}, slotOf N x j = some i → j ≤ i ∧ N[i - j]? = some x
  | [], _, _, h => nomatch h
  | y :: r, j, i, h => by
    unfold slotOf at h
    by_cases e : y = x
    · rw [if_pos e] at h
      cases h
      rw [Nat.sub_self, e]
      exact ⟨Nat.le_refl _, rfl⟩
    · rw [if_neg e] at h
      obtain ⟨h1, h2⟩ := slotOf_get h
      refine ⟨by omega, ?_⟩
      have e2 : i - j = (i - (j + 1)) + 1 := by omega
      rw [e2, List.getElem?_cons_succ]
      exact h2
theorem slotOf_at {x : Str} {N : List Str} {i : Nat} (h : slotOf N x 0 = some i) : N[i]? = some x := (slotOf_get h).2
def visB (sc : Scope) (x : Str) : Bool := match sc.names.lookup x with
  | some .local => true
  | some .cell => true
  | some .free => true
  | _ => false
theorem visB_vis {sc : Scope} {x : Str} (h : visB sc x = true) : Vis sc x := by
  unfold visB at h
  unfold Vis
  split at h <;> simp_all
def locB (sc : Scope) (fn : Str → Bool) (x : Str) : Bool := match sc.names.lookup x with
  | some .local => true
  | some .cell => fn x
  | _ => false
theorem locB_loc {sc : Scope} {fn : Str → Bool} {x : Str} (h : locB sc fn x = true) : L2.Loc sc x ∧ (fn x = true ∨ sc.names.lookup x = some .local) := by
  unfold locB at h
  unfold L2.Loc
  split at h <;> simp_all
def glB (sc : Scope) (x : Str) : Bool := match sc.names.lookup x with
  | some .globalImplicit => true
  | _ => false
theorem glB_gl {sc : Scope} {x : Str} (h : glB sc x = true) : sc.names.lookup x = some .globalImplicit := by
  unfold glB at h
  split at h <;> simp_all

section
variable {P : Program} {w : World} {K : PySem.W.Frag} {mg : Str → Option Value} {base : Heap} {lv : Nat} {N : List Str} {sc : Scope} {fn : Str → Bool}
variable {α β γ δ ρ : Type}

/-! ### judgements -/
def EW (c : Ctx P w K mg base lv N sc fn) (Γ : Gm) (e : Expr) (T : Ty K α) (k : Gm → α → Prop) : Prop :=
  ∀ B σ F H, Sta B Γ σ F H → ∀ Q : VK, (∀ v a Γ' F' H', Sta B Γ' σ F' H' → Same F F' → T.r F' v a → k Γ' a → Q v H') → wE c.X e σ H Q
/-- a fresh thing, pinned: a list of frozen items -/
def EL (c : Ctx P w K mg base lv N sc fn) (Γ : Gm) (e : Expr) (T : Ty K α) (k : Gm → List α → Prop) : Prop :=
  ∀ B σ F H, Sta B Γ σ F H → ∀ Q : VK, (∀ p vs as Γ' F' H', Sta { B with pin := fun q => q = p ∨ B.pin q } Γ' σ F' H' → Same F F' → B.H p = none → F' p = none → ¬ B.pin p → H' p = some (.lst vs) → All2 (T.r F') vs as → k Γ' as → Q (.ref p) H') → wE c.X e σ H Q
def TW (c : Ctx P w K mg base lv N sc fn) (Γ : Gm) (e : Expr) (k : Gm → Bool → Prop) : Prop :=
  ∀ B σ F H, Sta B Γ σ F H → ∀ Q : Bool → Hp → Prop, (∀ b Γ' F' H', Sta B Γ' σ F' H' → Same F F' → k Γ' b → Q b H') → wT c.X e σ H Q
/-- typed arguments -/
structure TV (K : PySem.W.Frag) where
  r : Hp → V → Prop
  mono : ∀ {F F' : Hp} {v : V}, Same F F' → r F v → r F' v
def tv (T : Ty K α) (a : α) : TV K := ⟨fun F v => T.r F v a, fun e h => T.mono e h⟩
def EWs (c : Ctx P w K mg base lv N sc fn) (Γ : Gm) (es : List Expr) (k : Gm → List (TV K) → Prop) : Prop :=
  ∀ B σ F H, Sta B Γ σ F H → ∀ Q : List V → Hp → Prop, (∀ vs ts Γ' F' H', Sta B Γ' σ F' H' → Same F F' → All2 (fun v (t : TV K) => t.r F' v) vs ts → k Γ' ts → Q vs H') → wA c.X es σ H Q
/-- an operation on values -/
def RW (r : R2) (A : Ty K α) (B : Ty K β) (C : Ty K γ) (a : α) (b : β) (k : γ → Prop) : Prop :=
  ∀ F H x y, Same F H → A.r F x a → B.r F y b → ∀ Q : VK, (∀ v F' H' c, Step F H F' H' → C.r F' v c → k c → Q v H') → r x y H Q
def RU (r : V → Hp → VK → Prop) (A : Ty K α) (C : Ty K γ) (a : α) (k : γ → Prop) : Prop :=
  ∀ F H x, Same F H → A.r F x a → ∀ Q : VK, (∀ v F' H' c, Step F H F' H' → C.r F' v c → k c → Q v H') → r x H Q
/-- a call of a built-in on values -/
def RC (r : List V → Hp → VK → Prop) (ts : List (TV K)) (C : Ty K γ) (k : γ → Prop) : Prop :=
  ∀ F H xs, Same F H → All2 (fun v (t : TV K) => t.r F v) xs ts → ∀ Q : VK, (∀ v F' H' c, Step F H F' H' → C.r F' v c → k c → Q v H') → r xs H Q

variable {c : Ctx P w K mg base lv N sc fn} {Γ : Gm} {e a b d : Expr} {es : List Expr} {pos pos' : Pos} {T : Ty K α} {A : Ty K α} {B' : Ty K β} {C : Ty K γ}

theorem EW.imp {k k' : Gm → α → Prop} (h : EW c Γ e T k) (f : ∀ Γ a, k Γ a → k' Γ a) : EW c Γ e T k' := fun B σ F H S Q q => h B σ F H S Q fun v a Γ' F' H' S' e' r' k' => q v a Γ' F' H' S' e' r' (f _ _ k')
theorem TW.imp {k k' : Gm → Bool → Prop} (h : TW c Γ e k) (f : ∀ Γ a, k Γ a → k' Γ a) : TW c Γ e k' := fun B σ F H S Q q => h B σ F H S Q fun a Γ' F' H' S' e' k' => q a Γ' F' H' S' e' (f _ _ k')
/-- read with another type -/
theorem EW.as {T' : Ty K β} {k : Gm → β → Prop} (f : α → β) (h : EW c Γ e T fun Γ a => k Γ (f a)) (hf : ∀ F v a, T.r F v a → T'.r F v (f a)) : EW c Γ e T' k := fun B σ F H S Q q =>
  h B σ F H S Q fun v a Γ' F' H' S' e' r' k' => q v (f a) Γ' F' H' S' e' (hf _ _ _ r') k'

/-! ### names, constants -/
theorem ew_name {i : Nat} {x : Str} {x0 : α} {k : Gm → α → Prop} (hs : slotOf N x 0 = some i) (hv : visB sc x = true) (hg : Γ[i]? = some (some (val T x0))) (hk : k Γ x0)
    (hd : (x == ("__debug__" : Str)) = false := by decide +kernel) (hcd : (x == ("__classdict__" : Str)) = false := by decide +kernel) : EW c Γ (.Name x pos) T k := by
  intro B σ F H S Q q
  have hN := c.hN
  have hsc := c.hsc
  obtain ⟨v, ps, h1, h2, _⟩ := S.get hg
  exact of_pe (pe_var (by rw [hN]; exact slotOf_at hs) (by rw [hsc]; exact visB_vis hv) hd hcd) ⟨v, h1, q v x0 Γ F H S (Same.refl _) h2.2 hk⟩
theorem ew_int {i : Int} {j} {k : Gm → Int → Prop} (hk : k Γ i) : EW c Γ (.Constant (.int i) j pos) tInt k := fun B σ F H S Q q => of_pe pe_int (q _ i Γ F H S (Same.refl _) rfl hk)
theorem ew_bl {i : Bool} {j} {k : Gm → Bool → Prop} (hk : k Γ i) : EW c Γ (.Constant (.bool i) j pos) tBool k := fun B σ F H S Q q => of_pe pe_bl (q _ i Γ F H S (Same.refl _) rfl hk)
theorem ew_str {i : Str} {j} {k : Gm → Str → Prop} (hk : k Γ i) : EW c Γ (.Constant (.str i) j pos) tStr k := fun B σ F H S Q q => of_pe pe_str (q _ i Γ F H S (Same.refl _) rfl hk)
theorem ew_non {j} {k : Gm → Unit → Prop} (hk : k Γ ()) : EW c Γ (.Constant .none j pos) tNon k := fun B σ F H S Q q => of_pe pe_non (q _ () Γ F H S (Same.refl _) rfl hk)
theorem ew_none {j} {k : Gm → Option α → Prop} (hk : k Γ none) : EW c Γ (.Constant .none j pos) (tOpt T) k := fun B σ F H S Q q => of_pe pe_non (q _ none Γ F H S (Same.refl _) rfl hk)
/-- a module's constant -/
theorem ew_glob {x : Str} {v : V} {u : Value} {x0 : α} {k : Gm → α → Prop} (hg : glB sc x = true) (hm : mg x = some u) (r : RelV v u) (ht : ∀ F, T.r F v x0) (hk : k Γ x0) (hd : (x == ("__debug__" : Str)) = false := by decide +kernel) : EW c Γ (.Name x pos) T k := by
  intro B σ F H S Q q
  have hsc := c.hsc
  have hmg := c.hmg
  exact of_pe (pe_glob (v := v) (u := u) (by show c.X.env.scope.names.lookup x = _; rw [hsc]; exact glB_gl hg) (by rw [hmg]; exact hm) r hd) (q v x0 Γ F H S (Same.refl _) (ht F) hk)

/-! ### operators -/
theorem ew_bin {op : Operator} {r : R2} {k : Gm → γ → Prop} (ho : ∀ {X : Cx}, X.K = K → OpR X (binaryOp op) r) (h : EW c Γ a A fun Γ1 i => EW c Γ1 b B' fun Γ2 j => RW r A B' C i j fun z => k Γ2 z) : EW c Γ (.BinOp a op b pos) C k := by
  intro B σ F H S Q q
  refine of_pe (pe_op (ho c.hK) peW peW) ?_
  refine h B σ F H S _ fun v i Γ1 F1 H1 S1 e1 r1 h1 => ?_
  refine h1 B σ F1 H1 S1 _ fun u j Γ2 F2 H2 S2 e2 r2 h2 => ?_
  exact h2 F2 H2 v u S2.sub (A.mono e2 r1) r2 Q fun z F3 H3 y e3 r3 h3 => q z y Γ2 F3 H3 (S2.step e3) ((e1.trans e2).trans e3.ff) r3 h3
theorem ew_unop {op : UnaryOp} {r : V → Hp → VK → Prop} {k : Gm → γ → Prop} (ho : ∀ {X : Cx}, UnR X (unaryOp op) r) (h : EW c Γ a A fun Γ1 i => RU r A C i fun z => k Γ1 z) : EW c Γ (.UnaryOp op a pos) C k := by
  intro B σ F H S Q q
  refine of_pe (pe_un ho peW) ?_
  refine h B σ F H S _ fun v i Γ1 F1 H1 S1 e1 r1 h1 => ?_
  exact h1 F1 H1 v S1.sub r1 Q fun z F3 H3 y e3 r3 h3 => q z y Γ1 F3 H3 (S1.step e3) (e1.trans e3.ff) r3 h3
theorem rw_I0 {g : Int → Int → V} {f : Int → Int → γ} {i j : Int} {k : γ → Prop} (hg : ∀ F, C.r F (g i j) (f i j)) (hk : k (f i j)) : RW (rI0 g) tInt tInt C i j k :=
  fun F H x y S hx hy Q q => ⟨i, j, hx, hy, q _ F H _ (Step.refl S) (hg F) hk⟩
theorem rw_I {D : Int → Int → Prop} {g : Int → Int → V} {f : Int → Int → γ} {i j : Int} {k : γ → Prop} (hg : ∀ F, C.r F (g i j) (f i j)) (hk : D i j ∧ k (f i j)) : RW (rI D g) tInt tInt C i j k :=
  fun F H x y S hx hy Q q => ⟨i, j, hx, hy, hk.1, q _ F H _ (Step.refl S) (hg F) hk.2⟩
section
variable {k : Gm → Int → Prop}
theorem ew_add (h : EW c Γ a tInt fun Γ1 i => EW c Γ1 b tInt fun Γ2 j => k Γ2 (i + j)) : EW c Γ (.BinOp a .Add b pos) tInt k := ew_bin (fun _ => op_add) (h.imp fun _ i h => h.imp fun _ j h => rw_I0 (f := fun i j => i + j) (fun _ => rfl) h)
theorem ew_sub (h : EW c Γ a tInt fun Γ1 i => EW c Γ1 b tInt fun Γ2 j => k Γ2 (i - j)) : EW c Γ (.BinOp a .Sub b pos) tInt k := ew_bin (fun _ => op_sub) (h.imp fun _ i h => h.imp fun _ j h => rw_I0 (f := fun i j => i - j) (fun _ => rfl) h)
theorem ew_mul (h : EW c Γ a tInt fun Γ1 i => EW c Γ1 b tInt fun Γ2 j => CMul i j ∧ k Γ2 (i * j)) : EW c Γ (.BinOp a .Mult b pos) tInt k := ew_bin (fun _ => op_mul) (h.imp fun _ i h => h.imp fun _ j h => rw_I (f := fun i j => i * j) (fun _ => rfl) h)
theorem ew_mulW (h : EW c Γ a tInt fun Γ1 i => EW c Γ1 b tInt fun Γ2 j => CMulW i j ∧ k Γ2 (i * j)) : EW c Γ (.BinOp a .Mult b pos) tInt k := ew_bin (fun _ => op_mulW) (h.imp fun _ i h => h.imp fun _ j h => rw_I (f := fun i j => i * j) (fun _ => rfl) h)
theorem ew_div (h : EW c Γ a tInt fun Γ1 i => EW c Γ1 b tInt fun Γ2 j => CDivW i j ∧ k Γ2 (i / j)) : EW c Γ (.BinOp a .FloorDiv b pos) tInt k := ew_bin (fun _ => op_fdivW) (h.imp fun _ i h => h.imp fun _ j h => rw_I (f := fun i j => i / j) (fun _ => rfl) h)
theorem ew_mod (h : EW c Γ a tInt fun Γ1 i => EW c Γ1 b tInt fun Γ2 j => 0 < j ∧ k Γ2 (i % j)) : EW c Γ (.BinOp a .Mod b pos) tInt k := ew_bin (fun _ => op_mod) (h.imp fun _ i h => h.imp fun _ j h => rw_I (D := fun _ j => 0 < j) (f := fun i j => i % j) (fun _ => rfl) h)
theorem ew_pow (h : EW c Γ a tInt fun Γ1 i => EW c Γ1 b tInt fun Γ2 j => CPow i j ∧ k Γ2 (i ^ j.toNat)) : EW c Γ (.BinOp a .Pow b pos) tInt k := ew_bin (fun _ => op_pow) (h.imp fun _ i h => h.imp fun _ j h => rw_I (f := fun i j => i ^ j.toNat) (fun _ => rfl) h)
theorem ew_shl (h : EW c Γ a tInt fun Γ1 i => EW c Γ1 b tInt fun Γ2 j => CPow i j ∧ k Γ2 (i * 2 ^ j.toNat)) : EW c Γ (.BinOp a .LShift b pos) tInt k := ew_bin (fun _ => op_shl) (h.imp fun _ i h => h.imp fun _ j h => rw_I (f := fun i j => i * 2 ^ j.toNat) (fun _ => rfl) h)
theorem ew_shr (h : EW c Γ a tInt fun Γ1 i => EW c Γ1 b tInt fun Γ2 j => 0 ≤ j ∧ k Γ2 (i / 2 ^ j.toNat)) : EW c Γ (.BinOp a .RShift b pos) tInt k := ew_bin (fun _ => op_shr) (h.imp fun _ i h => h.imp fun _ j h => rw_I (D := fun _ j => 0 ≤ j) (f := fun i j => i / 2 ^ j.toNat) (fun _ => rfl) h)
theorem ew_and (h : EW c Γ a tInt fun Γ1 i => EW c Γ1 b tInt fun Γ2 j => k Γ2 (Builtin.bitAnd i j)) : EW c Γ (.BinOp a .BitAnd b pos) tInt k := ew_bin (fun _ => op_and) (h.imp fun _ i h => h.imp fun _ j h => rw_I0 (f := fun i j => Builtin.bitAnd i j) (fun _ => rfl) h)
theorem ew_neg (h : EW c Γ a tInt fun Γ1 i => k Γ1 (-i)) : EW c Γ (.UnaryOp .USub a pos) tInt k := ew_unop un_neg (h.imp fun _ i h => fun F H x S hx Q q => ⟨i, hx, q _ F H _ (Step.refl S) rfl h⟩)
end

/-! ### comparisons -/
theorem ew_cmp {op : CmpOp} {r : R2} {k : Gm → γ → Prop} (ho : ∀ {X : Cx}, X.K = K → OpR X (compareOp op) r) (h : EW c Γ a A fun Γ1 i => EW c Γ1 b B' fun Γ2 j => RW r A B' C i j fun z => k Γ2 z) (hm : behindInMarks op b = false) : EW c Γ (.Compare a [op] [b] pos) C k := by
  intro B σ F H S Q q
  refine of_pe (pe_cmpR (ho c.hK) peW peW hm) ?_
  refine h B σ F H S _ fun v i Γ1 F1 H1 S1 e1 r1 h1 => ?_
  refine h1 B σ F1 H1 S1 _ fun u j Γ2 F2 H2 S2 e2 r2 h2 => ?_
  exact h2 F2 H2 v u S2.sub (A.mono e2 r1) r2 Q fun z F3 H3 y e3 r3 h3 => q z y Γ2 F3 H3 (S2.step e3) ((e1.trans e2).trans e3.ff) r3 h3
theorem tw_cmp {op : CmpOp} {r : R2} {k : Gm → Bool → Prop} (ho : ∀ {X : Cx}, X.K = K → OpR X (compareOp op) r) (h : EW c Γ a A fun Γ1 i => EW c Γ1 b B' fun Γ2 j => RW (K := K) r A B' tBool i j fun z => k Γ2 z) (hm : behindInMarks op b = false) : TW c Γ (.Compare a [op] [b] pos) k := by
  intro B σ F H S Q q
  refine of_pt (pt_cmpR (ho c.hK) peW peW hm) ?_
  refine h B σ F H S _ fun v i Γ1 F1 H1 S1 e1 r1 h1 => ?_
  refine h1 B σ F1 H1 S1 _ fun u j Γ2 F2 H2 S2 e2 r2 h2 => ?_
  exact h2 F2 H2 v u S2.sub (A.mono e2 r1) r2 _ fun z F3 H3 y e3 r3 h3 => ⟨y, r3, q y Γ2 F3 H3 (S2.step e3) ((e1.trans e2).trans e3.ff) h3⟩
section
variable {k : Gm → Bool → Prop} {p : Int → Int → Bool}
theorem rw_B {i j : Int} {kk : Bool → Prop} (hk : kk (p i j)) : RW (K := K) (rI0 fun i j => .bl (p i j)) tInt tInt tBool i j kk := rw_I0 (f := fun i j => p i j) (fun _ => rfl) hk
theorem ew_lt (h : EW c Γ a tInt fun Γ1 i => EW c Γ1 b tInt fun Γ2 j => k Γ2 (decide (i < j))) : EW c Γ (.Compare a [.Lt] [b] pos) tBool k := ew_cmp (fun _ => op_lt) (h.imp fun _ i h => h.imp fun _ j h => rw_B (p := fun i j => decide (i < j)) h) (nomark _)
theorem ew_le (h : EW c Γ a tInt fun Γ1 i => EW c Γ1 b tInt fun Γ2 j => k Γ2 (decide (i ≤ j))) : EW c Γ (.Compare a [.LtE] [b] pos) tBool k := ew_cmp (fun _ => op_le) (h.imp fun _ i h => h.imp fun _ j h => rw_B (p := fun i j => decide (i ≤ j)) h) (nomark _)
theorem ew_gt (h : EW c Γ a tInt fun Γ1 i => EW c Γ1 b tInt fun Γ2 j => k Γ2 (decide (j < i))) : EW c Γ (.Compare a [.Gt] [b] pos) tBool k := ew_cmp (fun _ => op_gt) (h.imp fun _ i h => h.imp fun _ j h => rw_B (p := fun i j => decide (j < i)) h) (nomark _)
theorem ew_ge (h : EW c Γ a tInt fun Γ1 i => EW c Γ1 b tInt fun Γ2 j => k Γ2 (decide (j ≤ i))) : EW c Γ (.Compare a [.GtE] [b] pos) tBool k := ew_cmp (fun _ => op_ge) (h.imp fun _ i h => h.imp fun _ j h => rw_B (p := fun i j => decide (j ≤ i)) h) (nomark _)
theorem tw_lt (h : EW c Γ a tInt fun Γ1 i => EW c Γ1 b tInt fun Γ2 j => k Γ2 (decide (i < j))) : TW c Γ (.Compare a [.Lt] [b] pos) k := tw_cmp (fun _ => op_lt) (h.imp fun _ i h => h.imp fun _ j h => rw_B (p := fun i j => decide (i < j)) h) (nomark _)
theorem tw_le (h : EW c Γ a tInt fun Γ1 i => EW c Γ1 b tInt fun Γ2 j => k Γ2 (decide (i ≤ j))) : TW c Γ (.Compare a [.LtE] [b] pos) k := tw_cmp (fun _ => op_le) (h.imp fun _ i h => h.imp fun _ j h => rw_B (p := fun i j => decide (i ≤ j)) h) (nomark _)
theorem tw_gt (h : EW c Γ a tInt fun Γ1 i => EW c Γ1 b tInt fun Γ2 j => k Γ2 (decide (j < i))) : TW c Γ (.Compare a [.Gt] [b] pos) k := tw_cmp (fun _ => op_gt) (h.imp fun _ i h => h.imp fun _ j h => rw_B (p := fun i j => decide (j < i)) h) (nomark _)
theorem tw_ge (h : EW c Γ a tInt fun Γ1 i => EW c Γ1 b tInt fun Γ2 j => k Γ2 (decide (j ≤ i))) : TW c Γ (.Compare a [.GtE] [b] pos) k := tw_cmp (fun _ => op_ge) (h.imp fun _ i h => h.imp fun _ j h => rw_B (p := fun i j => decide (j ≤ i)) h) (nomark _)
/-- flat things: ints, texts, bools -/
structure Flat (T : Ty K α) where
  f : α → V
  is : ∀ {F v a}, T.r F v a → v = f a
  inj : ∀ {a b}, f a = f b → a = b
  sc : ∀ a b, scal (f a) (f b) = true
def fInt : Flat (K := K) tInt := ⟨.int, fun h => h, fun h => V.int.inj h, fun _ _ => rfl⟩
def fBool : Flat (K := K) tBool := ⟨.bl, fun h => h, fun h => V.bl.inj h, fun _ _ => rfl⟩
def fStr : Flat (K := K) tStr := ⟨.str, fun h => h, fun h => V.str.inj h, fun _ _ => rfl⟩
theorem rw_eq (f : Flat T) [DecidableEq α] {i j : α} {kk : Bool → Prop} (hk : kk (decide (i = j))) : RW (K := K) rEq T T tBool i j kk := fun F H x y S hx hy Q q => by
  rw [f.is hx, f.is hy]
  refine ⟨f.sc _ _, q _ F H _ (Step.refl S) rfl ?_⟩
  by_cases h : i = j
  · subst h; simpa using hk
  · have h2 : ¬ f.f i = f.f j := fun z => h (f.inj z)
    simpa [h, h2] using hk
theorem rw_ne (f : Flat T) [DecidableEq α] {i j : α} {kk : Bool → Prop} (hk : kk (!decide (i = j))) : RW (K := K) rNe T T tBool i j kk := fun F H x y S hx hy Q q => by
  rw [f.is hx, f.is hy]
  refine ⟨f.sc _ _, q _ F H _ (Step.refl S) rfl ?_⟩
  by_cases h : i = j
  · subst h; simpa using hk
  · have h2 : ¬ f.f i = f.f j := fun z => h (f.inj z)
    simpa [h, h2] using hk
theorem ew_eq (f : Flat T) [DecidableEq α] (h : EW c Γ a T fun Γ1 i => EW c Γ1 b T fun Γ2 j => k Γ2 (decide (i = j))) : EW c Γ (.Compare a [.Eq] [b] pos) tBool k := ew_cmp (fun _ => op_eq) (h.imp fun _ i h => h.imp fun _ j h => rw_eq f h) (nomark _)
theorem ew_ne (f : Flat T) [DecidableEq α] (h : EW c Γ a T fun Γ1 i => EW c Γ1 b T fun Γ2 j => k Γ2 (!decide (i = j))) : EW c Γ (.Compare a [.NotEq] [b] pos) tBool k := ew_cmp (fun _ => op_ne) (h.imp fun _ i h => h.imp fun _ j h => rw_ne f h) (nomark _)
theorem tw_eq (f : Flat T) [DecidableEq α] (h : EW c Γ a T fun Γ1 i => EW c Γ1 b T fun Γ2 j => k Γ2 (decide (i = j))) : TW c Γ (.Compare a [.Eq] [b] pos) k := tw_cmp (fun _ => op_eq) (h.imp fun _ i h => h.imp fun _ j h => rw_eq f h) (nomark _)
theorem tw_ne (f : Flat T) [DecidableEq α] (h : EW c Γ a T fun Γ1 i => EW c Γ1 b T fun Γ2 j => k Γ2 (!decide (i = j))) : TW c Γ (.Compare a [.NotEq] [b] pos) k := tw_cmp (fun _ => op_ne) (h.imp fun _ i h => h.imp fun _ j h => rw_ne f h) (nomark _)
/-- is None -/
theorem ew_isN {j} {p' : Pos} (h : EW c Γ a (tOpt T) fun Γ1 i => k Γ1 i.isNone) : EW c Γ (.Compare a [.Is] [.Constant .none j p'] pos) tBool k := fun B σ F H S Q q => by
  refine of_pe (pe_cmp (pc_isN peW)) ?_
  refine h B σ F H S _ fun v i Γ1 F1 H1 S1 e1 r1 h1 => ?_
  refine q _ i.isNone Γ1 F1 H1 S1 e1 ?_ h1
  cases i with
  | none => obtain rfl : v = .non := r1; rfl
  | some x => have r2 : v ≠ .non := r1.1; show V.bl _ = V.bl _; simp [r2]
theorem tw_isN {j} {p' : Pos} (h : EW c Γ a (tOpt T) fun Γ1 i => k Γ1 i.isNone) : TW c Γ (.Compare a [.Is] [.Constant .none j p'] pos) k := fun B σ F H S Q q => by
  refine of_pt (pt_cmp (pc_isN peW)) ?_
  refine h B σ F H S _ fun v i Γ1 F1 H1 S1 e1 r1 h1 => ?_
  refine ⟨i.isNone, ?_, q i.isNone Γ1 F1 H1 S1 e1 h1⟩
  cases i with
  | none => obtain rfl : v = .non := r1; rfl
  | some x => have r2 : v ≠ .non := r1.1; show V.bl _ = V.bl _; simp [r2]
theorem ew_notN {j} {p' : Pos} (h : EW c Γ a (tOpt T) fun Γ1 i => k Γ1 i.isSome) : EW c Γ (.Compare a [.IsNot] [.Constant .none j p'] pos) tBool k := fun B σ F H S Q q => by
  refine of_pe (pe_cmp (pc_notN peW)) ?_
  refine h B σ F H S _ fun v i Γ1 F1 H1 S1 e1 r1 h1 => ?_
  refine q _ i.isSome Γ1 F1 H1 S1 e1 ?_ h1
  cases i with
  | none => obtain rfl : v = .non := r1; rfl
  | some x => have r2 : v ≠ .non := r1.1; show V.bl _ = V.bl _; simp [r2]
theorem tw_notN {j} {p' : Pos} (h : EW c Γ a (tOpt T) fun Γ1 i => k Γ1 i.isSome) : TW c Γ (.Compare a [.IsNot] [.Constant .none j p'] pos) k := fun B σ F H S Q q => by
  refine of_pt (pt_cmp (pc_notN peW)) ?_
  refine h B σ F H S _ fun v i Γ1 F1 H1 S1 e1 r1 h1 => ?_
  refine ⟨i.isSome, ?_, q i.isSome Γ1 F1 H1 S1 e1 h1⟩
  cases i with
  | none => obtain rfl : v = .non := r1; rfl
  | some x => have r2 : v ≠ .non := r1.1; show V.bl _ = V.bl _; simp [r2]

/-! ### and, or, not, if -/
theorem tw_val (h : EW c Γ e tBool k) (he : ∀ env whole, isTrue e env whole = (do let v ← whole; standAt e.pos; holding [v] (truthy v)) := by intro _ _; rfl) : TW c Γ e k := fun B σ F H S Q q => by
  refine of_pt (pt_val peW (he _)) ?_
  exact h B σ F H S _ fun v i Γ1 F1 H1 S1 e1 r1 h1 => ⟨i, r1, q i Γ1 F1 H1 S1 e1 h1⟩
theorem tw_not (h : TW c Γ a fun Γ1 b => k Γ1 (!b)) : TW c Γ (.UnaryOp .Not a pos) k := fun B σ F H S Q q => of_pt (pt_not ptW) (h B σ F H S _ fun b Γ1 F1 H1 S1 e1 h1 => q _ Γ1 F1 H1 S1 e1 h1)
theorem ew_not (h : EW c Γ a tBool fun Γ1 b => k Γ1 (!b)) : EW c Γ (.UnaryOp .Not a pos) tBool k := fun B σ F H S Q q => of_pe (pe_not peW) (h B σ F H S _ fun v b Γ1 F1 H1 S1 e1 r1 h1 => ⟨b, r1, q _ _ Γ1 F1 H1 S1 e1 rfl h1⟩)
end
end
end Px
/-! Px, third part: chains, displays, subscripts, calls, statements, loops, comprehensions. -/
namespace Px
open PySem PySem.Spec PyProof.Rows L2

def wPW (X : Cx) (e : Expr) : TT := fun σ H Q => ∀ whole pins s, Inv X pins σ H s → wpAny (model X.prog X.w) X.A (isTrue e X.env whole) (TP X pins σ Q) X.xe s
theorem pwW {X : Cx} {e : Expr} : PW X e (wPW X e) := ⟨fun wh pins s σ H Q I h => h wh pins s I⟩
theorem of_pw {X : Cx} {e : Expr} {t : TT} (h : PW X e t) {σ : L2.St} {H : Hp} {Q : Bool → Hp → Prop} (q : t σ H Q) : wPW X e σ H Q := fun wh pins s I => h.run wh pins s σ H Q I q
def wG (X : Cx) (tg : Expr) : TG := fun v σ H Q => ∀ pins s u, Inv X pins σ H s → RelV v u → wpAny (model X.prog X.w) X.A (assign tg X.env u) (fun _ s' => ∃ σ' H', Inv X pins σ' H' s' ∧ Q σ' H') X.xe s
def wGs (X : Cx) (ts : List Expr) : TGs := fun vs σ H Q => ∀ pins s us, Inv X pins σ H s → Vals vs us → wpAny (model X.prog X.w) X.A (assignInOrder ((assignEach ts X.env).map (·.2)) us) (fun _ s' => ∃ σ' H', Inv X pins σ' H' s' ∧ Q σ' H') X.xe s
theorem pgW {X : Cx} {e : Expr} : PG X e (wG X e) := ⟨fun pins s σ H v u Q I r h => h pins s u I r⟩
theorem pgsW {X : Cx} {e : List Expr} : PGs X e (wGs X e) := ⟨fun pins s σ H v u Q I r h => h pins s u I r⟩
theorem of_pg {X : Cx} {e : Expr} {t : TG} (h : PG X e t) {v : V} {σ : L2.St} {H : Hp} {Q : L2.St → Hp → Prop} (q : t v σ H Q) : wG X e v σ H Q := fun pins s u I r => h.run pins s σ H v u Q I r q
theorem of_pgs {X : Cx} {e : List Expr} {t : TGs} (h : PGs X e t) {v : List V} {σ : L2.St} {H : Hp} {Q : L2.St → Hp → Prop} (q : t v σ H Q) : wGs X e v σ H Q := fun pins s u I r => h.run pins s σ H v u Q I r q
def wI (X : Cx) (tg iter : Expr) : TI := fun σ H R => ∀ pins s, Inv X pins σ H s → wpAny (model X.prog X.w) X.A (eval iter X.env) (fun v s1 => wpAny (model X.prog X.w) X.A (pyIter v) (PIE X pins σ tg R) X.xe s1) X.xe s
theorem piW {X : Cx} {tg e : Expr} : PI X tg e (wI X tg e) := ⟨fun pins s σ H R I h => h pins s I⟩
theorem of_pi {X : Cx} {tg e : Expr} {t : TI} (h : PI X tg e t) {σ : L2.St} {H : Hp} {R : It → Hp → Prop} (q : t σ H R) : wI X tg e σ H R := fun pins s I => h.run pins s σ H R I q
def wTs (X : Cx) (ifs : List Expr) : TT := fun σ H Q => ∀ pins s, Inv X pins σ H s →
    wpAny (model X.prog X.w) X.A (forIn ifs true fun c r => if r = true then do let ok ← isTrue c X.env (eval c X.env); pure (ForInStep.yield ok) else pure (ForInStep.yield r)) (TP X pins σ Q) X.xe s
theorem ptsW {X : Cx} {e : List Expr} : PTs X e (wTs X e) := ⟨fun pins s σ H Q I h => h pins s I⟩
theorem of_pts {X : Cx} {e : List Expr} {t : TT} (h : PTs X e t) {σ : L2.St} {H : Hp} {Q : Bool → Hp → Prop} (q : t σ H Q) : wTs X e σ H Q := fun pins s I => h.run pins s σ H Q I q

section
variable {P : Program} {w : World} {K : PySem.W.Frag} {mg : Str → Option Value} {base : Heap} {lv : Nat} {N : List Str} {sc : Scope} {fn : Str → Bool}
variable {α β γ δ ρ : Type}
variable {c : Ctx P w K mg base lv N sc fn} {Γ : Gm} {e a b d : Expr} {es : List Expr} {pos pos' : Pos} {T : Ty K α} {A : Ty K α} {B' : Ty K β} {C : Ty K γ} {D' : Ty K δ}

/-! ### and, or -/
def TWW (c : Ctx P w K mg base lv N sc fn) (Γ : Gm) (e : Expr) (k : Gm → Bool → Prop) : Prop :=
  ∀ B σ F H, Sta B Γ σ F H → ∀ Q : Bool → Hp → Prop, (∀ b Γ' F' H', Sta B Γ' σ F' H' → Same F F' → k Γ' b → Q b H') → wPW c.X e σ H Q
section
variable {k : Gm → Bool → Prop} {rest : List Expr}
theorem tw_w (h : TWW c Γ e k) : TW c Γ e k := fun B σ F H S Q q => of_pt (PW.pt pwW) (h B σ F H S Q q)
theorem tww_and1 (h : TW c Γ a k) : TWW c Γ (.BoolOp .And [a] pos) k := fun B σ F H S Q q => of_pw (pw_and1 ptW) (h B σ F H S Q q)
theorem tww_or1 (h : TW c Γ a k) : TWW c Γ (.BoolOp .Or [a] pos) k := fun B σ F H S Q q => of_pw (pw_or1 ptW) (h B σ F H S Q q)
theorem tww_and (h : TW c Γ a fun Γ1 x => (x = true → TWW c Γ1 (.BoolOp .And (b :: rest) pos) k) ∧ (x = false → k Γ1 false)) : TWW c Γ (.BoolOp .And (a :: b :: rest) pos) k := fun B σ F H S Q q => by
  refine of_pw (pw_and ptW pwW) (h B σ F H S _ fun x Γ1 F1 H1 S1 e1 h1 => ?_)
  cases x with
  | true => exact iteT (h1.1 rfl B σ F1 H1 S1 Q fun y Γ2 F2 H2 S2 e2 h2 => q y Γ2 F2 H2 S2 (e1.trans e2) h2)
  | false => exact iteF (q false Γ1 F1 H1 S1 e1 (h1.2 rfl))
theorem tww_or (h : TW c Γ a fun Γ1 x => (x = false → TWW c Γ1 (.BoolOp .Or (b :: rest) pos) k) ∧ (x = true → k Γ1 true)) : TWW c Γ (.BoolOp .Or (a :: b :: rest) pos) k := fun B σ F H S Q q => by
  refine of_pw (pw_or ptW pwW) (h B σ F H S _ fun x Γ1 F1 H1 S1 e1 h1 => ?_)
  cases x with
  | false => exact iteF (h1.1 rfl B σ F1 H1 S1 Q fun y Γ2 F2 H2 S2 e2 h2 => q y Γ2 F2 H2 S2 (e1.trans e2) h2)
  | true => exact iteT (q true Γ1 F1 H1 S1 e1 (h1.2 rfl))
theorem ew_one {op} {k : Gm → α → Prop} (h : EW c Γ a T k) : EW c Γ (.BoolOp op [a] pos) T k := fun B σ F H S Q q => of_pe (pe_one peW) (h B σ F H S Q q)
theorem ew_andV (h : EW c Γ a tBool fun Γ1 x => (x = true → EW c Γ1 (.BoolOp .And (b :: rest) pos) tBool k) ∧ (x = false → k Γ1 false)) : EW c Γ (.BoolOp .And (a :: b :: rest) pos) tBool k := fun B σ F H S Q q => by
  refine of_pe (pe_and peW peW) (h B σ F H S _ fun v x Γ1 F1 H1 S1 e1 r1 h1 => ⟨x, r1, ?_⟩)
  cases x with
  | true => exact iteT (h1.1 rfl B σ F1 H1 S1 Q fun v y Γ2 F2 H2 S2 e2 r2 h2 => q v y Γ2 F2 H2 S2 (e1.trans e2) r2 h2)
  | false => exact iteF (q _ false Γ1 F1 H1 S1 e1 rfl (h1.2 rfl))
theorem ew_orV (h : EW c Γ a tBool fun Γ1 x => (x = false → EW c Γ1 (.BoolOp .Or (b :: rest) pos) tBool k) ∧ (x = true → k Γ1 true)) : EW c Γ (.BoolOp .Or (a :: b :: rest) pos) tBool k := fun B σ F H S Q q => by
  refine of_pe (pe_or peW peW) (h B σ F H S _ fun v x Γ1 F1 H1 S1 e1 r1 h1 => ⟨x, r1, ?_⟩)
  cases x with
  | false => exact iteF (h1.1 rfl B σ F1 H1 S1 Q fun v y Γ2 F2 H2 S2 e2 r2 h2 => q v y Γ2 F2 H2 S2 (e1.trans e2) r2 h2)
  | true => exact iteT (q _ true Γ1 F1 H1 S1 e1 rfl (h1.2 rfl))
end
theorem ew_ifx {t : Expr} {k : Gm → α → Prop} (h : TW c Γ t fun Γ1 x => (x = true → EW c Γ1 a T k) ∧ (x = false → EW c Γ1 b T k)) : EW c Γ (.IfExp t a b pos) T k := fun B σ F H S Q q => by
  refine of_pe (pe_ifExp ptW peW peW) (h B σ F H S _ fun x Γ1 F1 H1 S1 e1 h1 => ?_)
  cases x with
  | true => exact iteT (h1.1 rfl B σ F1 H1 S1 Q fun v y Γ2 F2 H2 S2 e2 r2 h2 => q v y Γ2 F2 H2 S2 (e1.trans e2) r2 h2)
  | false => exact iteF (h1.2 rfl B σ F1 H1 S1 Q fun v y Γ2 F2 H2 S2 e2 r2 h2 => q v y Γ2 F2 H2 S2 (e1.trans e2) r2 h2)

/-! ### argument lists -/
theorem ews_nil {k : Gm → List (TV K) → Prop} (hk : k Γ []) : EWs c Γ [] k := fun B σ F H S Q q => of_pa pa_nil (q [] [] Γ F H S (Same.refl _) trivial hk)
theorem all2_mono {F F' : Hp} (e : Same F F') {vs : List V} {ts : List (TV K)} (h : All2 (fun v (t : TV K) => t.r F v) vs ts) : All2 (fun v (t : TV K) => t.r F' v) vs ts := All2.imp (fun _ t => t.mono e) h
theorem ews_cons {k : Gm → List (TV K) → Prop} (h : EW c Γ a T fun Γ1 x => EWs c Γ1 es fun Γ2 ts => k Γ2 (tv T x :: ts)) (hs : ∀ env, starEach (a :: es) env = (false, eval a env) :: starEach es env := by intro _; rfl) : EWs c Γ (a :: es) k := fun B σ F H S Q q => by
  refine of_pa (pa_cons peW paW (hs _)) (h B σ F H S _ fun v x Γ1 F1 H1 S1 e1 r1 h1 => ?_)
  exact h1 B σ F1 H1 S1 _ fun vs ts Γ2 F2 H2 S2 e2 r2 h2 => q (v :: vs) (tv T x :: ts) Γ2 F2 H2 S2 (e1.trans e2) ⟨T.mono e2 r1, r2⟩ h2
/-- all of one type -/
def EWL (c : Ctx P w K mg base lv N sc fn) (Γ : Gm) (es : List Expr) (T : Ty K α) (k : Gm → List α → Prop) : Prop :=
  ∀ B σ F H, Sta B Γ σ F H → ∀ Q : List V → Hp → Prop, (∀ vs as Γ' F' H', Sta B Γ' σ F' H' → Same F F' → All2 (T.r F') vs as → k Γ' as → Q vs H') → wA c.X es σ H Q
theorem ewl_nil {k : Gm → List α → Prop} (hk : k Γ []) : EWL c Γ [] T k := fun B σ F H S Q q => of_pa pa_nil (q [] [] Γ F H S (Same.refl _) trivial hk)
theorem ewl_cons {k : Gm → List α → Prop} (h : EW c Γ a T fun Γ1 x => EWL c Γ1 es T fun Γ2 as => k Γ2 (x :: as)) (hs : ∀ env, starEach (a :: es) env = (false, eval a env) :: starEach es env := by intro _; rfl) : EWL c Γ (a :: es) T k := fun B σ F H S Q q => by
  refine of_pa (pa_cons peW paW (hs _)) (h B σ F H S _ fun v x Γ1 F1 H1 S1 e1 r1 h1 => ?_)
  exact h1 B σ F1 H1 S1 _ fun vs as Γ2 F2 H2 S2 e2 r2 h2 => q (v :: vs) (x :: as) Γ2 F2 H2 S2 (e1.trans e2) ⟨T.mono e2 r1, r2⟩ h2

/-! ### displays -/
theorem le1000 {n : Nat} (h : n ≤ 1000) : n ≤ 1000 := h
theorem sz1000 {n : Nat} (h : n ≤ 1000) : n ≤ sizeLine := Nat.le_trans h (by decide)
theorem ew_tupL {x1} {k : Gm → List α → Prop} (h : EWL c Γ es T fun Γ1 as => as.length ≤ sizeLine ∧ k Γ1 as) : EW c Γ (.Tuple es x1 pos) (tTup T) k := fun B σ F H S Q q => by
  refine of_pe (pe_tup paW) (h B σ F H S _ fun vs as Γ1 F1 H1 S1 e1 r1 h1 => ⟨by rw [All2.length r1]; exact h1.1, fun p hp => ?_⟩)
  have st := Step.frozen (o := .tup vs) S1.sub hp
  exact q _ as Γ1 _ _ (S1.step st) (e1.trans st.ff) ⟨p, vs, rfl, .inl (.inl upd_same), All2.imp (fun _ _ => T.mono st.ff) r1⟩ h1.2
theorem ew_tup {T' : Ty K ρ} {x1} {R : Hp → List V → ρ → Prop} {m} (hT : T' = tupTy R m) {k : Gm → ρ → Prop} (h : EWs c Γ es fun Γ1 ts => ts.length ≤ 1000 ∧ ∃ z : ρ, (∀ F vs, All2 (fun v (t : TV K) => t.r F v) vs ts → R F vs z) ∧ k Γ1 z) : EW c Γ (.Tuple es x1 pos) T' k := fun B σ F H S Q q => by
  refine of_pe (pe_tup paW) (h B σ F H S _ fun vs ts Γ1 F1 H1 S1 e1 r1 ⟨h0, z, h1, h2⟩ => ⟨by rw [All2.length r1]; exact sz1000 h0, fun p hp => ?_⟩)
  have st := Step.frozen (o := .tup vs) S1.sub hp
  refine q _ z Γ1 _ _ (S1.step st) (e1.trans st.ff) ?_ h2
  rw [hT]
  exact ⟨p, vs, rfl, .inl (.inl upd_same), m st.ff (h1 _ _ r1)⟩
theorem ew_tup1 {x1} {k : Gm → α → Prop} (h : EW c Γ a A k) (hs : ∀ env, starEach [a] env = (false, eval a env) :: starEach [] env := by intro _; rfl) : EW c Γ (.Tuple [a] x1 pos) (tT1 A) k :=
  ew_tup rfl (ews_cons (h.imp fun _ x hx => ews_nil ⟨le1000 (by exact Nat.le_of_ble_eq_true rfl), x, fun F vs r => match vs, r with | [u], ⟨r, _⟩ => ⟨u, rfl, r⟩, hx⟩) hs)
theorem ew_tup2 {x1} {k : Gm → α × β → Prop} (h : EW c Γ a A fun Γ1 x => EW c Γ1 b B' fun Γ2 y => k Γ2 (x, y)) (hs : ∀ env, starEach [a, b] env = (false, eval a env) :: starEach [b] env := by intro _; rfl) (hs2 : ∀ env, starEach [b] env = (false, eval b env) :: starEach [] env := by intro _; rfl) : EW c Γ (.Tuple [a, b] x1 pos) (tT2 A B') k :=
  ew_tup rfl (ews_cons (h.imp fun _ x hx => ews_cons (hx.imp fun _ y hy => ews_nil ⟨le1000 (by exact Nat.le_of_ble_eq_true rfl), (x, y), fun F vs r => match vs, r with | [u, v], ⟨r, r', _⟩ => ⟨u, v, rfl, r, r'⟩, hy⟩) hs2) hs)
theorem ew_tup3 {f : Expr} {x1} {k : Gm → α × β × γ → Prop} (h : EW c Γ a A fun Γ1 x => EW c Γ1 b B' fun Γ2 y => EW c Γ2 f C fun Γ3 z => k Γ3 (x, y, z)) (hs : ∀ env, starEach [a, b, f] env = (false, eval a env) :: starEach [b, f] env := by intro _; rfl) (hs2 : ∀ env, starEach [b, f] env = (false, eval b env) :: starEach [f] env := by intro _; rfl) (hs3 : ∀ env, starEach [f] env = (false, eval f env) :: starEach [] env := by intro _; rfl) : EW c Γ (.Tuple [a, b, f] x1 pos) (tT3 A B' C) k :=
  ew_tup rfl (ews_cons (h.imp fun _ x hx => ews_cons (hx.imp fun _ y hy => ews_cons (hy.imp fun _ z hz => ews_nil ⟨le1000 (by exact Nat.le_of_ble_eq_true rfl), (x, y, z), fun F vs r => match vs, r with | [u, v, t], ⟨r, r', r'', _⟩ => ⟨u, v, t, rfl, r, r', r''⟩, hz⟩) hs3) hs2) hs)
theorem ew_tup4 {f g : Expr} {x1} {k : Gm → α × β × γ × δ → Prop} (h : EW c Γ a A fun Γ1 x => EW c Γ1 b B' fun Γ2 y => EW c Γ2 f C fun Γ3 z => EW c Γ3 g D' fun Γ4 u => k Γ4 (x, y, z, u)) (hs : ∀ env, starEach [a, b, f, g] env = (false, eval a env) :: starEach [b, f, g] env := by intro _; rfl) (hs2 : ∀ env, starEach [b, f, g] env = (false, eval b env) :: starEach [f, g] env := by intro _; rfl) (hs3 : ∀ env, starEach [f, g] env = (false, eval f env) :: starEach [g] env := by intro _; rfl) (hs4 : ∀ env, starEach [g] env = (false, eval g env) :: starEach [] env := by intro _; rfl) : EW c Γ (.Tuple [a, b, f, g] x1 pos) (tT4 A B' C D') k :=
  ew_tup rfl (ews_cons (h.imp fun _ x hx => ews_cons (hx.imp fun _ y hy => ews_cons (hy.imp fun _ z hz => ews_cons (hz.imp fun _ u hu => ews_nil ⟨le1000 (by exact Nat.le_of_ble_eq_true rfl), (x, y, z, u), fun F vs r => match vs, r with | [u1, v, t, s], ⟨r, r', r'', r3, _⟩ => ⟨u1, v, t, s, rfl, r, r', r'', r3⟩, hu⟩) hs4) hs3) hs2) hs)
/-- a new list -/
theorem el_lst {k : Gm → List α → Prop} (h : EWL c Γ es T fun Γ1 as => as.length ≤ sizeLine ∧ k Γ1 as) : EL c Γ (.List es pos) T k := fun B σ F H S Q q => by
  refine of_pe (pe_lst paW) (h B σ F H S _ fun vs as Γ1 F1 H1 S1 e1 r1 h1 => ⟨by rw [All2.length r1]; exact h1.1, fun p hp => ?_⟩)
  obtain ⟨S2, b1, b2, b3⟩ := S1.make (o := .lst vs) hp
  exact q p vs as Γ1 _ _ S2 e1 b1 b3 b2 upd_same r1 h1.2
theorem ew_el {k : Gm → List α → Prop} (h : EL c Γ e T k) : EW c Γ e (tLst T) k := fun B σ F H S Q q =>
  h B σ F H S Q fun p vs as Γ1 F1 H1 S1 e1 b1 b2 b3 hp r1 h1 => by
    obtain ⟨S2, e2⟩ := S1.freeze hp b1 b3
    exact q _ as Γ1 _ _ S2 (e1.trans e2) ⟨p, vs, rfl, upd_same, All2.imp (fun _ _ => T.mono e2) r1⟩ h1
end
end Px
/-! Px, fourth part: subscripts, calls, statements, loops. -/
namespace Px
open PySem PySem.Spec PyProof.Rows L2

/-- the built-in names that the text leaves alone -/
structure Bi (mg : Str → Option Value) : Prop where
  len : mg "len" = none
  range : mg "range" = none
  tuple : mg "tuple" = none
  list : mg "list" = none
  isinstance : mg "isinstance" = none
  int : mg "int" = none
  bool : mg "bool" = none
  str : mg "str" = none
  max : mg "max" = none
  min : mg "min" = none
  sum : mg "sum" = none
  all : mg "all" = none
  any : mg "any" = none
  zip : mg "zip" = none
  enumerate : mg "enumerate" = none
  sorted : mg "sorted" = none
  set : mg "set" = none
  dict : mg "dict" = none

theorem all2_at {α β : Type} {R : α → β → Prop} {vs : List α} {as : List β} {i : Int} {a : β} (h : All2 R vs as) (e : atI as i = some a) : ∃ v, atI vs i = some v ∧ R v a := by
  unfold atI at e ⊢
  rw [All2.length h]
  cases q : ixN as.length i with
  | none => rw [q] at e; cases e
  | some j =>
    rw [q] at e
    obtain ⟨v, h1, h2⟩ := All2.getR h (show as[j]? = some a from e)
    exact ⟨v, h1, h2⟩
section
variable {P : Program} {w : World} {K : PySem.W.Frag} {mg : Str → Option Value} {base : Heap} {lv : Nat} {N : List Str} {sc : Scope} {fn : Str → Bool}
variable {α β γ δ ρ : Type}
variable {c : Ctx P w K mg base lv N sc fn} {Γ : Gm} {e a b d : Expr} {es : List Expr} {pos pos' : Pos} {T : Ty K α} {A : Ty K α} {B' : Ty K β} {C : Ty K γ} {D' : Ty K δ}

/-! ### subscripts -/
theorem ew_ixG {r : R2} {k : Gm → γ → Prop} (ho : ∀ {X : Cx}, X.K = K → IxR X r) (h : EW c Γ a A fun Γ1 i => EW c Γ1 b B' fun Γ2 j => RW r A B' C i j fun z => k Γ2 z) (hs : PlainIx b) : EW c Γ (.Subscript a b pos) C k := by
  intro B σ F H S Q q
  refine of_pe (pe_ix (ho c.hK) peW peW hs) ?_
  refine h B σ F H S _ fun v i Γ1 F1 H1 S1 e1 r1 h1 => ?_
  refine h1 B σ F1 H1 S1 _ fun u j Γ2 F2 H2 S2 e2 r2 h2 => ?_
  exact h2 F2 H2 v u S2.sub (A.mono e2 r1) r2 Q fun z F3 H3 y e3 r3 h3 => q z y Γ2 F3 H3 (S2.step e3) ((e1.trans e2).trans e3.ff) r3 h3
theorem ew_ixQ {k : Gm → α → Prop} (h : EW c Γ a (tSeq T) fun Γ1 xs => EW c Γ1 b tInt fun Γ2 i => ∃ x, atI xs i = some x ∧ k Γ2 x) (hs : PlainIx b := by intro _ _; rfl) : EW c Γ (.Subscript a b pos) T k :=
  ew_ixG (r := rIxL K) (fun hK => by rw [← hK]; exact ix_list) (h.imp fun _ xs h => h.imp fun _ i ⟨x, h1, h2⟩ => fun F H u v S ⟨p, vs, e1, hp, hv⟩ ev Q q => by
    obtain ⟨z, hz, rz⟩ := all2_at hv h1
    exact ⟨p, vs, i, z, e1, ev, sqL_mono S hp, hz, q z F H x (Step.refl S) rz h2⟩) hs
theorem ew_ixL {k : Gm → α → Prop} (h : EW c Γ a (tLst T) fun Γ1 xs => EW c Γ1 b tInt fun Γ2 i => ∃ x, atI xs i = some x ∧ k Γ2 x) (hs : PlainIx b := by intro _ _; rfl) : EW c Γ (.Subscript a b pos) T k :=
  ew_ixG (r := rIxL K) (fun hK => by rw [← hK]; exact ix_list) (h.imp fun _ xs h => h.imp fun _ i ⟨x, h1, h2⟩ => fun F H u v S ⟨p, vs, e1, hp, hv⟩ ev Q q => by
    obtain ⟨z, hz, rz⟩ := all2_at hv h1
    exact ⟨p, vs, i, z, e1, ev, .inl (.inl (S _ _ hp)), hz, q z F H x (Step.refl S) rz h2⟩) hs
theorem ew_ixT {k : Gm → α → Prop} (h : EW c Γ a (tTup T) fun Γ1 xs => EW c Γ1 b tInt fun Γ2 i => ∃ x, atI xs i = some x ∧ k Γ2 x) (hs : PlainIx b := by intro _ _; rfl) : EW c Γ (.Subscript a b pos) T k :=
  ew_ixG (r := rIxT K) (fun hK => by rw [← hK]; exact ix_tup) (h.imp fun _ xs h => h.imp fun _ i ⟨x, h1, h2⟩ => fun F H u v S ⟨p, vs, e1, hp, hv⟩ ev Q q => by
    obtain ⟨z, hz, rz⟩ := all2_at hv h1
    exact ⟨p, vs, i, z, e1, ev, sqT_mono S hp, hz, q z F H x (Step.refl S) rz h2⟩) hs
/-- a written place of a tuple of known make -/
theorem ew_ixP {T' : Ty K ρ} {R : Hp → List V → ρ → Prop} {m} (hT : T' = tupTy R m) {i : Int} {j} {p' : Pos} {k : Gm → γ → Prop} (f : ρ → γ) (hf : ∀ F vs z, R F vs z → ∃ v, atI vs i = some v ∧ C.r F v (f z)) (h : EW c Γ a T' fun Γ1 z => k Γ1 (f z)) : EW c Γ (.Subscript a (.Constant (.int i) j p') pos) C k :=
  ew_ixG (r := rIxT K) (fun hK => by rw [← hK]; exact ix_tup) (h.imp fun _ z h => ew_int (fun F H u v S hu ev Q q => by
    rw [hT] at hu
    obtain ⟨p, vs, e1, hp, hv⟩ := hu
    obtain ⟨x, hx, rx⟩ := hf F vs z hv
    exact ⟨p, vs, i, x, e1, ev, sqT_mono S hp, hx, q x F H (f z) (Step.refl S) rx h⟩)) (fun _ _ => rfl)
theorem ew_T1_0 {j} {p' : Pos} {k : Gm → α → Prop} (h : EW c Γ a (tT1 A) fun Γ1 z => k Γ1 z) : EW c Γ (.Subscript a (.Constant (.int 0) j p') pos) A k := ew_ixP (T' := tT1 A) rfl (fun z => z) (fun F vs z ⟨x, e, h1⟩ => ⟨x, by rw [e]; rfl, h1⟩) h
theorem ew_T2_0 {j} {p' : Pos} {k : Gm → α → Prop} (h : EW c Γ a (tT2 A B') fun Γ1 z => k Γ1 z.1) : EW c Γ (.Subscript a (.Constant (.int 0) j p') pos) A k := ew_ixP (T' := tT2 A B') rfl (fun z => z.1) (fun F vs z ⟨x, y, e, h1, h2⟩ => ⟨x, by rw [e]; rfl, h1⟩) h
theorem ew_T2_1 {j} {p' : Pos} {k : Gm → β → Prop} (h : EW c Γ a (tT2 A B') fun Γ1 z => k Γ1 z.2) : EW c Γ (.Subscript a (.Constant (.int 1) j p') pos) B' k := ew_ixP (T' := tT2 A B') rfl (fun z => z.2) (fun F vs z ⟨x, y, e, h1, h2⟩ => ⟨y, by rw [e]; rfl, h2⟩) h
theorem ew_T3_0 {j} {p' : Pos} {k : Gm → α → Prop} (h : EW c Γ a (tT3 A B' C) fun Γ1 z => k Γ1 z.1) : EW c Γ (.Subscript a (.Constant (.int 0) j p') pos) A k := ew_ixP (T' := tT3 A B' C) rfl (fun z => z.1) (fun F vs z ⟨x, y, u, e, h1, h2, h3⟩ => ⟨x, by rw [e]; rfl, h1⟩) h
theorem ew_T3_1 {j} {p' : Pos} {k : Gm → β → Prop} (h : EW c Γ a (tT3 A B' C) fun Γ1 z => k Γ1 z.2.1) : EW c Γ (.Subscript a (.Constant (.int 1) j p') pos) B' k := ew_ixP (T' := tT3 A B' C) rfl (fun z => z.2.1) (fun F vs z ⟨x, y, u, e, h1, h2, h3⟩ => ⟨y, by rw [e]; rfl, h2⟩) h
theorem ew_T3_2 {j} {p' : Pos} {k : Gm → γ → Prop} (h : EW c Γ a (tT3 A B' C) fun Γ1 z => k Γ1 z.2.2) : EW c Γ (.Subscript a (.Constant (.int 2) j p') pos) C k := ew_ixP (T' := tT3 A B' C) rfl (fun z => z.2.2) (fun F vs z ⟨x, y, u, e, h1, h2, h3⟩ => ⟨u, by rw [e]; rfl, h3⟩) h
theorem ew_T4_0 {j} {p' : Pos} {k : Gm → α → Prop} (h : EW c Γ a (tT4 A B' C D') fun Γ1 z => k Γ1 z.1) : EW c Γ (.Subscript a (.Constant (.int 0) j p') pos) A k := ew_ixP (T' := tT4 A B' C D') rfl (fun z => z.1) (fun F vs z ⟨x, y, u, t, e, h1, h2, h3, h4⟩ => ⟨x, by rw [e]; rfl, h1⟩) h
theorem ew_T4_1 {j} {p' : Pos} {k : Gm → β → Prop} (h : EW c Γ a (tT4 A B' C D') fun Γ1 z => k Γ1 z.2.1) : EW c Γ (.Subscript a (.Constant (.int 1) j p') pos) B' k := ew_ixP (T' := tT4 A B' C D') rfl (fun z => z.2.1) (fun F vs z ⟨x, y, u, t, e, h1, h2, h3, h4⟩ => ⟨y, by rw [e]; rfl, h2⟩) h
theorem ew_T4_2 {j} {p' : Pos} {k : Gm → γ → Prop} (h : EW c Γ a (tT4 A B' C D') fun Γ1 z => k Γ1 z.2.2.1) : EW c Γ (.Subscript a (.Constant (.int 2) j p') pos) C k := ew_ixP (T' := tT4 A B' C D') rfl (fun z => z.2.2.1) (fun F vs z ⟨x, y, u, t, e, h1, h2, h3, h4⟩ => ⟨u, by rw [e]; rfl, h3⟩) h
theorem ew_T4_3 {j} {p' : Pos} {k : Gm → δ → Prop} (h : EW c Γ a (tT4 A B' C D') fun Γ1 z => k Γ1 z.2.2.2) : EW c Γ (.Subscript a (.Constant (.int 3) j p') pos) D' k := ew_ixP (T' := tT4 A B' C D') rfl (fun z => z.2.2.2) (fun F vs z ⟨x, y, u, t, e, h1, h2, h3, h4⟩ => ⟨t, by rw [e]; rfl, h4⟩) h
/-- of an own list -/
theorem ew_ixO {i : Nat} {x : Str} {p : Pos} {xs : List α} {k : Gm → α → Prop} (hs : slotOf N x 0 = some i) (hv : visB sc x = true) (hg : Γ[i]? = some (some (ownL T xs))) (h : EW c Γ b tInt fun Γ2 j => ∃ z, Γ2[i]? = some (some (ownL T xs)) ∧ atI xs j = some z ∧ k Γ2 z)
    (hp : PlainIx b := by intro _ _; rfl) (hd : (x == ("__debug__" : Str)) = false := by decide +kernel) (hcd : (x == ("__classdict__" : Str)) = false := by decide +kernel) : EW c Γ (.Subscript (.Name x p) b pos) T k := by
  intro B σ F H S Q q
  have hN := c.hN
  have hsc := c.hsc
  have hK := c.hK
  refine of_pe (pe_ix ix_list (pe_var (i := i) (by rw [hN]; exact slotOf_at hs) (by rw [hsc]; exact visB_vis hv) hd hcd) peW hp) ?_
  obtain ⟨v, ps, h1, ⟨p1, vs1, h2, _⟩, _⟩ := S.get hg
  refine ⟨v, h1, h B σ F H S _ fun u j Γ2 F2 H2 S2 e2 r2 ⟨z, g2, hz, hk⟩ => ?_⟩
  obtain ⟨v', ps', h1', ⟨p2, vs2, h2', h3', h4', h5'⟩, _⟩ := S2.get g2
  rw [h1] at h1'; cases h1'
  obtain ⟨y, hy, ry⟩ := all2_at h5' hz
  exact ⟨p2, vs2, j, y, h2', r2, .inl (.inl h4'), hy, q y z Γ2 F2 H2 S2 e2 ry hk⟩

/-! ### len -/
theorem ew_B {r : List V → Hp → VK → Prop} {x id : Str} {i' : String} {k : Gm → γ → Prop} (ho : ∀ {X : Cx}, X.K = K → X.calm = true → CallR X (.builtin i') r) (hg : glB sc x = true) (hm : mg x = none) (hv : bootBuiltins x = some (.builtin i')) (h : EWs c Γ (e :: es) fun Γ1 ts => RC r ts C fun z => k Γ1 z)
    (hn : x ≠ "__name__" := by decide +kernel) (hdb : (x == ("__debug__" : Str)) = false := by decide +kernel)
    (he : ∀ env, starEach (e :: es) env = (false, eval e env) :: starEach es env := by intro _; rfl) (hpl : ∀ env, (backTo pos (starEach es env)).any (·.1) = false := by intro _; rfl) {p : Pos} : EW c Γ (.Call (.Name x p) (e :: es) [] pos) C k := by
  intro B σ F H S Q q
  have hsc := c.hsc
  have hmg := c.hmg
  refine of_pe (pe_callB (ho c.hK c.calm) (by show c.X.env.scope.names.lookup x = _; rw [hsc]; exact glB_gl hg) (by rw [hmg]; exact hm) hv paW hn hdb (he _) (hpl _)) ?_
  exact h B σ F H S _ fun vs ts Γ1 F1 H1 S1 e1 r1 h1 => h1 F1 H1 vs S1.sub r1 Q fun z F3 H3 y e3 r3 h3 => q z y Γ1 F3 H3 (S1.step e3) (e1.trans e3.ff) r3 h3
theorem ew_Ty {r : List V → Hp → VK → Prop} {x : Str} {i' : String} {k : Gm → γ → Prop} (ho : ∀ {X : Cx}, X.K = K → X.calm = true → CallR X (.type i') r) (hg : glB sc x = true) (hm : mg x = none) (hv : bootBuiltins x = some (.type i')) (h : EWs c Γ (e :: es) fun Γ1 ts => RC r ts C fun z => k Γ1 z)
    (hn : x ≠ "__name__" := by decide +kernel) (hdb : (x == ("__debug__" : Str)) = false := by decide +kernel)
    (he : ∀ env, starEach (e :: es) env = (false, eval e env) :: starEach es env := by intro _; rfl) (hpl : ∀ env, (backTo pos (starEach es env)).any (·.1) = false := by intro _; rfl) {p : Pos} : EW c Γ (.Call (.Name x p) (e :: es) [] pos) C k := by
  intro B σ F H S Q q
  have hsc := c.hsc
  have hmg := c.hmg
  refine of_pe (pe_callTy (ho c.hK c.calm) (by show c.X.env.scope.names.lookup x = _; rw [hsc]; exact glB_gl hg) (by rw [hmg]; exact hm) hv paW hn hdb (he _) (hpl _)) ?_
  exact h B σ F H S _ fun vs ts Γ1 F1 H1 S1 e1 r1 h1 => h1 F1 H1 vs S1.sub r1 Q fun z F3 H3 y e3 r3 h3 => q z y Γ1 F3 H3 (S1.step e3) (e1.trans e3.ff) r3 h3
def rLen (K : PySem.W.Frag) : List V → Hp → VK → Prop := fun xs H Q => ∃ x n, xs = [x] ∧ LenV K x H n ∧ Q (.int n) H
theorem boot_len_ : bootBuiltins "len" = some (.builtin "len") := PySem.boot_len
/-- len, by what is known of the thing -/
theorem ew_len (bi : Bi mg) {k : Gm → Int → Prop} {p : Pos} (hg : glB sc "len" = true) (n : α → Nat) (hn : ∀ F v x, T.r F v x → LenV K v F (n x)) (h : EW c Γ a T fun Γ1 x => k Γ1 (n x)) (he : ∀ env, starEach [a] env = (false, eval a env) :: starEach [] env := by intro _; rfl) : EW c Γ (.Call (.Name "len" p) [a] [] pos) tInt k :=
  ew_B (id := "len") (r := rLen K) (fun hK _ => by rw [← hK]; exact call_len) hg bi.len boot_len_ (ews_cons (h.imp fun _ x hx => ews_nil (fun F H xs S r Q q => match xs, r with
    | [v], ⟨r, _⟩ => by
      refine ⟨v, n x, rfl, ?_, q _ F H _ (Step.refl S) rfl hx⟩
      have l := hn F v x r
      unfold LenV at l ⊢
      cases v with
      | ref p => exact l.elim (fun ⟨ys, h1, h2⟩ => .inl ⟨ys, sqL_mono S h1, h2⟩) fun ⟨ys, h1, h2⟩ => .inr ⟨ys, sqT_mono S h1, h2⟩
      | _ => exact l)) he) (he := he)
theorem lenL : ∀ F v x, (tLst T).r F v x → LenV K v F x.length := fun F v x ⟨p, vs, e, h, r⟩ => by
  subst e; exact .inl ⟨vs, .inl (.inl h), (All2.length r).symm⟩
theorem lenQ : ∀ F v x, (tSeq T).r F v x → LenV K v F x.length := fun F v x ⟨p, vs, e, h, r⟩ => by
  subst e; exact .inl ⟨vs, h, (All2.length r).symm⟩
theorem lenT : ∀ F v x, (tTup T).r F v x → LenV K v F x.length := fun F v x ⟨p, vs, e, h, r⟩ => by
  subst e; exact .inr ⟨vs, h, (All2.length r).symm⟩
end
end Px
/-! Px, fifth part: statements, loops, calls of defs. -/
namespace Px
open PySem PySem.Spec PyProof.Rows L2

section
variable {P : Program} {w : World} {K : PySem.W.Frag} {mg : Str → Option Value} {base : Heap} {lv : Nat} {N : List Str} {sc : Scope} {fn : Str → Bool}
variable {α β γ δ ρ : Type}
variable {c : Ctx P w K mg base lv N sc fn} {Γ : Gm} {e a b d : Expr} {es : List Expr} {pos pos' : Pos} {T : Ty K α} {A : Ty K α} {B' : Ty K β} {C : Ty K γ} {D' : Ty K δ}

/-! ### statements -/
/-- how a result lies: by the heap at the entry, the value, the datum, what is frozen and what stands now -/
abbrev Rs (ρ : Type) := Hp → V → ρ → Hp → Hp → Prop
def rTy {K : PySem.W.Frag} {ρ : Type} (T : Ty K ρ) : Rs ρ := fun _ v a F _ => T.r F v a
/-- a fresh list -/
def rLst {K : PySem.W.Frag} {α : Type} (T : Ty K α) : Rs (List α) := fun BH v as F H => ∃ p vs, v = .ref p ∧ BH p = none ∧ F p = none ∧ H p = some (.lst vs) ∧ All2 (T.r F) vs as
structure En (ρ : Type) where
  R : Rs ρ
  rt : Gm → ρ → Prop
  nx : Gm → Prop
  bk : Gm → Prop := fun _ => False
  ct : Gm → Prop := fun _ => False
def cD (B : Base) (D : En ρ) : L2.Ends :=
  { nx := fun σ H => ∃ Γ F, Sta B Γ σ F H ∧ D.nx Γ
    rt := fun v H => ∃ Γ σ F a, Sta B Γ σ F H ∧ D.R B.H v a F H ∧ D.rt Γ a
    bk := fun σ H => ∃ Γ F, Sta B Γ σ F H ∧ D.bk Γ
    ct := fun σ H => ∃ Γ F, Sta B Γ σ F H ∧ D.ct Γ }
def SW (c : Ctx P w K mg base lv N sc fn) (Γ : Gm) (ss : List Stmt) (D : En ρ) : Prop := ∀ B σ F H, (∀ p, ¬ B.loc p) → Sta B Γ σ F H → wSs c.X ss (cD B D) σ H
def S1 (c : Ctx P w K mg base lv N sc fn) (Γ : Gm) (st : Stmt) (D : En ρ) : Prop := ∀ B σ F H, (∀ p, ¬ B.loc p) → Sta B Γ σ F H → wS c.X st (cD B D) σ H
variable {D : En ρ} {st : Stmt} {rest ss ss' : List Stmt}
theorem sw_nil (h : D.nx Γ) : SW c Γ [] D := fun B σ F H hB S => of_pss pss_nil ⟨Γ, F, S, h⟩
theorem sw_cons (h : S1 c Γ st { D with nx := fun Γ1 => SW c Γ1 rest D }) : SW c Γ (st :: rest) D := fun B σ F H hB S => by
  refine of_pss (pss_cons psW pssW) ?_
  refine wS_mono (h B σ F H hB S) (fun σ1 H1 ⟨Γ1, F1, S1, h1⟩ => ?_) (fun _ _ h => h) (fun _ _ h => h) (fun _ _ h => h)
  exact h1 B σ1 F1 H1 hB S1
theorem sw_one (h : S1 c Γ st D) : SW c Γ [st] D := sw_cons (fun B σ F H hB S => wS_mono (h B σ F H hB S) (fun σ1 H1 ⟨Γ1, F1, S1, h1⟩ => ⟨Γ1, F1, S1, sw_nil h1⟩) (fun _ _ h => h) (fun _ _ h => h) (fun _ _ h => h))
theorem S1.imp {D' : En ρ} (h : S1 c Γ st D) (hT : D'.R = D.R) (h1 : ∀ Γ, D.nx Γ → D'.nx Γ) (h2 : ∀ Γ a, D.rt Γ a → D'.rt Γ a) (h3 : ∀ Γ, D.bk Γ → D'.bk Γ) (h4 : ∀ Γ, D.ct Γ → D'.ct Γ) : S1 c Γ st D' := fun B σ F H hB S =>
  wS_mono (h B σ F H hB S) (fun _ _ ⟨Γ1, F1, S1, q⟩ => ⟨Γ1, F1, S1, h1 _ q⟩) (fun _ _ ⟨Γ1, σ1, F1, a, S1, r, q⟩ => ⟨Γ1, σ1, F1, a, S1, by rw [hT]; exact r, h2 _ _ q⟩) (fun _ _ ⟨Γ1, F1, S1, q⟩ => ⟨Γ1, F1, S1, h3 _ q⟩) (fun _ _ ⟨Γ1, F1, S1, q⟩ => ⟨Γ1, F1, S1, h4 _ q⟩)
theorem SW.imp {D' : En ρ} (h : SW c Γ ss D) (hT : D'.R = D.R) (h1 : ∀ Γ, D.nx Γ → D'.nx Γ) (h2 : ∀ Γ a, D.rt Γ a → D'.rt Γ a) (h3 : ∀ Γ, D.bk Γ → D'.bk Γ) (h4 : ∀ Γ, D.ct Γ → D'.ct Γ) : SW c Γ ss D' := fun B σ F H hB S =>
  wSs_mono (h B σ F H hB S) (fun _ _ ⟨Γ1, F1, S1, q⟩ => ⟨Γ1, F1, S1, h1 _ q⟩) (fun _ _ ⟨Γ1, σ1, F1, a, S1, r, q⟩ => ⟨Γ1, σ1, F1, a, S1, by rw [hT]; exact r, h2 _ _ q⟩) (fun _ _ ⟨Γ1, F1, S1, q⟩ => ⟨Γ1, F1, S1, h3 _ q⟩) (fun _ _ ⟨Γ1, F1, S1, q⟩ => ⟨Γ1, F1, S1, h4 _ q⟩)
theorem SW.weak {Γ' : Gm} (h : SW c Γ' ss D) (hl : Γ'.length = Γ.length) (hw : ∀ (i : Nat) (e : Ent), Γ'[i]? = some (some e) → Γ[i]? = some (some e)) : SW c Γ ss D := fun B σ F H hB S => h B σ F H hB (S.weak hl hw)
theorem s1_ret {T : Ty K ρ} (hR : D.R = rTy T) (h : EW c Γ e T D.rt) : S1 c Γ (.Return (some e) pos) D := fun B σ F H hB S => of_ps (ps_ret peW) (h B σ F H S _ fun v a Γ1 F1 H1 S1 e1 r1 h1 => ⟨Γ1, σ, F1, a, S1, by rw [hR]; exact r1, h1⟩)
theorem s1_retL {D : En (List α)} (hR : D.R = rLst T) (h : EL c Γ e T D.rt) : S1 c Γ (.Return (some e) pos) D := fun B σ F H hB S => of_ps (ps_ret peW) (h B σ F H S _ fun p vs as Γ1 F1 H1 S1 e1 b1 b2 b3 hp r1 h1 => ⟨Γ1, σ, F1, as, S1.unpin, by rw [hR]; exact ⟨p, vs, rfl, b1, b2, hp, r1⟩, h1⟩)
theorem s1_retN {D : En Unit} (hT : D.R = rTy (K := K) tNon) (h : D.rt Γ ()) : S1 c Γ (.Return none pos) D := fun B σ F H hB S => of_ps ps_retN ⟨Γ, σ, F, (), S, by rw [hT]; rfl, h⟩
theorem s1_pass (h : D.nx Γ) : S1 c Γ (.Pass pos) D := fun B σ F H hB S => of_ps ps_pass ⟨Γ, F, S, h⟩
theorem s1_break (h : D.bk Γ) : S1 c Γ (.Break pos) D := fun B σ F H hB S => of_ps ps_break ⟨Γ, F, S, h⟩
theorem s1_continue (h : D.ct Γ) : S1 c Γ (.Continue pos) D := fun B σ F H hB S => of_ps ps_continue ⟨Γ, F, S, h⟩
theorem s1_expr (h : EW c Γ e T fun Γ1 _ => D.nx Γ1) (hs : ∀ env, swapsWith e none pos.line env = pure false := by intro _; rfl) : S1 c Γ (.Expr e pos) D := fun B σ F H hB S => of_ps (ps_expr peW (hs _)) (h B σ F H S _ fun v a Γ1 F1 H1 S1 e1 r1 h1 => ⟨Γ1, F1, S1, h1⟩)
theorem s1_if {t : Expr} (h : TW c Γ t fun Γ1 x => (x = true → SW c Γ1 ss D) ∧ (x = false → SW c Γ1 ss' D)) : S1 c Γ (.If t ss ss' pos) D := fun B σ F H hB S => by
  refine of_ps (ps_if ptW pssW pssW) (h B σ F H S _ fun x Γ1 F1 H1 S1 e1 h1 => ?_)
  cases x with
  | true => exact iteT (h1.1 rfl B σ F1 H1 hB S1)
  | false => exact iteF (h1.2 rfl B σ F1 H1 hB S1)
/-- x = e -/
theorem s1_set {i : Nat} {x : Str} (hs : slotOf N x 0 = some i) (hv : locB sc fn x = true) (h : EW c Γ e T fun Γ1 z => i < Γ1.length ∧ D.nx (Γ1.set i (some (val T z)))) (hsw : ∀ env, swapsWith e (some (.Name x pos')) pos.line env = pure false := by intro _; rfl) : S1 c Γ (.Assign [.Name x pos'] e pos) D := fun B σ F H hB S => by
  have hN := c.hN
  have hsc := c.hsc
  have hfn := c.hfn
  have hl := locB_loc hv
  refine of_ps (ps_set (i := i) (by rw [hN]; exact c.nd) (by rw [hN]; exact slotOf_at hs) (by rw [hsc]; exact hl.1) peW (hsw _) (by rw [hsc, hfn]; exact hl.2)) ?_
  exact h B σ F H S _ fun v a Γ1 F1 H1 S1 e1 r1 h1 => ⟨Γ1.set i (some (val T a)), F1, S1.set h1.1 ⟨fun _ z => z, r1⟩, h1.2⟩
/-- x = e, a new list of one's own -/
theorem s1_setL {i : Nat} {x : Str} (hs : slotOf N x 0 = some i) (hv : locB sc fn x = true) (h : EL c Γ e T fun Γ1 z => i < Γ1.length ∧ D.nx (Γ1.set i (some (ownL T z)))) (hsw : ∀ env, swapsWith e (some (.Name x pos')) pos.line env = pure false := by intro _; rfl) : S1 c Γ (.Assign [.Name x pos'] e pos) D := fun B σ F H hB S => by
  have hN := c.hN
  have hsc := c.hsc
  have hfn := c.hfn
  have hl := locB_loc hv
  refine of_ps (ps_set (i := i) (by rw [hN]; exact c.nd) (by rw [hN]; exact slotOf_at hs) (by rw [hsc]; exact hl.1) peW (hsw _) (by rw [hsc, hfn]; exact hl.2)) ?_
  exact h B σ F H S _ fun p vs as Γ1 F1 H1 S1 e1 b1 b2 b3 hp r1 h1 => ⟨Γ1.set i (some (ownL T as)), F1, S1.take h1.1 ⟨p, vs, rfl, fun q => Iff.rfl, hp, r1⟩ b2 (by rw [hp]; exact fun z => nomatch z) b1 b3, h1.2⟩
/-- x op= e, on ints -/
theorem s1_aug {i : Nat} {x : Str} {op : Operator} {f : Int → Int → Int} {z : Int} (ho : ∀ {X : Cx}, PIp X op (ipI f)) (hs : slotOf N x 0 = some i) (hv : locB sc fn x = true) (hg : Γ[i]? = some (some (val (K := K) tInt z))) (h : EW c Γ e tInt fun Γ1 u => i < Γ1.length ∧ D.nx (Γ1.set i (some (val (K := K) tInt (f z u))))) : S1 c Γ (.AugAssign (.Name x pos') op e pos) D := fun B σ F H hB S => by
  have hN := c.hN
  have hsc := c.hsc
  have hfn := c.hfn
  have hl := locB_loc hv
  refine of_ps (ps_aug (i := i) (by rw [hN]; exact c.nd) (by rw [hN]; exact slotOf_at hs) (by rw [hsc]; exact hl.1) peW ho (by rw [hsc, hfn]; exact hl.2)) ?_
  obtain ⟨v, ps, h1, h2, _⟩ := S.get hg
  refine ⟨v, h1, h B σ F H S _ fun u a Γ1 F1 H1 S1 e1 r1 h3 => ⟨z, a, h2.2, r1, ?_⟩⟩
  exact ⟨_, F1, S1.set (e := val (K := K) tInt (f z a)) h3.1 ⟨fun _ z => z, rfl⟩, h3.2⟩
/-! ### a call of a def -/
structure Prom (P : Program) (w : World) (K : PySem.W.Frag) (mg : Str → Option Value) (base : Heap) (name : Str) (lv : Nat) (ps : List Str) (sp : Sp) : Prop where
  ex : ∃ f fd, mg name = some (.ref f) ∧ PySem.W.keepIn K (.ref f) = true ∧ Binds K fd ps [] ∧ FnOk P w K mg base CX0 lv f fd ps sp
/-- a def that changes nothing that stood before -/
def spP {ι : Type} (args : ι → List (TV K)) (T : Ty K ρ) (pre : ι → Prop) (post : ι → ρ → Prop) : Sp := fun vs H Q _ =>
  ∃ F i, Same F H ∧ All2 (fun v (t : TV K) => t.r F v) vs (args i) ∧ pre i ∧ ∀ v r F' H', Step F H F' H' → T.r F' v r → post i r → Q v H'
theorem ew_call {ι : Type} {args : ι → List (TV K)} {R : Ty K ρ} {pre : ι → Prop} {post : ι → ρ → Prop} {name : Str} {ps : List Str} {l : Nat} {k : Gm → ρ → Prop} {p : Pos} (G : Prom P w K mg base name l ps (spP args R pre post)) (hl : l ≤ lv) (hg : glB sc name = true)
    (h : EWs c Γ (e :: es) fun Γ1 ts => ∃ i, ts = args i ∧ pre i ∧ ∀ r, post i r → k Γ1 r) (hdb : (name == ("__debug__" : Str)) = false := by decide +kernel)
    (he : ∀ env, starEach (e :: es) env = (false, eval e env) :: starEach es env := by intro _; rfl) (hpl : ∀ env, (backTo pos (starEach es env)).any (·.1) = false := by intro _; rfl) : EW c Γ (.Call (.Name name p) (e :: es) [] pos) R k := by
  intro B σ F H S Q q
  obtain ⟨X, rfl, rfl, rfl, rfl, rfl, rfl, nd, rfl, rfl, calm, room, pas⟩ := c
  obtain ⟨f, fd, g1, g2, g3, g4⟩ := G.ex
  refine of_pe (pe_call g4 (room.mono hl) (glB_gl hg) g1 g2 g3 .nil pass0 paW hdb (he _) (hpl _)) ?_
  refine h B σ F H S _ fun vs ts Γ1 F1 H1 S1 e1 r1 ⟨i, ei, hp, hk⟩ => ?_
  subst ei
  show spP args R pre post (vs ++ []) H1 Q E0
  rw [List.append_nil]
  exact ⟨F1, i, S1.sub, r1, hp, fun v r F2 H2 st rr hr => q v r Γ1 F2 H2 (S1.step st) (e1.trans st.ff) rr (hk r hr)⟩
/-! ### a def keeps its promise -/
theorem fn_px {x qual : Str} {st : Stmt} {f : Addr} {fd : FuncData} {ps : List Str} {sp : Sp} (F : Fun K x qual st f fd) (S : FnScope N ps (defScope st)) (len : ∀ vs H Q E, sp vs H Q E → vs.length = ps.length)
    (h : ∀ vs H Q E, sp vs H Q E → ∃ (ρ : Type) (B : Base) (Γ : Gm) (F : Hp) (T : Rs ρ) (rt : Gm → ρ → Prop) (nx : Gm → Prop), (∀ p, ¬ B.loc p) ∧ Sta B Γ (start N vs) F H ∧ (∀ c : Ctx P w K mg base lv N (defScope st) (fun _ => true), SW c Γ (defBody st) ⟨T, rt, nx, fun _ => False, fun _ => False⟩) ∧
      (∀ v Γ' σ' F' H' a, Sta B Γ' σ' F' H' → T B.H v a F' H' → rt Γ' a → Q v H') ∧ (∀ Γ' σ' F' H', Sta B Γ' σ' F' H' → nx Γ' → Q .non H')) : FnOk P w K mg base CX0 (lv + 1) f fd ps sp := by
  refine F.ok S len fun cdv A outer s H vs Q E hr hs => ?_
  obtain ⟨ρ, B, Γ, F0, T, rt, nx, hB, S0, hb, h1, h2⟩ := h vs H Q E hs
  refine ⟨_, pssW, ?_⟩
  refine wSs_mono (hb ⟨(cxOf CX0 P w K mg base N qual (defScope st) f cdv A outer s H E).nox, rfl, rfl, rfl, rfl, rfl, rfl, S.nd, rfl, rfl, rfl, hr, PassesOwn.never⟩ B (start N vs) F0 H hB S0) (fun σ1 H1 ⟨Γ1, F1, S1, q⟩ => h2 _ _ _ _ S1 q) (fun v H1 ⟨Γ1, σ1, F1, a, S1, r, q⟩ => h1 v _ _ _ _ a S1 r q) (fun σ1 H1 ⟨Γ1, F1, S1, q⟩ => ?_) fun σ1 H1 ⟨Γ1, F1, S1, q⟩ => ?_
  · exact q.elim
  · exact q.elim
def entV (t : TV K) : Ent := ⟨fun v ps F _ => (∀ p, ¬ ps p) ∧ t.r F v, true, false, fun h e _ => ⟨h.1, t.mono e h.2⟩, fun _ _ _ _ _ h => h.1⟩
/-- the slots at the entry -/
def gmOf (n : Nat) (ts : List (TV K)) : Gm := ts.map (fun t => some (entV t)) ++ List.replicate (n - ts.length) none
theorem start_get {vs : List V} {i : Nat} {v : V} (h : vs[i]? = some v) : (start N vs)[i]? = some (some v) := by
  unfold L2.start
  have hi : i < vs.length := (List.getElem?_eq_some_iff.mp h).1
  rw [List.getElem?_append_left (by simpa using hi), List.getElem?_map, h]
  rfl
theorem start_len {vs : List V} (h : vs.length ≤ N.length) : (start N vs).length = N.length := by
  unfold L2.start
  rw [List.length_append, List.length_map, List.length_replicate]
  omega
theorem gm_get {n : Nat} {ts : List (TV K)} {i : Nat} {x : Ent} (h : (gmOf n ts)[i]? = some (some x)) : ∃ t, ts[i]? = some t ∧ x = entV t := by
  unfold gmOf at h
  by_cases hi : i < ts.length
  · rw [List.getElem?_append_left (by simpa using hi), List.getElem?_map, List.getElem?_eq_getElem hi] at h
    exact ⟨ts[i], List.getElem?_eq_getElem hi, by simpa using h.symm⟩
  · rw [List.getElem?_append_right (by simpa using hi), List.getElem?_replicate] at h
    split at h <;> cases h
theorem sta_start {ts : List (TV K)} {vs : List V} {F H : Hp} (hs : Same F H) (r : All2 (fun v (t : TV K) => t.r F v) vs ts) (hl : vs.length ≤ N.length) : Sta ⟨F, H, fun _ => False, fun _ => False, fun _ => False⟩ (gmOf N.length ts) (start N vs) F H := by
  have h0 := All2.length r
  refine ⟨?_, hs, Same.refl _, fun _ _ h _ => h, fun _ h => h, fun _ _ h => h, fun _ h => h.elim, fun _ _ => False, fun _ _ h => h.elim, fun _ _ _ h => h.elim, fun i x hx => ?_⟩
  · rw [start_len hl]
    unfold gmOf
    rw [List.length_append, List.length_map, List.length_replicate]
    omega
  · obtain ⟨t, ht, rfl⟩ := gm_get hx
    obtain ⟨v, hv, rv⟩ := All2.getR r ht
    exact ⟨v, start_get hv, ⟨fun _ h => h, rv⟩, fun _ _ h => h.elim⟩
theorem sta_step {B : Base} {σ : L2.St} {F H : Hp} (S : Sta B Γ σ F H) (hv : ∀ b, ¬ B.vol b) : Step B.F B.H F H := ⟨S.ext, fun b o h => S.keep b o h (hv b), S.sub, S.new⟩
/-- a def that changes nothing that stood before -/
theorem fn_pure {ι : Type} {args : ι → List (TV K)} {R : Ty K ρ} {pre : ι → Prop} {post : ι → ρ → Prop} {x qual : Str} {st : Stmt} {f : Addr} {fd : FuncData} {ps : List Str} (F : Fun K x qual st f fd) (S : FnScope N ps (defScope st)) (hl : ∀ i, (args i).length = ps.length)
    (h : ∀ i, pre i → ∀ c : Ctx P w K mg base lv N (defScope st) (fun _ => true), SW c (gmOf N.length (args i)) (defBody st) ⟨rTy R, fun _ r => post i r, fun _ => ∃ r, (∀ F, R.r F .non r) ∧ post i r, fun _ => False, fun _ => False⟩) : FnOk P w K mg base CX0 (lv + 1) f fd ps (spP args R pre post) := by
  have hpl : ps.length ≤ N.length := by have := congrArg List.length S.pre; rw [List.length_take] at this; omega
  refine fn_px F S (fun vs H Q E ⟨F0, i, _, r, _⟩ => (All2.length r).trans (hl i)) fun vs H Q E ⟨F0, i, hs, r, hp, q⟩ => ?_
  refine ⟨ρ, ⟨F0, H, fun _ => False, fun _ => False, fun _ => False⟩, gmOf N.length (args i), F0, rTy R, _, _, fun _ h => h, sta_start hs r (by rw [All2.length r, hl i]; exact hpl), h i hp, fun v Γ' σ' F' H' a S' ra ha => q v a F' H' (sta_step S' fun _ z => z) ra ha, fun Γ' σ' F' H' S' ⟨a, ra, ha⟩ => q .non a F' H' (sta_step S' fun _ z => z) (ra F') ha⟩
theorem Prom.of {x : Str} {st : Stmt} {f : Addr} {fd : FuncData} {ps : List Str} {sp : Sp} {l : Nat} (hm : mg x = some (.ref f)) (F : Fun K x x st f fd) (hb : Binds K fd ps []) (h : FnOk P w K mg base CX0 l f fd ps sp) : Prom P w K mg base x l ps sp := ⟨f, fd, hm, F.kp, hb, h⟩
/-- a slot's own list is frozen and read -/
theorem Sta.ownFrz {B : Base} {σ : L2.St} {F H : Hp} {i : Nat} {as : List α} (S : Sta B Γ σ F H) (hg : Γ[i]? = some (some (ownL T as))) (hB : ∀ p, ¬ B.loc p) : ∃ v F', σ[i]? = some (some v) ∧ Same F F' ∧ (tLst T).r F' v as ∧ Sta B (Γ.set i (some (val (tLst T) as))) σ F' H := by
  obtain ⟨O, h1, h2, h3⟩ := S.own
  obtain ⟨v, hv, ⟨p, vs, rfl, hq, hp, hr⟩, hz⟩ := h3 i _ hg
  have hO : O i p := (hq p).mpr rfl
  obtain ⟨o1, o2, o3, o4⟩ := h1 i p hO
  have hbp : B.H p = none := (hz rfl p hO).resolve_right (hB p)
  have ff : Same F (upd F p (.lst vs)) := same_new o1
  refine ⟨.ref p, upd F p (.lst vs), hv, ff, ⟨p, vs, rfl, upd_same, All2.imp (fun _ _ => T.mono ff) hr⟩, ?_⟩
  have hil : i < Γ.length := (List.getElem?_eq_some_iff.mp hg).1
  refine ⟨by rw [List.length_set]; exact S.len, fun b o z => ?_, S.ext.trans ff, S.keep, S.dom, fun b n1 n2 => ?_, fun b z => ⟨(S.pnd b z).1, ?_⟩, fun j q => j ≠ i ∧ O j q, fun j q hq => ?_, fun j k q hj hk => h2 j k q hj.2 hk.2, fun j x hx => ?_⟩
  · by_cases hb : b = p
    · subst hb; rw [upd_same] at z; rw [hp]; exact z
    · rw [upd_ne hb] at z; exact S.sub b o z
  · rw [upd_ne fun z => n1 (by rw [z]; exact hbp)]; exact S.new b n1 n2
  · rw [upd_ne (show b ≠ p from fun y => o4 (by rw [← y]; exact z))]; exact (S.pnd b z).2
  · obtain ⟨a, b, c, d⟩ := h1 j q hq.2
    exact ⟨by rw [upd_ne (show q ≠ p from fun y => hq.1 (h2 j i p (by rw [← y]; exact hq.2) hO))]; exact a, b, c, d⟩
  · by_cases hj : j = i
    · subst hj
      rw [List.getElem?_set_self hil] at hx
      cases hx
      exact ⟨.ref p, hv, ⟨fun q z => z.1 rfl, p, vs, rfl, upd_same, All2.imp (fun _ _ => T.mono ff) hr⟩, fun _ q z => absurd rfl z.1⟩
    · rw [List.getElem?_set_ne (Ne.symm hj)] at hx
      obtain ⟨u, hu, hok, hw⟩ := h3 j x hx
      refine ⟨u, hu, ?_, fun b q z => hw b q z.2⟩
      have e0 : (fun q => j ≠ i ∧ O j q) = O j := by funext q; simp [hj]
      show x.ok u (fun q => j ≠ i ∧ O j q) _ H
      rw [e0]
      exact x.st hok ff fun _ _ => rfl
theorem sw_frz {D : En ρ} {ss : List Stmt} (i : Nat) {as : List α} (hg : Γ[i]? = some (some (ownL T as))) (h : SW c (Γ.set i (some (val (tLst T) as))) ss D) : SW c Γ ss D := fun B σ F H hB S => by
  obtain ⟨v, F', hv, ff, r, S2⟩ := S.ownFrz hg hB
  exact h B σ F' H hB S2
theorem s1_frz {D : En ρ} {st : Stmt} (i : Nat) {as : List α} (hg : Γ[i]? = some (some (ownL T as))) (h : S1 c (Γ.set i (some (val (tLst T) as))) st D) : S1 c Γ st D := fun B σ F H hB S => by
  obtain ⟨v, F', hv, ff, r, S2⟩ := S.ownFrz hg hB
  exact h B σ F' H hB S2
end
end Px
/-! Px, sixth part: what is walked, loops, comprehensions. -/
namespace Px
open PySem PySem.Spec PyProof.Rows L2

structure ItOk {K : PySem.W.Frag} {α : Type} (J : It) (A : Ty K α) (F : Hp) (as : List α) : Prop where
  go : ∀ i F1 H, Same F F1 → Same F1 H → i < as.length → J.go i H
  stop : ∀ i F1 H, Same F F1 → Same F1 H → as.length ≤ i → J.stop i H
  yld : ∀ i F1 H x H', Same F F1 → Same F1 H → J.yld i H x H' → ∀ a, as[i]? = some a → ∃ F2, Step F1 H F2 H' ∧ A.r F2 x a
theorem wipe_get {σ : L2.St} {i : Nat} : ∀ {vs : List Nat}, i ∈ vs → i < σ.length → (wipe σ vs)[i]? = some none
  | [], h, _ => by simp at h
  | v :: vs, h, hl => by
    unfold wipe
    by_cases e : v = i
    · subst e
      exact List.getElem?_set_self (by rw [wipe_length]; exact hl)
    · rw [List.getElem?_set_ne e]
      exact wipe_get ((List.mem_cons.mp h).resolve_left fun z => e z.symm) hl
theorem wipe_eq {σ σ' : L2.St} {vs : List Nat} (hl : σ'.length = σ.length) (h : ∀ j, j ∉ vs → σ'[j]? = σ[j]?) : wipe σ' vs = wipe σ vs := by
  apply List.ext_getElem?
  intro i
  by_cases hi : i ∈ vs
  · by_cases hil : i < σ.length
    · rw [wipe_get hi (by rw [hl]; exact hil), wipe_get hi hil]
    · rw [List.getElem?_eq_none (by rw [wipe_length]; omega), List.getElem?_eq_none (by rw [wipe_length]; omega)]
  · rw [wipe_out hi, wipe_out hi, h i hi]
def wipeG (Γ : Gm) : List Nat → Gm
  | [] => Γ
  | v :: vs => (wipeG Γ vs).set v none
theorem wipeG_length (Γ : Gm) : ∀ vs : List Nat, (wipeG Γ vs).length = Γ.length
  | [] => rfl
  | v :: vs => by unfold wipeG; rw [List.length_set, wipeG_length Γ vs]
theorem wipeG_out {Γ : Gm} {i : Nat} : ∀ {vs : List Nat}, i ∉ vs → (wipeG Γ vs)[i]? = Γ[i]?
  | [], _ => rfl
  | v :: vs, h => by
    unfold wipeG
    rw [List.getElem?_set_ne fun e => h (by rw [e]; exact List.mem_cons_self)]
    exact wipeG_out fun m => h (List.mem_cons_of_mem _ m)
theorem wipeG_in {Γ : Gm} {i : Nat} {e : Ent} : ∀ {vs : List Nat}, i ∈ vs → (wipeG Γ vs)[i]? ≠ some (some e)
  | [], h, _ => by simp at h
  | v :: vs, h, q => by
    unfold wipeG at q
    by_cases z : v = i
    · subst z
      by_cases hl : v < (wipeG Γ vs).length
      · rw [List.getElem?_set_self hl] at q; cases q
      · rw [List.getElem?_eq_none (by rw [List.length_set]; omega)] at q; cases q
    · rw [List.getElem?_set_ne z] at q
      exact wipeG_in ((List.mem_cons.mp h).resolve_left fun y => z y.symm) q
def frzAt (Γ : Gm) (vs : List Nat) : Bool := vs.all fun i => match Γ[i]? with
  | some (some e) => e.frz
  | _ => true
theorem frzAt_of {Γ : Gm} {vs : List Nat} (h : frzAt Γ vs = true) {i : Nat} {e : Ent} (hi : i ∈ vs) (he : Γ[i]? = some (some e)) : e.frz = true := by
  have := List.all_eq_true.mp h i hi
  rw [he] at this
  exact this

section
variable {P : Program} {w : World} {K : PySem.W.Frag} {mg : Str → Option Value} {base : Heap} {lv : Nat} {N : List Str} {sc : Scope} {fn : Str → Bool}
variable {α β γ δ ρ : Type}
variable {c : Ctx P w K mg base lv N sc fn} {Γ : Gm} {e a b d tg iter elt : Expr} {es ts ifs : List Expr} {pos pos' : Pos} {T : Ty K α} {A : Ty K α} {B' : Ty K β} {C : Ty K γ} {D' : Ty K δ}

def IW (c : Ctx P w K mg base lv N sc fn) (Γ : Gm) (tg iter : Expr) (A : Ty K α) (k : Gm → List α → Prop) : Prop :=
  ∀ B σ F H, Sta B Γ σ F H → ∀ R : It → Hp → Prop, (∀ J as Γ' F' H', Sta B Γ' σ F' H' → Same F F' → ItOk J A F' as → k Γ' as → R J H') → wI c.X tg iter σ H R
def Agree (vs : Nat → Prop) (σ σ' : L2.St) : Prop := σ'.length = σ.length ∧ ∀ j, ¬ vs j → σ'[j]? = σ[j]?
theorem Agree.trans {vs : Nat → Prop} {σ σ1 σ2 : L2.St} (a : Agree vs σ σ1) (b : Agree vs σ1 σ2) : Agree vs σ σ2 := ⟨b.1.trans a.1, fun j hj => (b.2 j hj).trans (a.2 j hj)⟩
def GW (c : Ctx P w K mg base lv N sc fn) (vs : Nat → Prop) (Γ : Gm) (tg : Expr) (A : Ty K α) (x : α) (k : Gm → Prop) : Prop :=
  ∀ B σ F H, Sta B Γ σ F H → ∀ v, A.r F v x → ∀ Q : L2.St → Hp → Prop, (∀ Γ' σ', Sta B Γ' σ' F H → Agree vs σ σ' → k Γ' → Q σ' H) → wG c.X tg v σ H Q
def TsW (c : Ctx P w K mg base lv N sc fn) (Γ : Gm) (ifs : List Expr) (k : Gm → Bool → Prop) : Prop :=
  ∀ B σ F H, Sta B Γ σ F H → ∀ Q : Bool → Hp → Prop, (∀ b Γ' F' H', Sta B Γ' σ F' H' → Same F F' → k Γ' b → Q b H') → wTs c.X ifs σ H Q
theorem ts_nil {k : Gm → Bool → Prop} (h : k Γ true) : TsW c Γ [] k := fun B σ F H S Q q => of_pts pts_nil (q true Γ F H S (Same.refl _) h)
theorem ts_one {k : Gm → Bool → Prop} (h : TW c Γ e k) : TsW c Γ [e] k := fun B σ F H S Q q => of_pts (pts_one ptW) (h B σ F H S Q q)

/-! ### targets -/
theorem gw_name {vs : Nat → Prop} {i : Nat} {x : Str} {x0 : α} {k : Gm → Prop} (hs : slotOf N x 0 = some i) (hv : locB sc fn x = true) (hi : vs i) (hl : i < Γ.length) (h : k (Γ.set i (some (val A x0)))) : GW c vs Γ (.Name x pos) A x0 k := fun B σ F H S v r Q q => by
  have hN := c.hN
  have hsc := c.hsc
  have hfn := c.hfn
  have hl' := locB_loc hv
  refine of_pg (pg_name (i := i) (by rw [hN]; exact c.nd) (by rw [hN]; exact slotOf_at hs) (by rw [hsc]; exact hl'.1) (by rw [hsc, hfn]; exact hl'.2)) ?_
  exact q _ _ (S.set (e := val A x0) hl ⟨fun _ z => z, r⟩) ⟨List.length_set, fun j hj => List.getElem?_set_ne fun z : i = j => hj (by rw [← z]; exact hi)⟩ h
/-- several targets -/
def GWs (c : Ctx P w K mg base lv N sc fn) (vs : Nat → Prop) (Γ : Gm) (tgs : List Expr) (ts : List (TV K)) (k : Gm → Prop) : Prop :=
  ∀ B σ F H, Sta B Γ σ F H → ∀ xs, All2 (fun v (t : TV K) => t.r F v) xs ts → ∀ Q : L2.St → Hp → Prop, (∀ Γ' σ', Sta B Γ' σ' F H → Agree vs σ σ' → k Γ' → Q σ' H) → wGs c.X tgs xs σ H Q
theorem gws_nil {vs : Nat → Prop} {k : Gm → Prop} (h : k Γ) : GWs c vs Γ [] [] k := fun B σ F H S xs r Q q => by
  cases xs with
  | nil => exact of_pgs pgs_nil ⟨rfl, q _ _ S ⟨rfl, fun _ _ => rfl⟩ h⟩
  | cons _ _ => exact r.elim
theorem gws_cons {vs : Nat → Prop} {x : α} {tv' : List (TV K)} {k : Gm → Prop} (h : GW c vs Γ tg A x fun Γ1 => GWs c vs Γ1 ts tv' k) (hs : ∀ env, (assignEach (tg :: ts) env).map (·.2) = assign tg env :: (assignEach ts env).map (·.2) := by intro _; rfl) : GWs c vs Γ (tg :: ts) (tv A x :: tv') k := fun B σ F H S xs r Q q => by
  cases xs with
  | nil => exact r.elim
  | cons y ys =>
    refine of_pgs (pgs_cons pgW pgsW (hs _)) ⟨y, ys, rfl, h B σ F H S y r.1 _ fun Γ1 σ1 S1 o1 h1 => ?_⟩
    exact h1 B σ1 F H S1 ys r.2 Q fun Γ2 σ2 S2 o2 h2 => q Γ2 σ2 S2 (o1.trans o2) h2
theorem gw_tup {vs : Nat → Prop} {T' : Ty K ρ} {R : Hp → List V → ρ → Prop} {m} (hT : T' = tupTy R m) {x : ρ} {kk : Nat} {n : Nat} (ts' : List (TV K)) (hr : ∀ F xs, R F xs x → All2 (fun v (t : TV K) => t.r F v) xs ts' ∧ xs.length = n) {k : Gm → Prop} (h : GWs c vs Γ ts ts' k)
    (hn : ∀ env, (assignEach ts env).length = n := by intro _; rfl) (hst : ∀ env, (assignEach ts env).findIdx? (·.1) = none := by intro _; rfl) : GW c vs Γ (.Tuple ts kk pos) T' x k := fun B σ F H S v r Q q => by
  obtain ⟨X, rfl, rfl, rfl, rfl, rfl, rfl, nd, rfl, rfl, calm, room, pas⟩ := c
  rw [hT] at r
  obtain ⟨p, xs, rfl, hp, hx⟩ := r
  obtain ⟨h1, h2⟩ := hr F xs hx
  exact of_pg (pg_tup calm pgsW (hn _) (hst _)) ⟨p, xs, rfl, sqT_mono S.sub hp, h2, h B σ F H S xs h1 Q q⟩
theorem gw_T2 {vs : Nat → Prop} {t1 t2 : Expr} {x : α × β} {kk : Nat} {k : Gm → Prop} (h : GW c vs Γ t1 A x.1 fun Γ1 => GW c vs Γ1 t2 B' x.2 k)
    (h1 : ∀ env, (assignEach [t1, t2] env).map (·.2) = assign t1 env :: (assignEach [t2] env).map (·.2) := by intro _; rfl) (h2 : ∀ env, (assignEach [t2] env).map (·.2) = assign t2 env :: (assignEach [] env).map (·.2) := by intro _; rfl)
    (hn : ∀ env, (assignEach [t1, t2] env).length = 2 := by intro _; rfl) (hst : ∀ env, (assignEach [t1, t2] env).findIdx? (·.1) = none := by intro _; rfl) : GW c vs Γ (.Tuple [t1, t2] kk pos) (tT2 A B') x k :=
  gw_tup (T' := tT2 A B') rfl [tv A x.1, tv B' x.2] (fun F xs ⟨u, v, e, r1, r2⟩ => by subst e; exact ⟨⟨r1, r2, trivial⟩, rfl⟩) (gws_cons (fun B σ F H S v r Q q => h B σ F H S v r Q fun Γ1 σ1 S1 o1 k1 => q Γ1 σ1 S1 o1 (gws_cons (fun B σ F H S v r Q q => k1 B σ F H S v r Q fun Γ1 σ1 S1 o1 k2 => q Γ1 σ1 S1 o1 (gws_nil k2)) h2)) h1) hn hst
theorem GW.imp {vs : Nat → Prop} {x : α} {k k' : Gm → Prop} (h : GW c vs Γ tg A x k) (f : ∀ Γ, k Γ → k' Γ) : GW c vs Γ tg A x k' := fun B σ F H S v r Q q => h B σ F H S v r Q fun Γ1 σ1 S1 o1 k1 => q Γ1 σ1 S1 o1 (f _ k1)
theorem gw_T3 {vs : Nat → Prop} {t1 t2 t3 : Expr} {x : α × β × γ} {kk : Nat} {k : Gm → Prop} (h : GW c vs Γ t1 A x.1 fun Γ1 => GW c vs Γ1 t2 B' x.2.1 fun Γ2 => GW c vs Γ2 t3 C x.2.2 k)
    (h1 : ∀ env, (assignEach [t1, t2, t3] env).map (·.2) = assign t1 env :: (assignEach [t2, t3] env).map (·.2) := by intro _; rfl) (h2 : ∀ env, (assignEach [t2, t3] env).map (·.2) = assign t2 env :: (assignEach [t3] env).map (·.2) := by intro _; rfl) (h3 : ∀ env, (assignEach [t3] env).map (·.2) = assign t3 env :: (assignEach [] env).map (·.2) := by intro _; rfl)
    (hn : ∀ env, (assignEach [t1, t2, t3] env).length = 3 := by intro _; rfl) (hst : ∀ env, (assignEach [t1, t2, t3] env).findIdx? (·.1) = none := by intro _; rfl) : GW c vs Γ (.Tuple [t1, t2, t3] kk pos) (tT3 A B' C) x k :=
  gw_tup (T' := tT3 A B' C) rfl [tv A x.1, tv B' x.2.1, tv C x.2.2] (fun F xs ⟨u, v, z, e, r1, r2, r3⟩ => by subst e; exact ⟨⟨r1, r2, r3, trivial⟩, rfl⟩) (gws_cons (h.imp fun _ k1 => gws_cons (k1.imp fun _ k2 => gws_cons (k2.imp fun _ k3 => gws_nil k3) h3) h2) h1) hn hst
theorem gw_T4 {vs : Nat → Prop} {t1 t2 t3 t4 : Expr} {x : α × β × γ × δ} {kk : Nat} {k : Gm → Prop} (h : GW c vs Γ t1 A x.1 fun Γ1 => GW c vs Γ1 t2 B' x.2.1 fun Γ2 => GW c vs Γ2 t3 C x.2.2.1 fun Γ3 => GW c vs Γ3 t4 D' x.2.2.2 k)
    (h1 : ∀ env, (assignEach [t1, t2, t3, t4] env).map (·.2) = assign t1 env :: (assignEach [t2, t3, t4] env).map (·.2) := by intro _; rfl) (h2 : ∀ env, (assignEach [t2, t3, t4] env).map (·.2) = assign t2 env :: (assignEach [t3, t4] env).map (·.2) := by intro _; rfl) (h3 : ∀ env, (assignEach [t3, t4] env).map (·.2) = assign t3 env :: (assignEach [t4] env).map (·.2) := by intro _; rfl) (h4 : ∀ env, (assignEach [t4] env).map (·.2) = assign t4 env :: (assignEach [] env).map (·.2) := by intro _; rfl)
    (hn : ∀ env, (assignEach [t1, t2, t3, t4] env).length = 4 := by intro _; rfl) (hst : ∀ env, (assignEach [t1, t2, t3, t4] env).findIdx? (·.1) = none := by intro _; rfl) : GW c vs Γ (.Tuple [t1, t2, t3, t4] kk pos) (tT4 A B' C D') x k :=
  gw_tup (T' := tT4 A B' C D') rfl [tv A x.1, tv B' x.2.1, tv C x.2.2.1, tv D' x.2.2.2] (fun F xs ⟨u, v, z, y, e, r1, r2, r3, r4⟩ => by subst e; exact ⟨⟨r1, r2, r3, r4, trivial⟩, rfl⟩) (gws_cons (h.imp fun _ k1 => gws_cons (k1.imp fun _ k2 => gws_cons (k2.imp fun _ k3 => gws_cons (k3.imp fun _ k4 => gws_nil k4) h4) h3) h2) h1) hn hst
/-- a, b = .. -/
theorem s1_asgT {D : En ρ} {ts : List Expr} {kk : Nat} (h : EW c Γ e T fun Γ1 x => GW c (fun _ => True) Γ1 (.Tuple ts kk pos') T x fun Γ2 => D.nx Γ2) (hs : ∀ env, swapsWithSole [.Tuple ts kk pos'] e pos.line env = pure false := by intro _; rfl) (hw : ∀ env, swappedStores [.Tuple ts kk pos'] e env = pure none := by intro _; rfl) : S1 c Γ (.Assign [.Tuple ts kk pos'] e pos) D := fun B σ F H hB S => by
  refine of_ps (ps_asg peW pgW (hs _) (hw _)) (h B σ F H S _ fun v x Γ1 F1 H1 S1 e1 r1 h1 => ?_)
  exact h1 B σ F1 H1 S1 v r1 _ fun Γ2 σ2 S2 o2 h2 => ⟨Γ2, F1, S2, h2⟩

/-! ### what is walked -/
theorem iw_list {k : Gm → List α → Prop} (h : EW c Γ iter (tLst A) k) : IW c Γ tg iter A k := fun B σ F H S R q => by
  obtain ⟨X, rfl, rfl, rfl, rfl, rfl, rfl, nd, rfl, rfl, calm, room, pas⟩ := c
  refine of_pi (pi_list peW) (h B σ F H S _ fun v as Γ1 F1 H1 S1 e1 ⟨p, vs, e2, hp, hv⟩ h1 => ⟨p, e2, ⟨vs, SqL.of (S1.sub _ _ hp)⟩, q _ as Γ1 F1 H1 S1 e1 ⟨fun i F2 H2 s1 s2 hi => ?_, fun i F2 H2 s1 s2 hi => ?_, fun i F2 H2 x H' s1 s2 hy a ha => ?_⟩ h1⟩)
  · have hq : SqL X.K H2 p vs := SqL.of ((s1.trans s2) _ _ hp)
    have hi' : i < vs.length := by rw [All2.length hv]; exact hi
    exact ⟨vs, vs[i], hq, List.getElem?_eq_getElem hi'⟩
  · exact ⟨vs, SqL.of ((s1.trans s2) _ _ hp), by rw [All2.length hv]; exact hi⟩
  · obtain ⟨rfl, f⟩ := hy
    obtain ⟨y, h3, h4⟩ := All2.getR hv ha
    have := f vs (SqL.of ((s1.trans s2) _ _ hp))
    rw [h3] at this; cases this
    exact ⟨F2, Step.refl s2, A.mono s1 h4⟩
theorem iw_tup {k : Gm → List α → Prop} (h : EW c Γ iter (tTup A) k) : IW c Γ tg iter A k := fun B σ F H S R q => by
  obtain ⟨X, rfl, rfl, rfl, rfl, rfl, rfl, nd, rfl, rfl, calm, room, pas⟩ := c
  refine of_pi (pi_tup peW) (h B σ F H S _ fun v as Γ1 F1 H1 S1 e1 ⟨p, vs, e2, hp, hv⟩ h1 => ⟨p, e2, ⟨vs, sqT_mono S1.sub hp⟩, q _ as Γ1 F1 H1 S1 e1 ⟨fun i F2 H2 s1 s2 hi => ?_, fun i F2 H2 s1 s2 hi => ?_, fun i F2 H2 x H' s1 s2 hy a ha => ?_⟩ h1⟩)
  · have hq := sqT_mono (s1.trans s2) hp
    have hi' : i < vs.length := by rw [All2.length hv]; exact hi
    exact ⟨vs, vs[i], hq, List.getElem?_eq_getElem hi'⟩
  · exact ⟨vs, sqT_mono (s1.trans s2) hp, by rw [All2.length hv]; exact hi⟩
  · obtain ⟨rfl, f⟩ := hy
    obtain ⟨y, h3, h4⟩ := All2.getR hv ha
    have := f vs (sqT_mono (s1.trans s2) hp)
    rw [h3] at this; cases this
    exact ⟨F2, Step.refl s2, A.mono s1 h4⟩
/-- the ints of a range -/
def ups (lo hi : Int) : List Int := (List.range (hi - lo).toNat).map fun (i : Nat) => lo + (i : Int)
theorem ups_len (lo hi : Int) : (ups lo hi).length = (hi - lo).toNat := by simp [ups]
theorem ups_get {lo hi : Int} {i : Nat} {a : Int} (h : (ups lo hi)[i]? = some a) : a = lo + (i : Int) ∧ i < (hi - lo).toNat := by
  unfold ups at h
  rw [List.getElem?_map] at h
  by_cases hi' : i < (hi - lo).toNat
  · rw [List.getElem?_range hi'] at h
    exact ⟨(Option.some.inj h).symm, hi'⟩
  · rw [List.getElem?_eq_none (by simpa using hi')] at h; cases h
theorem it_range {F : Hp} {lo hi : Int} : ItOk (K := K) (Itr lo (hi - lo).toNat) tInt F (ups lo hi) :=
  ⟨fun i _ _ _ _ h => by rw [ups_len] at h; exact h, fun i _ _ _ _ h => by rw [ups_len] at h; exact h, fun i F1 H x H' _ s2 ⟨e1, e2⟩ a ha => ⟨F1, by subst e1; exact Step.refl s2, by rw [e2, (ups_get ha).1]; rfl⟩⟩
theorem iw_range1 (bi : Bi mg) {k : Gm → List Int → Prop} {p : Pos} (hg : glB sc "range" = true) (h : EW c Γ a tInt fun Γ1 n => -(2 ^ 62) ≤ n ∧ n < 2 ^ 62 ∧ k Γ1 (ups 0 n)) (hs : ∀ env, starEach [a] env = [(false, eval a env)] := by intro _; rfl) : IW c Γ tg (.Call (.Name "range" p) [a] [] pos) tInt k := fun B σ F H S R q => by
  obtain ⟨X, rfl, rfl, rfl, rfl, rfl, rfl, nd, rfl, rfl, calm, room, pas⟩ := c
  refine of_pi (pi_range1 (glB_gl hg) bi.range (pa_cons peW pa_nil (hs _)) (hs _)) (h B σ F H S _ fun v n Γ1 F1 H1 S1 e1 r1 ⟨h1, h2, h3⟩ => ⟨n, by rw [show v = .int n from r1], h1, h2, ?_⟩)
  have e0 : (n - 0).toNat = n.toNat := by rw [Int.sub_zero]
  rw [← e0]
  exact q _ _ Γ1 F1 H1 S1 e1 it_range h3
theorem iw_range2 (bi : Bi mg) {k : Gm → List Int → Prop} {p : Pos} (hg : glB sc "range" = true) (h : EW c Γ a tInt fun Γ1 m => EW c Γ1 b tInt fun Γ2 n => (-(2 ^ 62) ≤ m ∧ m < 2 ^ 62 ∧ -(2 ^ 62) ≤ n ∧ n < 2 ^ 62) ∧ k Γ2 (ups m n)) (hs : ∀ env, starEach [a, b] env = [(false, eval a env), (false, eval b env)] := by intro _; rfl) (hs2 : ∀ env, starEach [b] env = [(false, eval b env)] := by intro _; rfl) : IW c Γ tg (.Call (.Name "range" p) [a, b] [] pos) tInt k := fun B σ F H S R q => by
  obtain ⟨X, rfl, rfl, rfl, rfl, rfl, rfl, nd, rfl, rfl, calm, room, pas⟩ := c
  refine of_pi (pi_range2 (glB_gl hg) bi.range (pa_cons peW (pa_cons peW pa_nil (hs2 _)) (by rw [hs, hs2])) (hs _) (hs2 _)) (h B σ F H S _ fun v m Γ1 F1 H1 S1 e1 r1 h1 => h1 B σ F1 H1 S1 _ fun u n Γ2 F2 H2 S2 e2 r2 ⟨h2, h3⟩ => ⟨m, n, by rw [show v = .int m from r1, show u = .int n from r2], h2, q _ _ Γ2 F2 H2 S2 (e1.trans e2) it_range h3⟩)

/-! ### loops -/
theorem sta_reF {B : Base} {σ : L2.St} {F H : Hp} (S : Sta B Γ σ F H) : Sta { B with F := F } Γ σ F H := by
  obtain ⟨O, h1, h2, h3⟩ := S.own
  exact ⟨S.len, S.sub, Same.refl _, S.keep, S.dom, fun b _ h => h, S.pnd, O, h1, h2, h3⟩
theorem sta_unF {B : Base} {Γ1 : Gm} {σ σ1 : L2.St} {F F1 H H1 : Hp} (S1 : Sta B Γ1 σ1 F1 H1) (S : Sta { B with F := F1 } Γ σ F H) : Sta B Γ σ F H := by
  obtain ⟨O, h1, h2, h3⟩ := S.own
  exact ⟨S.len, S.sub, S1.ext.trans S.ext, S.keep, S.dom, fun b n1 n2 => S.new b n1 (S1.new b n1 n2), S.pnd, O, h1, h2, h3⟩
theorem cD_unF {B : Base} {D : En ρ} {Γ1 : Gm} {σ1 : L2.St} {F1 H1 : Hp} (S1 : Sta B Γ1 σ1 F1 H1) {st : Stmt} {σ : L2.St} {H : Hp} {X : Cx} (h : wS X st (cD { B with F := F1 } D) σ H) : wS X st (cD B D) σ H :=
  wS_mono h (fun _ _ ⟨G, F, S, q⟩ => ⟨G, F, sta_unF S1 S, q⟩) (fun _ _ ⟨G, s, F, a, S, r, q⟩ => ⟨G, s, F, a, sta_unF S1 S, r, q⟩) (fun _ _ ⟨G, F, S, q⟩ => ⟨G, F, sta_unF S1 S, q⟩) (fun _ _ ⟨G, F, S, q⟩ => ⟨G, F, sta_unF S1 S, q⟩)
theorem s1_for {D : En ρ} {body : List Stmt} (h : IW c Γ tg iter A fun Γ1 as => ∃ I : Nat → Gm → Prop, I 0 Γ1 ∧ (∀ i a, as[i]? = some a → ∀ Γ2, I i Γ2 → GW c (fun _ => True) Γ2 tg A a fun Γ3 => SW c Γ3 body { D with nx := I (i + 1), ct := I (i + 1), bk := D.nx }) ∧ ∀ Γ2, I as.length Γ2 → D.nx Γ2)
    (hs : ∀ env x, foldedSetIterable iter env x = pure x := by intro _ _; rfl) : S1 c Γ (.For tg iter body [] pos) D := fun B σ F H hB S => by
  refine of_ps (ps_for c.pas c.calm piW pgW pssW (hs _)) (h B σ F H S _ fun J as Γ1 F1 H1 S1 e1 it ⟨I, i0, step, fin⟩ => ?_)
  refine ⟨fun i m σ' H' => m = as.length - i ∧ i ≤ as.length ∧ ∃ Γ2 F2, Sta { B with F := F1 } Γ2 σ' F2 H' ∧ I i Γ2, ⟨as.length, by simp, Nat.zero_le _, Γ1, F1, sta_reF S1, i0⟩, ?_⟩
  rintro i m σ' H' ⟨rfl, hi, Γ2, F2, S2, hI⟩
  by_cases hlt : i < as.length
  · refine .inr ⟨it.go i F2 H' S2.ext S2.sub hlt, fun σ3 H3 => ∃ Γ3 F3, Sta { B with F := F1 } Γ3 σ3 F3 H3 ∧ I (i + 1) Γ3, fun σ3 H3 q => ⟨as.length - (i + 1), by omega, rfl, hlt, q⟩, fun x H3 hy => ?_⟩
    obtain ⟨F3, st, rx⟩ := it.yld i F2 H' x H3 S2.ext S2.sub hy as[i] (List.getElem?_eq_getElem hlt)
    refine step i as[i] (List.getElem?_eq_getElem hlt) Γ2 hI _ σ' F3 H3 (S2.step st) x rx _ fun Γ4 σ4 S4 _ hb => ?_
    exact wSs_mono (hb { B with F := F1 } σ4 F3 H3 hB S4) (fun _ _ h => h) (fun _ _ ⟨G, s, F, a, S', r, q⟩ => ⟨G, s, F, a, sta_unF S1 S', r, q⟩) (fun _ _ ⟨G, F, S', q⟩ => ⟨G, F, sta_unF S1 S', q⟩) (fun _ _ h => h)
  · have e : i = as.length := by omega
    subst e
    exact .inl ⟨it.stop _ F2 H' S2.ext S2.sub (Nat.le_refl _), Γ2, F2, sta_unF S1 S2, fin Γ2 hI⟩
theorem s1_while {D : En ρ} {body : List Stmt} (I : Nat → Gm → Prop) (h0 : ∃ n, I n Γ) (h : ∀ n Γ1, I n Γ1 → TW c Γ1 e fun Γ2 b => (b = true → SW c Γ2 body { D with nx := fun Γ3 => ∃ m, m < n ∧ I m Γ3, ct := fun Γ3 => ∃ m, m < n ∧ I m Γ3, bk := D.nx }) ∧ (b = false → D.nx Γ2)) : S1 c Γ (.While e body [] pos) D := fun B σ F H hB S => by
  refine of_ps (ps_while c.pas ptW pssW) ?_
  obtain ⟨n0, h0⟩ := h0
  refine ⟨fun m σ' H' => ∃ Γ2 F2, Sta B Γ2 σ' F2 H' ∧ I m Γ2, ⟨n0, Γ, F, S, h0⟩, ?_⟩
  rintro m σ' H' ⟨Γ2, F2, S2, hI⟩
  refine h m Γ2 hI B σ' F2 H' S2 _ fun b Γ3 F3 H3 S3 e3 ⟨h1, h2⟩ => ?_
  cases b with
  | false => exact iteF ⟨Γ3, F3, S3, h2 rfl⟩
  | true =>
    refine iteT ⟨fun σ4 H4 => ∃ Γ4 F4, Sta B Γ4 σ4 F4 H4 ∧ ∃ k, k < m ∧ I k Γ4, fun σ4 H4 ⟨Γ4, F4, S4, k, hk, q⟩ => ⟨k, hk, Γ4, F4, S4, q⟩, ?_⟩
    exact h1 rfl B σ' F3 H3 hB S3
end
end Px
/-! Px, seventh part: comprehensions; a law's draws. -/
namespace Px
open PySem PySem.Spec PyProof.Rows L2

section
variable {P : Program} {w : World} {K : PySem.W.Frag} {mg : Str → Option Value} {base : Heap} {lv : Nat} {N : List Str} {sc : Scope} {fn : Str → Bool}
variable {α β γ δ ρ : Type}
variable {c : Ctx P w K mg base lv N sc fn} {Γ : Gm} {e a b d tg iter elt : Expr} {es ts ifs : List Expr} {pos pos' : Pos} {T : Ty K α} {A : Ty K α} {B' : Ty K β} {C : Ty K γ} {D' : Ty K δ}

/-- a block's own base: what the slots own may change -/
theorem Sta.block {B : Base} {σ : L2.St} {F H : Hp} (S : Sta B Γ σ F H) (vs : List Nat) (hf : frzAt Γ vs = true) : ∃ B2 : Base, B2.F = F ∧ B2.H = H ∧ B2.pin = B.pin ∧ Sta B2 (wipeG Γ vs) (wipe σ vs) F H ∧ (∀ b, B.pin b → ¬ B2.vol b) ∧
    ∀ Γ4 σ4 F4 H4, Sta B2 Γ4 σ4 F4 H4 → wipeG Γ4 vs = wipeG Γ vs → (∀ j, j ∉ vs → σ4[j]? = σ[j]?) → Sta B Γ σ F4 H4 := by
  obtain ⟨O, h1, h2, h3⟩ := id S.own
  refine ⟨⟨F, H, fun p => ∃ i, O i p, B.pin, fun p => ∃ k x, Γ[k]? = some (some x) ∧ x.vol = false ∧ O k p⟩, rfl, rfl, rfl, ?_, fun b hb ⟨i, z⟩ => (h1 i b z).2.2.2 hb, fun Γ4 σ4 F4 H4 S4 hw ho => ?_⟩
  · refine ⟨by rw [wipeG_length, wipe_length]; exact S.len, S.sub, Same.refl _, fun _ _ h _ => h, fun _ h => h, fun _ _ h => h, S.pnd, fun i p => i ∉ vs ∧ O i p, fun i p hp => ?_, fun i j p hp hq => h2 i j p hp.2 hq.2, fun i x hx => ?_⟩
    · obtain ⟨a, b, c, d⟩ := h1 i p hp.2
      exact ⟨a, b, .inr ⟨i, hp.2⟩, d⟩
    · by_cases hi : i ∈ vs
      · exact absurd hx (wipeG_in hi)
      · rw [wipeG_out hi] at hx
        obtain ⟨v, hv, hok, _⟩ := h3 i x hx
        refine ⟨v, by rw [wipe_out hi]; exact hv, ?_, fun z p hp => .inr ⟨i, x, hx, z, hp.2⟩⟩
        have e0 : (fun p => i ∉ vs ∧ O i p) = O i := by funext p; simp [hi]
        show x.ok v (fun p => i ∉ vs ∧ O i p) F H
        rw [e0]
        exact hok
  · obtain ⟨O4, g1, g2, g3⟩ := S4.own
    refine ⟨S.len, S4.sub, S.ext.trans S4.ext, fun b o q n => S4.keep b o (S.keep b o q n) fun ⟨i, z⟩ => ?_, fun b n => S4.dom b (S.dom b n), fun b n1 n2 => S4.new b (S.dom b n1) (S.new b n1 n2), fun b z => S4.pnd b z, fun i p => i ∉ vs ∧ O4 i p, fun i p hp => ?_, fun i j p hp hq => g2 i j p hp.2 hq.2, fun i x hx => ?_⟩
    · rcases (h1 i b z).2.2.1 with y | y
      · rw [y] at q; cases q
      · exact n y
    · obtain ⟨a, b, c, d⟩ := g1 i p hp.2
      refine ⟨a, b, ?_, d⟩
      rcases c with c | ⟨j, c⟩
      · left
        cases q : B.H p with
        | none => rfl
        | some o => exact absurd c (S.dom p (by rw [q]; exact fun z => nomatch z))
      · exact (h1 j p c).2.2.1
    · by_cases hi : i ∈ vs
      · obtain ⟨v, hv, hok, hw'⟩ := h3 i x hx
        have hz := frzAt_of hf hi hx
        refine ⟨v, hv, ?_, fun _ p z => absurd hi z.1⟩
        have e0 : (fun p => i ∉ vs ∧ O4 i p) = O i := by
          funext p
          have := x.fz hz hok p
          simp [hi, this]
        show x.ok v (fun p => i ∉ vs ∧ O4 i p) F4 H4
        rw [e0]
        exact x.st hok S4.ext fun p hp => absurd hp (x.fz hz hok p)
      · have hx4 : Γ4[i]? = some (some x) := by
          rw [← wipeG_out (vs := vs) hi, hw, wipeG_out hi]; exact hx
        obtain ⟨v, hv, hok, hw4⟩ := g3 i x hx4
        refine ⟨v, by rw [← ho i hi]; exact hv, ?_, fun b p hp => ?_⟩
        rotate_left
        · rcases hw4 b p hp.2 with z | ⟨k, y, hy, yv, z⟩
          · left
            cases q : B.H p with
            | none => rfl
            | some o => exact absurd z (S.dom p (by rw [q]; exact fun z => nomatch z))
          · obtain ⟨_, _, _, hk⟩ := h3 k y hy
            exact hk yv p z
        have e0 : (fun p => i ∉ vs ∧ O4 i p) = O4 i := by funext p; simp [hi]
        show x.ok v (fun p => i ∉ vs ∧ O4 i p) F4 H4
        rw [e0]
        exact hok
abbrev fnB (scope : Scope) : Str → Bool := fun x => scope.names.lookup x == some .cell
def Ctx.blk (c : Ctx P w K mg base lv N sc fn) (s : Shared) (H : Hp) (scope : Scope) (cl : List (Str × Addr)) (C : Addr) (fp : List Addr) : Ctx P w K mg base lv N (relS scope sc) (fnB scope) :=
  ⟨c.X.blk s H scope (compEnvC scope cl C c.X.env) fp, c.hP, c.hw, c.hK, c.hmg, c.hbase, c.hN, c.nd, by show relS scope c.X.env.scope = _; rw [c.hsc], rfl, c.calm, c.room, PassesOwn.never⟩
theorem all2_snoc {R : α → β → Prop} {xs : List α} {ys : List β} {x : α} {y : β} (h : All2 R xs ys) (r : R x y) : All2 R (xs ++ [x]) (ys ++ [y]) := All2.append h ⟨r, trivial⟩
/-- the block's readings, for every frame of the block -/
def bG (c : Ctx P w K mg base lv N sc fn) (scope : Scope) (tg : Expr) : TG := fun v σ H Q => ∀ s H0 C cl fp, wG (c.blk s H0 scope cl C fp).X tg v σ H Q
def bTs (c : Ctx P w K mg base lv N sc fn) (scope : Scope) (ifs : List Expr) : TT := fun σ H Q => ∀ s H0 C cl fp, wTs (c.blk s H0 scope cl C fp).X ifs σ H Q
def bE (c : Ctx P w K mg base lv N sc fn) (scope : Scope) (e : Expr) : TE := fun σ H Q => ∀ s H0 C cl fp, wE (c.blk s H0 scope cl C fp).X e σ H Q
theorem pg_b {scope : Scope} : ∀ (s : Shared) (H : Hp) (C : Addr) (cl : List (Str × Addr)) (fp : List Addr), PG (c.X.blk s H scope (compEnvC scope cl C c.X.env) fp) tg (bG c scope tg) := fun s H C cl fp => ⟨fun pins s1 σ1 H1 v u Q1 I r q => q s H C cl fp pins s1 u I r⟩
theorem pts_b {scope : Scope} : ∀ (s : Shared) (H : Hp) (C : Addr) (cl : List (Str × Addr)) (fp : List Addr), PTs (c.X.blk s H scope (compEnvC scope cl C c.X.env) fp) ifs (bTs c scope ifs) := fun s H C cl fp => ⟨fun pins s1 σ1 H1 Q1 I q => q s H C cl fp pins s1 I⟩
theorem pe_b {scope : Scope} : ∀ (s : Shared) (H : Hp) (C : Addr) (cl : List (Str × Addr)) (fp : List Addr), PE (c.X.blk s H scope (compEnvC scope cl C c.X.env) fp) elt (bE c scope elt) := fun s H C cl fp => ⟨fun pins s1 σ1 H1 Q1 I q => q s H C cl fp pins s1 I⟩
/-- what a comprehension's reading asks -/
def CompW (c : Ctx P w K mg base lv N sc fn) (Γ : Gm) (scope : Scope) (own : List (Str × Nat)) (elt tg iter : Expr) (ifs : List Expr) (A : Ty K α) (B' : Ty K β) (Rel : α → Option β → Prop) (k : Gm → List β → Prop) : Prop :=
    IW c Γ tg iter A fun Γ1 as => frzAt Γ1 (own.map (·.2)) = true ∧ as.length < sizeLine ∧ (∀ (c' : Ctx P w K mg base lv N (relS scope sc) (fnB scope)) (i : Nat) (x : α), as[i]? = some x → GW c' (fun j => j ∈ own.map (·.2)) (wipeG Γ1 (own.map (·.2))) tg A x fun Γ2 =>
        ∀ (c' : Ctx P w K mg base lv N (relS scope sc) (fnB scope)), TsW c' Γ2 ifs fun Γ3 t => (t = true → ∀ (c' : Ctx P w K mg base lv N (relS scope sc) (fnB scope)), EW c' Γ3 elt B' fun Γ4 y => wipeG Γ4 (own.map (·.2)) = wipeG Γ1 (own.map (·.2)) ∧ Rel x (some y)) ∧ (t = false → wipeG Γ3 (own.map (·.2)) = wipeG Γ1 (own.map (·.2)) ∧ Rel x none)) ∧
      ∀ os, All2 Rel as os → k Γ1 (os.filterMap id)
theorem comp_read {scope : Scope} (own : List (Str × Nat)) {k : Gm → List β → Prop} (Rel : α → Option β → Prop) (h : CompW c Γ scope own elt tg iter ifs A B' Rel k) {B : Base} {σ : L2.St} {F H : Hp} (S : Sta B Γ σ F H) {Q : VK}
    (q : ∀ p vs as Γ' F' H', Sta { B with pin := fun q => q = p ∨ B.pin q } Γ' σ F' H' → Same F F' → B.H p = none → F' p = none → ¬ B.pin p → H' p = some (.lst vs) → All2 (B'.r F') vs as → k Γ' as → Q (.ref p) H') :
    tLc (wI c.X tg iter) (bG c scope tg) (bTs c scope ifs) (bE c scope elt) (own.map (·.2)) σ H Q := by
  refine h B σ F H S _ fun J as Γ1 F1 H1 S1 e1 it ⟨hf, hsz, step, fin⟩ => ?_
  intro D hD
  generalize hvs : own.map (·.2) = vs at *
  obtain ⟨S2, b1, b2, b3⟩ := S1.make (o := .lst []) hD
  refine ⟨fun i m H' => m = as.length - i ∧ i ≤ as.length ∧ ∃ F2 acc os, Sta { { B with pin := fun q => q = D ∨ B.pin q } with F := F1 } Γ1 σ F2 H' ∧ H' D = some (.lst acc) ∧ All2 Rel (as.take i) os ∧ All2 (B'.r F2) acc (os.filterMap id) ∧ os.length = i, ⟨as.length, by simp, Nat.zero_le _, F1, [], [], sta_reF S2, upd_same, by simp [All2], trivial, rfl⟩, ?_⟩
  rintro i m H' ⟨rfl, hi, F2, acc, os, S3, hacc, hos, hrep, hol⟩
  by_cases hlt : i < as.length
  · have hx : as[i]? = some as[i] := List.getElem?_eq_getElem hlt
    refine .inr ⟨it.go i F2 H' S3.ext S3.sub hlt, fun H3 => ∃ F3 acc' os', Sta { { B with pin := fun q => q = D ∨ B.pin q } with F := F1 } Γ1 σ F3 H3 ∧ H3 D = some (.lst acc') ∧ All2 Rel (as.take (i + 1)) os' ∧ All2 (B'.r F3) acc' (os'.filterMap id) ∧ os'.length = i + 1, fun H3 ⟨F3, acc', os', q1, q2, q3, q4, q5⟩ => ⟨as.length - (i + 1), by omega, rfl, hlt, F3, acc', os', q1, q2, q3, q4, q5⟩, fun x H3 hy => ?_⟩
    obtain ⟨F3, st, rx⟩ := it.yld i F2 H' x H3 S3.ext S3.sub hy as[i] hx
    have S4 := S3.step st
    have hacc3 : H3 D = some (.lst acc) := st.hh _ _ hacc
    obtain ⟨B2, z1, z2, z3, S5, z5, back⟩ := S4.block vs hf
    intro s H0 C cl fp
    refine step (c.blk s H0 scope cl C fp) i as[i] hx B2 (wipe σ vs) F3 H3 S5 x rx _ fun Γ4 σ4 S6 o6 hts => ?_
    have o6' : ∀ j, j ∉ vs → σ4[j]? = σ[j]? := fun j hj => (o6.2 j hj).trans (wipe_out hj)
    have keepD : ∀ {G4 : Gm} {s4 : L2.St} {F4 H4 : Hp}, Sta B2 G4 s4 F4 H4 → H4 D = some (.lst acc) := fun {G4 s4 F4 H4} S' => S'.keep D _ (by rw [z2]; exact hacc3) (z5 D (.inl rfl))
    have fF : ∀ {G4 : Gm} {s4 : L2.St} {F4 H4 : Hp}, Sta B2 G4 s4 F4 H4 → Same F2 F4 := fun {G4 s4 F4 H4} S' => st.ff.trans (by have := S'.ext; rw [z1] at this; exact this)
    have htk : as.take (i + 1) = as.take i ++ [as[i]] := by rw [List.take_add_one, hx]; rfl
    refine ⟨wipe_eq (o6.1.trans (wipe_length _ _)) o6', fun s2 H2 C2 cl2 fp2 => ?_⟩
    refine hts (c.blk s2 H2 scope cl2 C2 fp2) B2 σ4 F3 H3 S6 _ fun t Γ5 F5 H5 S7 e7 ⟨h1, h2⟩ => ?_
    cases t with
    | false =>
      refine iteF ?_
      obtain ⟨w1, w2⟩ := h2 rfl
      refine ⟨F5, acc, os ++ [none], back Γ5 σ4 F5 H5 S7 w1 o6', keepD S7, ?_, ?_, by simp [hol]⟩
      · rw [htk]; exact all2_snoc hos w2
      · rw [List.filterMap_append]
        simp only [List.filterMap_cons_none (f := id) (a := (none : Option β)) rfl, List.filterMap_nil, List.append_nil]
        exact All2.imp (fun _ _ => B'.mono (fF S7)) hrep
    | true =>
      refine iteT fun s3 H3' C3 cl3 fp3 => ?_
      refine h1 rfl (c.blk s3 H3' scope cl3 C3 fp3) B2 σ4 F5 H5 S7 _ fun y z Γ6 F6 H6 S8 e8 ry ⟨w1, w2⟩ => ?_
      have Sb := back Γ6 σ4 F6 H6 S8 w1 o6'
      refine ⟨acc, keepD S8, ?_, F6, acc ++ [y], os ++ [some z], Sta.pinUpd (B := { B with F := F1 }) Sb b1 (Sb.pnd D (.inl rfl)).2, upd_same, ?_, ?_, by simp [hol]⟩
      · have l1 := All2.length hrep
        have l2 := List.length_filterMap_le id os
        omega
      · rw [htk]; exact all2_snoc hos w2
      · rw [List.filterMap_append]
        simp only [List.filterMap_cons_some (f := id) (a := some z) (b := z) rfl, List.filterMap_nil]
        exact all2_snoc (All2.imp (fun _ _ => B'.mono (fF S8)) hrep) ry
  · have e : i = as.length := by omega
    subst e
    refine .inl ⟨it.stop _ F2 H' S3.ext S3.sub (Nat.le_refl _), ?_⟩
    have hos' : All2 Rel as os := by rw [List.take_of_length_le (Nat.le_refl _)] at hos; exact hos
    exact q D acc (os.filterMap id) Γ1 F2 H' (sta_unF (B := { B with pin := fun q => q = D ∨ B.pin q }) S2 S3) (e1.trans S3.ext) b1 (S3.pnd D (.inl rfl)).2 b2 hacc hrep (fin os hos')
/-- [elt for tg in iter if ..] -/
theorem el_comp {scope : Scope} (own : List (Str × Nat)) (ok : blkC N sc scope own = true) {k : Gm → List β → Prop} (Rel : α → Option β → Prop) (h : CompW c Γ scope own elt tg iter ifs A B' Rel k)
    (hs : ∀ env x, foldedSetIterable iter env x = pure x := by intro _ _; rfl) : EL c Γ (.ListComp elt [⟨tg, iter, ifs, 0⟩] scope pos) B' k := fun B σ F H S Q q => by
  refine of_pe (pe_lc c.calm (by rw [c.hN]; exact c.nd) piW (blkOk_by (own := own) (by rw [c.hN, c.hsc]; exact ok)) pg_b pts_b pe_b (hs _)) ?_
  exact comp_read own Rel h S q
/-- x = [elt for tg in iter if ..], x a local -/
theorem s1_setC {D : En ρ} {scope : Scope} (own : List (Str × Nat)) (ok : blkC N sc scope own = true) (Rel : α → Option β → Prop) {i : Nat} {x : Str} {py : Pos} (hsl : slotOf N x 0 = some i) (hv : sc.names.lookup x = some .local) (hk : sc.kind = .function) (hln : (py.line == pos.line) = true) (hnm : (scope.names.any fun (n, k) => n == x && (k == .local || k == .cell)) = false)
    (h : CompW c Γ scope own elt tg iter ifs A B' Rel fun Γ1 z => i < Γ1.length ∧ D.nx (Γ1.set i (some (ownL B' z)))) (hs : ∀ env x, foldedSetIterable iter env x = pure x := by intro _ _; rfl) : S1 c Γ (.Assign [.Name x py] (.ListComp elt [⟨tg, iter, ifs, 0⟩] scope pos) pos') D := fun B σ F H hB S => by
  refine of_ps (ps_setLc (own := own) (i := i) c.calm (by rw [c.hN]; exact c.nd) (by rw [c.hN]; exact slotOf_at hsl) (by rw [c.hsc]; exact hv) (sw_true (by rw [c.hsc]; exact hk) (by rw [c.hsc]; exact hv) hln hnm) piW (blkOk_by (by rw [c.hN, c.hsc]; exact ok)) pg_b pts_b pe_b (hs _)) ?_
  exact comp_read own Rel h S fun p vs as Γ1 F1 H1 S1 e1 b1 b2 b3 hp r1 h1 => ⟨Γ1.set i (some (ownL B' as)), F1, S1.take h1.1 ⟨p, vs, rfl, fun q => Iff.rfl, hp, r1⟩ b2 (by rw [hp]; exact fun z => nomatch z) b1 b3, h1.2⟩
/-- no test, each element told by a function -/
theorem all2_some {f : α → β} : ∀ {as : List α} {os : List (Option β)}, All2 (fun x o => o = some (f x)) as os → os.filterMap id = as.map f
  | [], [], _ => rfl
  | x :: as, o :: os, h => by
    obtain ⟨rfl, h⟩ := h
    rw [List.map_cons, List.filterMap_cons_some (f := id) (b := f x) rfl, all2_some h]
theorem all2_ite {p : α → Bool} {f : α → β} : ∀ {as : List α} {os : List (Option β)}, All2 (fun x o => o = if p x then some (f x) else none) as os → os.filterMap id = (as.filter p).map f
  | [], [], _ => rfl
  | x :: as, o :: os, h => by
    obtain ⟨rfl, h⟩ := h
    have ih := all2_ite h
    cases q : p x with
    | true => simp [q, ih]
    | false => simp [q, ih]

/-! ### a law's draws: a list of two ints that a call changes -/
def DrAt (H : Hp) (p : Addr) : Prop := ∃ a b : Int, H p = some (.lst [.int a, .int b]) ∧ 0 ≤ a ∧ a < 2 ^ 1000 ∧ 0 ≤ b ∧ b < 2147483648
def drw (p : Addr) : Ent := ⟨fun v ps F H => v = .ref p ∧ (∀ q, ps q ↔ q = p) ∧ DrAt H p, false, true, fun ⟨h1, h2, a, b, h3, h4⟩ _ k => ⟨h1, h2, a, b, by rw [k p ((h2 p).mpr rfl)]; exact h3, h4⟩, fun h => nomatch h⟩
def spD {ι : Type} (args : ι → List (TV K)) (T : Ty K ρ) (pre : ι → Prop) (post : ι → ρ → Prop) : Sp := fun vs H Q _ =>
  ∃ F i p va, vs = .ref p :: va ∧ Same F H ∧ F p = none ∧ DrAt H p ∧ All2 (fun v (t : TV K) => t.r F v) va (args i) ∧ pre i ∧
    ∀ v r F' H', Same F F' → Same F' H' → (∀ b o, b ≠ p → H b = some o → H' b = some o) → (∀ b, H b ≠ none → F b = none → F' b = none) → DrAt H' p → T.r F' v r → post i r → Q v H'
theorem DrAt.ne {H : Hp} {p : Addr} (h : DrAt H p) : H p ≠ none := by
  obtain ⟨a, b, e, _⟩ := h
  rw [e]
  exact fun z => nomatch z
theorem ew_callD {ι : Type} {args : ι → List (TV K)} {R : Ty K ρ} {pre : ι → Prop} {post : ι → ρ → Prop} {name x : Str} {ps : List Str} {l i : Nat} {k : Gm → ρ → Prop} {p px : Pos} {dr : Addr} (G : Prom P w K mg base name l ps (spD args R pre post)) (hl : l ≤ lv) (hg : glB sc name = true)
    (hs : slotOf N x 0 = some i) (hv : visB sc x = true) (hx : Γ[i]? = some (some (drw dr)))
    (h : EWs c Γ es fun Γ1 ts => Γ1[i]? = some (some (drw dr)) ∧ ∃ j, ts = args j ∧ pre j ∧ ∀ r, post j r → k Γ1 r) (hdb : (name == ("__debug__" : Str)) = false := by decide +kernel)
    (he : ∀ env, starEach (.Name x px :: es) env = (false, eval (.Name x px) env) :: starEach es env := by intro _; rfl) (hpl : ∀ env, (backTo pos (starEach es env)).any (·.1) = false := by intro _; rfl) (hd : (x == ("__debug__" : Str)) = false := by decide +kernel) (hcd : (x == ("__classdict__" : Str)) = false := by decide +kernel) :
    EW c Γ (.Call (.Name name p) (.Name x px :: es) [] pos) R k := by
  intro B σ F H S Q q
  obtain ⟨X, rfl, rfl, rfl, rfl, rfl, rfl, nd, rfl, rfl, calm, room, pas⟩ := c
  obtain ⟨f, fd, g1, g2, g3, g4⟩ := G.ex
  refine of_pe (pe_call g4 (room.mono hl) (glB_gl hg) g1 g2 g3 .nil pass0 (pa_cons (pe_var (slotOf_at hs) (visB_vis hv) hd hcd) paW (he _)) hdb (he _) (hpl _)) ?_
  obtain ⟨v, ps0, hv1, ⟨rfl, hq1, d1⟩, _⟩ := S.get hx
  refine ⟨_, hv1, h B σ F H S _ fun vs ts Γ1 F1 H1 S1 e1 r1 ⟨hx1, j, ej, hp, hk⟩ => ?_⟩
  subst ej
  obtain ⟨v', ps1, hv2, ⟨rfl, hq2, d2⟩, own⟩ := S1.get hx1
  show spD args R pre post (V.ref dr :: vs ++ []) H1 Q E0
  rw [List.append_nil]
  refine ⟨F1, j, dr, vs, rfl, S1.sub, (own dr ((hq2 dr).mpr rfl)).1, d2, r1, hp, fun v r F2 H2 s1 s2 s3 s4 d3 rr hr => ?_⟩
  refine q v r Γ1 F2 H2 ?_ (e1.trans s1) rr (hk r hr)
  have S2 := S1.own_upd (F' := F2) (H' := H2) (e' := drw dr) hx1 rfl fun v3 ps3 hv3 ⟨e3, hq3, d4⟩ own3 => ?_
  · have e0 : Γ1.set i (some (drw dr)) = Γ1 := by
      apply List.ext_getElem?
      intro n
      by_cases hn : n = i
      · subst hn
        rw [List.getElem?_set_self (List.getElem?_eq_some_iff.mp hx1).1, hx1]
      · rw [List.getElem?_set_ne (Ne.symm hn)]
    rw [e0] at S2
    exact S2
  · refine ⟨ps3, s2, s1, fun b o hb nb => s3 b o (fun z => nb ((hq3 b).mpr z)) hb, fun b nb => ?_, s4, fun q hq => ?_, e3, hq3, d3⟩
    · by_cases z : b = dr
      · rw [z]; exact d3.ne
      · cases y : H1 b with
        | none => exact absurd y nb
        | some o => rw [s3 b o z y]; exact fun z => nomatch z
    · obtain rfl : q = dr := (hq3 q).mp hq
      have o3 := own3 q hq
      exact ⟨.inl hq, s4 q o3.2.1 o3.1, d3.ne, o3.2.2.2⟩
/-- a def whose first parameter is a law's draws -/
theorem fn_draws {ι : Type} {args : ι → List (TV K)} {R : Ty K ρ} {pre : ι → Prop} {post : ι → ρ → Prop} {x qual : Str} {st : Stmt} {f : Addr} {fd : FuncData} {ps : List Str} (F : Fun K x qual st f fd) (S : FnScope N ps (defScope st)) (hl : ∀ i, (args i).length + 1 = ps.length)
    (h : ∀ i, pre i → ∀ (dr : Addr) (c : Ctx P w K mg base lv N (defScope st) (fun _ => true)), SW c (some (drw dr) :: gmOf (N.length - 1) (args i)) (defBody st) ⟨rTy R, fun Γ r => Γ[0]? = some (some (drw dr)) ∧ post i r, fun Γ => Γ[0]? = some (some (drw dr)) ∧ ∃ r, (∀ F, R.r F .non r) ∧ post i r, fun _ => False, fun _ => False⟩) : FnOk P w K mg base CX0 (lv + 1) f fd ps (spD args R pre post) := by
  have hpl : ps.length ≤ N.length := by have := congrArg List.length S.pre; rw [List.length_take] at this; omega
  refine fn_px F S (fun vs H Q E ⟨F0, i, p, va, e, _, _, _, r, _⟩ => by subst e; exact (congrArg (· + 1) (All2.length r)).trans (hl i)) fun vs H Q E ⟨F0, i, p, va, e, hs, hf, hd, r, hp, q⟩ => ?_
  subst e
  have hlen := All2.length r
  have hl' := hl i
  have fin : ∀ (v : V) (Γ' : Gm) (σ' : L2.St) (F' H' : Hp) (a : ρ), Sta ⟨F0, H, fun q => q = p, fun _ => False, fun _ => False⟩ Γ' σ' F' H' → R.r F' v a → Γ'[0]? = some (some (drw p)) → post i a → Q v H' := fun v Γ' σ' F' H' a S' ra h0 ha => by
    obtain ⟨v0, ps0, hv0, ⟨_, _, d0⟩, _⟩ := S'.get h0
    exact q v a F' H' S'.ext S'.sub (fun b o nb hb => S'.keep b o hb nb) S'.new d0 ra ha
  refine ⟨ρ, ⟨F0, H, fun q => q = p, fun _ => False, fun _ => False⟩, some (drw p) :: gmOf (N.length - 1) (args i), F0, rTy R, _, _, fun _ h => h, ?_, h i hp p, fun v Γ' σ' F' H' a S' ra ha => fin v Γ' σ' F' H' a S' ra ha.1 ha.2, fun Γ' σ' F' H' S' ⟨h0, a, ra, ha⟩ => fin .non Γ' σ' F' H' a S' (ra F') h0 ha⟩
  refine ⟨?_, hs, Same.refl _, fun _ _ h _ => h, fun _ h => h, fun _ _ h => h, fun _ h => h.elim, fun j q => j = 0 ∧ q = p, fun j q ⟨_, e⟩ => ⟨by rw [e]; exact hf, by rw [e]; exact hd.ne, .inr e, fun h => h⟩, fun j k q ⟨e1, _⟩ ⟨e2, _⟩ => e1.trans e2.symm, fun j x hx => ?_⟩
  · rw [start_len (by rw [List.length_cons]; omega)]
    unfold gmOf
    rw [List.length_cons, List.length_append, List.length_map, List.length_replicate]
    omega
  · cases j with
    | zero =>
      cases hx
      exact ⟨.ref p, start_get rfl, ⟨rfl, fun q => by simp, hd⟩, fun z => nomatch z⟩
    | succ j =>
      rw [List.getElem?_cons_succ] at hx
      obtain ⟨t, ht, rfl⟩ := gm_get hx
      obtain ⟨v, hv, rv⟩ := All2.getR r ht
      refine ⟨v, start_get (by rw [List.getElem?_cons_succ]; exact hv), ⟨?_, rv⟩, fun _ q hq => absurd hq.1 (Nat.succ_ne_zero j)⟩
      intro q hq
      exact Nat.succ_ne_zero j hq.1
/-- a step that makes a thing of nobody's -/
theorem Sta.fresh {B : Base} {σ : L2.St} {F H F' H' : Hp} {p : Addr} (S : Sta B Γ σ F H) (st : Step F H F' H') (n1 : H p = none) (n2 : F' p = none) (n3 : H' p ≠ none) : Sta { B with pin := fun q => q = p ∨ B.pin q } Γ σ F' H' ∧ B.H p = none ∧ ¬ B.pin p := by
  have S2 := S.step st
  have hb : B.H p = none := by
    cases z : B.H p with
    | none => rfl
    | some o => exact absurd n1 (S.dom p (by rw [z]; exact fun y => nomatch y))
  refine ⟨?_, hb, fun z => (S.pnd p z).1 n1⟩
  obtain ⟨O, o1, o2, o3⟩ := S.own
  refine ⟨S2.len, S2.sub, S2.ext, S2.keep, S2.dom, S2.new, fun q z => ?_, O, fun i q hq => ?_, o2, fun i x hx => ?_⟩
  · rcases z with z | z
    · rw [z]; exact ⟨n3, n2⟩
    · exact S2.pnd q z
  · obtain ⟨a, b, c, d⟩ := o1 i q hq
    refine ⟨st.new q b a, Same.dom st.hh b, c, fun z => ?_⟩
    rcases z with z | z
    · rw [z] at b; exact b n1
    · exact d z
  · obtain ⟨v, hv, ho, hw⟩ := o3 i x hx
    refine ⟨v, hv, x.st ho st.ff fun q hq => ?_, hw⟩
    obtain ⟨a, b, c, d⟩ := o1 i q hq
    cases y : H q with
    | none => exact absurd y b
    | some o => exact st.hh _ _ y
/-- a def that gives new draws -/
def spN {ι : Type} (args : ι → List (TV K)) (pre : ι → Prop) : Sp := fun vs H Q _ =>
  ∃ F i, Same F H ∧ All2 (fun v (t : TV K) => t.r F v) vs (args i) ∧ pre i ∧ ∀ p F' H', Step F H F' H' → F' p = none → H p = none → DrAt H' p → Q (.ref p) H'
/-- draws = f(..) -/
theorem s1_setD {ι : Type} {args : ι → List (TV K)} {pre : ι → Prop} {D : En ρ} {name x : Str} {ps : List Str} {l i : Nat} {p : Pos} (G : Prom P w K mg base name l ps (spN args pre)) (hl : l ≤ lv) (hg : glB sc name = true) (hs : slotOf N x 0 = some i) (hv : locB sc fn x = true)
    (h : EWs c Γ (e :: es) fun Γ1 ts => i < Γ1.length ∧ ∃ j, ts = args j ∧ pre j ∧ ∀ dr, D.nx (Γ1.set i (some (drw dr)))) (hdb : (name == ("__debug__" : Str)) = false := by decide +kernel) {cpos : Pos}
    (he : ∀ env, starEach (e :: es) env = (false, eval e env) :: starEach es env := by intro _; rfl) (hpl : ∀ env, (backTo cpos (starEach es env)).any (·.1) = false := by intro _; rfl)
    (hsw : ∀ env, swapsWith (.Call (.Name name p) (e :: es) [] cpos) (some (.Name x pos')) pos.line env = pure false := by intro _; rfl) : S1 c Γ (.Assign [.Name x pos'] (.Call (.Name name p) (e :: es) [] cpos) pos) D := fun B σ F H hB S => by
  obtain ⟨X, rfl, rfl, rfl, rfl, rfl, rfl, nd, rfl, rfl, calm, room, pas⟩ := c
  obtain ⟨f, fd, g1, g2, g3, g4⟩ := G.ex
  have hl' := locB_loc hv
  refine of_ps (ps_set (i := i) nd (slotOf_at hs) hl'.1 (pe_call g4 (room.mono hl) (glB_gl hg) g1 g2 g3 .nil pass0 paW hdb (he _) (hpl _)) (hsw _) hl'.2) ?_
  refine h B σ F H S _ fun vs ts Γ1 F1 H1 S1 e1 r1 ⟨hil, j, ej, hp, hk⟩ => ?_
  subst ej
  show spN args pre (vs ++ []) H1 _ E0
  rw [List.append_nil]
  refine ⟨F1, j, S1.sub, r1, hp, fun dr F2 H2 st f2 h1 d2 => ?_⟩
  obtain ⟨S2, b1, b2⟩ := S1.fresh st h1 f2 d2.ne
  exact ⟨_, F2, Sta.take (e := drw dr) (B := B) S2 hil ⟨rfl, fun q => Iff.rfl, d2⟩ f2 d2.ne b1 b2, hk dr⟩
/-- new draws -/
def rDrw : Rs Unit := fun BH v _ F H => ∃ p, v = .ref p ∧ BH p = none ∧ F p = none ∧ DrAt H p
theorem fn_news {ι : Type} {args : ι → List (TV K)} {pre : ι → Prop} {x qual : Str} {st : Stmt} {f : Addr} {fd : FuncData} {ps : List Str} (F : Fun K x qual st f fd) (S : FnScope N ps (defScope st)) (hl : ∀ i, (args i).length = ps.length)
    (h : ∀ i, pre i → ∀ c : Ctx P w K mg base lv N (defScope st) (fun _ => true), SW c (gmOf N.length (args i)) (defBody st) ⟨rDrw, fun _ _ => True, fun _ => False, fun _ => False, fun _ => False⟩) : FnOk P w K mg base CX0 (lv + 1) f fd ps (spN args pre) := by
  have hpl : ps.length ≤ N.length := by have := congrArg List.length S.pre; rw [List.length_take] at this; omega
  refine fn_px F S (fun vs H Q E ⟨F0, i, _, r, _⟩ => (All2.length r).trans (hl i)) fun vs H Q E ⟨F0, i, hs, r, hp, q⟩ => ?_
  refine ⟨Unit, ⟨F0, H, fun _ => False, fun _ => False, fun _ => False⟩, gmOf N.length (args i), F0, rDrw, _, _, fun _ h => h, sta_start hs r (by rw [All2.length r, hl i]; exact hpl), h i hp, fun v Γ' σ' F' H' a S' ⟨p, e, h1, h2, h3⟩ ha => ?_, fun Γ' σ' F' H' S' z => z.elim⟩
  rw [e]
  exact q p F' H' (sta_step S' fun _ z => z) h2 h1 h3
/-- return [a, b]: new draws -/
theorem s1_retD {D : En Unit} {x1 : Pos} (hR : D.R = rDrw) (h : EW c Γ a tInt fun Γ1 i => EW c Γ1 b tInt fun Γ2 j => 0 ≤ i ∧ i < 2 ^ 1000 ∧ 0 ≤ j ∧ j < 2147483648 ∧ D.rt Γ2 ()) (hs : ∀ env, starEach [a, b] env = (false, eval a env) :: starEach [b] env := by intro _; rfl) (hs2 : ∀ env, starEach [b] env = (false, eval b env) :: starEach [] env := by intro _; rfl) :
    S1 c Γ (.Return (some (.List [a, b] x1)) pos) D := fun B σ F H hB S => by
  refine of_ps (ps_ret (pe_lst (pa_cons peW (pa_cons peW pa_nil (hs2 _)) (hs _)))) ?_
  refine h B σ F H S _ fun v i Γ1 F1 H1 S1 e1 r1 h1 => h1 B σ F1 H1 S1 _ fun u j Γ2 F2 H2 S2 e2 r2 ⟨h2, h3, h4, h5, h6⟩ => ⟨by show 2 ≤ sizeLine; decide, fun p hp => ?_⟩
  obtain ⟨S3, b1, b2, b3⟩ := S2.make (o := .lst [v, u]) hp
  refine ⟨Γ2, σ, F2, (), S3.unpin, ?_, h6⟩
  rw [hR]
  exact ⟨p, rfl, b1, b3, i, j, by rw [upd_same, show v = .int i from r1, show u = .int j from r2], h2, h3, h4, h5⟩
/-- a def that hands back a new list -/
def spF {ι : Type} (args : ι → List (TV K)) (T : Ty K α) (pre : ι → Prop) (post : ι → List α → Prop) : Sp := fun vs H Q _ =>
  ∃ F i, Same F H ∧ All2 (fun v (t : TV K) => t.r F v) vs (args i) ∧ pre i ∧ ∀ p xs r F' H', Step F H F' H' → H p = none → F' p = none → H' p = some (.lst xs) → All2 (T.r F') xs r → post i r → Q (.ref p) H'
theorem fn_fresh {ι : Type} {args : ι → List (TV K)} {T : Ty K α} {pre : ι → Prop} {post : ι → List α → Prop} {x qual : Str} {st : Stmt} {f : Addr} {fd : FuncData} {ps : List Str} (F : Fun K x qual st f fd) (S : FnScope N ps (defScope st)) (hl : ∀ i, (args i).length = ps.length)
    (h : ∀ i, pre i → ∀ c : Ctx P w K mg base lv N (defScope st) (fun _ => true), SW c (gmOf N.length (args i)) (defBody st) ⟨rLst T, fun _ r => post i r, fun _ => False, fun _ => False, fun _ => False⟩) : FnOk P w K mg base CX0 (lv + 1) f fd ps (spF args T pre post) := by
  have hpl : ps.length ≤ N.length := by have := congrArg List.length S.pre; rw [List.length_take] at this; omega
  refine fn_px F S (fun vs H Q E ⟨F0, i, _, r, _⟩ => (All2.length r).trans (hl i)) fun vs H Q E ⟨F0, i, hs, r, hp, q⟩ => ?_
  refine ⟨List α, ⟨F0, H, fun _ => False, fun _ => False, fun _ => False⟩, gmOf N.length (args i), F0, rLst T, _, _, fun _ h => h, sta_start hs r (by rw [All2.length r, hl i]; exact hpl), h i hp, fun v Γ' σ' F' H' a S' ⟨p, xs, e, h1, h2, h3, h4⟩ ha => ?_, fun Γ' σ' F' H' S' z => z.elim⟩
  rw [e]
  exact q p xs a F' H' (sta_step S' fun _ z => z) h1 h2 h3 h4 ha
/-- its call -/
theorem el_call {ι : Type} {args : ι → List (TV K)} {R : Ty K α} {pre : ι → Prop} {post : ι → List α → Prop} {name : Str} {ps : List Str} {l : Nat} {k : Gm → List α → Prop} {p : Pos} (G : Prom P w K mg base name l ps (spF args R pre post)) (hl : l ≤ lv) (hg : glB sc name = true)
    (h : EWs c Γ (e :: es) fun Γ1 ts => ∃ i, ts = args i ∧ pre i ∧ ∀ r, post i r → k Γ1 r) (hdb : (name == ("__debug__" : Str)) = false := by decide +kernel)
    (he : ∀ env, starEach (e :: es) env = (false, eval e env) :: starEach es env := by intro _; rfl) (hpl : ∀ env, (backTo pos (starEach es env)).any (·.1) = false := by intro _; rfl) : EL c Γ (.Call (.Name name p) (e :: es) [] pos) R k := by
  intro B σ F H S Q q
  obtain ⟨X, rfl, rfl, rfl, rfl, rfl, rfl, nd, rfl, rfl, calm, room, pas⟩ := c
  obtain ⟨f, fd, g1, g2, g3, g4⟩ := G.ex
  refine of_pe (pe_call g4 (room.mono hl) (glB_gl hg) g1 g2 g3 .nil pass0 paW hdb (he _) (hpl _)) ?_
  refine h B σ F H S _ fun vs ts Γ1 F1 H1 S1 e1 r1 ⟨i, ei, hp, hk⟩ => ?_
  subst ei
  show spF args R pre post (vs ++ []) H1 Q E0
  rw [List.append_nil]
  refine ⟨F1, i, S1.sub, r1, hp, fun p xs r F2 H2 st n1 n2 hx rr hr => ?_⟩
  obtain ⟨S2, b1, b2⟩ := S1.fresh st n1 n2 (by rw [hx]; exact fun z => nomatch z)
  exact q p xs r Γ1 F2 H2 S2 (e1.trans st.ff) b1 n2 b2 hx rr (hk r hr)
end
end Px
/-! Px, eighth part: the items of draws; a law's own head. -/
namespace Px
open PySem PySem.Spec PyProof.Rows L2
section
variable {P : Program} {w : World} {K : PySem.W.Frag} {mg : Str → Option Value} {base : Heap} {lv : Nat} {N : List Str} {sc : Scope} {fn : Str → Bool}
variable {α β γ δ ρ : Type}
variable {c : Ctx P w K mg base lv N sc fn} {Γ : Gm} {e a b d tg iter elt : Expr} {es ts ifs : List Expr} {pos pos' : Pos} {T : Ty K α} {A : Ty K α} {B' : Ty K β} {C : Ty K γ} {D' : Ty K δ}
theorem ew_drw {i : Nat} {x : Str} {p p' : Pos} {dr : Addr} {n : Int} {j} {k : Gm → Int → Prop} (hs : slotOf N x 0 = some i) (hv : visB sc x = true) (hg : Γ[i]? = some (some (drw dr))) (h : (n = 0 ∧ ∀ a, 0 ≤ a → a < 2 ^ 1000 → k Γ a) ∨ (n = 1 ∧ ∀ a, 0 ≤ a → a < 2147483648 → k Γ a))
    (hd : (x == ("__debug__" : Str)) = false := by decide +kernel) (hcd : (x == ("__classdict__" : Str)) = false := by decide +kernel) : EW c Γ (.Subscript (.Name x p) (.Constant (.int n) j p') pos) tInt k := by
  intro B σ F H S Q q
  have hN := c.hN
  have hsc := c.hsc
  refine of_pe (pe_ix ix_list (pe_var (i := i) (by rw [hN]; exact slotOf_at hs) (by rw [hsc]; exact visB_vis hv) hd hcd) pe_int (fun _ _ => rfl)) ?_
  obtain ⟨v, ps, h1, ⟨rfl, h2, u, t, h3, h4, h5, h6, h7⟩, _⟩ := S.get hg
  refine ⟨_, h1, dr, [.int u, .int t], n, if n = 0 then .int u else .int t, rfl, rfl, .inl (.inl h3), ?_, ?_⟩
  · rcases h with ⟨rfl, _⟩ | ⟨rfl, _⟩ <;> rfl
  · rcases h with ⟨rfl, h⟩ | ⟨rfl, h⟩
    · exact q _ u Γ F H S (Same.refl _) rfl (h u h4 h5)
    · exact q _ t Γ F H S (Same.refl _) rfl (h t h6 h7)
theorem s1_drw {i : Nat} {x : Str} {p p' : Pos} {dr : Addr} {n : Int} {j} {D : En ρ} (hs : slotOf N x 0 = some i) (hv : visB sc x = true)
    (h : EW c Γ e tInt fun Γ1 z => Γ1[i]? = some (some (drw dr)) ∧ ((n = 0 ∧ 0 ≤ z ∧ z < 2 ^ 1000) ∨ (n = 1 ∧ 0 ≤ z ∧ z < 2147483648)) ∧ D.nx Γ1)
    (hd : (x == ("__debug__" : Str)) = false := by decide +kernel) (hcd : (x == ("__classdict__" : Str)) = false := by decide +kernel)
    (hs1 : ∀ env, swapsWithSole [.Subscript (.Name x p) (.Constant (.int n) j p') pos'] e pos.line env = pure false := by intro _; rfl) (hw : ∀ env, swappedStores [.Subscript (.Name x p) (.Constant (.int n) j p') pos'] e env = pure none := by intro _; rfl) :
    S1 c Γ (.Assign [.Subscript (.Name x p) (.Constant (.int n) j p') pos'] e pos) D := fun B σ F H hB S => by
  have hN := c.hN
  have hsc := c.hsc
  refine of_ps (ps_asg peW (pg_sub (pe_var (i := i) (by rw [hN]; exact slotOf_at hs) (by rw [hsc]; exact visB_vis hv) hd hcd) pe_int set_list) (hs1 _) (hw _)) ?_
  refine h B σ F H S _ fun v z Γ1 F1 H1 S1 e1 r1 ⟨hg, hz, hn⟩ => ?_
  obtain ⟨v0, ps, h1, ⟨rfl, h2, u, t, h3, h4, h5, h6, h7⟩, ow⟩ := S1.get hg
  obtain rfl : v = .int z := r1
  refine ⟨_, h1, dr, [.int u, .int t], n, n.toNat, rfl, rfl, h3, by rcases hz with ⟨rfl, _⟩ | ⟨rfl, _⟩ <;> rfl, Γ1, F1, ?_, hn⟩
  have hF : F1 dr = none := (ow dr ((h2 dr).mpr rfl)).1
  have S2 := S1.own_upd (F' := F1) (H' := upd H1 dr (.lst (([.int u, .int t] : List V).set n.toNat (.int z)))) (e' := drw dr) hg rfl fun v3 ps3 hv3 ⟨e3, hq3, d4⟩ own3 => ?_
  · have e0 : Γ1.set i (some (drw dr)) = Γ1 := by
      apply List.ext_getElem?
      intro n
      by_cases hn : n = i
      · subst hn
        rw [List.getElem?_set_self (List.getElem?_eq_some_iff.mp hg).1, hg]
      · rw [List.getElem?_set_ne (Ne.symm hn)]
    rw [e0] at S2
    exact S2
  · refine ⟨ps3, fun b o q => by rw [upd_ne (ne_of_none q hF)]; exact S1.sub b o q, Same.refl _, fun b o hb nb => by rw [upd_ne (fun z => nb ((hq3 b).mpr z))]; exact hb, fun b nb => ?_, fun _ _ h => h, fun q hq => ?_, e3, hq3, ?_⟩
    · by_cases y : b = dr
      · rw [y, upd_same]; exact fun z => nomatch z
      · rw [upd_ne y]; exact nb
    · obtain rfl : q = dr := (hq3 q).mp hq
      exact ⟨.inl hq, hF, by rw [upd_same]; (exact fun z => nomatch z), (own3 q hq).2.2.2⟩
    · rcases hz with ⟨rfl, z1, z2⟩ | ⟨rfl, z1, z2⟩
      · exact ⟨z, t, upd_same, z1, z2, h6, h7⟩
      · exact ⟨u, z, upd_same, h4, h5, z1, z2⟩
theorem all2_ints (F : Hp) (ns : List Int) : All2 ((tInt (K := K)).r F) (ns.map V.int) ns := All2.of_map (f := V.int) (fun _ => rfl) ns
/-! ### the law's own promise -/
def spLaw (K : PySem.W.Frag) : Sp := fun vs H Q _ => ∃ (a : Addr) (ns : List Int), vs = [.ref a] ∧ SqL K H a (ns.map V.int) ∧ ns.length ≤ 63 ∧ ∀ H', Q (.bl true) H'
theorem fn_law {x qual : Str} {st : Stmt} {f : Addr} {fd : FuncData} (F : Fun K x qual st f fd) (S : FnScope N ["script"] (defScope st))
    (h : ∀ ns : List Int, ns.length ≤ 63 → ∀ c : Ctx P w K mg base lv N (defScope st) (fun _ => true), SW c (gmOf N.length [tv (tSeq (K := K) tInt) ns]) (defBody st) ⟨rTy (K := K) tBool, fun _ r => r = true, fun _ => False, fun _ => False, fun _ => False⟩) : FnOk P w K mg base CX0 (lv + 1) f fd ["script"] (spLaw K) := by
  have hpl : 1 ≤ N.length := by have := congrArg List.length S.pre; rw [List.length_take] at this; simp at this; omega
  refine fn_px F S (fun vs H Q E ⟨a, ns, e, _⟩ => by rw [e]; rfl) fun vs H Q E ⟨a, ns, e, hS, hl, q⟩ => ?_
  subst e
  rcases hS with hS | hS
  · -- the script is tracked: it is frozen as it stands
    have key : ∃ o, H a = some o ∧ SqL K (upd (fun _ => none) a o) a (ns.map V.int) := by
      rcases hS with h | ⟨o, h⟩
      · exact ⟨_, h, .inl (.inl upd_same)⟩
      · exact ⟨_, h, .inl (.inr ⟨o, upd_same⟩)⟩
    obtain ⟨o, ho, hq⟩ := key
    have hs : Same (upd (fun _ => none) a o) H := fun b x z => by
      by_cases hb : b = a
      · subst hb; rw [upd_same] at z; rw [ho]; exact z
      · rw [upd_ne hb] at z; cases z
    refine ⟨Bool, ⟨upd (fun _ => none) a o, H, fun _ => False, fun _ => False, fun _ => False⟩, gmOf N.length [tv (tSeq (K := K) tInt) ns], upd (fun _ => none) a o, rTy (K := K) tBool, _, _, fun _ h => h, sta_start hs ⟨⟨a, ns.map V.int, rfl, hq, all2_ints _ ns⟩, trivial⟩ hpl, h ns hl, fun v Γ' σ' F' H' a S' ra ha => ?_, fun Γ' σ' F' H' S' z => z.elim⟩
    obtain rfl : v = .bl a := ra
    rw [ha]; exact q H'
  · have hs : Same (fun _ => none) H := fun _ _ z => nomatch z
    refine ⟨Bool, ⟨fun _ => none, H, fun _ => False, fun _ => False, fun _ => False⟩, gmOf N.length [tv (tSeq (K := K) tInt) ns], fun _ => none, rTy (K := K) tBool, _, _, fun _ h => h, sta_start hs ⟨⟨a, ns.map V.int, rfl, .inr hS, all2_ints _ ns⟩, trivial⟩ hpl, h ns hl, fun v Γ' σ' F' H' a S' ra ha => ?_, fun Γ' σ' F' H' S' z => z.elim⟩
    obtain rfl : v = .bl a := ra
    rw [ha]; exact q H'
/-- a def of the text as it stands behind the top, with how it binds -/
def FnAt (K : PySem.W.Frag) (mg : Str → Option Value) (x qual : Str) (st : Stmt) (ps : List Str) : Prop := ∃ f fd, Fun K x qual st f fd ∧ mg x = some (.ref f) ∧ Binds K fd ps []
theorem FnAt.prom {x qual : Str} {st : Stmt} {ps : List Str} {sp : Sp} {l : Nat} (h : FnAt K mg x qual st ps) (k : ∀ f fd, Fun K x qual st f fd → FnOk P w K mg base CX0 l f fd ps sp) : Prom P w K mg base x l ps sp := by
  obtain ⟨f, fd, F, hm, hb⟩ := h
  exact ⟨f, fd, hm, F.kp, hb, k f fd F⟩
theorem Prom.mono {x : Str} {ps : List Str} {sp : Sp} {l l' : Nat} (h : Prom P w K mg base x l ps sp) (hl : l ≤ l') : Prom P w K mg base x l' ps sp := by
  obtain ⟨f, fd, a, b, c, d⟩ := h
  exact ⟨f, fd, a, b, c, d.mono hl⟩
/-- a slot's own list is handed back -/
theorem s1_retO {i : Nat} {x : Str} {p : Pos} {xs : List α} {D : En (List α)} (hR : D.R = rLst T) (hs : slotOf N x 0 = some i) (hv : visB sc x = true) (hg : Γ[i]? = some (some (ownL T xs))) (h : D.rt Γ xs)
    (hd : (x == ("__debug__" : Str)) = false := by decide +kernel) (hcd : (x == ("__classdict__" : Str)) = false := by decide +kernel) : S1 c Γ (.Return (some (.Name x p)) pos) D := fun B σ F H hB S => by
  have hN := c.hN
  have hsc := c.hsc
  refine of_ps (ps_ret (pe_var (i := i) (by rw [hN]; exact slotOf_at hs) (by rw [hsc]; exact visB_vis hv) hd hcd)) ?_
  obtain ⟨O, o1, o2, o3⟩ := id S.own
  obtain ⟨v, h1, ⟨q, vs, rfl, h2, h3, h4⟩, h5⟩ := o3 i _ hg
  have hO := (h2 q).mpr rfl
  exact ⟨_, h1, Γ, σ, F, xs, S, by rw [hR]; exact ⟨q, vs, rfl, (h5 rfl q hO).resolve_right (hB q), (o1 i q hO).1, h3, h4⟩, h⟩
/-! ### the statements' rules, what is wanted behind written out -/
section
variable {R : Rs ρ} {rt : Gm → ρ → Prop} {nx bk ct : Gm → Prop} {st : Stmt} {rest ss ss' body : List Stmt}
theorem w_nil (h : nx Γ) : SW c Γ [] (⟨R, rt, nx, bk, ct⟩ : En ρ) := sw_nil h
theorem w_cons (h : S1 c Γ st (⟨R, rt, fun Γ1 => SW c Γ1 rest ⟨R, rt, nx, bk, ct⟩, bk, ct⟩ : En ρ)) : SW c Γ (st :: rest) (⟨R, rt, nx, bk, ct⟩ : En ρ) := sw_cons h
theorem w_ret {T : Ty K ρ} (h : EW c Γ e T rt) : S1 c Γ (.Return (some e) pos) (⟨rTy T, rt, nx, bk, ct⟩ : En ρ) := s1_ret rfl h
theorem w_retL {rt : Gm → List α → Prop} (h : EL c Γ e T rt) : S1 c Γ (.Return (some e) pos) (⟨rLst T, rt, nx, bk, ct⟩ : En (List α)) := s1_retL rfl h
theorem w_retD {rt : Gm → Unit → Prop} {x1 : Pos} (h : EW c Γ a tInt fun Γ1 i => EW c Γ1 b tInt fun Γ2 j => 0 ≤ i ∧ i < 2 ^ 1000 ∧ 0 ≤ j ∧ j < 2147483648 ∧ rt Γ2 ()) (hs : ∀ env, starEach [a, b] env = (false, eval a env) :: starEach [b] env := by intro _; rfl) (hs2 : ∀ env, starEach [b] env = (false, eval b env) :: starEach [] env := by intro _; rfl) : S1 c Γ (.Return (some (.List [a, b] x1)) pos) (⟨rDrw, rt, nx, bk, ct⟩ : En Unit) := s1_retD rfl h hs hs2
theorem w_retO {i : Nat} {x : Str} {p : Pos} {xs : List α} {rt : Gm → List α → Prop} (hs : slotOf N x 0 = some i) (hv : visB sc x = true) (hg : Γ[i]? = some (some (ownL T xs))) (h : rt Γ xs) (hd : (x == ("__debug__" : Str)) = false := by decide +kernel) (hcd : (x == ("__classdict__" : Str)) = false := by decide +kernel) : S1 c Γ (.Return (some (.Name x p)) pos) (⟨rLst T, rt, nx, bk, ct⟩ : En (List α)) := s1_retO rfl hs hv hg h hd hcd
theorem w_retN {rt : Gm → Unit → Prop} (h : rt Γ ()) : S1 c Γ (.Return none pos) (⟨rTy (K := K) tNon, rt, nx, bk, ct⟩ : En Unit) := s1_retN rfl h
theorem w_cut (J : Gm → Prop) (h : S1 c Γ st (⟨R, rt, J, bk, ct⟩ : En ρ)) (hJ : ∀ Γ, J Γ → nx Γ) : S1 c Γ st (⟨R, rt, nx, bk, ct⟩ : En ρ) := h.imp rfl hJ (fun _ _ h => h) (fun _ h => h) fun _ h => h
theorem w_pass (h : nx Γ) : S1 c Γ (.Pass pos) (⟨R, rt, nx, bk, ct⟩ : En ρ) := s1_pass h
theorem w_break (h : bk Γ) : S1 c Γ (.Break pos) (⟨R, rt, nx, bk, ct⟩ : En ρ) := s1_break h
theorem w_continue (h : ct Γ) : S1 c Γ (.Continue pos) (⟨R, rt, nx, bk, ct⟩ : En ρ) := s1_continue h
theorem w_expr (h : EW c Γ e T fun Γ1 _ => nx Γ1) (hs : ∀ env, swapsWith e none pos.line env = pure false := by intro _; rfl) : S1 c Γ (.Expr e pos) (⟨R, rt, nx, bk, ct⟩ : En ρ) := s1_expr h hs
theorem w_if {t : Expr} (h : TW c Γ t fun Γ1 x => (x = true → SW c Γ1 ss ⟨R, rt, nx, bk, ct⟩) ∧ (x = false → SW c Γ1 ss' ⟨R, rt, nx, bk, ct⟩)) : S1 c Γ (.If t ss ss' pos) (⟨R, rt, nx, bk, ct⟩ : En ρ) := s1_if h
theorem w_set {i : Nat} {x : Str} (hs : slotOf N x 0 = some i) (hv : locB sc fn x = true) (h : EW c Γ e T fun Γ1 z => i < Γ1.length ∧ nx (Γ1.set i (some (val T z)))) (hsw : ∀ env, swapsWith e (some (.Name x pos')) pos.line env = pure false := by intro _; rfl) : S1 c Γ (.Assign [.Name x pos'] e pos) (⟨R, rt, nx, bk, ct⟩ : En ρ) := s1_set hs hv h hsw
theorem w_setL {i : Nat} {x : Str} (hs : slotOf N x 0 = some i) (hv : locB sc fn x = true) (h : EL c Γ e T fun Γ1 z => i < Γ1.length ∧ nx (Γ1.set i (some (ownL T z)))) (hsw : ∀ env, swapsWith e (some (.Name x pos')) pos.line env = pure false := by intro _; rfl) : S1 c Γ (.Assign [.Name x pos'] e pos) (⟨R, rt, nx, bk, ct⟩ : En ρ) := s1_setL hs hv h hsw
theorem w_setC {scope : Scope} (own : List (Str × Nat)) (ok : blkC N sc scope own = true) (Rel : α → Option β → Prop) {i : Nat} {x : Str} {py : Pos} (hsl : slotOf N x 0 = some i) (hv : sc.names.lookup x = some .local) (hk : sc.kind = .function) (hln : (py.line == pos.line) = true) (hnm : (scope.names.any fun (n, k) => n == x && (k == .local || k == .cell)) = false)
    (h : CompW c Γ scope own elt tg iter ifs A B' Rel fun Γ1 z => i < Γ1.length ∧ nx (Γ1.set i (some (ownL B' z)))) (hs : ∀ env x, foldedSetIterable iter env x = pure x := by intro _ _; rfl) : S1 c Γ (.Assign [.Name x py] (.ListComp elt [⟨tg, iter, ifs, 0⟩] scope pos) pos') (⟨R, rt, nx, bk, ct⟩ : En ρ) := s1_setC own ok Rel hsl hv hk hln hnm h hs
theorem w_frz (i : Nat) {as : List α} (hg : Γ[i]? = some (some (ownL T as))) (h : SW c (Γ.set i (some (val (tLst T) as))) ss (⟨R, rt, nx, bk, ct⟩ : En ρ)) : SW c Γ ss (⟨R, rt, nx, bk, ct⟩ : En ρ) := sw_frz i hg h
theorem w_addTo {i : Nat} {x : Str} {z : Int} (hs : slotOf N x 0 = some i) (hv : locB sc fn x = true) (hg : Γ[i]? = some (some (val (K := K) tInt z))) (h : EW c Γ e tInt fun Γ1 u => i < Γ1.length ∧ nx (Γ1.set i (some (val (K := K) tInt (z + u))))) : S1 c Γ (.AugAssign (.Name x pos') .Add e pos) (⟨R, rt, nx, bk, ct⟩ : En ρ) := s1_aug (f := fun a b => a + b) ip_add hs hv hg h
theorem w_asgT {ts : List Expr} {kk : Nat} (h : EW c Γ e T fun Γ1 x => GW c (fun _ => True) Γ1 (.Tuple ts kk pos') T x fun Γ2 => nx Γ2) (hs : ∀ env, swapsWithSole [.Tuple ts kk pos'] e pos.line env = pure false := by intro _; rfl) (hw : ∀ env, swappedStores [.Tuple ts kk pos'] e env = pure none := by intro _; rfl) : S1 c Γ (.Assign [.Tuple ts kk pos'] e pos) (⟨R, rt, nx, bk, ct⟩ : En ρ) := s1_asgT h hs hw
theorem w_drw {i : Nat} {x : Str} {p p' : Pos} {dr : Addr} {n : Int} {j} (hs : slotOf N x 0 = some i) (hv : visB sc x = true)
    (h : EW c Γ e tInt fun Γ1 z => Γ1[i]? = some (some (drw dr)) ∧ ((n = 0 ∧ 0 ≤ z ∧ z < 2 ^ 1000) ∨ (n = 1 ∧ 0 ≤ z ∧ z < 2147483648)) ∧ nx Γ1)
    (hd : (x == ("__debug__" : Str)) = false := by decide +kernel) (hcd : (x == ("__classdict__" : Str)) = false := by decide +kernel)
    (hs1 : ∀ env, swapsWithSole [.Subscript (.Name x p) (.Constant (.int n) j p') pos'] e pos.line env = pure false := by intro _; rfl) (hw : ∀ env, swappedStores [.Subscript (.Name x p) (.Constant (.int n) j p') pos'] e env = pure none := by intro _; rfl) :
    S1 c Γ (.Assign [.Subscript (.Name x p) (.Constant (.int n) j p') pos'] e pos) (⟨R, rt, nx, bk, ct⟩ : En ρ) := s1_drw hs hv h hd hcd hs1 hw
theorem w_for (h : IW c Γ tg iter A fun Γ1 as => ∃ I : Nat → Gm → Prop, I 0 Γ1 ∧ (∀ i a, as[i]? = some a → ∀ Γ2, I i Γ2 → GW c (fun _ => True) Γ2 tg A a fun Γ3 => SW c Γ3 body ⟨R, rt, I (i + 1), nx, I (i + 1)⟩) ∧ ∀ Γ2, I as.length Γ2 → nx Γ2)
    (hs : ∀ env x, foldedSetIterable iter env x = pure x := by intro _ _; rfl) : S1 c Γ (.For tg iter body [] pos) (⟨R, rt, nx, bk, ct⟩ : En ρ) := s1_for h hs
theorem w_while (I : Nat → Gm → Prop) (h0 : ∃ n, I n Γ) (h : ∀ n Γ1, I n Γ1 → TW c Γ1 e fun Γ2 b => (b = true → SW c Γ2 body ⟨R, rt, fun Γ3 => ∃ m, m < n ∧ I m Γ3, nx, fun Γ3 => ∃ m, m < n ∧ I m Γ3⟩) ∧ (b = false → nx Γ2)) : S1 c Γ (.While e body [] pos) (⟨R, rt, nx, bk, ct⟩ : En ρ) := s1_while I h0 h
theorem w_setD {ι : Type} {args : ι → List (TV K)} {pre : ι → Prop} {name x : Str} {ps : List Str} {l i : Nat} {p : Pos} (G : Prom P w K mg base name l ps (spN args pre)) (hl : l ≤ lv) (hg : glB sc name = true) (hs : slotOf N x 0 = some i) (hv : locB sc fn x = true)
    (h : EWs c Γ (e :: es) fun Γ1 ts => i < Γ1.length ∧ ∃ j, ts = args j ∧ pre j ∧ ∀ dr, nx (Γ1.set i (some (drw dr)))) (hdb : (name == ("__debug__" : Str)) = false := by decide +kernel) {cpos : Pos}
    (he : ∀ env, starEach (e :: es) env = (false, eval e env) :: starEach es env := by intro _; rfl) (hpl : ∀ env, (backTo cpos (starEach es env)).any (·.1) = false := by intro _; rfl)
    (hsw : ∀ env, swapsWith (.Call (.Name name p) (e :: es) [] cpos) (some (.Name x pos')) pos.line env = pure false := by intro _; rfl) : S1 c Γ (.Assign [.Name x pos'] (.Call (.Name name p) (e :: es) [] cpos) pos) (⟨R, rt, nx, bk, ct⟩ : En ρ) := s1_setD G hl hg hs hv h hdb he hpl hsw
end
theorem cmul_of {i j : Int} (h : (-(2 ^ 64) < i ∧ i < 2 ^ 64) ∨ (-(2 ^ 64) < j ∧ j < 2 ^ 64)) : CMul i j := h
theorem cdiv_of {i j : Int} (h0 : 0 < j) (h : j < 2 ^ 64) : CDivW i j := wide_div h0 (b := 64) (by omega) (by decide) (by decide)
theorem cpow_of {i j : Int} (h0 : 0 ≤ j) (h : j ≤ 1000000) (hi : -(2 ^ 64) < i) (hi' : i < 2 ^ 64) : CPow i j := ⟨h0, h, by omega⟩
end
end Px
/-! Px, ninth part: built-ins. -/
namespace Px
open PySem PySem.Spec PyProof.Rows L2
section
variable {P : Program} {w : World} {K : PySem.W.Frag} {mg : Str → Option Value} {base : Heap} {lv : Nat} {N : List Str} {sc : Scope} {fn : Str → Bool}
variable {α β γ δ ρ : Type}
variable {c : Ctx P w K mg base lv N sc fn} {Γ : Gm} {e a b d tg iter elt : Expr} {es ts ifs : List Expr} {pos pos' p : Pos} {T : Ty K α} {A : Ty K α} {B' : Ty K β} {C : Ty K γ} {D' : Ty K δ}
theorem ew_intOf (bi : Bi mg) {k : Gm → Int → Prop} (hg : glB sc "int" = true) (h : EW c Γ a tBool fun Γ1 x => k Γ1 (if x = true then 1 else 0)) (he : ∀ env, starEach [a] env = (false, eval a env) :: starEach [] env := by intro _; rfl) : EW c Γ (.Call (.Name "int" p) [a] [] pos) tInt k :=
  ew_Ty (i' := "int") (fun _ _ => call_int1) hg bi.int (by decide +kernel) (ews_cons (h.imp fun _ x hx => ews_nil fun F H xs S r Q q => match xs, r with
    | [v], ⟨r, _⟩ => .inr ⟨x, by rw [show v = .bl x from r], q _ F H _ (Step.refl S) rfl hx⟩) he) (he := he)
theorem ew_max2 (bi : Bi mg) {k : Gm → Int → Prop} (hg : glB sc "max" = true) (h : EW c Γ a tInt fun Γ1 x => EW c Γ1 b tInt fun Γ2 y => k Γ2 (if y > x then y else x)) (he : ∀ env, starEach [a, b] env = (false, eval a env) :: starEach [b] env := by intro _; rfl) (he2 : ∀ env, starEach [b] env = (false, eval b env) :: starEach [] env := by intro _; rfl) (hpl : ∀ env, (backTo pos (starEach [b] env)).any (·.1) = false := by intro _; rfl) : EW c Γ (.Call (.Name "max" p) [a, b] [] pos) tInt k :=
  ew_B (id := "max") (i' := "max") (fun _ hc => call_max2 hc) hg bi.max (by decide +kernel) (ews_cons (h.imp fun _ x hx => ews_cons (hx.imp fun _ y hy => ews_nil fun F H xs S r Q q => match xs, r with
    | [v, u], ⟨r, r', _⟩ => ⟨x, y, by rw [show v = .int x from r, show u = .int y from r'], q _ F H _ (Step.refl S) rfl hy⟩) he2) he) (he := he) (hpl := hpl)
theorem ew_min2 (bi : Bi mg) {k : Gm → Int → Prop} (hg : glB sc "min" = true) (h : EW c Γ a tInt fun Γ1 x => EW c Γ1 b tInt fun Γ2 y => k Γ2 (if y < x then y else x)) (he : ∀ env, starEach [a, b] env = (false, eval a env) :: starEach [b] env := by intro _; rfl) (he2 : ∀ env, starEach [b] env = (false, eval b env) :: starEach [] env := by intro _; rfl) (hpl : ∀ env, (backTo pos (starEach [b] env)).any (·.1) = false := by intro _; rfl) : EW c Γ (.Call (.Name "min" p) [a, b] [] pos) tInt k :=
  ew_B (id := "min") (i' := "min") (fun _ hc => call_min2 hc) hg bi.min (by decide +kernel) (ews_cons (h.imp fun _ x hx => ews_cons (hx.imp fun _ y hy => ews_nil fun F H xs S r Q q => match xs, r with
    | [v, u], ⟨r, r', _⟩ => ⟨x, y, by rw [show v = .int x from r, show u = .int y from r'], q _ F H _ (Step.refl S) rfl hy⟩) he2) he) (he := he) (hpl := hpl)
theorem ew_lenL (bi : Bi mg) {k : Gm → Int → Prop} (hg : glB sc "len" = true) (h : EW c Γ a (tLst A) fun Γ1 x => k Γ1 x.length) (he : ∀ env, starEach [a] env = (false, eval a env) :: starEach [] env := by intro _; rfl) : EW c Γ (.Call (.Name "len" p) [a] [] pos) tInt k := ew_len bi hg List.length lenL h he
theorem ew_lenQ (bi : Bi mg) {k : Gm → Int → Prop} (hg : glB sc "len" = true) (h : EW c Γ a (tSeq A) fun Γ1 x => k Γ1 x.length) (he : ∀ env, starEach [a] env = (false, eval a env) :: starEach [] env := by intro _; rfl) : EW c Γ (.Call (.Name "len" p) [a] [] pos) tInt k := ew_len bi hg List.length lenQ h he
theorem ew_lenT (bi : Bi mg) {k : Gm → Int → Prop} (hg : glB sc "len" = true) (h : EW c Γ a (tTup A) fun Γ1 x => k Γ1 x.length) (he : ∀ env, starEach [a] env = (false, eval a env) :: starEach [] env := by intro _; rfl) : EW c Γ (.Call (.Name "len" p) [a] [] pos) tInt k := ew_len bi hg List.length lenT h he
/-- a built-in class as a value -/
def tCls : Ty K String := ⟨fun _ v n => v = .ty n, fun _ h => h⟩
theorem ew_cls {x : Str} {n : String} {k : Gm → String → Prop} (hg : glB sc x = true) (hm : mg x = none) (hv : bootBuiltins x = some (.type n)) (hk : k Γ n) (hn : x ≠ "__name__" := by decide +kernel) (hd : (x == ("__debug__" : Str)) = false := by decide +kernel) : EW c Γ (.Name x pos) (tCls (K := K)) k := fun B σ F H S Q q => by
  have hsc := c.hsc
  have hmg := c.hmg
  exact of_pe (pe_bltn (v := .ty n) (by show c.X.env.scope.names.lookup x = _; rw [hsc]; exact glB_gl hg) (by rw [hmg]; exact hm) hv rfl hn hd) (q _ n Γ F H S (Same.refl _) rfl hk)
theorem tyB_mono {F H : Hp} {v : V} {t : Value} (e : Same F H) (h : TyX K F v t) : TyX K H v t := by
  cases h with
  | base b =>
    refine .base ?_
    cases b with
    | non => exact .non
    | bl y => exact .bl y
    | int i => exact .int i
    | str y => exact .str y
    | flt y => exact .flt y
    | lst ea => exact .lst (e _ _ ea)
    | frz ea => exact .frz (e _ _ ea)
    | tup ea => exact .tup (e _ _ ea)
    | dK ea => exact .dK (e _ _ ea)
    | dT ea => exact .dT (e _ _ ea)
    | ins ea cl ha hn htk hm => exact .ins (e _ _ ea) cl ha hn htk hm
  | byt y => exact .byt y
  | set ea => exact .set (e _ _ ea)
  | kList a b => exact .kList a b
  | kTuple a b => exact .kTuple a b
  | kDict a b => exact .kDict a b
  | fTuple ea => exact .fTuple (e _ _ ea)
  | fDict ea => exact .fDict (e _ _ ea)
/-- isinstance(e, a built-in class) -/
theorem ew_isi (bi : Bi mg) {x : Str} {n : String} {k : Gm → Bool → Prop} (hi : glB sc "isinstance" = true) (hg : glB sc x = true) (hm : mg x = none) (hv : bootBuiltins x = some (.type n)) (ans : α → Bool) (ha : ∀ F v z, T.r F v z → ∃ t, TyX K F v t ∧ PySem.W.kitOne K t (.type n) = some (ans z))
    (h : EW c Γ a T fun Γ1 z => k Γ1 (ans z)) (hn : x ≠ "__name__" := by decide +kernel) (hd : (x == ("__debug__" : Str)) = false := by decide +kernel) (he : ∀ env, starEach [a, .Name x pos'] env = (false, eval a env) :: starEach [.Name x pos'] env := by intro _; rfl) (he2 : ∀ env, starEach [.Name x pos'] env = (false, eval (.Name x pos') env) :: starEach [] env := by intro _; rfl) (hpl : ∀ env, (backTo pos (starEach [.Name x pos'] env)).any (·.1) = false := by intro _; rfl) :
    EW c Γ (.Call (.Name "isinstance" p) [a, .Name x pos'] [] pos) tBool k :=
  ew_B (id := "isinstance") (i' := "isinstance") (r := rIsi K) (fun hK _ => by rw [← hK]; exact call_isi) hi bi.isinstance (by decide +kernel) (ews_cons (h.imp fun _ z hz => ews_cons (ew_cls hg hm hv (ews_nil fun F H xs S r Q q => match xs, r with
    | [v, u], ⟨r, r', _⟩ => by
      obtain ⟨t, h1, h2⟩ := ha F v z r
      exact ⟨v, u, t, .type n, ans z, rfl, by rw [show u = .ty n from r']; exact .ty n, tyB_mono S h1, h2, q _ F H _ (Step.refl S) rfl hz⟩) hn hd) he2) he) (he := he) (hpl := hpl)
theorem isi_int_bool : ∀ F v z, (tInt (K := K)).r F v z → ∃ t, TyX K F v t ∧ PySem.W.kitOne K t (.type "bool") = some false := fun F v z e => ⟨.type "int", by rw [show v = .int z from e]; exact .base (.int z), kit_ty (by decide +kernel)⟩
theorem isi_bool_bool : ∀ F v z, (tBool (K := K)).r F v z → ∃ t, TyX K F v t ∧ PySem.W.kitOne K t (.type "bool") = some true := fun F v z e => ⟨.type "bool", by rw [show v = .bl z from e]; exact .base (.bl z), kit_ty (by decide +kernel)⟩
theorem isi_lst {T : Ty K α} : ∀ F v z, (tLst T).r F v z → ∃ t, TyX K F v t ∧ PySem.W.kitOne K t (.type "list") = some true := fun F v z ⟨q, vs, e, h, _⟩ => by
  subst e
  exact ⟨.type "list", .base (.lst h), kit_ty (by decide +kernel)⟩
theorem isi_tup {T : Ty K ρ} {R : Hp → List V → ρ → Prop} {m} (hT : T = tupTy R m) : ∀ F v z, T.r F v z → ∃ t, TyX K F v t ∧ PySem.W.kitOne K t (.type "tuple") = some true := fun F v z h => by
  rw [hT] at h
  obtain ⟨q, vs, e, h, _⟩ := h
  subst e
  refine ⟨.type "tuple", ?_, kit_ty (by decide +kernel)⟩
  rcases h with (h | ⟨o, h⟩) | ⟨o, its, n, h, h2, _⟩
  · exact .base (.tup h)
  · exact .fTuple h
  · exact .kTuple h h2
/-! ### a call by keywords alone -/
def wK (X : Cx) (kws : List Keyword) : TA := fun σ H Q => ∀ pos pins s, Inv X pins σ H s → wpAny (model X.prog X.w) X.A (evalAll ((backToKw pos (keywordEach kws X.env)).map (·.2))) (AP X pins σ Q) X.xe s
theorem pkW {X : Cx} {kws : List Keyword} : PK X kws (wK X kws) := ⟨fun pos pins s σ H Q I h => h pos pins s I⟩
theorem of_pk {X : Cx} {kws : List Keyword} {t : TA} (h : PK X kws t) {σ : L2.St} {H : Hp} {Q : List V → Hp → Prop} (q : t σ H Q) : wK X kws σ H Q := fun pos pins s I => h.run pos pins s σ H Q I q
def EWk (c : Ctx P w K mg base lv N sc fn) (Γ : Gm) (kws : List Keyword) (k : Gm → List (TV K) → Prop) : Prop :=
  ∀ B σ F H, Sta B Γ σ F H → ∀ Q : List V → Hp → Prop, (∀ vs ts Γ' F' H', Sta B Γ' σ F' H' → Same F F' → All2 (fun v (t : TV K) => t.r F' v) vs ts → k Γ' ts → Q vs H') → wK c.X kws σ H Q
theorem ewk_nil {k : Gm → List (TV K) → Prop} (hk : k Γ []) : EWk c Γ [] k := fun B σ F H S Q q => of_pk pk_nil (q [] [] Γ F H S (Same.refl _) trivial hk)
theorem ewk_cons {nm : Option Str} {kpos : Pos} {kws : List Keyword} {k : Gm → List (TV K) → Prop} (h : EW c Γ a T fun Γ1 x => EWk c Γ1 kws fun Γ2 ts => k Γ2 (tv T x :: ts)) : EWk c Γ (⟨nm, a, kpos⟩ :: kws) k := fun B σ F H S Q q => by
  refine of_pk (pk_cons peW pkW) (h B σ F H S _ fun v x Γ1 F1 H1 S1 e1 r1 h1 => ?_)
  exact h1 B σ F1 H1 S1 _ fun vs ts Γ2 F2 H2 S2 e2 r2 h2 => q (v :: vs) (tv T x :: ts) Γ2 F2 H2 S2 (e1.trans e2) ⟨T.mono e2 r1, r2⟩ h2
/-- the arguments by names, in the order of the call; perm puts them in the parameters' order -/
structure KwB (K : PySem.W.Frag) (name : Str) (st : Stmt) (ps ks : List Str) (perm : ∀ {β : Type}, List β → List β) : Prop where
  to : ∀ (f : Addr) (fd : FuncData), Fun K name name st f fd → ∀ (s : Shared) (ws : List Value), ws.length = ks.length → BindsTo s fd ⟨[], ks.zip ws⟩ (ps.zip (perm ws))
  rel : ∀ {vs : List V} {ws : List Value}, Vals vs ws → Vals (perm vs) (perm ws)
/-- how the call of a def by keywords runs -/
theorem run_kw {X : Cx} {k : Nat} {f : Addr} {fd : FuncData} {ps ks : List Str} {sp : Sp} {perm : ∀ {β : Type}, List β → List β} {x : Str} {kws : List Keyword} {tk : TA} (F : FnOk X.prog X.w X.K X.mg X.base CX0 k f fd ps sp) (hr : Room k X.A) (hg : Gl X x) (hm : X.mg x = some (.ref f)) (hk : PySem.W.keepIn X.K (.ref f) = true)
    (hb : ∀ (s : Shared) (ws : List Value), ws.length = ks.length → BindsTo s fd ⟨[], ks.zip ws⟩ (ps.zip (perm ws))) (hrel : ∀ {vs : List V} {ws : List Value}, Vals vs ws → Vals (perm vs) (perm ws)) (hkw : PK X kws tk)
    (hall : (backToKw pos (keywordEach kws X.env)).all (·.1.isSome) = true) (hks : (backToKw pos (keywordEach kws X.env)).filterMap (·.1) = ks) (hdb : (x == ("__debug__" : Str)) = false)
    (hpl : ((backTo pos (starEach [] X.env)).any (·.1) || (backToKw pos (keywordEach kws X.env)).any (·.1.isNone)) = false) :
    PE X (.Call (.Name x p) [] kws pos) (fun σ H Q => tk σ H fun vs H1 => vs.length = ks.length ∧ sp (perm vs) H1 Q E0) := by
  refine ⟨fun pins s σ H Q I h => ?_⟩
  refine wpAny_Call_Name_kw (ld_glob I hg hm ?_ hdb)
  refine PySem.W.callWith_KW0 (h₀ := X.base) I.ok.mod.kin hk hall ?_ hpl
  refine thn (hkw.run pos pins s σ H _ I h) fun ws s2 ⟨zs, H2, I2, rz, l1, q2⟩ => ⟨I2.kIn, ?_⟩
  rw [hks]
  refine wpAny_call (codeAny_mono (F.run X.A X.stack s2 H2 ⟨[], ks.zip ws⟩ (perm ws) (perm zs) Q E0 hr I2.env0 (hb s2 ws (by rw [← rz.length]; exact l1)) (hrel rz) q2) fun r s' hq => ?_)
  cases r with
  | error e => exact pass0 pins σ H2 s2 e s' I2 hq
  | ok fl =>
    cases fl with
    | ret u => exact I2.after hq
    | next => exact False.elim hq
    | brk => exact False.elim hq
    | cont => exact False.elim hq
theorem ew_callK {ι : Type} {args : ι → List (TV K)} {R : Ty K ρ} {pre : ι → Prop} {post : ι → ρ → Prop} {name : Str} {st : Stmt} {ps ks : List Str} {perm : ∀ {β : Type}, List β → List β} {l : Nat} {k : Gm → ρ → Prop} {kws : List Keyword} (G : FnAt K mg name name st ps) (G2 : ∀ f fd, Fun K name name st f fd → FnOk P w K mg base CX0 l f fd ps (spP args R pre post)) (hl : l ≤ lv) (kb : KwB K name st ps ks @perm) (hg : glB sc name = true)
    (h : EWk c Γ kws fun Γ1 ts => ts.length = ks.length ∧ ∃ i, perm ts = args i ∧ pre i ∧ ∀ r, post i r → k Γ1 r) (hperm : ∀ F vs (ts : List (TV K)), All2 (fun v (t : TV K) => t.r F v) vs ts → All2 (fun v (t : TV K) => t.r F v) (perm vs) (perm ts)) (hdb : (name == ("__debug__" : Str)) = false := by decide +kernel)
    (hall : ∀ env, (backToKw pos (keywordEach kws env)).all (·.1.isSome) = true := by intro _; rfl) (hks : ∀ env, (backToKw pos (keywordEach kws env)).filterMap (·.1) = ks := by intro _; rfl)
    (hpl : ∀ env, ((backTo pos (starEach [] env)).any (·.1) || (backToKw pos (keywordEach kws env)).any (·.1.isNone)) = false := by intro _; rfl) : EW c Γ (.Call (.Name name p) [] kws pos) R k := by
  intro B σ F H S Q q
  obtain ⟨X, rfl, rfl, rfl, rfl, rfl, rfl, nd, rfl, rfl, calm, room, pas⟩ := c
  obtain ⟨f, fd, FF, hm, hb⟩ := G
  refine of_pe (run_kw (G2 f fd FF) (room.mono hl) (glB_gl hg) hm FF.kp (kb.to f fd FF) kb.rel pkW (hall _) (hks _) hdb (hpl _)) ?_
  refine h B σ F H S _ fun vs ts Γ1 F1 H1 S1 e1 r1 ⟨hl', i, ei, hp, hk⟩ => ⟨by rw [All2.length r1]; exact hl', ?_⟩
  refine ⟨F1, i, S1.sub, by rw [← ei]; exact hperm _ _ _ r1, hp, fun v r F2 H2 st rr hr => q v r Γ1 F2 H2 (S1.step st) (e1.trans st.ff) rr (hk r hr)⟩
def swap2 {β : Type} : List β → List β
  | [x, y] => [y, x]
  | l => l
theorem swap2_rel {α β : Type} {R : α → β → Prop} : ∀ {vs : List α} {ws : List β}, Paired R vs ws → Paired R (swap2 vs) (swap2 ws)
  | _, _, .nil => .nil
  | _, _, .cons h .nil => .cons h .nil
  | _, _, .cons h (.cons h2 .nil) => .cons h2 (.cons h .nil)
  | _, _, .cons h (.cons h2 (.cons h3 t)) => .cons h (.cons h2 (.cons h3 t))
theorem swap2_all {α β : Type} {R : α → β → Prop} : ∀ {vs : List α} {ws : List β}, All2 R vs ws → All2 R (swap2 vs) (swap2 ws)
  | [], [], h => h
  | [_], [_], h => h
  | [_, _], [_, _], h => ⟨h.2.1, h.1, trivial⟩
  | _ :: _ :: _ :: _, _ :: _ :: _ :: _, h => h
theorem kwB_of {name : Str} {st : Stmt} {ps ks : List Str} {perm : ∀ {β : Type}, List β → List β} (rel : ∀ {vs : List V} {ws : List Value}, Vals vs ws → Vals (perm vs) (perm ws))
    (h : ∀ (kV doc pm : Value) (an : Option Addr) (cdv ct : Value) (us : List Value), us.length = ks.length → bindArgs (PySem.W.fnOf name name (defArgs st) (defBody st) (defScope st) .none kV doc pm an cdv ct) ⟨[], ks.zip us⟩ = pure (ps.zip (perm us))) : KwB K name st ps ks @perm :=
  ⟨fun f fd F s ws hw => by
    obtain ⟨oc, od, kV, doc, pm, an, cdv, ct, osl, rfl, lk, hcd⟩ := F.ex
    exact .of_eq (h kV doc pm an cdv ct ws hw), rel⟩
/-! ### slots forgotten, slots read otherwise -/
structure Le (e e' : Ent) : Prop where
  ok : ∀ {v ps F H}, e.ok v ps F H → e'.ok v ps F H
  vol : e'.vol = e.vol
theorem Le.refl {e : Ent} : Le e e := ⟨fun h => h, rfl⟩
theorem le_val {T' : Ty K β} {x : α} {y : β} (h : ∀ F v, T.r F v x → T'.r F v y) : Le (val T x) (val T' y) := ⟨fun q => ⟨q.1, h _ _ q.2⟩, rfl⟩
def Wk (Γ' Γ : Gm) : Prop := Γ'.length = Γ.length ∧ ∀ (i : Nat) (e' : Ent), Γ'[i]? = some (some e') → ∃ e, Γ[i]? = some (some e) ∧ Le e e'
theorem wk_nil : Wk [] [] := ⟨rfl, fun i _ h => by simp at h⟩
theorem wk_as {x y : Ent} {Γ' Γ : Gm} (hl : Le x y) (h : Wk Γ' Γ) : Wk (some y :: Γ') (some x :: Γ) := ⟨congrArg (· + 1) h.1, fun i e q => by
  cases i with
  | zero => cases q; exact ⟨x, rfl, hl⟩
  | succ i => exact h.2 i e (by simpa using q)⟩
theorem wk_keep {x : Option Ent} {Γ' Γ : Gm} (h : Wk Γ' Γ) : Wk (x :: Γ') (x :: Γ) := ⟨congrArg (· + 1) h.1, fun i e q => by
  cases i with
  | zero => cases q; exact ⟨_, rfl, Le.refl⟩
  | succ i => exact h.2 i e (by simpa using q)⟩
theorem wk_drop {x : Option Ent} {Γ' Γ : Gm} (h : Wk Γ' Γ) : Wk (none :: Γ') (x :: Γ) := ⟨congrArg (· + 1) h.1, fun i e q => by
  cases i with
  | zero => cases q
  | succ i => exact h.2 i e (by simpa using q)⟩
theorem wk_refl {Γ : Gm} : Wk Γ Γ := ⟨rfl, fun _ _ h => ⟨_, h, Le.refl⟩⟩
theorem Sta.wk {B : Base} {Γ' : Gm} {σ : L2.St} {F H : Hp} (S : Sta B Γ σ F H) (hw : Wk Γ' Γ) : Sta B Γ' σ F H := by
  obtain ⟨O, h1, h2, h3⟩ := S.own
  refine ⟨hw.1.trans S.len, S.sub, S.ext, S.keep, S.dom, S.new, S.pnd, O, h1, h2, fun i e q => ?_⟩
  obtain ⟨e0, q0, le⟩ := hw.2 i e q
  obtain ⟨v, hv, ho, hz⟩ := h3 i e0 q0
  exact ⟨v, hv, le.ok ho, fun b => hz (le.vol ▸ b)⟩
theorem w_nilW {R : Rs ρ} {rt : Gm → ρ → Prop} {nx bk ct : Gm → Prop} (Γ' : Gm) (hw : Wk Γ' Γ) (h : nx Γ') : SW c Γ [] (⟨R, rt, nx, bk, ct⟩ : En ρ) := fun B σ F H hB S => w_nil h B σ F H hB (S.wk hw)
theorem w_weak {D : En ρ} {ss : List Stmt} (Γ' : Gm) (hw : Wk Γ' Γ) (h : SW c Γ' ss D) : SW c Γ ss D := fun B σ F H hB S => h B σ F H hB (S.wk hw)
theorem s1_weak {D : En ρ} {st : Stmt} (Γ' : Gm) (hw : Wk Γ' Γ) (h : S1 c Γ' st D) : S1 c Γ st D := fun B σ F H hB S => h B σ F H hB (S.wk hw)
theorem ew_weak {k : Gm → α → Prop} (Γ' : Gm) (hw : Wk Γ' Γ) (h : EW c Γ' e T k) : EW c Γ e T k := fun B σ F H S => h B σ F H (S.wk hw)
theorem tw_weak {k : Gm → Bool → Prop} (Γ' : Gm) (hw : Wk Γ' Γ) (h : TW c Γ' e k) : TW c Γ e k := fun B σ F H S => h B σ F H (S.wk hw)
/-! ### a list of a few things, at a drawn place -/
theorem atI_in {xs : List α} {i : Int} {x : α} (h : atI xs i = some x) : x ∈ xs := by
  unfold atI at h
  cases q : ixN xs.length i with
  | none => rw [q] at h; cases h
  | some j => rw [q] at h; exact List.mem_of_getElem? (show xs[j]? = some x from h)
theorem atI_lt {xs : List α} {k : Int} (h0 : 0 ≤ k) (h : k < xs.length) : ∃ x, atI xs k = some x := by
  obtain ⟨n, rfl⟩ := Int.eq_ofNat_of_zero_le h0
  have hn : n < xs.length := by omega
  exact ⟨xs[n], atI_nat (List.getElem?_eq_getElem hn)⟩
theorem EWL.imp {k k' : Gm → List α → Prop} (h : EWL c Γ es T k) (f : ∀ Γ a, k Γ a → k' Γ a) : EWL c Γ es T k' := fun B σ F H S Q q => h B σ F H S Q fun vs as Γ1 F1 H1 S1 e1 r1 h1 => q vs as Γ1 F1 H1 S1 e1 r1 (f _ _ h1)
theorem ew_menu {k : Gm → α → Prop} (h : EWL c Γ es T fun Γ1 xs => xs.length ≤ sizeLine ∧ EW c Γ1 b tInt fun Γ2 i => 0 ≤ i ∧ i < xs.length ∧ ∀ x, x ∈ xs → k Γ2 x) (hs : PlainIx b := by intro _ _; rfl) : EW c Γ (.Subscript (.List es pos') b pos) T k :=
  ew_ixL (ew_el (el_lst (h.imp fun _ xs ⟨h1, h2⟩ => ⟨h1, h2.imp fun _ i ⟨h3, h4, h5⟩ => by
    obtain ⟨x, hx⟩ := atI_lt h3 h4
    exact ⟨x, hx, h5 x (atI_in hx)⟩⟩))) hs
/-! ### the draw's call -/
abbrev spDraw (K : PySem.W.Frag) : Sp := spD (fun n : Int => [tv (tInt (K := K)) n]) (tInt (K := K)) (fun n => 0 < n ∧ n < 2 ^ 62) (fun n r => 0 ≤ r ∧ r < n)
abbrev spDraws (K : PySem.W.Frag) : Sp := spN (fun i : List Int × Int => [tv (tSeq (K := K) tInt) i.1, tv (tInt (K := K)) i.2]) (fun i => i.1.length ≤ 63 ∧ 0 ≤ i.2 ∧ i.2 < 64)
theorem ew_draw {x : Str} {i l : Nat} {px : Pos} {dr : Addr} {k : Gm → Int → Prop} (G : Prom P w K mg base "_law_draw" l ["draws", "many"] (spDraw K)) (hl : l ≤ lv) (hg : glB sc "_law_draw" = true) (hs : slotOf N x 0 = some i) (hv : visB sc x = true) (hx : Γ[i]? = some (some (drw dr)))
    (h : EW c Γ e tInt fun Γ1 n => Γ1[i]? = some (some (drw dr)) ∧ (0 < n ∧ n < 2 ^ 62) ∧ ∀ r, 0 ≤ r → r < n → k Γ1 r) (he : ∀ env, starEach [.Name x px, e] env = (false, eval (.Name x px) env) :: starEach [e] env := by intro _; rfl) (he2 : ∀ env, starEach [e] env = (false, eval e env) :: starEach [] env := by intro _; rfl) (hpl : ∀ env, (backTo pos (starEach [e] env)).any (·.1) = false := by intro _; rfl) (hd : (x == ("__debug__" : Str)) = false := by decide +kernel) (hcd : (x == ("__classdict__" : Str)) = false := by decide +kernel) :
    EW c Γ (.Call (.Name "_law_draw" p) [.Name x px, e] [] pos) tInt k :=
  ew_callD G hl hg hs hv hx (ews_cons (h.imp fun _ n ⟨h1, h2, h3⟩ => ews_nil ⟨h1, n, rfl, h2, fun r hr => h3 r hr.1 hr.2⟩) he2) (by decide +kernel) he hpl hd hcd
theorem w_draws {R : Rs ρ} {rt : Gm → ρ → Prop} {nx bk ct : Gm → Prop} {x : Str} {i l : Nat} {cpos : Pos} (G : Prom P w K mg base "_law_draws" l ["script", "k"] (spDraws K)) (hl : l ≤ lv) (hg : glB sc "_law_draws" = true) (hs : slotOf N x 0 = some i) (hv : locB sc fn x = true)
    (h : EW c Γ a (tSeq tInt) fun Γ1 ns => EW c Γ1 b tInt fun Γ2 k => i < Γ2.length ∧ (ns.length ≤ 63 ∧ 0 ≤ k ∧ k < 64) ∧ ∀ dr, nx (Γ2.set i (some (drw dr)))) (he : ∀ env, starEach [a, b] env = (false, eval a env) :: starEach [b] env := by intro _; rfl) (he2 : ∀ env, starEach [b] env = (false, eval b env) :: starEach [] env := by intro _; rfl) (hpl : ∀ env, (backTo cpos (starEach [b] env)).any (·.1) = false := by intro _; rfl)
    (hsw : ∀ env, swapsWith (.Call (.Name "_law_draws" p) [a, b] [] cpos) (some (.Name x pos')) pos.line env = pure false := by intro _; rfl) : S1 c Γ (.Assign [.Name x pos'] (.Call (.Name "_law_draws" p) [a, b] [] cpos) pos) (⟨R, rt, nx, bk, ct⟩ : En ρ) :=
  w_setD G hl hg hs hv (ews_cons (h.imp fun _ ns h => ews_cons (h.imp fun _ k ⟨h1, h2, h3⟩ => ews_nil ⟨h1, (ns, k), rfl, h2, h3⟩) he2) he) (by decide +kernel) he hpl hsw
/-! ### a law's outer loop -/
theorem w_turns {R : Rs ρ} {rt : Gm → ρ → Prop} {nx bk ct : Gm → Prop} {body : List Stmt} {x : Str} {i : Nat} {ns : List Int} {m : Int} {j1 j2} {p1 p2 p3 p4 p5 p6 p7 p8 p9 : Pos} (bi : Bi mg) (hm : 0 ≤ m) (hm2 : m < 64) (g1 : glB sc "range" = true) (g2 : glB sc "max" = true) (g3 : glB sc "min" = true) (g4 : glB sc "len" = true)
    (hs : slotOf N x 0 = some i) (hv : visB sc x = true) (hg : Γ[i]? = some (some (val (tSeq (K := K) tInt) ns))) (hn : ns.length ≤ 63)
    (step : ∀ a : Int, 0 ≤ a → a < 64 → GW c (fun _ => True) Γ tg (tInt (K := K)) a fun Γ3 => SW c Γ3 body ⟨R, rt, fun G => G = Γ, nx, fun G => G = Γ⟩) (fin : nx Γ) (hd : (x == ("__debug__" : Str)) = false := by decide +kernel) (hcd : (x == ("__classdict__" : Str)) = false := by decide +kernel) :
    S1 c Γ (.For tg (.Call (.Name "range" p1) [.Call (.Name "max" p2) [.Constant (.int 1) j1 p3, .Call (.Name "min" p4) [.Constant (.int m) j2 p5, .Call (.Name "len" p6) [.Name x p7] [] p8] [] p9] [] pos'] [] p) body [] pos) (⟨R, rt, nx, bk, ct⟩ : En ρ) := by
  refine w_for (A := tInt) (iw_range1 bi g1 (ew_max2 bi g2 (ew_int (ew_min2 bi g3 (ew_int (ew_lenQ (A := tInt) bi g4 (ew_name hs hv hg ?_ hd hcd)))))))
  refine ⟨by split <;> split <;> omega, by split <;> split <;> omega, fun _ G => G = Γ, rfl, fun i a ha G e => ?_, fun G e => by rw [e]; exact fin⟩
  subst e
  obtain ⟨a1, a2⟩ := ups_get ha
  refine step a (by omega) ?_
  rw [a1]
  split at a2 <;> split at a2 <;> omega
end
end Px
/-! Px, tenth part: slices, sums of lists, of tuples, of texts; changes of an own list. -/
namespace Px
open PySem PySem.Spec PyProof.Rows L2
def wO (X : Cx) (e : Option Expr) : TO := fun σ H Q => ∀ pins s, Inv X pins σ H s → wpAny (model X.prog X.w) X.A (evalPart e X.env) (fun u s' => ∃ o H', Inv X pins σ H' s' ∧ IsPart u o ∧ Q o H') X.xe s
theorem poW {X : Cx} {e : Option Expr} : PO X e (wO X e) := ⟨fun pins s σ H Q I h => h pins s I⟩
theorem of_po {X : Cx} {e : Option Expr} {t : TO} (h : PO X e t) {σ : L2.St} {H : Hp} {Q : Option Int → Hp → Prop} (q : t σ H Q) : wO X e σ H Q := fun pins s I => h.run pins s σ H Q I q
def cutA {α : Type} (xs : List α) (lo hi : Option Int) : List α := (xs.drop (HT.sIx xs.length 0 lo)).take (HT.sIx xs.length xs.length hi - HT.sIx xs.length 0 lo)
theorem cutA_length {α : Type} (xs : List α) (lo hi : Option Int) : (cutA xs lo hi).length ≤ xs.length := by
  unfold cutA
  rw [List.length_take, List.length_drop]
  omega
theorem all2_cut {α β : Type} {R : α → β → Prop} {xs : List α} {ys : List β} (h : All2 R xs ys) (lo hi : Option Int) : All2 R (cutA xs lo hi) (cutA ys lo hi) := by
  unfold cutA
  rw [All2.length h]
  exact All2.take _ (All2.drop _ h)
theorem all2_rep {α β : Type} {R : α → β → Prop} {xs : List α} {ys : List β} (m : Nat) (h : All2 R xs ys) : All2 R (List.replicate m xs).flatten (List.replicate m ys).flatten := by
  induction m with
  | zero => trivial
  | succ m ih =>
    rw [List.replicate_succ, List.replicate_succ, List.flatten_cons, List.flatten_cons]
    exact All2.append h ih
theorem all2_set {α β : Type} {R : α → β → Prop} : ∀ {xs : List α} {ys : List β} {j : Nat} {x : α} {y : β}, All2 R xs ys → R x y → All2 R (xs.set j x) (ys.set j y)
  | [], [], _, _, _, h, _ => h
  | _ :: _, _ :: _, 0, _, _, h, r => ⟨r, h.2⟩
  | _ :: _, _ :: _, j + 1, _, _, h, r => ⟨h.1, all2_set (j := j) h.2 r⟩
theorem cutA_mem {α : Type} {xs : List α} {lo hi : Option Int} {x : α} (h : x ∈ cutA xs lo hi) : x ∈ xs := List.mem_of_mem_drop (List.mem_of_mem_take h)
section
variable {P : Program} {w : World} {K : PySem.W.Frag} {mg : Str → Option Value} {base : Heap} {lv : Nat} {N : List Str} {sc : Scope} {fn : Str → Bool}
variable {α β γ δ ρ : Type}
variable {c : Ctx P w K mg base lv N sc fn} {Γ : Gm} {e a b d tg iter elt : Expr} {lo hi : Option Expr} {es ts ifs : List Expr} {pos pos' p p2 : Pos} {T : Ty K α} {A : Ty K α} {B' : Ty K β} {C : Ty K γ} {D' : Ty K δ}
/-! ### slices -/
def OW (c : Ctx P w K mg base lv N sc fn) (Γ : Gm) (e : Option Expr) (k : Gm → Option Int → Prop) : Prop :=
  ∀ B σ F H, Sta B Γ σ F H → ∀ Q : Option Int → Hp → Prop, (∀ o Γ' F' H', Sta B Γ' σ F' H' → Same F F' → k Γ' o → Q o H') → wO c.X e σ H Q
theorem ow_none {k : Gm → Option Int → Prop} (h : k Γ none) : OW c Γ none k := fun B σ F H S Q q => of_po po_none (q none Γ F H S (Same.refl _) h)
theorem ow_some {k : Gm → Option Int → Prop} (h : EW c Γ e tInt fun Γ1 i => k Γ1 (some i)) : OW c Γ (some e) k := fun B σ F H S Q q => of_po (po_some peW) (h B σ F H S _ fun v i Γ1 F1 H1 S1 e1 r1 h1 => ⟨i, r1, q (some i) Γ1 F1 H1 S1 e1 h1⟩)
theorem ew_slT {k : Gm → List α → Prop} (h : EW c Γ a (tTup T) fun Γ1 xs => OW c Γ1 lo fun Γ2 l => OW c Γ2 hi fun Γ3 u => k Γ3 (cutA xs l u)) : EW c Γ (.Subscript a (.Slice lo hi none p2) pos) (tTup T) k := fun B σ F H S Q q => by
  obtain ⟨X, rfl, rfl, rfl, rfl, rfl, rfl, nd, rfl, rfl, calm, room, pas⟩ := c
  refine of_pe (pe_slice sl_tupA peW poW poW) (h B σ F H S _ fun v xs Γ1 F1 H1 S1 e1 r1 h1 => h1 B σ F1 H1 S1 _ fun l Γ2 F2 H2 S2 e2 h2 => h2 B σ F2 H2 S2 _ fun u Γ3 F3 H3 S3 e3 h3 => ?_)
  obtain ⟨q1, vs, rfl, hq, hv⟩ := (tTup T).mono (e2.trans e3) r1
  refine ⟨q1, vs, rfl, sqT_mono S3.sub hq, fun hw => ?_, fun hw p hp => ?_⟩
  · refine q _ _ Γ3 F3 H3 S3 ((e1.trans e2).trans e3) ⟨q1, vs, rfl, hq, ?_⟩ h3
    have : cutA xs l u = xs := by
      unfold cutA
      rw [← All2.length hv, hw.1, hw.2]
      simp [All2.length hv]
    rw [this]; exact hv
  · have st := Step.frozen (o := .tup (cutV vs l u)) S3.sub hp
    exact q _ _ Γ3 _ _ (S3.step st) (((e1.trans e2).trans e3).trans st.ff) ⟨p, _, rfl, .inl (.inl upd_same), All2.imp (fun _ _ => T.mono st.ff) (all2_cut hv l u)⟩ h3
theorem el_slQ {k : Gm → List α → Prop} (h : EW c Γ a (tSeq T) fun Γ1 xs => OW c Γ1 lo fun Γ2 l => OW c Γ2 hi fun Γ3 u => k Γ3 (cutA xs l u)) : EL c Γ (.Subscript a (.Slice lo hi none p2) pos) T k := fun B σ F H S Q q => by
  obtain ⟨X, rfl, rfl, rfl, rfl, rfl, rfl, nd, rfl, rfl, calm, room, pas⟩ := c
  refine of_pe (pe_slice sl_list peW poW poW) (h B σ F H S _ fun v xs Γ1 F1 H1 S1 e1 r1 h1 => h1 B σ F1 H1 S1 _ fun l Γ2 F2 H2 S2 e2 h2 => h2 B σ F2 H2 S2 _ fun u Γ3 F3 H3 S3 e3 h3 => ?_)
  obtain ⟨q1, vs, rfl, hq, hv⟩ := (tSeq T).mono (e2.trans e3) r1
  refine ⟨q1, vs, rfl, sqL_mono S3.sub hq, fun p hp => ?_⟩
  obtain ⟨S4, b1, b2, b3⟩ := S3.make (o := .lst (cutV vs l u)) hp
  exact q p _ _ Γ3 _ _ S4 ((e1.trans e2).trans e3) b1 b3 b2 upd_same (all2_cut hv l u) h3
theorem EW.toSeq {k : Gm → List α → Prop} (h : EW c Γ a (tLst T) k) : EW c Γ a (tSeq T) k := EW.as (fun x => x) h fun _ _ _ => seq_of_lst
theorem el_slL {k : Gm → List α → Prop} (h : EW c Γ a (tLst T) fun Γ1 xs => OW c Γ1 lo fun Γ2 l => OW c Γ2 hi fun Γ3 u => k Γ3 (cutA xs l u)) : EL c Γ (.Subscript a (.Slice lo hi none p2) pos) T k := el_slQ h.toSeq
theorem ew_slS {k : Gm → Str → Prop} (h : EW c Γ a tStr fun Γ1 s => s.length ≤ sizeLine ∧ OW c Γ1 lo fun Γ2 l => OW c Γ2 hi fun Γ3 u => k Γ3 (cutS s l u)) : EW c Γ (.Subscript a (.Slice lo hi none p2) pos) tStr k := fun B σ F H S Q q => by
  refine of_pe (pe_slice sl_str peW poW poW) (h B σ F H S _ fun v s Γ1 F1 H1 S1 e1 r1 ⟨h0, h1⟩ => h1 B σ F1 H1 S1 _ fun l Γ2 F2 H2 S2 e2 h2 => h2 B σ F2 H2 S2 _ fun u Γ3 F3 H3 S3 e3 h3 => ?_)
  exact ⟨s, r1, h0, q _ _ Γ3 F3 H3 S3 ((e1.trans e2).trans e3) rfl h3⟩
/-! ### sums -/
theorem ew_catS {k : Gm → Str → Prop} (h : EW c Γ a tStr fun Γ1 s => EW c Γ1 b tStr fun Γ2 t => s.length + t.length ≤ sizeLine ∧ k Γ2 (s ++ t)) : EW c Γ (.BinOp a .Add b pos) tStr k :=
  ew_bin (fun _ => op_add_str) (h.imp fun _ s h => h.imp fun _ t h => fun F H x y S hx hy Q q => ⟨s, t, hx, hy, h.1, q _ F H _ (Step.refl S) rfl h.2⟩)
theorem ew_catT {k : Gm → List α → Prop} (h : EW c Γ a (tTup T) fun Γ1 s => EW c Γ1 b (tTup T) fun Γ2 t => s.length + t.length ≤ sizeLine ∧ k Γ2 (s ++ t)) : EW c Γ (.BinOp a .Add b pos) (tTup T) k :=
  ew_bin (r := rCatA K) (fun hK => by rw [← hK]; exact op_catA) (h.imp fun _ s h => h.imp fun _ t h => fun F H x y S ⟨p1, xs, e1, h1, r1⟩ ⟨p2, ys, e2, h2, r2⟩ Q q => by
    refine ⟨p1, p2, xs, ys, e1, e2, sqT_mono S h1, sqT_mono S h2, by rw [All2.length r1, All2.length r2]; exact h.1, fun z => ?_, fun z1 z2 => ?_, fun z1 z2 p hp => ?_⟩
    · subst z
      have es : s = [] := List.eq_nil_of_length_eq_zero (All2.length r1).symm
      exact q _ F H (s ++ t) (Step.refl S) ⟨p2, ys, rfl, h2, by rw [es]; exact r2⟩ h.2
    · subst z2
      have es : t = [] := List.eq_nil_of_length_eq_zero (All2.length r2).symm
      exact q _ F H (s ++ t) (Step.refl S) ⟨p1, xs, rfl, h1, by rw [es, List.append_nil]; exact r1⟩ h.2
    · have st := Step.frozen (o := .tup (xs ++ ys)) S hp
      exact q _ _ _ (s ++ t) st ⟨p, _, rfl, .inl (.inl upd_same), All2.append (All2.imp (fun _ _ => T.mono st.ff) r1) (All2.imp (fun _ _ => T.mono st.ff) r2)⟩ h.2)
theorem el_cat {k : Gm → List α → Prop} (h : EW c Γ a (tLst T) fun Γ1 s => EW c Γ1 b (tLst T) fun Γ2 t => s.length + t.length ≤ sizeLine ∧ k Γ2 (s ++ t)) : EL c Γ (.BinOp a .Add b pos) T k := fun B σ F H S Q q => by
  refine of_pe (pe_op op_cat peW peW) (h B σ F H S _ fun v xs Γ1 F1 H1 S1 e1 r1 h1 => h1 B σ F1 H1 S1 _ fun u ys Γ2 F2 H2 S2 e2 r2 h2 => ?_)
  obtain ⟨p1, vs, rfl, hp1, r1'⟩ := (tLst T).mono e2 r1
  obtain ⟨p2, us, rfl, hp2, r2'⟩ := r2
  refine ⟨p1, p2, vs, us, rfl, rfl, S2.sub _ _ hp1, S2.sub _ _ hp2, by rw [All2.length r1', All2.length r2']; exact h2.1, fun p hp => ?_⟩
  obtain ⟨S4, b1, b2, b3⟩ := S2.make (o := .lst (vs ++ us)) hp
  exact q p _ _ Γ2 _ _ S4 (e1.trans e2) b1 b3 b2 upd_same (All2.append r1' r2') h2.2
theorem ew_repT {k : Gm → List α → Prop} (h : EW c Γ a (tTup T) fun Γ1 s => EW c Γ1 b tInt fun Γ2 n => (s ≠ [] ∧ 2 ≤ n ∧ n ≤ 1000 ∧ s.length ≤ 1000) ∧ k Γ2 (List.replicate n.toNat s).flatten) : EW c Γ (.BinOp a .Mult b pos) (tTup T) k :=
  ew_bin (r := rRepT K) (fun hK => by rw [← hK]; exact op_repT) (h.imp fun _ s h => h.imp fun _ n ⟨⟨h1, h2, h3, h4⟩, h5⟩ => fun F H x y S ⟨p1, xs, e1, g1, r1⟩ e2 Q q => by
    refine ⟨p1, n, xs, e1, e2, sqT_mono S g1, fun z => h1 (by subst z; exact List.eq_nil_of_length_eq_zero (All2.length r1).symm), h2, h3, by rw [All2.length r1]; exact h4, fun p hp => ?_⟩
    have st := Step.frozen (o := .tup (List.replicate n.toNat xs).flatten) S hp
    exact q _ _ _ _ st ⟨p, _, rfl, .inl (.inl upd_same), all2_rep n.toNat (All2.imp (fun _ _ => T.mono st.ff) r1)⟩ h5)
/-! ### list(..), tuple(..) -/
def rLst1 (K : PySem.W.Frag) : List V → Hp → VK → Prop := fun xs H Q => ∃ p ys, xs = [.ref p] ∧ (SqL K H p ys ∨ SqT K H p ys) ∧ ∀ l, H l = none → Q (.ref l) (upd H l (.lst ys))
theorem el_listG {A : Ty K ρ} (bi : Bi mg) {k : Gm → List α → Prop} (hg : glB sc "list" = true) (it : ρ → List α) (hi : ∀ F v z, A.r F v z → ∃ q ys, v = .ref q ∧ (SqL K F q ys ∨ SqT K F q ys) ∧ All2 (T.r F) ys (it z)) (h : EW c Γ a A fun Γ1 z => k Γ1 (it z)) (he : ∀ env, starEach [a] env = (false, eval a env) :: starEach [] env := by intro _; rfl) : EL c Γ (.Call (.Name "list" p) [a] [] pos) T k := fun B σ F H S Q q => by
  obtain ⟨X, rfl, rfl, rfl, rfl, rfl, rfl, nd, rfl, rfl, calm, room, pas⟩ := c
  refine of_pe (pe_callTy (T := "list") call_list_of (glB_gl hg) bi.list (by decide +kernel) (pa_cons peW pa_nil (he _)) (by decide +kernel) (by decide +kernel) (he _) rfl) (h B σ F H S _ fun v z Γ1 F1 H1 S1 e1 r1 h1 => ?_)
  obtain ⟨q1, ys, rfl, hq, hr⟩ := hi F1 v z r1
  refine ⟨q1, ys, rfl, hq.elim (fun y => .inl (sqL_mono S1.sub y)) (fun y => .inr (sqT_mono S1.sub y)), fun l hl => ?_⟩
  obtain ⟨S4, b1, b2, b3⟩ := S1.make (o := .lst ys) hl
  exact q l ys (it z) Γ1 _ _ S4 e1 b1 b3 b2 upd_same hr h1
theorem el_listL (bi : Bi mg) {k : Gm → List α → Prop} (hg : glB sc "list" = true) (h : EW c Γ a (tLst T) k) (he : ∀ env, starEach [a] env = (false, eval a env) :: starEach [] env := by intro _; rfl) : EL c Γ (.Call (.Name "list" p) [a] [] pos) T k := el_listG (A := tLst T) bi hg (fun x => x) (fun F v z ⟨q, ys, e, h, r⟩ => ⟨q, ys, e, .inl (.inl (.inl h)), r⟩) h he
theorem el_listT (bi : Bi mg) {k : Gm → List α → Prop} (hg : glB sc "list" = true) (h : EW c Γ a (tTup T) k) (he : ∀ env, starEach [a] env = (false, eval a env) :: starEach [] env := by intro _; rfl) : EL c Γ (.Call (.Name "list" p) [a] [] pos) T k := el_listG (A := tTup T) bi hg (fun x => x) (fun F v z ⟨q, ys, e, h, r⟩ => ⟨q, ys, e, .inr h, r⟩) h he
theorem el_listQ (bi : Bi mg) {k : Gm → List α → Prop} (hg : glB sc "list" = true) (h : EW c Γ a (tSeq T) k) (he : ∀ env, starEach [a] env = (false, eval a env) :: starEach [] env := by intro _; rfl) : EL c Γ (.Call (.Name "list" p) [a] [] pos) T k := el_listG (A := tSeq T) bi hg (fun x => x) (fun F v z ⟨q, ys, e, h, r⟩ => ⟨q, ys, e, .inl h, r⟩) h he
theorem ew_tupleL (bi : Bi mg) {k : Gm → List α → Prop} (hg : glB sc "tuple" = true) (h : EW c Γ a (tLst T) k) (he : ∀ env, starEach [a] env = (false, eval a env) :: starEach [] env := by intro _; rfl) : EW c Γ (.Call (.Name "tuple" p) [a] [] pos) (tTup T) k := fun B σ F H S Q q => by
  obtain ⟨X, rfl, rfl, rfl, rfl, rfl, rfl, nd, rfl, rfl, calm, room, pas⟩ := c
  refine of_pe (pe_callTy (T := "tuple") call_tuple_of (glB_gl hg) bi.tuple (by decide +kernel) (pa_cons peW pa_nil (he _)) (by decide +kernel) (by decide +kernel) (he _) rfl) (h B σ F H S _ fun v z Γ1 F1 H1 S1 e1 r1 h1 => ?_)
  obtain ⟨q1, ys, rfl, hq, hr⟩ := r1
  refine ⟨q1, ys, rfl, .inl ⟨.inl (.inl (S1.sub _ _ hq)), fun l hl => ?_⟩⟩
  have st := Step.frozen (o := .tup ys) S1.sub hl
  exact q _ z Γ1 _ _ (S1.step st) (e1.trans st.ff) ⟨l, ys, rfl, .inl (.inl upd_same), All2.imp (fun _ _ => T.mono st.ff) hr⟩ h1
/-! ### an own list is changed -/
structure MOk (o : Expr) (m : Str) (ap : Pos) (e : Expr) (es : List Expr) (cp : Pos) : Prop where
  base : ∀ env, attributeBase o m env (eval o env) = eval o env
  few : ∀ env, ((backTo cp (starEach (e :: es) env)).all (fun x => !x.1) && (backToKw cp (keywordEach [] env)).all (fun x => x.1.isSome) && decide ((e :: es).length + ([] : List Keyword).length + (if ([] : List Keyword).isEmpty then 0 else 1) < 30)) = true
  line : (ap.endLine == cp.line) = true
  star : ∀ env, starEach (e :: es) env = (false, eval e env) :: starEach es env
  plain : ∀ env, (backTo cp (starEach es env)).any (·.1) = false
structure MOk0 (o : Expr) (m : Str) (ap : Pos) (cp : Pos) : Prop where
  base : ∀ env, attributeBase o m env (eval o env) = eval o env
  line : (ap.endLine == cp.line) = true
/-- o.m(e, ..) of a built-in kind -/
theorem pe_bmW {X : Cx} {o e : Expr} {es : List Expr} {name : Str} {ap cp : Pos} {T id : String} {r : V → List V → Hp → VK → Prop} {to : TE} {t : TA} (pa : PlainAttrs T) (slot : Slot T name id) (hty : typeOf (.builtin id) = pure (.type "method_descriptor")) (hm : MtR X id r) (ok : MOk o name ap e es cp) (ho : PE X o to) (ha : PA X (e :: es) t) : PE X (.Call (.Attribute o name ap) (e :: es) [] cp) (tBM X.K T r to t) :=
  pe_bm pa slot hty hm ho ha (ok.base _) (ok.few _) ok.line (ok.star _) (ok.plain _)
theorem pe_bmW0 {X : Cx} {o : Expr} {name : Str} {ap cp : Pos} {T id : String} {r : V → List V → Hp → VK → Prop} {to : TE} (pa : PlainAttrs T) (slot : Slot T name id) (hty : typeOf (.builtin id) = pure (.type "method_descriptor")) (hm : MtR X id r) (ok : MOk0 o name ap cp) (ho : PE X o to) : PE X (.Call (.Attribute o name ap) [] [] cp) (tBM0 X.K T r to) :=
  pe_bm0 pa slot hty hm ho (ok.base _) ok.line
theorem Sta.ownPut {B : Base} {σ : L2.St} {F H : Hp} {i : Nat} {xs : List α} (S : Sta B Γ σ F H) (hg : Γ[i]? = some (some (ownL T xs))) : ∃ p vs, σ[i]? = some (some (.ref p)) ∧ H p = some (.lst vs) ∧ All2 (T.r F) vs xs ∧ ∀ ws ys, All2 (T.r F) ws ys → Sta B (Γ.set i (some (ownL T ys))) σ F (upd H p (.lst ws)) := by
  obtain ⟨v, ps, hv, ⟨p, vs, rfl, hq, hp, hr⟩, ow⟩ := S.get hg
  refine ⟨p, vs, hv, hp, hr, fun ws ys hw => ?_⟩
  have hF : F p = none := (ow p ((hq p).mpr rfl)).1
  refine S.own_upd (e' := ownL T ys) hg rfl fun v3 ps3 hv3 ⟨p3, vs3, e3, hq3, hp3, hr3⟩ own3 => ?_
  rw [hv] at hv3; cases hv3
  obtain rfl : p = p3 := V.ref.inj e3
  refine ⟨ps3, fun b o q => by rw [upd_ne (ne_of_none q hF)]; exact S.sub b o q, Same.refl _, fun b o hb nb => by rw [upd_ne (fun z => nb ((hq3 b).mpr z))]; exact hb, fun b nb => ?_, fun _ _ h => h, fun q hq' => ?_, p, ws, rfl, hq3, upd_same, hw⟩
  · by_cases y : b = p
    · rw [y, upd_same]; exact fun z => nomatch z
    · rw [upd_ne y]; exact nb
  · obtain rfl : q = p := (hq3 q).mp hq'
    exact ⟨.inl hq', hF, by rw [upd_same]; (exact fun z => nomatch z), (own3 q hq').2.2.2⟩
section
variable {R : Rs ρ} {rt : Gm → ρ → Prop} {nx bk ct : Gm → Prop} {i : Nat} {x : Str} {px ap : Pos} {xs : List α}
/-- x.append(e) -/
theorem w_append (hs : slotOf N x 0 = some i) (hv : visB sc x = true) (hg : ∃ xs : List α, Γ[i]? = some (some (ownL T xs))) (h : EW c Γ e T fun Γ1 z => ∃ xs, Γ1[i]? = some (some (ownL T xs)) ∧ xs.length < sizeLine ∧ nx (Γ1.set i (some (ownL T (xs ++ [z])))))
    (hd : (x == ("__debug__" : Str)) = false := by decide +kernel) (hcd : (x == ("__classdict__" : Str)) = false := by decide +kernel) (ok : MOk (.Name x px) "append" ap e [] p := by exact ⟨fun _ => rfl, fun _ => rfl, rfl, fun _ => rfl, fun _ => rfl⟩) (hsw : ∀ env, swapsWith (.Call (.Attribute (.Name x px) "append" ap) [e] [] p) none pos.line env = pure false := by intro _; rfl) :
    S1 c Γ (.Expr (.Call (.Attribute (.Name x px) "append" ap) [e] [] p) pos) (⟨R, rt, nx, bk, ct⟩ : En ρ) := fun B σ F H hB S => by
  obtain ⟨X, rfl, rfl, rfl, rfl, rfl, rfl, nd, rfl, rfl, calm, room, pas⟩ := c
  refine of_ps (ps_expr (pe_bmW PySem.F.plainAttrs_list PySem.F.slot_list_append PySem.F.type_list_append mt_append ok (pe_var (slotOf_at hs) (visB_vis hv) hd hcd) (pa_cons peW pa_nil (ok.star _))) (hsw _)) ?_
  obtain ⟨xs0, hg⟩ := hg
  obtain ⟨p0, vs0, hv0, hp0, hr0, put0⟩ := S.ownPut hg
  refine ⟨_, hv0, .inl ⟨rfl, vs0, .inl (.inl hp0)⟩, h B σ F H S _ fun u z Γ1 F1 H1 S1 e1 r1 ⟨xs1, hg1, hl1, hn⟩ => ?_⟩
  obtain ⟨p1, vs1, hv1, hp1, hr1, put1⟩ := S1.ownPut hg1
  rw [hv0] at hv1; cases hv1
  exact ⟨p0, vs1, u, rfl, rfl, hp1, by rw [All2.length hr1]; exact hl1, _, F1, put1 _ _ (all2_snoc hr1 r1), hn⟩
/-- x[e] = f -/
theorem w_setAt {f : Expr} {pt : Pos} (hs : slotOf N x 0 = some i) (hv : visB sc x = true) (h : EW c Γ f T fun Γ1 z => (∃ xs : List α, Γ1[i]? = some (some (ownL T xs))) ∧ EW c Γ1 e tInt fun Γ2 k => ∃ xs j, Γ2[i]? = some (some (ownL T xs)) ∧ ixN xs.length k = some j ∧ nx (Γ2.set i (some (ownL T (xs.set j z)))))
    (hd : (x == ("__debug__" : Str)) = false := by decide +kernel) (hcd : (x == ("__classdict__" : Str)) = false := by decide +kernel)
    (hs1 : ∀ env, swapsWithSole [.Subscript (.Name x px) e pt] f pos.line env = pure false := by intro _; rfl) (hw : ∀ env, swappedStores [.Subscript (.Name x px) e pt] f env = pure none := by intro _; rfl)
    (ha : ∀ env v, assign (.Subscript (.Name x px) e pt) env v = (do
      let ov ← holding [v] (eval (.Name x px) env)
      let iv ← holding [v, ov] (eval e env)
      standAt pt
      holding [v, ov, iv] (setItem ov iv v)
      release [v, ov, iv] []) := by intro _ _; rfl) :
    S1 c Γ (.Assign [.Subscript (.Name x px) e pt] f pos) (⟨R, rt, nx, bk, ct⟩ : En ρ) := fun B σ F H hB S => by
  obtain ⟨X, rfl, rfl, rfl, rfl, rfl, rfl, nd, rfl, rfl, calm, room, pas⟩ := c
  refine of_ps (ps_asg peW (pg_sub (pe_var (i := i) (slotOf_at hs) (visB_vis hv) hd hcd) peW set_list (ha _)) (hs1 _) (hw _)) ?_
  refine h B σ F H S _ fun u z Γ1 F1 H1 S1 e1 r1 ⟨⟨xs0, hg0⟩, h1⟩ => ?_
  obtain ⟨p0, vs0, hv0, hp0, hr0, put0⟩ := S1.ownPut hg0
  refine ⟨_, hv0, h1 B σ F1 H1 S1 _ fun w k Γ2 F2 H2 S2 e2 r2 ⟨xs1, j, hg1, hj, hn⟩ => ?_⟩
  obtain ⟨p1, vs1, hv1, hp1, hr1, put1⟩ := S2.ownPut hg1
  rw [hv0] at hv1; cases hv1
  exact ⟨p0, vs1, k, j, rfl, r2, hp1, by rw [All2.length hr1]; exact hj, _, F2, put1 _ _ (all2_set hr1 (T.mono e2 r1)), hn⟩
end
end
end Px
/-! Px, eleventh part: things of any kind. -/
namespace Px
open PySem PySem.Spec PyProof.Rows L2
mutual
theorem dp_mono {K : PySem.W.Frag} {F F' : Hp} (e : Same F F') : ∀ (d : PyData) {v : V}, Dp K F v d → Dp K F' v d
  | .none, _, h => by cases h; exact .non
  | .bool b, _, h => by cases h; exact .bl b
  | .int i, _, h => by cases h; exact .int i
  | .str s, _, h => by cases h; exact .str s
  | .list ds, _, h => by
    cases h with
    | lst hs ha => exact .lst (sqL_mono e hs) (dpAll_mono e ds ha)
  | .tuple ds, _, h => by
    cases h with
    | tup hs ha => exact .tup (sqT_mono e hs) (dpAll_mono e ds ha)
  | .dict _, _, h => by cases h
theorem dpAll_mono {K : PySem.W.Frag} {F F' : Hp} (e : Same F F') : ∀ (ds : List PyData) {vs : List V}, DpAll K F vs ds → DpAll K F' vs ds
  | [], _, h => by cases h; exact .nil
  | d :: ds, _, h => by
    cases h with
    | cons h1 h2 => exact .cons (dp_mono e d h1) (dpAll_mono e ds h2)
end
theorem all_of_dp {K : PySem.W.Frag} {F : Hp} : ∀ {vs : List V} {ds : List PyData}, DpAll K F vs ds → All2 (Dp K F) vs ds
  | [], [], _ => trivial
  | _ :: _, _ :: _, h => by
    cases h with
    | cons h1 h2 => exact ⟨h1, all_of_dp h2⟩
  | [], _ :: _, h => by cases h
  | _ :: _, [], h => by cases h
theorem dp_of_all {K : PySem.W.Frag} {F : Hp} : ∀ {vs : List V} {ds : List PyData}, All2 (Dp K F) vs ds → DpAll K F vs ds
  | [], [], _ => .nil
  | _ :: _, _ :: _, h => .cons h.1 (dp_of_all h.2)
section
variable {K : PySem.W.Frag} {α β γ δ : Type}
/-- a thing of any kind -/
def tAny : Ty K PyData := ⟨fun F v d => Dp K F v d, fun e h => dp_mono e _ h⟩
/-- the things of a type, as data -/
def AsD (T : Ty K α) (f : α → PyData) : Prop := ∀ F v a, T.r F v a → (tAny (K := K)).r F v (f a)
theorem asD_int : AsD (tInt (K := K)) .int := fun F v a h => by rw [show v = .int a from h]; exact .int a
theorem asD_bool : AsD (tBool (K := K)) .bool := fun F v a h => by rw [show v = .bl a from h]; exact .bl a
theorem asD_str : AsD (tStr (K := K)) .str := fun F v a h => by rw [show v = .str a from h]; exact .str a
theorem asD_non : AsD (tNon (K := K)) (fun _ => .none) := fun F v a h => by rw [show v = .non from h]; exact .non
theorem asD_any : AsD (tAny (K := K)) (fun d => d) := fun F v a h => h
theorem dp_all {R : V → α → Prop} {f : α → PyData} {F : Hp} (h : ∀ v a, R v a → Dp K F v (f a)) : ∀ {vs : List V} {as : List α}, All2 R vs as → DpAll K F vs (as.map f)
  | [], [], _ => .nil
  | _ :: _, _ :: _, q => .cons (h _ _ q.1) (dp_all h q.2)
theorem asD_tup {T : Ty K α} {f : α → PyData} (h : AsD T f) : AsD (tTup T) (fun xs => .tuple (xs.map f)) := fun F v a ⟨p, vs, e, hp, r⟩ => by
  subst e; exact .tup hp (dp_all (h F) r)
theorem asD_seq {T : Ty K α} {f : α → PyData} (h : AsD T f) : AsD (tSeq T) (fun xs => .list (xs.map f)) := fun F v a ⟨p, vs, e, hp, r⟩ => by
  subst e; exact .lst hp (dp_all (h F) r)
theorem asD_lst {T : Ty K α} {f : α → PyData} (h : AsD T f) : AsD (tLst T) (fun xs => .list (xs.map f)) := fun F v a q => asD_seq h F v a (seq_of_lst q)
theorem asD_T1 {A : Ty K α} {f : α → PyData} (h : AsD A f) : AsD (tT1 A) (fun x => .tuple [f x]) := fun F v a ⟨p, vs, e, hp, x, e2, r⟩ => by
  subst e; subst e2; exact .tup hp (.cons (h _ _ _ r) .nil)
theorem asD_T2 {A : Ty K α} {B : Ty K β} {f : α → PyData} {g : β → PyData} (h : AsD A f) (h2 : AsD B g) : AsD (tT2 A B) (fun x => .tuple [f x.1, g x.2]) := fun F v a ⟨p, vs, e, hp, x, y, e2, r, r2⟩ => by
  subst e; subst e2; exact .tup hp (.cons (h _ _ _ r) (.cons (h2 _ _ _ r2) .nil))
theorem asD_T3 {A : Ty K α} {B : Ty K β} {C : Ty K γ} {f : α → PyData} {g : β → PyData} {g3 : γ → PyData} (h : AsD A f) (h2 : AsD B g) (h3 : AsD C g3) : AsD (tT3 A B C) (fun x => .tuple [f x.1, g x.2.1, g3 x.2.2]) := fun F v a ⟨p, vs, e, hp, x, y, z, e2, r, r2, r3⟩ => by
  subst e; subst e2; exact .tup hp (.cons (h _ _ _ r) (.cons (h2 _ _ _ r2) (.cons (h3 _ _ _ r3) .nil)))
theorem asD_T4 {A : Ty K α} {B : Ty K β} {C : Ty K γ} {D : Ty K δ} {f : α → PyData} {g : β → PyData} {g3 : γ → PyData} {g4 : δ → PyData} (h : AsD A f) (h2 : AsD B g) (h3 : AsD C g3) (h4 : AsD D g4) : AsD (tT4 A B C D) (fun x => .tuple [f x.1, g x.2.1, g3 x.2.2.1, g4 x.2.2.2]) := fun F v a ⟨p, vs, e, hp, x, y, z, u, e2, r, r2, r3, r4⟩ => by
  subst e; subst e2; exact .tup hp (.cons (h _ _ _ r) (.cons (h2 _ _ _ r2) (.cons (h3 _ _ _ r3) (.cons (h4 _ _ _ r4) .nil))))
theorem any_int {F : Hp} {v : V} {i : Int} (h : (tAny (K := K)).r F v (.int i)) : (tInt (K := K)).r F v i := by cases (show Dp K F v (.int i) from h); rfl
theorem any_bool {F : Hp} {v : V} {i : Bool} (h : (tAny (K := K)).r F v (.bool i)) : (tBool (K := K)).r F v i := by cases (show Dp K F v (.bool i) from h); rfl
theorem any_str {F : Hp} {v : V} {i : Str} (h : (tAny (K := K)).r F v (.str i)) : (tStr (K := K)).r F v i := by cases (show Dp K F v (.str i) from h); rfl
theorem any_tup {F : Hp} {v : V} {ds : List PyData} (h : (tAny (K := K)).r F v (.tuple ds)) : (tTup (tAny (K := K))).r F v ds := by
  cases (show Dp K F v (.tuple ds) from h) with
  | tup hs ha => exact ⟨_, _, rfl, hs, all_of_dp ha⟩
theorem any_lst {F : Hp} {v : V} {ds : List PyData} (h : (tAny (K := K)).r F v (.list ds)) : (tSeq (tAny (K := K))).r F v ds := by
  cases (show Dp K F v (.list ds) from h) with
  | lst hs ha => exact ⟨_, _, rfl, hs, all_of_dp ha⟩
theorem tup_any {F : Hp} {v : V} {ds : List PyData} (h : (tTup (tAny (K := K))).r F v ds) : (tAny (K := K)).r F v (.tuple ds) := by
  have := asD_tup asD_any F v ds h
  simpa using this
theorem lst_any {F : Hp} {v : V} {ds : List PyData} (h : (tLst (tAny (K := K))).r F v ds) : (tAny (K := K)).r F v (.list ds) := by
  have := asD_lst asD_any F v ds h
  simpa using this
theorem seq_any {F : Hp} {v : V} {ds : List PyData} (h : (tSeq (tAny (K := K))).r F v ds) : (tAny (K := K)).r F v (.list ds) := by
  have := asD_seq asD_any F v ds h
  simpa using this
theorem any_T2 {F : Hp} {v : V} {x y : PyData} (h : (tAny (K := K)).r F v (.tuple [x, y])) : (tT2 (tAny (K := K)) tAny).r F v (x, y) := by
  obtain ⟨p, vs, e, hp, r⟩ := any_tup h
  match vs, r with
  | [u, w], ⟨r1, r2, _⟩ => exact ⟨p, _, e, hp, u, w, rfl, r1, r2⟩
/-! ### what kind of thing -/
def tyName : PyData → String
  | .none => "NoneType"
  | .bool _ => "bool"
  | .int _ => "int"
  | .str _ => "str"
  | .list _ => "list"
  | .tuple _ => "tuple"
  | .dict _ => "dict"
theorem ty_any {F : Hp} {v : V} {d : PyData} (h : (tAny (K := K)).r F v d) : TyX K F v (.type (tyName d)) := by
  cases (show Dp K F v d from h) with
  | non => exact .base .non
  | bl b => exact .base (.bl b)
  | int i => exact .base (.int i)
  | str s => exact .base (.str s)
  | lst hs ha =>
    rcases hs with (h | ⟨o, h⟩) | ⟨o, its, n, h, h2, _⟩
    · exact .base (.lst h)
    · exact .base (.frz h)
    · first | exact .kList h h2 | exact .kList h h2.1 | exact .kList h (by simp_all)
  | tup hs ha =>
    rcases hs with (h | ⟨o, h⟩) | ⟨o, its, n, h, h2, _⟩
    · exact .base (.tup h)
    · exact .fTuple h
    · first | exact .kTuple h h2 | exact .kTuple h h2.1 | exact .kTuple h (by simp_all)
def dInt : PyData → Bool
  | .int _ => true
  | .bool _ => true
  | _ => false
def dBool : PyData → Bool
  | .bool _ => true
  | _ => false
def dStr : PyData → Bool
  | .str _ => true
  | _ => false
def dTup : PyData → Bool
  | .tuple _ => true
  | _ => false
def dLst : PyData → Bool
  | .list _ => true
  | _ => false
theorem kI (d : PyData) : PySem.W.kitOne K (.type (tyName d)) (.type "int") = some (dInt d) := match d with
  | .none => kit_ty (show kitB "NoneType" "int" = some false by decide +kernel)
  | .bool _ => kit_ty (show kitB "bool" "int" = some true by decide +kernel)
  | .int _ => kit_ty (show kitB "int" "int" = some true by decide +kernel)
  | .str _ => kit_ty (show kitB "str" "int" = some false by decide +kernel)
  | .list _ => kit_ty (show kitB "list" "int" = some false by decide +kernel)
  | .tuple _ => kit_ty (show kitB "tuple" "int" = some false by decide +kernel)
  | .dict _ => kit_ty (show kitB "dict" "int" = some false by decide +kernel)
theorem kB (d : PyData) : PySem.W.kitOne K (.type (tyName d)) (.type "bool") = some (dBool d) := match d with
  | .none => kit_ty (show kitB "NoneType" "bool" = some false by decide +kernel)
  | .bool _ => kit_ty (show kitB "bool" "bool" = some true by decide +kernel)
  | .int _ => kit_ty (show kitB "int" "bool" = some false by decide +kernel)
  | .str _ => kit_ty (show kitB "str" "bool" = some false by decide +kernel)
  | .list _ => kit_ty (show kitB "list" "bool" = some false by decide +kernel)
  | .tuple _ => kit_ty (show kitB "tuple" "bool" = some false by decide +kernel)
  | .dict _ => kit_ty (show kitB "dict" "bool" = some false by decide +kernel)
theorem kS (d : PyData) : PySem.W.kitOne K (.type (tyName d)) (.type "str") = some (dStr d) := match d with
  | .none => kit_ty (show kitB "NoneType" "str" = some false by decide +kernel)
  | .bool _ => kit_ty (show kitB "bool" "str" = some false by decide +kernel)
  | .int _ => kit_ty (show kitB "int" "str" = some false by decide +kernel)
  | .str _ => kit_ty (show kitB "str" "str" = some true by decide +kernel)
  | .list _ => kit_ty (show kitB "list" "str" = some false by decide +kernel)
  | .tuple _ => kit_ty (show kitB "tuple" "str" = some false by decide +kernel)
  | .dict _ => kit_ty (show kitB "dict" "str" = some false by decide +kernel)
theorem kT (d : PyData) : PySem.W.kitOne K (.type (tyName d)) (.type "tuple") = some (dTup d) := match d with
  | .none => kit_ty (show kitB "NoneType" "tuple" = some false by decide +kernel)
  | .bool _ => kit_ty (show kitB "bool" "tuple" = some false by decide +kernel)
  | .int _ => kit_ty (show kitB "int" "tuple" = some false by decide +kernel)
  | .str _ => kit_ty (show kitB "str" "tuple" = some false by decide +kernel)
  | .list _ => kit_ty (show kitB "list" "tuple" = some false by decide +kernel)
  | .tuple _ => kit_ty (show kitB "tuple" "tuple" = some true by decide +kernel)
  | .dict _ => kit_ty (show kitB "dict" "tuple" = some false by decide +kernel)
theorem kL (d : PyData) : PySem.W.kitOne K (.type (tyName d)) (.type "list") = some (dLst d) := match d with
  | .none => kit_ty (show kitB "NoneType" "list" = some false by decide +kernel)
  | .bool _ => kit_ty (show kitB "bool" "list" = some false by decide +kernel)
  | .int _ => kit_ty (show kitB "int" "list" = some false by decide +kernel)
  | .str _ => kit_ty (show kitB "str" "list" = some false by decide +kernel)
  | .list _ => kit_ty (show kitB "list" "list" = some true by decide +kernel)
  | .tuple _ => kit_ty (show kitB "tuple" "list" = some false by decide +kernel)
  | .dict _ => kit_ty (show kitB "dict" "list" = some false by decide +kernel)
theorem kTL (d : PyData) : PySem.W.kitAny K (.type (tyName d)) [.type "tuple", .type "list"] = some (dTup d || dLst d) :=
  kitAny_cons (kT d) (fun h => kitAny_cons (kL d) (fun h2 => by rw [h, h2]; rfl) (fun h2 => by rw [h, h2]; rfl)) (fun h => by rw [h]; rfl)
end
section
variable {P : Program} {w : World} {K : PySem.W.Frag} {mg : Str → Option Value} {base : Heap} {lv : Nat} {N : List Str} {sc : Scope} {fn : Str → Bool}
variable {α β γ δ ρ : Type}
variable {c : Ctx P w K mg base lv N sc fn} {Γ : Gm} {e a b d tg iter elt : Expr} {lo hi : Option Expr} {es ts ifs : List Expr} {pos pos' p p2 : Pos} {T : Ty K α} {A : Ty K α} {B' : Ty K β} {C : Ty K γ} {D' : Ty K δ}
/-! ### isinstance -/
theorem ew_isiD (bi : Bi mg) {x : Str} {n : String} {k : Gm → Bool → Prop} (hi : glB sc "isinstance" = true) (hg : glB sc x = true) (hm : mg x = none) (hv : bootBuiltins x = some (.type n)) (ans : PyData → Bool) (hk : ∀ d, PySem.W.kitOne K (.type (tyName d)) (.type n) = some (ans d))
    (h : EW c Γ a tAny fun Γ1 z => k Γ1 (ans z)) (hn : x ≠ "__name__" := by decide +kernel) (hd : (x == ("__debug__" : Str)) = false := by decide +kernel) (he : ∀ env, starEach [a, .Name x pos'] env = (false, eval a env) :: starEach [.Name x pos'] env := by intro _; rfl) (he2 : ∀ env, starEach [.Name x pos'] env = (false, eval (.Name x pos') env) :: starEach [] env := by intro _; rfl) (hpl : ∀ env, (backTo pos (starEach [.Name x pos'] env)).any (·.1) = false := by intro _; rfl) :
    EW c Γ (.Call (.Name "isinstance" p) [a, .Name x pos'] [] pos) tBool k :=
  ew_isi bi hi hg hm hv ans (fun F v z r => ⟨_, ty_any r, hk z⟩) h hn hd he he2 hpl
theorem ew_isiI (bi : Bi mg) {k : Gm → Bool → Prop} (hi : glB sc "isinstance" = true) (hg : glB sc "int" = true) (h : EW c Γ a tAny fun Γ1 z => k Γ1 (dInt z)) (he : ∀ env, starEach [a, .Name "int" pos'] env = (false, eval a env) :: starEach [.Name "int" pos'] env := by intro _; rfl) : EW c Γ (.Call (.Name "isinstance" p) [a, .Name "int" pos'] [] pos) tBool k := ew_isiD bi hi hg bi.int (by decide +kernel) dInt kI h (he := he)
theorem ew_isiB (bi : Bi mg) {k : Gm → Bool → Prop} (hi : glB sc "isinstance" = true) (hg : glB sc "bool" = true) (h : EW c Γ a tAny fun Γ1 z => k Γ1 (dBool z)) (he : ∀ env, starEach [a, .Name "bool" pos'] env = (false, eval a env) :: starEach [.Name "bool" pos'] env := by intro _; rfl) : EW c Γ (.Call (.Name "isinstance" p) [a, .Name "bool" pos'] [] pos) tBool k := ew_isiD bi hi hg bi.bool (by decide +kernel) dBool kB h (he := he)
theorem ew_isiS (bi : Bi mg) {k : Gm → Bool → Prop} (hi : glB sc "isinstance" = true) (hg : glB sc "str" = true) (h : EW c Γ a tAny fun Γ1 z => k Γ1 (dStr z)) (he : ∀ env, starEach [a, .Name "str" pos'] env = (false, eval a env) :: starEach [.Name "str" pos'] env := by intro _; rfl) : EW c Γ (.Call (.Name "isinstance" p) [a, .Name "str" pos'] [] pos) tBool k := ew_isiD bi hi hg bi.str (by decide +kernel) dStr kS h (he := he)
theorem ew_isiT (bi : Bi mg) {k : Gm → Bool → Prop} (hi : glB sc "isinstance" = true) (hg : glB sc "tuple" = true) (h : EW c Γ a tAny fun Γ1 z => k Γ1 (dTup z)) (he : ∀ env, starEach [a, .Name "tuple" pos'] env = (false, eval a env) :: starEach [.Name "tuple" pos'] env := by intro _; rfl) : EW c Γ (.Call (.Name "isinstance" p) [a, .Name "tuple" pos'] [] pos) tBool k := ew_isiD bi hi hg bi.tuple (by decide +kernel) dTup kT h (he := he)
theorem ew_isiL (bi : Bi mg) {k : Gm → Bool → Prop} (hi : glB sc "isinstance" = true) (hg : glB sc "list" = true) (h : EW c Γ a tAny fun Γ1 z => k Γ1 (dLst z)) (he : ∀ env, starEach [a, .Name "list" pos'] env = (false, eval a env) :: starEach [.Name "list" pos'] env := by intro _; rfl) : EW c Γ (.Call (.Name "isinstance" p) [a, .Name "list" pos'] [] pos) tBool k := ew_isiD bi hi hg bi.list (by decide +kernel) dLst kL h (he := he)
/-- (tuple, list) -/
def tTL : Ty K Unit := ⟨fun F v _ => ∃ q, v = .ref q ∧ F q = some (.tup [.ty "tuple", .ty "list"]), fun e ⟨q, h1, h2⟩ => ⟨q, h1, e _ _ h2⟩⟩
theorem ew_TL (bi : Bi mg) {x1} {p1 p2 : Pos} {k : Gm → Unit → Prop} (h1 : glB sc "tuple" = true) (h2 : glB sc "list" = true) (hk : k Γ ()) : EW c Γ (.Tuple [.Name "tuple" p1, .Name "list" p2] x1 pos) tTL k := fun B σ F H S Q q => by
  have c1 : EW c Γ (.Name "tuple" p1) (tCls (K := K)) fun G n => G = Γ ∧ n = "tuple" := ew_cls h1 bi.tuple (by decide +kernel) ⟨rfl, rfl⟩
  have c2 : EW c Γ (.Name "list" p2) (tCls (K := K)) fun G n => G = Γ ∧ n = "list" := ew_cls h2 bi.list (by decide +kernel) ⟨rfl, rfl⟩
  refine of_pe (pe_tup (pa_cons peW (pa_cons peW pa_nil (by rfl)) (by rfl))) ?_
  refine c1 B σ F H S _ fun v n Γ1 F1 H1 S1 e1 r1 ⟨z1, z2⟩ => ?_
  subst z1; subst z2
  refine c2 B σ F1 H1 S1 _ fun u n Γ2 F2 H2 S2 e2 r2 ⟨z1, z2⟩ => ?_
  subst z1; subst z2
  have hv : v = .ty "tuple" := r1
  have hu : u = .ty "list" := r2
  subst hv; subst hu
  refine ⟨by show 2 ≤ sizeLine; decide, fun l hl => ?_⟩
  have st := Step.frozen (o := .tup [.ty "tuple", .ty "list"]) S2.sub hl
  exact q _ () _ _ _ (S2.step st) ((e1.trans e2).trans st.ff) ⟨l, rfl, upd_same⟩ hk
theorem ew_isiTL (bi : Bi mg) {x1} {p1 p2 p3 : Pos} {k : Gm → Bool → Prop} (hi : glB sc "isinstance" = true) (h1 : glB sc "tuple" = true) (h2 : glB sc "list" = true) (h : EW c Γ a tAny fun Γ1 z => k Γ1 (dTup z || dLst z)) (he : ∀ env, starEach [a, .Tuple [.Name "tuple" p1, .Name "list" p2] x1 p3] env = (false, eval a env) :: starEach [.Tuple [.Name "tuple" p1, .Name "list" p2] x1 p3] env := by intro _; rfl) (he2 : ∀ env, starEach [.Tuple [.Name "tuple" p1, .Name "list" p2] x1 p3] env = (false, eval (.Tuple [.Name "tuple" p1, .Name "list" p2] x1 p3) env) :: starEach [] env := by intro _; rfl) (hpl : ∀ env, (backTo pos (starEach [.Tuple [.Name "tuple" p1, .Name "list" p2] x1 p3] env)).any (·.1) = false := by intro _; rfl) :
    EW c Γ (.Call (.Name "isinstance" p) [a, .Tuple [.Name "tuple" p1, .Name "list" p2] x1 p3] [] pos) tBool k :=
  ew_B (id := "isinstance") (i' := "isinstance") (r := rIsiT K) (fun hK _ => by rw [← hK]; exact call_isiT) hi bi.isinstance (by decide +kernel) (ews_cons (h.imp fun _ z hz => ews_cons (ew_TL bi h1 h2 (ews_nil fun F H xs S r Q q => match xs, r with
    | [v, u], ⟨r, ⟨l, r', r''⟩, _⟩ => by
      subst r'
      refine ⟨v, l, _, .type (tyName z), [.type "tuple", .type "list"], _, rfl, S _ _ r'', .cons (.ty "tuple") (.cons (.ty "list") .nil), tyB_mono S (ty_any r), kTL z, q _ F H _ (Step.refl S) rfl hz⟩)) he2) he) (he := he) (hpl := hpl)
/-! ### numbers of truth -/
def b2i (b : Bool) : Int := if b = true then 1 else 0
def rBI (f : Bool → Int → V) : R2 := fun x y H Q => ∃ i j, x = .bl i ∧ y = .int j ∧ Q (f i j) H
def rIB (f : Int → Bool → V) : R2 := fun x y H Q => ∃ i j, x = .int i ∧ y = .bl j ∧ Q (f i j) H
theorem op_addBI {X : Cx} : OpR X (binaryOp .Add) (rBI fun b i => .int (b2i b + i)) := by
  intro pins s σ H x y v u Q I rx ry h
  obtain ⟨i, j, rfl, rfl, q⟩ := h
  cases rx
  obtain ⟨t, rfl⟩ := ry
  exact PySem.IntBool.add_bool_int ⟨.int _, H, I.tok _, ⟨_, rfl⟩, q⟩
theorem op_subBI {X : Cx} : OpR X (binaryOp .Sub) (rBI fun b i => .int (b2i b - i)) := by
  intro pins s σ H x y v u Q I rx ry h
  obtain ⟨i, j, rfl, rfl, q⟩ := h
  cases rx
  obtain ⟨t, rfl⟩ := ry
  exact PySem.IntBool.sub_bool_int ⟨.int _, H, I.tok _, ⟨_, rfl⟩, q⟩
theorem op_mulBI {X : Cx} : OpR X (binaryOp .Mult) (rBI fun b i => .int (b2i b * i)) := by
  intro pins s σ H x y v u Q I rx ry h
  obtain ⟨i, j, rfl, rfl, q⟩ := h
  cases rx
  obtain ⟨t, rfl⟩ := ry
  exact PySem.IntBool.mul_bool_int ⟨.int _, H, I.tok _, ⟨_, rfl⟩, q⟩
theorem op_subIB {X : Cx} : OpR X (binaryOp .Sub) (rIB fun i b => .int (i - b2i b)) := by
  intro pins s σ H x y v u Q I rx ry h
  obtain ⟨i, j, rfl, rfl, q⟩ := h
  cases ry
  obtain ⟨t, rfl⟩ := rx
  exact PySem.IntBool.sub_int_bool ⟨.int _, H, I.tok _, ⟨_, rfl⟩, q⟩
theorem ew_addBI {k : Gm → Int → Prop} (h : EW c Γ a tBool fun Γ1 i => EW c Γ1 b tInt fun Γ2 j => k Γ2 (b2i i + j)) : EW c Γ (.BinOp a .Add b pos) tInt k :=
  ew_bin (fun _ => op_addBI) (h.imp fun _ i h => h.imp fun _ j h => fun F H x y S hx hy Q q => ⟨i, j, hx, hy, q _ F H _ (Step.refl S) rfl h⟩)
theorem ew_subBI {k : Gm → Int → Prop} (h : EW c Γ a tBool fun Γ1 i => EW c Γ1 b tInt fun Γ2 j => k Γ2 (b2i i - j)) : EW c Γ (.BinOp a .Sub b pos) tInt k :=
  ew_bin (fun _ => op_subBI) (h.imp fun _ i h => h.imp fun _ j h => fun F H x y S hx hy Q q => ⟨i, j, hx, hy, q _ F H _ (Step.refl S) rfl h⟩)
theorem ew_mulBI {k : Gm → Int → Prop} (h : EW c Γ a tBool fun Γ1 i => EW c Γ1 b tInt fun Γ2 j => k Γ2 (b2i i * j)) : EW c Γ (.BinOp a .Mult b pos) tInt k :=
  ew_bin (fun _ => op_mulBI) (h.imp fun _ i h => h.imp fun _ j h => fun F H x y S hx hy Q q => ⟨i, j, hx, hy, q _ F H _ (Step.refl S) rfl h⟩)
theorem ew_subIB {k : Gm → Int → Prop} (h : EW c Γ a tInt fun Γ1 i => EW c Γ1 b tBool fun Γ2 j => k Γ2 (i - b2i j)) : EW c Γ (.BinOp a .Sub b pos) tInt k :=
  ew_bin (fun _ => op_subIB) (h.imp fun _ i h => h.imp fun _ j h => fun F H x y S hx hy Q q => ⟨i, j, hx, hy, q _ F H _ (Step.refl S) rfl h⟩)
/-- text.upper() -/
theorem ew_upper {ap : Pos} {k : Gm → Str → Prop} (h : EW c Γ a tStr fun Γ1 s => s.length ≤ 5592405 ∧ k Γ1 (Txt.upper s)) (hb : ∀ env, attributeBase a "upper" env (eval a env) = eval a env := by intro _; rfl) (hl : (ap.endLine == pos.line) = true := by rfl) : EW c Γ (.Call (.Attribute a "upper" ap) [] [] pos) tStr k := fun B σ F H S Q q => by
  refine of_pe (pe_upper peW (hb _) hl) (h B σ F H S _ fun v s Γ1 F1 H1 S1 e1 r1 h1 => ?_)
  exact ⟨⟨s, r1⟩, s, r1, rfl, h1.1, q _ _ Γ1 F1 H1 S1 e1 rfl h1.2⟩
/-! ### the items of a thing -/
def isSq : PyData → Prop
  | .tuple _ => True
  | .list _ => True
  | _ => False
def itemsD : PyData → List PyData
  | .tuple ds => ds
  | .list ds => ds
  | _ => []
theorem any_items {F : Hp} {v : V} {z : PyData} (h : (tAny (K := K)).r F v z) (hz : isSq z) : ∃ q ys, v = .ref q ∧ (SqL K F q ys ∨ SqT K F q ys) ∧ All2 ((tAny (K := K)).r F) ys (itemsD z) := by
  cases (show Dp K F v z from h) with
  | lst hs ha => exact ⟨_, _, rfl, .inl hs, all_of_dp ha⟩
  | tup hs ha => exact ⟨_, _, rfl, .inr hs, all_of_dp ha⟩
  | _ => exact hz.elim
theorem el_listA (bi : Bi mg) {k : Gm → List PyData → Prop} (hg : glB sc "list" = true) (h : EW c Γ a tAny fun Γ1 z => isSq z ∧ k Γ1 (itemsD z)) (he : ∀ env, starEach [a] env = (false, eval a env) :: starEach [] env := by intro _; rfl) : EL c Γ (.Call (.Name "list" p) [a] [] pos) tAny k := fun B σ F H S Q q => by
  obtain ⟨X, rfl, rfl, rfl, rfl, rfl, rfl, nd, rfl, rfl, calm, room, pas⟩ := c
  refine of_pe (pe_callTy (T := "list") call_list_of (glB_gl hg) bi.list (by decide +kernel) (pa_cons peW pa_nil (he _)) (by decide +kernel) (by decide +kernel) (he _) rfl) (h B σ F H S _ fun v z Γ1 F1 H1 S1 e1 r1 h1 => ?_)
  obtain ⟨q1, ys, rfl, hq, hr⟩ := any_items r1 h1.1
  refine ⟨q1, ys, rfl, hq.elim (fun y => .inl (sqL_mono S1.sub y)) (fun y => .inr (sqT_mono S1.sub y)), fun l hl => ?_⟩
  obtain ⟨S4, b1, b2, b3⟩ := S1.make (o := .lst ys) hl
  exact q l ys _ Γ1 _ _ S4 e1 b1 b3 b2 upd_same hr h1.2
/-! ### own lists -/
/-- x[lo:hi] of an own list -/
theorem el_slO {i : Nat} {x : Str} {px : Pos} {k : Gm → List α → Prop} (hs : slotOf N x 0 = some i) (hv : visB sc x = true) (hg : ∃ xs : List α, Γ[i]? = some (some (ownL T xs))) (h : OW c Γ lo fun Γ2 l => OW c Γ2 hi fun Γ3 u => ∃ xs, Γ3[i]? = some (some (ownL T xs)) ∧ k Γ3 (cutA xs l u))
    (hd : (x == ("__debug__" : Str)) = false := by decide +kernel) (hcd : (x == ("__classdict__" : Str)) = false := by decide +kernel) : EL c Γ (.Subscript (.Name x px) (.Slice lo hi none p2) pos) T k := fun B σ F H S Q q => by
  obtain ⟨X, rfl, rfl, rfl, rfl, rfl, rfl, nd, rfl, rfl, calm, room, pas⟩ := c
  refine of_pe (pe_slice sl_list (pe_var (i := i) (slotOf_at hs) (visB_vis hv) hd hcd) poW poW) ?_
  obtain ⟨xs0, hg⟩ := hg
  obtain ⟨p0, vs0, hv0, hp0, hr0, _⟩ := S.ownPut hg
  refine ⟨_, hv0, h B σ F H S _ fun l Γ2 F2 H2 S2 e2 h2 => h2 B σ F2 H2 S2 _ fun u Γ3 F3 H3 S3 e3 ⟨xs, hg3, h3⟩ => ?_⟩
  obtain ⟨p1, vs1, hv1, hp1, hr1, _⟩ := S3.ownPut hg3
  rw [hv0] at hv1; cases hv1
  refine ⟨p0, vs1, rfl, .inl (.inl hp1), fun l1 hl => ?_⟩
  obtain ⟨S4, b1, b2, b3⟩ := S3.make (o := .lst (cutV vs1 l u)) hl
  exact q l1 _ _ Γ3 _ _ S4 (e2.trans e3) b1 b3 b2 upd_same (all2_cut hr1 l u) h3
/-- e[::-1] of a list -/
theorem el_rev {k : Gm → List α → Prop} {j1} {p1 p3 p4 : Pos} (h : EW c Γ a (tSeq T) fun Γ1 xs => k Γ1 xs.reverse) : EL c Γ (.Subscript a (.Slice none none (some (.UnaryOp .USub (.Constant (.int 1) j1 p1) p3)) p4) pos) T k := fun B σ F H S Q q => by
  obtain ⟨X, rfl, rfl, rfl, rfl, rfl, rfl, nd, rfl, rfl, calm, room, pas⟩ := c
  refine of_pe (pe_revL peW) (h B σ F H S _ fun v xs Γ1 F1 H1 S1 e1 r1 h1 => ?_)
  obtain ⟨q1, vs, rfl, hq, hv⟩ := r1
  refine ⟨q1, vs, rfl, sqL_mono S1.sub hq, fun l hl => ?_⟩
  obtain ⟨S4, b1, b2, b3⟩ := S1.make (o := .lst vs.reverse) hl
  exact q l _ _ Γ1 _ _ S4 e1 b1 b3 b2 upd_same (All2.reverse hv) h1
theorem all2_erase {α β : Type} {R : α → β → Prop} : ∀ {xs : List α} {ys : List β} {j : Nat}, All2 R xs ys → All2 R (xs.eraseIdx j) (ys.eraseIdx j)
  | [], [], _, h => h
  | _ :: _, _ :: _, 0, h => h.2
  | _ :: _, _ :: _, j + 1, h => ⟨h.1, all2_erase (j := j) h.2⟩
section
variable {R : Rs ρ} {rt : Gm → ρ → Prop} {nx bk ct : Gm → Prop} {i : Nat} {x : Str} {px ap : Pos} {xs : List α} {f : Expr}
/-- x.pop(e) -/
theorem w_popAt (hs : slotOf N x 0 = some i) (hv : visB sc x = true) (hg : ∃ xs : List α, Γ[i]? = some (some (ownL T xs))) (h : EW c Γ e tInt fun Γ1 z => ∃ xs j, Γ1[i]? = some (some (ownL T xs)) ∧ -(2 ^ 63) ≤ z ∧ z < 2 ^ 63 ∧ ixN xs.length z = some j ∧ nx (Γ1.set i (some (ownL T (xs.eraseIdx j)))))
    (hd : (x == ("__debug__" : Str)) = false := by decide +kernel) (hcd : (x == ("__classdict__" : Str)) = false := by decide +kernel) (ok : MOk (.Name x px) "pop" ap e [] p := by exact ⟨fun _ => rfl, fun _ => rfl, rfl, fun _ => rfl, fun _ => rfl⟩) (hsw : ∀ env, swapsWith (.Call (.Attribute (.Name x px) "pop" ap) [e] [] p) none pos.line env = pure false := by intro _; rfl) :
    S1 c Γ (.Expr (.Call (.Attribute (.Name x px) "pop" ap) [e] [] p) pos) (⟨R, rt, nx, bk, ct⟩ : En ρ) := fun B σ F H hB S => by
  obtain ⟨X, rfl, rfl, rfl, rfl, rfl, rfl, nd, rfl, rfl, calm, room, pas⟩ := c
  refine of_ps (ps_expr (pe_bmW PySem.F.plainAttrs_list PySem.F.slot_list_pop PySem.F.type_list_pop mt_popAt ok (pe_var (slotOf_at hs) (visB_vis hv) hd hcd) (pa_cons peW pa_nil (ok.star _))) (hsw _)) ?_
  obtain ⟨xs0, hg⟩ := hg
  obtain ⟨p0, vs0, hv0, hp0, hr0, put0⟩ := S.ownPut hg
  refine ⟨_, hv0, .inl ⟨rfl, vs0, .inl (.inl hp0)⟩, h B σ F H S _ fun u z Γ1 F1 H1 S1 e1 r1 ⟨xs1, j, hg1, z1, z2, hj, hn⟩ => ?_⟩
  obtain ⟨p1, vs1, hv1, hp1, hr1, put1⟩ := S1.ownPut hg1
  rw [hv0] at hv1; cases hv1
  obtain ⟨k1, k2, _, _⟩ := ixN_seq hj
  have hl := All2.length hr1
  have hz : u = .int z := r1
  subst hz
  exact ⟨p0, vs1, z, j, vs1[j]'(by omega), rfl, rfl, hp1, z1, z2, by rw [hl]; exact k1, List.getElem?_eq_getElem (by omega), _, F1, put1 _ _ (all2_erase hr1), hn⟩
/-- x.insert(e, f) -/
theorem w_insert (hs : slotOf N x 0 = some i) (hv : visB sc x = true) (hg : ∃ xs : List α, Γ[i]? = some (some (ownL T xs))) (h : EW c Γ e tInt fun Γ1 z => EW c Γ1 f T fun Γ2 y => ∃ xs, Γ2[i]? = some (some (ownL T xs)) ∧ 0 ≤ z ∧ z < 2 ^ 63 ∧ xs.length < sizeLine ∧ nx (Γ2.set i (some (ownL T (xs.take z.toNat ++ [y] ++ xs.drop z.toNat)))))
    (hd : (x == ("__debug__" : Str)) = false := by decide +kernel) (hcd : (x == ("__classdict__" : Str)) = false := by decide +kernel) (ok : MOk (.Name x px) "insert" ap e [f] p := by exact ⟨fun _ => rfl, fun _ => rfl, rfl, fun _ => rfl, fun _ => rfl⟩) (hsw : ∀ env, swapsWith (.Call (.Attribute (.Name x px) "insert" ap) [e, f] [] p) none pos.line env = pure false := by intro _; rfl) (he2 : ∀ env, starEach [f] env = (false, eval f env) :: starEach [] env := by intro _; rfl) :
    S1 c Γ (.Expr (.Call (.Attribute (.Name x px) "insert" ap) [e, f] [] p) pos) (⟨R, rt, nx, bk, ct⟩ : En ρ) := fun B σ F H hB S => by
  obtain ⟨X, rfl, rfl, rfl, rfl, rfl, rfl, nd, rfl, rfl, calm, room, pas⟩ := c
  refine of_ps (ps_expr (pe_bmW PySem.F.plainAttrs_list PySem.F.slot_list_insert PySem.F.type_list_insert mt_insert ok (pe_var (slotOf_at hs) (visB_vis hv) hd hcd) (pa_cons peW (pa_cons peW pa_nil (he2 _)) (ok.star _))) (hsw _)) ?_
  obtain ⟨xs0, hg⟩ := hg
  obtain ⟨p0, vs0, hv0, hp0, hr0, put0⟩ := S.ownPut hg
  refine ⟨_, hv0, .inl ⟨rfl, vs0, .inl (.inl hp0)⟩, h B σ F H S _ fun u z Γ1 F1 H1 S1 e1 r1 h1 => h1 B σ F1 H1 S1 _ fun t y Γ2 F2 H2 S2 e2 r2 ⟨xs1, hg1, z1, z2, z3, hn⟩ => ?_⟩
  obtain ⟨p1, vs1, hv1, hp1, hr1, put1⟩ := S2.ownPut hg1
  rw [hv0] at hv1; cases hv1
  have hz : u = .int z := r1
  subst hz
  exact ⟨p0, vs1, z, t, rfl, rfl, hp1, by rw [All2.length hr1]; exact z3, z1, z2, _, F2, put1 _ _ (All2.append (All2.append (All2.take _ hr1) (show All2 (T.r F2) [t] [y] from ⟨r2, trivial⟩)) (All2.drop _ hr1)), hn⟩
end
end
end Px
/-! Px, twelfth part: bounds of things; a part of an own list put anew; == of things. -/
namespace Px
open PySem PySem.Spec PyProof.Rows L2
def asc (s : Str) : Bool := s.cps.all (· < 128)
theorem upper_tab : ((List.range 128).all fun c => (Unicode.upperOf c).all (· < 128)) = true := by decide +kernel
theorem asc_upper {s : Str} (h : asc s = true) : asc (Txt.upper s) = true := by
  unfold asc at h ⊢
  rw [Array.all_eq_true_iff_forall_mem] at h ⊢
  intro c hc
  have hc' : c ∈ (s.cps.mapIdx fun _ c => (Unicode.upperOf c).toArray).flatten := hc
  rw [Array.mem_flatten] at hc'
  obtain ⟨l, hl, hcl⟩ := hc'
  obtain ⟨i, hi, rfl⟩ := Array.mem_mapIdx.mp hl
  have h1 := h _ (Array.getElem_mem hi)
  have h2 := List.all_eq_true.mp upper_tab (s.cps[i]) (by simpa using h1)
  exact List.all_eq_true.mp h2 c (by simpa using hcl)
theorem asc_ok {s : Str} (h : asc s = true)  : PyData.strOk s = true := by
  unfold asc at h
  unfold PyData.strOk
  rw [Array.all_eq_true_iff_forall_mem] at h ⊢
  intro c hc
  have := h c hc
  simp at this ⊢
  omega
theorem asc_app {s t : Str} (h : asc s = true) (h2 : asc t = true) : asc (s ++ t) = true := by
  show (s.cps ++ t.cps).all _ = true
  rw [Array.all_append]
  exact Bool.and_eq_true_iff.mpr ⟨h, h2⟩
theorem len_app (s t : Str) : (s ++ t).length = s.length + t.length := by show (s.cps ++ t.cps).size = _; rw [Array.size_append]; rfl
theorem asc_cut {s : Str} {lo hi : Option Int} (h : asc s = true) : asc (cutS s lo hi) = true := by
  unfold asc at h ⊢
  rw [Array.all_eq_true_iff_forall_mem] at h ⊢
  intro c hc
  have : c ∈ (s.cps.toList.drop (HT.sIx s.length 0 lo)).take (HT.sIx s.length s.length hi - HT.sIx s.length 0 lo) := by simpa [cutS] using hc
  exact h c (by simpa using List.mem_of_mem_drop (List.mem_of_mem_take this))
theorem len_cut (s : Str) (lo hi : Option Int) : (cutS s lo hi).length ≤ s.length := by
  show ((s.cps.toList.drop (HT.sIx s.length 0 lo)).take (HT.sIx s.length s.length hi - HT.sIx s.length 0 lo)).toArray.size ≤ s.cps.size
  simp
  omega
/-- a thing within bounds: its ints, its texts and tuples' lengths, its depth -/
inductive Sm (b : Int) (n : Nat) : Nat → PyData → Prop
  | non {k} : Sm b n k .none
  | bool {k x} : Sm b n k (.bool x)
  | int {k i} : -b ≤ i → i ≤ b → Sm b n k (.int i)
  | str {k s} : s.length ≤ n → asc s = true → Sm b n k (.str s)
  | list {k ds} : ds.length ≤ n → (∀ d, d ∈ ds → Sm b n k d) → Sm b n (k + 1) (.list ds)
  | tuple {k ds} : ds.length ≤ n → (∀ d, d ∈ ds → Sm b n k d) → Sm b n (k + 1) (.tuple ds)
theorem Sm.mono {b b' : Int} {n n' k k' : Nat} {d : PyData} (h : Sm b n k d) (hb : b ≤ b') (hn : n ≤ n') (hk : k ≤ k') : Sm b' n' k' d := by
  induction h generalizing k' with
  | non => exact .non
  | bool => exact .bool
  | int h1 h2 => exact .int (by omega) (by omega)
  | str h1 h2 => exact .str (by omega) h2
  | list h1 h2 ih =>
    obtain ⟨j, rfl⟩ : ∃ j, k' = j + 1 := ⟨k' - 1, by omega⟩
    exact .list (by omega) fun d hd => ih d hd (by omega)
  | tuple h1 h2 ih =>
    obtain ⟨j, rfl⟩ : ∃ j, k' = j + 1 := ⟨k' - 1, by omega⟩
    exact .tuple (by omega) fun d hd => ih d hd (by omega)
theorem layAll_of {ds : List PyData} (h : ∀ d, d ∈ ds → d.canLay0 = true) : PyData.canLayAll0 ds = true := by
  induction ds with
  | nil => rfl
  | cons d ds ih => rw [PyData.canLayAll0, h d (List.mem_cons_self), ih fun e he => h e (List.mem_cons_of_mem _ he)]; rfl
theorem depthAll_of {k : Nat} {ds : List PyData} (h : ∀ d, d ∈ ds → d.depth ≤ k) : PyData.depthAll ds ≤ k := by
  induction ds with
  | nil => exact Nat.zero_le _
  | cons d ds ih =>
    rw [PyData.depthAll]
    exact Nat.max_le.mpr ⟨h d List.mem_cons_self, ih fun e he => h e (List.mem_cons_of_mem _ he)⟩
theorem Sm.lay {b : Int} {n k : Nat} {d : PyData} (h : Sm b n k d) : d.canLay0 = true := by
  induction h with
  | non => rfl
  | bool => rfl
  | int => rfl
  | str h1 h2 => rw [PyData.canLay0]; exact asc_ok h2
  | list h1 h2 ih => rw [PyData.canLay0]; exact layAll_of ih
  | tuple h1 h2 ih => rw [PyData.canLay0]; exact layAll_of ih
theorem Sm.dep {b : Int} {n k : Nat} {d : PyData} (h : Sm b n k d) : d.depth ≤ k := by
  induction h with
  | non => exact Nat.zero_le _
  | bool => exact Nat.zero_le _
  | int => exact Nat.zero_le _
  | str h1 h2 => exact Nat.zero_le _
  | list h1 h2 ih => rw [PyData.depth]; exact Nat.succ_le_succ (depthAll_of ih)
  | tuple h1 h2 ih => rw [PyData.depth]; exact Nat.succ_le_succ (depthAll_of ih)
theorem Sm.shaped {b : Int} {n k : Nat} {d : PyData} (h : Sm b n k d) (hk : k ≤ 64) : SeqAt.shaped d = true := by
  unfold SeqAt.shaped
  rw [h.lay]
  simpa using Nat.le_trans h.dep hk
section
variable {prog : Program} {w : World} {A : Around} {E : Value → Shared → Prop} {s : Shared}
theorem bounds_cut {a c n : Nat} (hac : a ≤ c) (ha : a ≤ n) : sliceBounds (some (a : Int)) (some (c : Int)) none n = ((a : Int), ((min c n : Nat) : Int), 1) := by
  simp only [sliceBounds, Option.getD_none]
  have h1 : ¬ ((a : Int) < 0) := by omega
  have h2 : ¬ ((c : Int) < 0) := by omega
  simp only [h1, h2, if_false, show (1 : Int) > 0 by decide, if_true]
  congr 1
  · omega
  · congr 1; omega
theorem max_cut {a c n : Nat} (hac : a ≤ c) (ha : a ≤ n) : (max (a : Int) ((min c n : Nat) : Int)).toNat = min c n := by omega
/-- a list's part put anew: as the kit's rule for it, with an end beyond the list's -/
theorem setItem_cut {l b sl : Addr} {items new : Array Value} {n n2 : Nat} {vl vu : Value} {a c : Nat} {Q : Unit → Shared → Prop}
    (e : s.heap.get? l = some { cls := .type "list", data := .seq items n }) (e2 : s.heap.get? b = some { cls := .type "list", data := .seq new n2 }) (hne : l ≠ b)
    (hs : s.heap.IsSliceOf sl vl vu .none) (pl : IsPart vl (some (a : Int))) (pu : IsPart vu (some (c : Int))) (hac : a ≤ c) (ha : a ≤ items.size)
    (hsz : items.size + new.size ≤ sizeLine) (h : Q () { s with heap := s.heap.update l (Obj.mapSeq fun xs => xs.extract 0 a ++ new ++ xs.extract (min c items.size) xs.size) }) :
    wpAny (model prog w) A (setItem (.ref l) (.ref sl) (.ref b)) Q E s := by
  have hl : s.heap.IsList l items := PySem.IsL.isList e
  have hb : s.heap.IsList b new := PySem.IsL.isList e2
  obtain ⟨os, hos, hcs, hds⟩ := id hs
  have hT : s.TypeIs (.ref sl) "slice" := ⟨os, hos, hcs⟩
  unfold setItem
  try with_reducible refine wpAny_holding ?_
  first | refine wpAny_bind (wpAny_pure ?_) | skip
  refine wpAny_bind (wpAny_sequenceKey hl.typeIs (by decide) (wpAny_bind (wpAny_callSpecial?_slot (name := Str.ofString "__setitem__") hl.typeIs slot_list_setitem (wpAny_call_entry slot_list_setitem hl.typeIs entry_list_setitem ?_ (args_list_setitem _ _ _)))))
  show wpAny _ _ (Builtin.List.listSubscript? (.ref sl) >>= _) _ _ s
  refine wpAny_bind ?_
  unfold Builtin.List.listSubscript?
  refine wpAny_bind (wpAny_specialOf hT slice_no_index ?_)
  simp only [Option.isNone_none, if_true]
  refine wpAny_pure ?_
  show wpAny _ _ (typeOf (.ref sl) >>= _) _ _ s
  refine wpAny_bind (wpAny_typeOf hT ?_)
  first
    | rw [if_neg (by decide)]
    | refine PySem.W.KFB.if_not (by decide) ?_
  rw [listSliceParts_eq]
  refine wpAny_bind (wpAny_bind (wpAny_field hos hds (x := .none) rfl (wpAny_bind (wpAny_listPart .none ?_))))
  rw [if_neg (show ¬ ((rawPart none == rawInt 0) = true) from Bool.false_ne_true)]
  refine wpAny_bind (wpAny_field hos hds (x := vl) rfl (wpAny_bind (wpAny_listPart pl (wpAny_bind (wpAny_field hos hds (x := vu) rfl (wpAny_bind (wpAny_listPart pu (wpAny_pure ?_))))))))
  have hsame : Builtin.List.listSameRef (.ref l) (.ref b) = false := beq_eq_false_iff_ne.mpr hne
  first
    | simp only [hsame, Bool.false_eq_true, if_false]
    | refine PySem.W.KFB.if_not hsame ?_
    | (dsimp only
       rw [if_neg (by rw [hsame]; exact Bool.false_ne_true)])
  refine wpAny_bind (m := Builtin.List.listAllItems (.ref b) "must assign iterable to extended slice") ?_
  unfold Builtin.List.listAllItems
  refine wpAny_bind (wpAny_typeOf hb.typeIs ?_)
  first
    | refine PySem.W.KFB.if_so (by decide) ?_
    | rw [if_pos (by decide)]
    | simp only [beq_self_eq_true, Bool.true_or, if_true]
  unfold Builtin.List.listItems
  refine wpAny_bind (wpAny_seqItems e2 rfl (wpAny_pure (wpAny_bind (wpAny_bind (wpAny_seqItems e rfl (wpAny_pure ?_))))))
  refine wpAny_bind (wpAny_of_eq ((sliceIndices_raw (some (a : Int)) (some (c : Int)) none items.size (by simp)).trans (congrArg (pure : Int × Int × Int → Sem (Int × Int × Int)) (bounds_cut hac ha))) ?_)
  show wpAny _ _ (if ((1 : Int) == 1) = true then _ else _) _ _ s
  rw [if_pos (by decide)]
  refine wpAny_bind (wpAny_rule ?_)
  first
    | simp only [notLongL hsz, Bool.false_eq_true, if_false]
    | refine PySem.W.KFB.if_not (notLongL hsz) ?_
  first | refine wpAny_bind (wpAny_pure ?_) | skip
  show wpAny _ _ (updateSeq l (fun xs => xs.extract 0 ((a : Int)).toNat ++ new ++ xs.extract (max (a : Int) ((min c items.size : Nat) : Int)).toNat xs.size) >>= _) _ _ s
  rw [max_cut hac ha, Int.toNat_natCast]
  refine wpAny_bind (wpAny_updateSeq (hz := Nat.le_trans (Nat.le_add_right _ _) hsz) (_hz' := by
    simp only [Array.size_append, Array.size_extract]
    omega) e rfl ?_)
  refine wpAny_bind (wpAny_letGo ?_)
  first
    | exact wpAny_bind (wpAny_pure (wpAny_pure ⟨.none, rfl, wpAny_pure h⟩))
    | exact wpAny_pure ⟨.none, rfl, wpAny_pure h⟩
end
section
variable {X : Cx} {o f e1 e2 : Expr} {to t1 t2 : TE} {pt p2 : Pos}
/-- o[e1:e2] = v -/
def gCut (to t1 t2 : TE) : TG := fun v σ H Q => to σ H fun ov H1 => t1 σ H1 fun a H2 => ∃ ia, a = .int ia ∧ t2 σ H2 fun b H3 => ∃ ib, b = .int ib ∧ ∃ l y xs ys, ov = .ref l ∧ v = .ref y ∧ H3 l = some (.lst xs) ∧ H3 y = some (.lst ys) ∧ l ≠ y ∧
  0 ≤ ia ∧ ia ≤ ib ∧ ia ≤ xs.length ∧ xs.length + ys.length ≤ sizeLine ∧ Q σ (upd H3 l (.lst (xs.take ia.toNat ++ ys ++ xs.drop ib.toNat)))
theorem pg_cut (ho : PE X o to) (h1 : PE X e1 t1) (h2 : PE X e2 t2)
    (ha : ∀ v, assign (.Subscript o (.Slice (some e1) (some e2) none p2) pt) X.env v = (do
      let ov ← holding [v] (eval o X.env)
      let iv ← holding [v, ov] (eval (.Slice (some e1) (some e2) none p2) X.env)
      standAt pt
      holding [v, ov, iv] (setItem ov iv v)
      release [iv, v, ov] []) := by intro _; rfl) : PG X (.Subscript o (.Slice (some e1) (some e2) none p2) pt) (gCut to t1 t2) := by
  refine ⟨fun pins s σ H v u Q I r h => ?_⟩
  rw [ha]
  refine wpAny_bind (wpAny_holding (thn (ho.run pins s σ H _ I h) fun ov s1 ⟨x, H1, I1, r1, q1⟩ => ?_))
  refine wpAny_bind (wpAny_holding ?_)
  refine wpAny_Slice ?_
  rw [evalPart_some]
  refine thn (h1.run pins s1 σ H1 _ I1 q1) fun vl s2 ⟨a, H2, I2, ra, ia, ea, q2⟩ => ?_
  rw [evalPart_some]
  refine thn (h2.run pins s2 σ H2 _ I2 q2) fun vu s3 ⟨b, H3, I3, rb, ib, eb, l, y, xs, ys, ex, ey, hl, hy, hne, z0, z1, z2, z3, q3⟩ => ?_
  rw [evalPart_none]
  subst ea; subst eb; subst ex; subst ey
  obtain ⟨ta, rfl⟩ := ra
  obtain ⟨tb, rfl⟩ := rb
  cases (show ov = Value.ref l from r1)
  cases (show u = Value.ref y from r)
  refine wpAny_pure ?_
  have I4 : Inv X pins σ H3 { s3 with heap := s3.heap.push { cls := .type "slice", data := .fields #[.int ia ta, .int ib tb, .none] } } := I3.kept (t' := s3.toks) fun b ob q => Heap.get?_push_of_some _ q
  refine wpAny_bind (wpAny_standAt (wpAny_bind (wpAny_holding ?_)))
  obtain ⟨k, its, n, rv, hk, e⟩ := I4.lstM hl
  obtain ⟨k2, its2, n2, rv2, hk2, e2⟩ := I4.lstM hy
  obtain ⟨a', rfl⟩ := Int.eq_ofNat_of_zero_le z0
  obtain ⟨c', rfl⟩ := Int.eq_ofNat_of_zero_le (Int.le_trans z0 z1)
  simp only [Int.toNat_natCast] at q3
  refine setItem_cut (a := a') (c := c') e e2 hne (Heap.IsSliceOf.new ..) (.int _ _) (.int _ _) (by omega) (by rw [List.size_toArray]; omega) (by rw [List.size_toArray, List.size_toArray]; omega) ?_
  refine wpAny_release ⟨σ, _, I4.lset (its' := its.take a' ++ its2 ++ its.drop c') (t' := s3.toks) hl e ?_ (Vals.append (Vals.append (rv.take _) rv2) (rv.drop _)) ?_, q3⟩
  · have e5 : its.drop (min c' its.length) = its.drop c' := by
      by_cases h : c' ≤ its.length
      · rw [Nat.min_eq_left h]
      · rw [Nat.min_eq_right (by omega), List.drop_eq_nil_of_le (by omega), List.drop_eq_nil_of_le (by omega)]
    rw [List.size_toArray, ← e5]
    exact splice_eq its its2 a' (min c' its.length)
  · rw [List.length_append, List.length_append, List.length_take, List.length_drop]
    omega
end
section
variable {P : Program} {w : World} {K : PySem.W.Frag} {mg : Str → Option Value} {base : Heap} {lv : Nat} {N : List Str} {sc : Scope} {fn : Str → Bool}
variable {α β γ δ ρ : Type}
variable {c : Ctx P w K mg base lv N sc fn} {Γ : Gm} {e a b d tg iter elt f e1 e2 : Expr} {lo hi : Option Expr} {es ts ifs : List Expr} {pos pos' p p2 pt px : Pos} {T : Ty K α} {A : Ty K α} {B' : Ty K β} {C : Ty K γ} {D' : Ty K δ}
/-- x[e1:e2] = f -/
theorem w_setCut {R : Rs ρ} {rt : Gm → ρ → Prop} {nx bk ct : Gm → Prop} {i : Nat} {x : Str} (hs : slotOf N x 0 = some i) (hv : visB sc x = true)
    (h : EW c Γ f (tLst T) fun Γ1 zs => (∃ xs : List α, Γ1[i]? = some (some (ownL T xs))) ∧ EW c Γ1 e1 tInt fun Γ2 a => EW c Γ2 e2 tInt fun Γ3 b => ∃ xs, Γ3[i]? = some (some (ownL T xs)) ∧ 0 ≤ a ∧ a ≤ b ∧ a ≤ xs.length ∧ xs.length + zs.length ≤ sizeLine ∧ nx (Γ3.set i (some (ownL T (xs.take a.toNat ++ zs ++ xs.drop b.toNat)))))
    (hd : (x == ("__debug__" : Str)) = false := by decide +kernel) (hcd : (x == ("__classdict__" : Str)) = false := by decide +kernel)
    (hs1 : ∀ env, swapsWithSole [.Subscript (.Name x px) (.Slice (some e1) (some e2) none p2) pt] f pos.line env = pure false := by intro _; rfl) (hw : ∀ env, swappedStores [.Subscript (.Name x px) (.Slice (some e1) (some e2) none p2) pt] f env = pure none := by intro _; rfl)
    (ha : ∀ env v, assign (.Subscript (.Name x px) (.Slice (some e1) (some e2) none p2) pt) env v = (do
      let ov ← holding [v] (eval (.Name x px) env)
      let iv ← holding [v, ov] (eval (.Slice (some e1) (some e2) none p2) env)
      standAt pt
      holding [v, ov, iv] (setItem ov iv v)
      release [iv, v, ov] []) := by intro _ _; rfl) :
    S1 c Γ (.Assign [.Subscript (.Name x px) (.Slice (some e1) (some e2) none p2) pt] f pos) (⟨R, rt, nx, bk, ct⟩ : En ρ) := fun B σ F H hB S => by
  obtain ⟨X, rfl, rfl, rfl, rfl, rfl, rfl, nd, rfl, rfl, calm, room, pas⟩ := c
  refine of_ps (ps_asg peW (pg_cut (pe_var (i := i) (slotOf_at hs) (visB_vis hv) hd hcd) peW peW (ha _)) (hs1 _) (hw _)) ?_
  refine h B σ F H S _ fun u zs Γ1 F1 H1 S1 e1 r1 ⟨⟨xs0, hg0⟩, h1⟩ => ?_
  obtain ⟨p0, vs0, hv0, hp0, hr0, put0⟩ := S1.ownPut hg0
  refine ⟨_, hv0, h1 B σ F1 H1 S1 _ fun v2 ia Γ2 F2 H2 S2 e2 r2 h2 => ⟨ia, r2, h2 B σ F2 H2 S2 _ fun v3 ib Γ3 F3 H3 S3 e3 r3 ⟨xs, hg3, z0, z1, z2, z3, hn⟩ => ⟨ib, r3, ?_⟩⟩⟩
  obtain ⟨p1, vs1, hv1, hp1, hr1, put1⟩ := S3.ownPut hg3
  rw [hv0] at hv1; cases hv1
  obtain ⟨q1, ys, rfl, hq, hy⟩ := (tLst T).mono (e2.trans e3) r1
  refine ⟨p0, q1, vs1, ys, rfl, rfl, hp1, S3.sub _ _ hq, fun z => ?_, z0, z1, by rw [All2.length hr1]; exact z2, by rw [All2.length hr1, All2.length hy]; exact z3, _, F3, put1 _ _ (All2.append (All2.append (All2.take _ hr1) hy) (All2.drop _ hr1)), hn⟩
  subst z
  obtain ⟨v, ps, hv2, ⟨p, vs, e5, hq5, _⟩, ow⟩ := S3.get hg3
  rw [hv0] at hv2; cases hv2
  obtain rfl : p0 = p := V.ref.inj e5
  have := (ow p0 ((hq5 p0).mpr rfl)).1
  rw [hq] at this
  cases this
/-! ### == -/
theorem uni (c : Ctx P w K mg base lv N sc fn) : c.X.A.units + 64 < cLine := by have := c.room.un; omega
/-- x == [] of an own list -/
theorem tw_nilO {i : Nat} {x : Str} {ds : List PyData} {k : Gm → Bool → Prop} (hs : slotOf N x 0 = some i) (hv : visB sc x = true) (hg : Γ[i]? = some (some (ownL (tAny (K := K)) ds))) (hl : SeqAt.shaped (.list ds) = true) (h : k Γ ds.isEmpty)
    (hd : (x == ("__debug__" : Str)) = false := by decide +kernel) (hcd : (x == ("__classdict__" : Str)) = false := by decide +kernel) : TW c Γ (.Compare (.Name x px) [.Eq] [.List [] p2] pos) k := fun B σ F H S Q q => by
  have hu := uni c
  obtain ⟨X, rfl, rfl, rfl, rfl, rfl, rfl, nd, rfl, rfl, calm, room, pas⟩ := c
  refine of_pt (pt_cmpR (op_eqD hu) (pe_var (i := i) (slotOf_at hs) (visB_vis hv) hd hcd) (pe_lst pa_nil) (nomark _)) ?_
  obtain ⟨p0, vs0, hv0, hp0, hr0, put0⟩ := S.ownPut hg
  refine ⟨_, hv0, by show 0 ≤ sizeLine; omega, fun l hl2 => ?_⟩
  obtain ⟨S4, b1, b2, b3⟩ := S.make (o := .lst []) hl2
  have st := Step.frozen (o := .lst []) S.sub hl2
  have S5 := S.step st
  refine ⟨.list ds, .list [], .lst (.inl (.inl (by rw [upd_ne (fun z => by subst z; rw [hl2] at hp0; cases hp0)]; exact hp0))) (dp_of_all (All2.imp (fun _ _ r => dp_mono (st.ff.trans S5.sub) _ r) hr0)), .lst (.inl (.inl upd_same)) .nil, hl, by decide, ?_⟩
  have e0 : PyData.eqv (.list ds) (.list []) = ds.isEmpty := by cases ds <;> rfl
  rw [e0]
  exact ⟨_, rfl, q _ Γ _ _ S5 st.ff h⟩
/-- two things of one type, told as data -/
theorem ew_eqD {f : α → PyData} (hT : AsD T f) {k : Gm → Bool → Prop} (h : EW c Γ a T fun Γ1 x => EW c Γ1 b T fun Γ2 y => (SeqAt.shaped (f x) = true ∧ SeqAt.shaped (f y) = true) ∧ k Γ2 (PyData.eqv (f x) (f y))) : EW c Γ (.Compare a [.Eq] [b] pos) tBool k := fun B σ F H S Q q => by
  have hu := uni c
  obtain ⟨X, rfl, rfl, rfl, rfl, rfl, rfl, nd, rfl, rfl, calm, room, pas⟩ := c
  refine of_pe (pe_cmpR (op_eqD hu) peW peW (nomark _)) ?_
  refine h B σ F H S _ fun v x Γ1 F1 H1 S1 e1 r1 h1 => h1 B σ F1 H1 S1 _ fun u y Γ2 F2 H2 S2 e2 r2 ⟨⟨h2, h3⟩, h4⟩ => ?_
  exact ⟨f x, f y, dp_mono S2.sub _ (hT _ _ _ (T.mono e2 r1)), dp_mono S2.sub _ (hT _ _ _ r2), h2, h3, q _ _ Γ2 F2 H2 S2 (e1.trans e2) rfl h4⟩
theorem ew_neD {f : α → PyData} (hT : AsD T f) {k : Gm → Bool → Prop} (h : EW c Γ a T fun Γ1 x => EW c Γ1 b T fun Γ2 y => (SeqAt.shaped (f x) = true ∧ SeqAt.shaped (f y) = true) ∧ k Γ2 (!PyData.eqv (f x) (f y))) : EW c Γ (.Compare a [.NotEq] [b] pos) tBool k := fun B σ F H S Q q => by
  have hu := uni c
  obtain ⟨X, rfl, rfl, rfl, rfl, rfl, rfl, nd, rfl, rfl, calm, room, pas⟩ := c
  refine of_pe (pe_cmpR (op_neD hu) peW peW (nomark _)) ?_
  refine h B σ F H S _ fun v x Γ1 F1 H1 S1 e1 r1 h1 => h1 B σ F1 H1 S1 _ fun u y Γ2 F2 H2 S2 e2 r2 ⟨⟨h2, h3⟩, h4⟩ => ?_
  exact ⟨f x, f y, dp_mono S2.sub _ (hT _ _ _ (T.mono e2 r1)), dp_mono S2.sub _ (hT _ _ _ r2), h2, h3, q _ _ Γ2 F2 H2 S2 (e1.trans e2) rfl h4⟩
end
end Px
/-! Px, thirteenth part: written things of any kind; the promises of a law's makers of things. -/
namespace Px
open PySem PySem.Spec PyProof.Rows L2
section
variable {P : Program} {w : World} {K : PySem.W.Frag} {mg : Str → Option Value} {base : Heap} {lv : Nat} {N : List Str} {sc : Scope} {fn : Str → Bool}
variable {α β γ δ ρ : Type}
variable {c : Ctx P w K mg base lv N sc fn} {Γ : Gm} {e a b d tg iter elt f e1 e2 : Expr} {lo hi : Option Expr} {es ts ifs : List Expr} {pos pos' p p2 pt px : Pos} {T : Ty K α} {A : Ty K α} {B' : Ty K β} {C : Ty K γ} {D' : Ty K δ}
/-- len of an own list -/
theorem ew_lenO (bi : Bi mg) {x : Str} {i : Nat} {xs : List α} {k : Gm → Int → Prop} (hl : glB sc "len" = true) (hs : slotOf N x 0 = some i) (hv : visB sc x = true) (hg : Γ[i]? = some (some (ownL T xs))) (h : k Γ xs.length)
    (hd : (x == ("__debug__" : Str)) = false := by decide +kernel) (hcd : (x == ("__classdict__" : Str)) = false := by decide +kernel) (he : ∀ env, starEach [.Name x px] env = (false, eval (.Name x px) env) :: starEach [] env := by intro _; rfl) : EW c Γ (.Call (.Name "len" p) [.Name x px] [] pos) tInt k := fun B σ F H S Q q => by
  obtain ⟨X, rfl, rfl, rfl, rfl, rfl, rfl, nd, rfl, rfl, calm, room, pas⟩ := c
  refine of_pe (pe_callB call_len (glB_gl hl) bi.len boot_len_ (pa_cons (pe_var (i := i) (slotOf_at hs) (visB_vis hv) hd hcd) pa_nil (he _)) (by decide +kernel) (by decide +kernel) (he _) rfl) ?_
  obtain ⟨p0, vs0, hv0, hp0, hr0, put0⟩ := S.ownPut hg
  exact ⟨_, hv0, .ref p0, xs.length, rfl, .inl ⟨vs0, .inl (.inl hp0), (All2.length hr0).symm⟩, q _ _ Γ F H S (Same.refl _) rfl h⟩
/-- a <= b <= d -/
theorem ew_leLe {k : Gm → Bool → Prop} (h : EW c Γ a tInt fun Γ1 i => EW c Γ1 b tInt fun Γ2 j => (i ≤ j → EW c Γ2 d tInt fun Γ3 l => k Γ3 (decide (j ≤ l))) ∧ (¬ i ≤ j → k Γ2 false)) (hm : lastMarks [.LtE, .LtE] [b, d] = false := by with_unfolding_all rfl) : EW c Γ (.Compare a [.LtE, .LtE] [b, d] pos) tBool k := fun B σ F H S Q q => by
  refine of_pe (pe_chain op_le op_le peW peW peW hm) ?_
  refine h B σ F H S _ fun v i Γ1 F1 H1 S1 e1 r1 h1 => h1 B σ F1 H1 S1 _ fun u j Γ2 F2 H2 S2 e2 r2 ⟨h2, h3⟩ => ⟨i, j, r1, r2, decide (i ≤ j), rfl, ?_⟩
  by_cases z : i ≤ j
  · rw [if_pos (decide_eq_true z)]
    exact h2 z B σ F2 H2 S2 _ fun t l Γ3 F3 H3 S3 e3 r3 h4 => ⟨j, l, r2, r3, q _ _ Γ3 F3 H3 S3 ((e1.trans e2).trans e3) rfl h4⟩
  · rw [if_neg (fun e => z (of_decide_eq_true e))]
    exact q _ _ Γ2 F2 H2 S2 (e1.trans e2) rfl (h3 z)
theorem ea_I {k : Gm → PyData → Prop} (h : EW c Γ e tInt fun Γ1 i => k Γ1 (.int i)) : EW c Γ e tAny k := EW.as .int h asD_int
theorem ea_B {k : Gm → PyData → Prop} (h : EW c Γ e tBool fun Γ1 i => k Γ1 (.bool i)) : EW c Γ e tAny k := EW.as .bool h asD_bool
theorem ea_S {k : Gm → PyData → Prop} (h : EW c Γ e tStr fun Γ1 i => k Γ1 (.str i)) : EW c Γ e tAny k := EW.as .str h asD_str
theorem ea_TI {k : Gm → PyData → Prop} (h : EW c Γ e (tTup tInt) fun Γ1 i => k Γ1 (.tuple (i.map .int))) : EW c Γ e tAny k := EW.as (fun i : List Int => .tuple (i.map .int)) h (asD_tup asD_int)
theorem ea_LI {k : Gm → PyData → Prop} (h : EW c Γ e (tLst tInt) fun Γ1 i => k Γ1 (.list (i.map .int))) : EW c Γ e tAny k := EW.as (fun i : List Int => .list (i.map .int)) h (asD_lst asD_int)
theorem as_S {k : Gm → Str → Prop} (h : EW c Γ e tAny fun Γ1 z => ∃ s, z = .str s ∧ k Γ1 s) : EW c Γ e tStr k := fun B σ F H S Q q => h B σ F H S Q fun v z Γ' F' H' S' e' r' ⟨s, z1, z2⟩ => q v s Γ' F' H' S' e' (any_str (by rw [z1] at r'; exact r')) z2
theorem as_I {k : Gm → Int → Prop} (h : EW c Γ e tAny fun Γ1 z => ∃ s, z = .int s ∧ k Γ1 s) : EW c Γ e tInt k := fun B σ F H S Q q => h B σ F H S Q fun v z Γ' F' H' S' e' r' ⟨s, z1, z2⟩ => q v s Γ' F' H' S' e' (any_int (by rw [z1] at r'; exact r')) z2
theorem as_B {k : Gm → Bool → Prop} (h : EW c Γ e tAny fun Γ1 z => ∃ s, z = .bool s ∧ k Γ1 s) : EW c Γ e tBool k := fun B σ F H S Q q => h B σ F H S Q fun v z Γ' F' H' S' e' r' ⟨s, z1, z2⟩ => q v s Γ' F' H' S' e' (any_bool (by rw [z1] at r'; exact r')) z2
theorem as_T {k : Gm → List PyData → Prop} (h : EW c Γ e tAny fun Γ1 z => ∃ s, z = .tuple s ∧ k Γ1 s) : EW c Γ e (tTup tAny) k := fun B σ F H S Q q => h B σ F H S Q fun v z Γ' F' H' S' e' r' ⟨s, z1, z2⟩ => q v s Γ' F' H' S' e' (any_tup (by rw [z1] at r'; exact r')) z2
theorem as_Q {k : Gm → List PyData → Prop} (h : EW c Γ e tAny fun Γ1 z => ∃ s, z = .list s ∧ k Γ1 s) : EW c Γ e (tSeq tAny) k := fun B σ F H S Q q => h B σ F H S Q fun v z Γ' F' H' S' e' r' ⟨s, z1, z2⟩ => q v s Γ' F' H' S' e' (any_lst (by rw [z1] at r'; exact r')) z2
theorem ea_int {i : Int} {j} {k : Gm → PyData → Prop} (hk : k Γ (.int i)) : EW c Γ (.Constant (.int i) j pos) tAny k := ea_I (ew_int hk)
theorem ea_bl {i : Bool} {j} {k : Gm → PyData → Prop} (hk : k Γ (.bool i)) : EW c Γ (.Constant (.bool i) j pos) tAny k := ea_B (ew_bl hk)
theorem ea_str {i : Str} {j} {k : Gm → PyData → Prop} (hk : k Γ (.str i)) : EW c Γ (.Constant (.str i) j pos) tAny k := ea_S (ew_str hk)
theorem ea_non {j} {k : Gm → PyData → Prop} (hk : k Γ .none) : EW c Γ (.Constant .none j pos) tAny k := EW.as (fun _ => .none) (ew_non hk) asD_non
theorem ea_neg {j p1} {i : Int} {k : Gm → PyData → Prop} (hk : k Γ (.int (-i))) : EW c Γ (.UnaryOp .USub (.Constant (.int i) j p1) pos) tAny k := ea_I (ew_neg (ew_int hk))
theorem ea_pow {j j2 p1 p2} {i n : Int} {k : Gm → PyData → Prop} (h : CPow i n) (hk : k Γ (.int (i ^ n.toNat))) : EW c Γ (.BinOp (.Constant (.int i) j p1) .Pow (.Constant (.int n) j2 p2) pos) tAny k := ea_I (ew_pow (ew_int (ew_int ⟨h, hk⟩)))
theorem ea_lst {k : Gm → PyData → Prop} (h : EWL c Γ es tAny fun Γ1 ds => ds.length ≤ sizeLine ∧ k Γ1 (.list ds)) : EW c Γ (.List es pos) tAny k := EW.as .list (ew_el (el_lst h)) fun _ _ _ => lst_any
theorem ea_tup {x1} {k : Gm → PyData → Prop} (h : EWL c Γ es tAny fun Γ1 ds => ds.length ≤ sizeLine ∧ k Γ1 (.tuple ds)) : EW c Γ (.Tuple es x1 pos) tAny k := EW.as .tuple (ew_tupL h) fun _ _ _ => tup_any
theorem ea_L {k : Gm → PyData → Prop} (h : EW c Γ e (tLst tAny) fun Γ1 i => k Γ1 (.list i)) : EW c Γ e tAny k := EW.as .list h fun _ _ _ => lst_any
theorem ea_T {k : Gm → PyData → Prop} (h : EW c Γ e (tTup tAny) fun Γ1 i => k Γ1 (.tuple i)) : EW c Γ e tAny k := EW.as .tuple h fun _ _ _ => tup_any
end
theorem all2_ex {α β : Type} {p : β → Prop} : ∀ {as : List α} {os : List (Option β)}, All2 (fun _ o => ∃ d, o = some d ∧ p d) as os → (os.filterMap id).length = as.length ∧ ∀ d, d ∈ os.filterMap id → p d
  | [], [], _ => ⟨rfl, fun d h => nomatch h⟩
  | x :: as, o :: os, h => by
    obtain ⟨⟨d, rfl, hd⟩, h⟩ := h
    obtain ⟨h1, h2⟩ := all2_ex h
    rw [List.filterMap_cons_some (f := id) (b := d) rfl]
    refine ⟨congrArg (· + 1) h1, fun e he => ?_⟩
    rcases List.mem_cons.mp he with rfl | he
    · exact hd
    · exact h2 e he
/-- is a thing a whole number between two -/
def isBet : PyData → Int → Int → Bool
  | .int i, lo, hi => decide (lo ≤ i) && decide (i ≤ hi)
  | _, _, _ => false
abbrev spBet (K : PySem.W.Frag) : Sp := spP (fun i : PyData × Int × Int => [tv (tAny (K := K)) i.1, tv (tInt (K := K)) i.2.1, tv (tInt (K := K)) i.2.2]) (tBool (K := K)) (fun _ => True) (fun i r => r = isBet i.1 i.2.1 i.2.2)
abbrev spTruly (K : PySem.W.Frag) : Sp := spP (fun i : Bool × Bool => [tv (tBool (K := K)) i.1, tv (tBool (K := K)) i.2]) (tBool (K := K)) (fun _ => True) (fun i r => r = decide (i.1 = i.2))
/-! ### things' items -/
theorem sm_items {b : Int} {n k : Nat} {t : PyData} (h : Sm b n k t) (hs : isSq t) : ∃ k', k = k' + 1 ∧ (itemsD t).length ≤ n ∧ ∀ d, d ∈ itemsD t → Sm b n k' d := by
  cases h with
  | list h1 h2 => exact ⟨_, rfl, h1, h2⟩
  | tuple h1 h2 => exact ⟨_, rfl, h1, h2⟩
  | _ => exact hs.elim
abbrev bT : Int := 10 ^ 40
/-- what becomes of a thing that is within bounds -/
def Gd1 (t : PyData) (x : PyData) : Prop := ∀ b n k, Sm b n k t → bT ≤ b → 10 ≤ n → Sm (2 * b + 300) (3 * n) (k + 3) x
def Gd (t : PyData) (ds : List PyData) : Prop := ∀ b n k, Sm b n k t → bT ≤ b → 10 ≤ n → ds.length ≤ 3 * n ∧ ∀ d, d ∈ ds → Sm (2 * b + 300) (3 * n) (k + 3) d
def GdR (t : PyData) (r : PyData) : Prop := ∀ b n k, Sm b n k t → bT ≤ b → 10 ≤ n → Sm (2 * b + 300) (3 * n) (k + 4) r
theorem Gd.lst {t : PyData} {ds : List PyData} (h : Gd t ds) : GdR t (.list ds) := fun b n k h1 h2 h3 => .list (h b n k h1 h2 h3).1 (h b n k h1 h2 h3).2
theorem Gd.tup {t : PyData} {ds : List PyData} (h : Gd t ds) : GdR t (.tuple ds) := fun b n k h1 h2 h3 => .tuple (h b n k h1 h2 h3).1 (h b n k h1 h2 h3).2
theorem bT_pos : (0 : Int) ≤ bT := by decide +kernel
theorem Gd.sub {t : PyData} {ds : List PyData} (hs : isSq t) (h : ∀ d, d ∈ ds → d ∈ itemsD t) (hl : ds.length ≤ (itemsD t).length + 1 ∨ ds.length ≤ 3 * (itemsD t).length) : Gd t ds := fun b n k h1 h2 h3 => by
  obtain ⟨k', rfl, i1, i2⟩ := sm_items h1 hs
  have := bT_pos
  exact ⟨by omega, fun d hd => (i2 d (h d hd)).mono (by omega) (by omega) (by omega)⟩
theorem Gd.set {t x : PyData} {ds : List PyData} {j : Nat} (h : Gd t ds) (hx : Gd1 t x) : Gd t (ds.set j x) := fun b n k h1 h2 h3 => by
  refine ⟨by rw [List.length_set]; exact (h b n k h1 h2 h3).1, fun d hd => ?_⟩
  rcases List.mem_or_eq_of_mem_set hd with z | z
  · exact (h b n k h1 h2 h3).2 d z
  · rw [z]; exact hx b n k h1 h2 h3
theorem Gd1.of {t x : PyData} {k' : Nat} (h : Sm bT 10 k' x) (hk : k' ≤ 3) : Gd1 t x := fun b n k h1 h2 h3 => by
  have := bT_pos
  exact h.mono (by omega) (by omega) (by omega)
theorem Gd1.str {t : PyData} {s s' : Str} (hs : isSq t) (hm : .str s ∈ itemsD t) (h1 : s'.length ≤ 3 * s.length + 10) (h2 : s'.length ≤ 3 * s.length ∨ s'.length ≤ s.length + 10) (h3 : asc s = true → asc s' = true) : Gd1 t (.str s') := fun b n k e1 e2 e3 => by
  obtain ⟨k', rfl, i1, i2⟩ := sm_items e1 hs
  cases i2 _ hm with
  | str q1 q2 => exact .str (by omega) (h3 q2)
theorem Gd1.int {t : PyData} {i i' : Int} (hs : isSq t) (hm : .int i ∈ itemsD t) (h1 : i' ≤ i + 300 ∨ i' ≤ 2 * i ∨ i' ≤ -i + 300) (h2 : i - 300 ≤ i' ∨ 2 * i ≤ i' ∨ -i - 300 ≤ i') : Gd1 t (.int i') := fun b n k e1 e2 e3 => by
  obtain ⟨k', rfl, i1, i2⟩ := sm_items e1 hs
  have := bT_pos
  cases i2 _ hm with
  | int q1 q2 => exact .int (by omega) (by omega)
theorem Gd1.same {t x : PyData} (hs : isSq t) (hm : x ∈ itemsD t) : Gd1 t x := fun b n k e1 e2 e3 => by
  obtain ⟨k', rfl, i1, i2⟩ := sm_items e1 hs
  have := bT_pos
  exact (i2 _ hm).mono (by omega) (by omega) (by omega)
theorem Gd1.lst {t : PyData} {ds : List PyData} (hs : isSq t) (hm : .tuple ds ∈ itemsD t) : Gd1 t (.list ds) := fun b n k e1 e2 e3 => by
  obtain ⟨k', rfl, i1, i2⟩ := sm_items e1 hs
  have := bT_pos
  cases i2 _ hm with
  | tuple q1 q2 => exact (Sm.list q1 q2).mono (by omega) (by omega) (by omega)
theorem Gd1.deep {t x y : PyData} (hs : isSq t) (hm : x ∈ itemsD t) (h : GdR x y) : Gd1 t y := fun b n k e1 e2 e3 => by
  obtain ⟨k', rfl, i1, i2⟩ := sm_items e1 hs
  exact (h b n k' (i2 _ hm) e2 e3).mono (Int.le_refl _) (Nat.le_refl _) (by omega)
/-- a pick of a list -/
abbrev spOf {K : PySem.W.Frag} {α : Type} (A : Ty K α) : Sp := spD (fun ds : List α => [tv (tLst A) ds]) A (fun ds => 0 < ds.length ∧ ds.length < 100000) (fun ds r => r ∈ ds)
/-- a thing of any kind -/
abbrev spThing (K : PySem.W.Frag) (m : Nat) : Sp := spD (fun n : Int => [tv (tInt (K := K)) n]) (tAny (K := K)) (fun n => n = m) (fun _ r => Sm bT 10 (m + 1) r)
/-- a thing spoilt at a place -/
abbrev spOther (K : PySem.W.Frag) (m : Nat) : Sp := spD (fun i : PyData × Int => [tv (tAny (K := K)) i.1, tv (tInt (K := K)) i.2]) (tAny (K := K))
  (fun i => i.2 = m ∧ isSq i.1 ∧ ∃ n k, Sm (2 ^ 400) n k i.1 ∧ n ≤ 1000 ∧ k ≤ 40)
  (fun i r => isSq r ∧ GdR i.1 r)
end Px
/-! Px, fourteenth part: texts; all(..); len(set(..)); in a tuple of things. -/
namespace Px
open PySem PySem.Spec PyProof.Rows L2
def sg (c : Nat) : Str := ⟨#[c]⟩
def signs (s : Str) : List Str := s.cps.toList.map sg
theorem signs_len (s : Str) : (signs s).length = s.length := by unfold signs; rw [List.length_map]; rfl
/-! ### len(set(..)) -/
def dedup (ns : List Int) : List Int := PyProof.Rows.firstMet (fun i => ns.getD i 0) ns.length
theorem mem_first {f : Nat → Int} {x : Int} : ∀ {n : Nat}, x ∈ PyProof.Rows.firstMet f n ↔ ∃ i, i < n ∧ f i = x
  | 0 => by rw [PyProof.Rows.firstMet_zero]; simp
  | n + 1 => by
    have ih := mem_first (f := f) (x := x) (n := n)
    rw [PyProof.Rows.firstMet_succ]
    unfold step_dedup
    split
    · rename_i h
      rw [ih]
      constructor
      · rintro ⟨i, h1, h2⟩; exact ⟨i, by omega, h2⟩
      · rintro ⟨i, h1, h2⟩
        by_cases z : i = n
        · subst z
          obtain ⟨y, hy, e⟩ := List.any_eq_true.mp h
          have e' : y = f i := eq_of_beq e
          rw [e', h2] at hy
          exact ih.mp hy
        · exact ⟨i, by omega, h2⟩
    · rw [List.mem_append, ih, List.mem_singleton]
      constructor
      · rintro (⟨i, h1, h2⟩ | h)
        · exact ⟨i, by omega, h2⟩
        · exact ⟨n, by omega, h.symm⟩
      · rintro ⟨i, h1, h2⟩
        by_cases z : i = n
        · subst z; exact .inr h2.symm
        · exact .inl ⟨i, by omega, h2⟩
theorem first_const {f : Nat → Int} {y : Int} : ∀ {n : Nat}, (∀ i, i < n + 1 → f i = y) → PyProof.Rows.firstMet f (n + 1) = [y]
  | 0, h => by
    rw [PyProof.Rows.firstMet_succ, PyProof.Rows.firstMet_zero, h 0 (by omega)]
    rfl
  | n + 1, h => by
    rw [PyProof.Rows.firstMet_succ, first_const (n := n) (fun i hi => h i (by omega)), h (n + 1) (by omega)]
    unfold step_dedup
    simp
/-- the numbers of a list are one alone just where they are all alike -/
theorem dedup_one {n : Int} {ns : List Int} : (dedup (n :: ns)).length = 1 ↔ ∀ m, m ∈ ns → m = n := by
  unfold dedup
  constructor
  · intro h m hm
    obtain ⟨y, hy⟩ := List.length_eq_one_iff.mp h
    have e : ∀ x, x ∈ n :: ns → x = y := fun x hx => by
      obtain ⟨i, hi, ei⟩ := List.getElem_of_mem hx
      have : x ∈ PyProof.Rows.firstMet (fun i => (n :: ns).getD i 0) (n :: ns).length := mem_first.mpr ⟨i, hi, by rw [← ei]; simp [List.getD_eq_getElem?_getD, List.getElem?_eq_getElem hi]⟩
      rw [hy] at this
      simpa using this
    rw [e m (List.mem_cons_of_mem _ hm), e n List.mem_cons_self]
  · intro h
    rw [List.length_cons, first_const (y := n)]
    · rfl
    · intro i hi
      cases i with
      | zero => rfl
      | succ i =>
        have hi' : i < ns.length := by omega
        have : (n :: ns).getD (i + 1) 0 = ns[i] := by simp [List.getD_eq_getElem?_getD, List.getElem?_eq_getElem hi']
        show (n :: ns).getD (i + 1) 0 = n
        rw [this]
        exact h _ (List.getElem_mem hi')
def tLenSetG (K : PySem.W.Frag) (ta : TE) : TE := fun σ H Q => ta σ H fun x H1 => ∃ (l : Addr) (ns : List Int), x = .ref l ∧ SqL K H1 l (ns.map V.int) ∧ ns.length ≤ 4000 ∧ Q (.int ((dedup ns).length : Nat)) H1
theorem pe_lenSetG {X : Cx} {a : Expr} {ta : TE} {p p2 q pos : Pos} (hg : Gl X "len") (hm : X.mg "len" = none) (hg2 : Gl X "set") (hm2 : X.mg "set" = none) (ha : PE X a ta) (hc : X.calm = true)
    (na : starEach [a] X.env = (false, eval a X.env) :: starEach [] X.env) : PE X (.Call (.Name "len" p) [.Call (.Name "set" p2) [a] [] q] [] pos) (tLenSetG X.K ta) := by
  refine ⟨fun pins s σ H Q I h => ?_⟩
  refine Call_ (ld_blt I hg hm PySem.boot_len ?_)
  refine PyProof.Rows.callWith_builtin1 (PyProof.Rows.args_cons ?_ rfl) rfl rfl
  refine Call_ (ld_blt I hg2 hm2 PyProof.Rows.boot_set ?_)
  refine PyProof.Rows.callWith_type1 (PyProof.Rows.args_cons (thn (ha.run pins s σ H _ I h) fun v s1 ⟨x, H1, I1, r1, q1⟩ => PyProof.Rows.args_nil ?_) na) na rfl
  obtain ⟨l, ns, rfl, hq, hl, q1⟩ := q1
  cases r1
  obtain ⟨its, r, pl, hz⟩ := I1.list hq
  have hlen : its.toArray.size = ns.length := by rw [List.size_toArray, ← r.length, List.length_map]
  refine call_set_list (I1.ok.hd hc) pl.isList (ns := ns) (by simpa using r.ints) (by rw [hlen]; unfold scanBound; omega) fun h' tk hS hk => ?_
  refine PyProof.Rows.args_nil ?_
  rw [hlen] at hS
  have hdl : (dedup ns).length ≤ ns.length := PyProof.Rows.firstMet_length_le _ _
  obtain ⟨o, es, ep, t, ho, hex, hd, _, _, _, hf, hn⟩ := hS
  have I2 : Inv X pins σ H1 { s1 with heap := h', toks := tk } := I1.kept fun b o e => hk b o (Heap.lt_size e) e
  exact call_len_set ho hex hd hf (by rw [hn]; show ((dedup ns).length : Int) < _; omega) ⟨.int (dedup ns).length, H1, I2.tok _, ⟨_, by rw [hn]; rfl⟩, q1⟩
/-! ### a text so many times -/
def repS (s : Str) (n : Nat) : Str := ⟨(List.replicate n s.cps).foldl (· ++ ·) #[]⟩
theorem rep_size (a : Array Nat) : ∀ (n : Nat) (i : Array Nat), ((List.replicate n a).foldl (· ++ ·) i).size = i.size + n * a.size
  | 0, i => by simp
  | n + 1, i => by
    rw [List.replicate_succ, List.foldl_cons, rep_size a n, Array.size_append, Nat.succ_mul]
    omega
theorem repS_len (s : Str) (n : Nat) : (repS s n).length = n * s.length := by
  have := rep_size s.cps n #[]
  show ((List.replicate n s.cps).foldl (· ++ ·) #[]).size = n * s.cps.size
  rw [this]
  simp
theorem rep_all (p : Nat → Bool) (a : Array Nat) (h : a.all p = true) : ∀ (n : Nat) (i : Array Nat), i.all p = true → ((List.replicate n a).foldl (· ++ ·) i).all p = true
  | 0, i, hi => by simpa using hi
  | n + 1, i, hi => by
    rw [List.replicate_succ, List.foldl_cons]
    exact rep_all p a h n _ (by rw [Array.all_append, hi, h]; rfl)
theorem asc_rep {s : Str} (n : Nat) (h : asc s = true) : asc (repS s n) = true := rep_all _ s.cps h n #[] (by simp)
def rRepS : R2 := fun x y H Q => ∃ s n, x = .str s ∧ y = .int n ∧ 2 ≤ n ∧ n ≤ 1000 ∧ s.length ≠ 0 ∧ s.length ≤ 1000 ∧ Q (.str (repS s n.toNat)) H
theorem op_repS {X : Cx} : OpR X (binaryOp .Mult) rRepS := by
  intro pins s σ H x y v u Q I rx ry h
  obtain ⟨z, n, rfl, rfl, h1, h2, h3, h4, q⟩ := h
  obtain ⟨t, rfl⟩ := rx
  obtain ⟨t', rfl⟩ := ry
  refine PySem.P.mul_str (by simp; omega) (fun _ _ => ?_) (fun _ _ => ?_) ?_
  · have : (z.length : Int) ≤ (2 ^ 63 - 1) / n := (Int.le_ediv_iff_mul_le (by omega)).mpr (by
      have : (z.length : Int) * n ≤ 1000 * 1000 := Int.mul_le_mul (by omega) h2 (by omega) (by omega)
      omega)
    omega
  · refine PyProof.Rows.short24 ?_
    have : z.length * n.toNat ≤ 1000 * 1000 := Nat.mul_le_mul h4 (by omega)
    omega
  · have e1 : ¬ n < 1 := by omega
    have e2 : ¬ (n == 1 || z.length == 0) = true := by simp; omega
    rw [if_neg e1, if_neg e2]
    refine ⟨?_, .str _, H, I.tok _, ⟨_, rfl⟩, q⟩
    have h6 := repS_len z n.toNat
    have h7 : n.toNat * z.length ≤ 1000 * 1000 := Nat.mul_le_mul (by omega) h4
    have h8 : 1000 * 1000 ≤ sizeLine := by decide +kernel
    exact Nat.le_trans (Nat.le_of_eq h6) (Nat.le_trans h7 h8)
/-! ### drawings -/
def low (s : Str) : Prop := ∀ z, z ∈ s.cps.toList → 97 ≤ z ∧ z ≤ 122
structure IsDr (n : Int) (rows : List Str) : Prop where
  h1 : 1 ≤ rows.length
  h2 : (rows.length : Int) ≤ n
  wd : ∃ m : Nat, 1 ≤ m ∧ (m : Int) ≤ n ∧ ∀ r, r ∈ rows → r.length = m ∧ low r
theorem asc_low {s : Str} (h : low s) : asc s = true := by
  unfold asc
  rw [Array.all_eq_true_iff_forall_mem]
  intro z hz
  have := h z (by simpa using hz)
  simp
  omega
def one1 (y : Str) : Prop := ∃ z, y = sg z ∧ 97 ≤ z ∧ z ≤ 122
theorem glue_one : ∀ (ys : List Str) (acc : Array Nat), (∀ y, y ∈ ys → one1 y) → (∀ z, z ∈ acc.toList → 97 ≤ z ∧ z ≤ 122) → ((ys.foldl (fun acc p => acc ++ (#[] : Array Nat) ++ p.cps) acc).size = acc.size + ys.length ∧ ∀ z, z ∈ (ys.foldl (fun acc p => acc ++ (#[] : Array Nat) ++ p.cps) acc).toList → 97 ≤ z ∧ z ≤ 122)
  | [], acc, _, h => ⟨rfl, h⟩
  | y :: ys, acc, hy, h => by
    obtain ⟨z, rfl, z1, z2⟩ := hy y List.mem_cons_self
    have ih := glue_one ys (acc ++ (#[] : Array Nat) ++ (sg z).cps) (fun y h => hy y (List.mem_cons_of_mem _ h)) (fun t ht => by
      have : t ∈ acc.toList ∨ t = z := by simpa [sg] using ht
      rcases this with q | q
      · exact h t q
      · omega)
    rw [List.foldl_cons]
    refine ⟨?_, ih.2⟩
    rw [ih.1]
    simp [sg]
    omega
theorem join_one {ys : List Str} (h : ∀ y, y ∈ ys → one1 y) : (Txt.join "" ys).length = ys.length ∧ low (Txt.join "" ys) := by
  cases ys with
  | nil => exact ⟨rfl, fun z hz => by simp [Txt.join, Builtin.Str.glued, Str.empty] at hz⟩
  | cons y ys =>
    obtain ⟨z, rfl, z1, z2⟩ := h y List.mem_cons_self
    have := glue_one ys (sg z).cps (fun y hy => h y (List.mem_cons_of_mem _ hy)) (fun t ht => by
      have : t = z := by simpa [sg] using ht
      omega)
    refine ⟨?_, this.2⟩
    have e := this.1
    show (ys.foldl (fun acc p => acc ++ (#[] : Array Nat) ++ p.cps) (sg z).cps).size = ys.length + 1
    rw [e]
    simp [sg]
    omega
abbrev spOfS (K : PySem.W.Frag) : Sp := spD (fun s : Str => [tv (tStr (K := K)) s]) (tStr (K := K)) (fun s => 0 < s.length ∧ s.length < 100000) (fun s r => ∃ z, r = sg z ∧ z ∈ s.cps.toList)
/-! ### not in a tuple of things -/
def rNotInTD (K : PySem.W.Frag) : R2 := fun x y H Q => ∃ d ds, Dp K H x d ∧ Dp K H y (.tuple ds) ∧ SeqAt.shaped d = true ∧ SeqAt.shaped (.tuple ds) = true ∧ Q (.bl (!ds.any fun z => PyData.eqv z d)) H
theorem op_notInTD {X : Cx} (hu : X.A.units + 66 < cLine) : OpR X (compareOp .NotIn) (rNotInTD X.K) := by
  intro pins s σ H x y v u Q I rx ry h
  obtain ⟨d, ds, hd, he, sd, se, q⟩ := h
  obtain ⟨as, r1⟩ := Dp.reads I d x v hd rx
  obtain ⟨bs, r2⟩ := Dp.reads I (.tuple ds) y u he ry
  have h1 := SeqAt.depth_of_shaped sd
  have h2 := SeqAt.canLay_of_shaped se
  rw [PyData.canLay0] at h2
  exact SeqAt.notIn_tuple_reads r2 r1 h2 (SeqAt.canLay_of_shaped sd) (by have := Nat.min_le_right (PyData.depthAll ds) d.depth; omega) ⟨.bl _, H, I, rfl, q⟩
section
variable {P : Program} {w : World} {K : PySem.W.Frag} {mg : Str → Option Value} {base : Heap} {lv : Nat} {N : List Str} {sc : Scope} {fn : Str → Bool}
variable {α β γ δ ρ : Type}
variable {c : Ctx P w K mg base lv N sc fn} {Γ : Gm} {e a b d tg iter elt f e1 e2 : Expr} {lo hi : Option Expr} {es ts ifs : List Expr} {pos pos' p p2 pt px q2 : Pos} {T : Ty K α} {A : Ty K α} {B' : Ty K β} {C : Ty K γ} {D' : Ty K δ}
theorem ew_lenS (bi : Bi mg) {k : Gm → Int → Prop} (hg : glB sc "len" = true) (h : EW c Γ a tStr fun Γ1 s => s.length ≤ sizeLine ∧ k Γ1 s.length) (he : ∀ env, starEach [a] env = (false, eval a env) :: starEach [] env := by intro _; rfl) : EW c Γ (.Call (.Name "len" p) [a] [] pos) tInt k :=
  ew_B (id := "len") (r := rLen K) (fun hK _ => by rw [← hK]; exact call_len) hg bi.len boot_len_ (ews_cons (h.imp fun _ x hx => ews_nil (fun F H xs S r Q q => match xs, r with
    | [v], ⟨r, _⟩ => by
      obtain rfl : v = .str x := r
      exact ⟨_, x.length, rfl, ⟨hx.1, rfl⟩, q _ F H _ (Step.refl S) rfl hx.2⟩)) he) (he := he)
theorem ew_lenSet (bi : Bi mg) {k : Gm → Int → Prop} (hg : glB sc "len" = true) (hg2 : glB sc "set" = true) (h : EW c Γ a (tLst tInt) fun Γ1 ns => ns.length ≤ 4000 ∧ k Γ1 (dedup ns).length) (he : ∀ env, starEach [a] env = (false, eval a env) :: starEach [] env := by intro _; rfl) : EW c Γ (.Call (.Name "len" p) [.Call (.Name "set" p2) [a] [] q2] [] pos) tInt k := fun B σ F H S Q q => by
  obtain ⟨X, rfl, rfl, rfl, rfl, rfl, rfl, nd, rfl, rfl, calm, room, pas⟩ := c
  refine of_pe (pe_lenSetG (glB_gl hg) bi.len (glB_gl hg2) bi.set peW calm (he _)) (h B σ F H S _ fun v ns Γ1 F1 H1 S1 e1 ⟨l, vs, ev, hl, hr⟩ h1 => ?_)
  have ev2 : vs = ns.map V.int := All2.eq_map (fun _ _ r => r) hr
  subst ev2
  exact ⟨l, ns, ev, .inl (.inl (S1.sub _ _ hl)), h1.1, q _ _ Γ1 F1 H1 S1 e1 rfl h1.2⟩
theorem ew_all (bi : Bi mg) {k : Gm → Bool → Prop} (hg : glB sc "all" = true) (h : EW c Γ a (tLst tBool) fun Γ1 bs => k Γ1 (bs.all id)) (he : ∀ env, starEach [a] env = (false, eval a env) :: starEach [] env := by intro _; rfl) : EW c Γ (.Call (.Name "all" p) [a] [] pos) tBool k :=
  ew_B (id := "all") (r := rAll K) (fun hK hc => by rw [← hK]; exact cr_all hc) hg bi.all (by decide +kernel) (ews_cons (h.imp fun _ bs hx => ews_nil (fun F H xs S r Q q => match xs, r with
    | [v], ⟨⟨l, vs, ev, hl, hr⟩, _⟩ => by
      have ev2 : vs = bs.map V.bl := All2.eq_map (fun _ _ r => r) hr
      subst ev2
      exact ⟨l, bs, by rw [ev], .inl (.inl (S _ _ hl)), q _ F H _ (Step.refl S) rfl hx⟩)) he) (he := he)
theorem ew_ixS {k : Gm → Str → Prop} (h : EW c Γ a tStr fun Γ1 s => EW c Γ1 b tInt fun Γ2 i => s.length ≤ sizeLine ∧ ∃ z, atI s.cps.toList i = some z ∧ k Γ2 (sg z)) (hs : PlainIx b := by intro _ _; rfl) : EW c Γ (.Subscript a b pos) tStr k :=
  ew_ixG (r := rIxS) (fun hK => ix_str) (h.imp fun _ s h => h.imp fun _ i ⟨h0, x, h1, h2⟩ => fun F H u v S eu ev Q q => ⟨s, i, x, eu, ev, h0, h1, q _ F H _ (Step.refl S) rfl h2⟩) hs
theorem ew_repS {k : Gm → Str → Prop} (h : EW c Γ a tStr fun Γ1 s => EW c Γ1 b tInt fun Γ2 n => (2 ≤ n ∧ n ≤ 1000 ∧ s.length ≠ 0 ∧ s.length ≤ 1000) ∧ k Γ2 (repS s n.toNat)) : EW c Γ (.BinOp a .Mult b pos) tStr k :=
  ew_bin (fun _ => op_repS) (h.imp fun _ s h => h.imp fun _ n ⟨⟨h1, h2, h3, h4⟩, h5⟩ => fun F H x y S hx hy Q q => ⟨s, n, hx, hy, h1, h2, h3, h4, q _ F H _ (Step.refl S) rfl h5⟩)
theorem ew_inS {k : Gm → Bool → Prop} (h : EW c Γ a tStr fun Γ1 s => EW c Γ1 b tStr fun Γ2 z => ∃ i, s = sg i ∧ k Γ2 (decide (i ∈ z.cps.toList))) (hm : behindInMarks .In b = false := by with_unfolding_all rfl) : EW c Γ (.Compare a [.In] [b] pos) tBool k :=
  ew_cmp (fun _ => op_in_sign) (h.imp fun _ s h => h.imp fun _ z ⟨i, h1, h2⟩ => fun F H x y S hx hy Q q => ⟨i, z, by rw [show x = .str s from hx, h1]; rfl, hy, q _ F H _ (Step.refl S) rfl h2⟩) hm
theorem tw_notInS {k : Gm → Bool → Prop} (h : EW c Γ a tStr fun Γ1 s => EW c Γ1 b tStr fun Γ2 z => ∃ i, s = sg i ∧ k Γ2 (!decide (i ∈ z.cps.toList))) (hm : behindInMarks .NotIn b = false := by with_unfolding_all rfl) : TW c Γ (.Compare a [.NotIn] [b] pos) k :=
  tw_cmp (fun _ => op_notIn_sign) (h.imp fun _ s h => h.imp fun _ z ⟨i, h1, h2⟩ => fun F H x y S hx hy Q q => ⟨i, z, by rw [show x = .str s from hx, h1]; rfl, hy, q _ F H _ (Step.refl S) rfl h2⟩) hm
theorem tw_notInTD {k : Gm → Bool → Prop} (h : EW c Γ a tAny fun Γ1 x => EW c Γ1 b (tTup tAny) fun Γ2 ys => (SeqAt.shaped x = true ∧ SeqAt.shaped (.tuple ys) = true) ∧ k Γ2 (!ys.any fun z => PyData.eqv z x)) (hm : behindInMarks .NotIn b = false := by with_unfolding_all rfl) : TW c Γ (.Compare a [.NotIn] [b] pos) k := fun B σ F H S Q q => by
  have hu : c.X.A.units + 66 < cLine := by have := c.room.un; omega
  obtain ⟨X, rfl, rfl, rfl, rfl, rfl, rfl, nd, rfl, rfl, calm, room, pas⟩ := c
  refine of_pt (pt_cmpR (op_notInTD hu) peW peW hm) ?_
  refine h B σ F H S _ fun v x Γ1 F1 H1 S1 e1 r1 h1 => h1 B σ F1 H1 S1 _ fun u y Γ2 F2 H2 S2 e2 r2 ⟨⟨h2, h3⟩, h4⟩ => ?_
  exact ⟨x, y, dp_mono S2.sub _ (tAny.mono e2 r1), dp_mono S2.sub _ (tup_any r2), h2, h3, _, rfl, q _ Γ2 F2 H2 S2 (e1.trans e2) h4⟩
theorem ew_isBl {k : Gm → Bool → Prop} (h : EW c Γ a tBool fun Γ1 x => EW c Γ1 b tBool fun Γ2 y => k Γ2 (decide (x = y))) : EW c Γ (.Compare a [.Is] [b] pos) tBool k :=
  ew_cmp (fun _ => op_isBl) (h.imp fun _ x h => h.imp fun _ y h1 => fun F H u v S hx hy Q q => ⟨x, y, hx, hy, q _ F H _ (Step.refl S) rfl h1⟩) (nomark _)
/-- a <= b <= d as a test -/
theorem tw_leLe {k : Gm → Bool → Prop} (h : EW c Γ a tInt fun Γ1 i => EW c Γ1 b tInt fun Γ2 j => (i ≤ j → EW c Γ2 d tInt fun Γ3 l => k Γ3 (decide (j ≤ l))) ∧ (¬ i ≤ j → k Γ2 false)) (hm : lastMarks [.LtE, .LtE] [b, d] = false := by with_unfolding_all rfl) : TW c Γ (.Compare a [.LtE, .LtE] [b, d] pos) k := fun B σ F H S Q q => by
  refine of_pt (pt_chain op_le op_le peW peW peW hm) ?_
  refine h B σ F H S _ fun v i Γ1 F1 H1 S1 e1 r1 h1 => h1 B σ F1 H1 S1 _ fun u j Γ2 F2 H2 S2 e2 r2 ⟨h2, h3⟩ => ⟨i, j, r1, r2, decide (i ≤ j), rfl, ?_⟩
  by_cases z : i ≤ j
  · rw [if_pos (decide_eq_true z)]
    exact h2 z B σ F2 H2 S2 _ fun t l Γ3 F3 H3 S3 e3 r3 h4 => ⟨j, l, r2, r3, _, rfl, q _ Γ3 F3 H3 S3 ((e1.trans e2).trans e3) h4⟩
  · rw [if_neg (fun e => z (of_decide_eq_true e))]
    exact ⟨_, rfl, q _ Γ2 F2 H2 S2 (e1.trans e2) (h3 z)⟩
/-- things of one type, as a test -/
theorem tw_eqD {f : α → PyData} (hT : AsD T f) {k : Gm → Bool → Prop} (h : EW c Γ a T fun Γ1 x => EW c Γ1 b T fun Γ2 y => (SeqAt.shaped (f x) = true ∧ SeqAt.shaped (f y) = true) ∧ k Γ2 (PyData.eqv (f x) (f y))) : TW c Γ (.Compare a [.Eq] [b] pos) k := fun B σ F H S Q q => by
  have hu := uni c
  obtain ⟨X, rfl, rfl, rfl, rfl, rfl, rfl, nd, rfl, rfl, calm, room, pas⟩ := c
  refine of_pt (pt_cmpR (op_eqD hu) peW peW (nomark _)) ?_
  refine h B σ F H S _ fun v x Γ1 F1 H1 S1 e1 r1 h1 => h1 B σ F1 H1 S1 _ fun u y Γ2 F2 H2 S2 e2 r2 ⟨⟨h2, h3⟩, h4⟩ => ?_
  exact ⟨f x, f y, dp_mono S2.sub _ (hT _ _ _ (T.mono e2 r1)), dp_mono S2.sub _ (hT _ _ _ r2), h2, h3, _, rfl, q _ Γ2 F2 H2 S2 (e1.trans e2) h4⟩
theorem tw_neD {f : α → PyData} (hT : AsD T f) {k : Gm → Bool → Prop} (h : EW c Γ a T fun Γ1 x => EW c Γ1 b T fun Γ2 y => (SeqAt.shaped (f x) = true ∧ SeqAt.shaped (f y) = true) ∧ k Γ2 (!PyData.eqv (f x) (f y))) : TW c Γ (.Compare a [.NotEq] [b] pos) k := fun B σ F H S Q q => by
  have hu := uni c
  obtain ⟨X, rfl, rfl, rfl, rfl, rfl, rfl, nd, rfl, rfl, calm, room, pas⟩ := c
  refine of_pt (pt_cmpR (op_neD hu) peW peW (nomark _)) ?_
  refine h B σ F H S _ fun v x Γ1 F1 H1 S1 e1 r1 h1 => h1 B σ F1 H1 S1 _ fun u y Γ2 F2 H2 S2 e2 r2 ⟨⟨h2, h3⟩, h4⟩ => ?_
  exact ⟨f x, f y, dp_mono S2.sub _ (hT _ _ _ (T.mono e2 r1)), dp_mono S2.sub _ (hT _ _ _ r2), h2, h3, _, rfl, q _ Γ2 F2 H2 S2 (e1.trans e2) h4⟩
/-- for c in text -/
theorem iw_str {k : Gm → List Str → Prop} (h : EW c Γ iter tStr fun Γ1 s => k Γ1 (signs s)) : IW c Γ tg iter tStr k := fun B σ F H S R q => by
  refine of_pi (pi_str peW) (h B σ F H S _ fun v s Γ1 F1 H1 S1 e1 r1 h1 => ⟨s, r1, q _ (signs s) Γ1 F1 H1 S1 e1 ⟨fun i F2 H2 s1 s2 hi => ?_, fun i F2 H2 s1 s2 hi => ?_, fun i F2 H2 x H' s1 s2 hy a ha => ?_⟩ h1⟩)
  · rw [signs_len] at hi; exact hi
  · rw [signs_len] at hi; exact hi
  · obtain ⟨rfl, z, hz, rfl⟩ := hy
    unfold signs at ha
    rw [List.getElem?_map] at ha
    have hz' : s.cps.toList[i]? = some z := by rw [← hz]; simp
    rw [hz'] at ha
    have e2 : a = sg z := (Option.some.inj ha).symm
    exact ⟨F2, Step.refl s2, by rw [e2]; rfl⟩
/-- text.join(list) -/
theorem ew_join {ap : Pos} {k : Gm → Str → Prop} (h : EW c Γ a tStr fun Γ1 s => EW c Γ1 b (tLst tStr) fun Γ2 ys => (ys.map (·.length)).sum + ys.length * s.length ≤ 16777216 ∧ k Γ2 (Txt.join s ys))
    (hs : ∀ env, starEach [b] env = [(false, eval b env)] := by intro _; rfl) (hb : ∀ env, attributeBase a "join" env (eval a env) = eval a env := by intro _; rfl) (hl : (ap.endLine == pos.line) = true := by rfl) : EW c Γ (.Call (.Attribute a "join" ap) [b] [] pos) tStr k := fun B σ F H S Q q => by
  obtain ⟨X, rfl, rfl, rfl, rfl, rfl, rfl, nd, rfl, rfl, calm, room, pas⟩ := c
  refine of_pe (pe_join peW peW (hs _) (hb _) hl) (h B σ F H S _ fun v s Γ1 F1 H1 S1 e1 r1 h1 => ⟨⟨s, r1⟩, h1 B σ F1 H1 S1 _ fun u ys Γ2 F2 H2 S2 e2 ⟨l, vs, ev, hq, hr⟩ h2 => ?_⟩)
  have ev2 : vs = ys.map V.str := All2.eq_map (fun _ _ r => r) hr
  subst ev2
  exact ⟨s, l, ys, r1, by rw [ev], .inl (.inl (.inl (S2.sub _ _ hq))), h2.1, q _ _ Γ2 F2 H2 S2 (e1.trans e2) rfl h2.2⟩
theorem sw_cell {elt : Expr} {gs : List Comprehension} {scope : Scope} {pos py : Pos} {y : Str} {l : Nat} {env : Env} (hy : env.scope.names.lookup y = some .cell) : swapsWith (.ListComp elt gs scope pos) (some (.Name y py)) l env = pure false := by
  have ky : env.kindOf y = some .cell := hy
  unfold swapsWith
  simp only [ky, show ((some NameKind.cell : Option NameKind) == some .local) = false from rfl, Bool.and_false, Bool.false_and]
/-- x = [..], x a local that a comprehension reads -/
theorem w_setCell {R : Rs ρ} {rt : Gm → ρ → Prop} {nx bk ct : Gm → Prop} {i : Nat} {x : Str} {scope : Scope} {py : Pos} {gs : List Comprehension} (hs : slotOf N x 0 = some i) (hv : locB sc fn x = true) (hc : sc.names.lookup x = some .cell) (h : EL c Γ (.ListComp elt gs scope pos) T fun Γ1 z => i < Γ1.length ∧ nx (Γ1.set i (some (ownL T z)))) : S1 c Γ (.Assign [.Name x py] (.ListComp elt gs scope pos) pos') (⟨R, rt, nx, bk, ct⟩ : En ρ) := fun B σ F H hB S => by
  have hN := c.hN
  have hsc := c.hsc
  have hfn := c.hfn
  have hl := locB_loc hv
  refine of_ps (ps_set (i := i) (by rw [hN]; exact c.nd) (by rw [hN]; exact slotOf_at hs) (by rw [hsc]; exact hl.1) peW (sw_cell (by rw [hsc]; exact hc)) (by rw [hsc, hfn]; exact hl.2)) ?_
  exact h B σ F H S _ fun p vs as Γ1 F1 H1 S1 e1 b1 b2 b3 hp r1 h1 => ⟨Γ1.set i (some (ownL T as)), F1, S1.take h1.1 ⟨p, vs, rfl, fun q => Iff.rfl, hp, r1⟩ b2 (by rw [hp]; exact fun z => nomatch z) b1 b3, h1.2⟩
section
variable {R : Rs ρ} {rt : Gm → ρ → Prop} {nx bk ct : Gm → Prop} {x y z : Str} {i j l : Nat} {kt k2 : Nat} {px py pz pt2 : Pos}
/-- x, y = a, b -/
theorem w_par2 (hi : slotOf N x 0 = some i) (hj : slotOf N y 0 = some j) (hij : i ≠ j) (hx : sc.names.lookup x = some .local) (hy : sc.names.lookup y = some .local) (hk : sc.kind = .function)
    (h : EW c Γ a A fun Γ1 u => EW c Γ1 b B' fun Γ2 v => (i < Γ2.length ∧ j < Γ2.length) ∧ nx ((Γ2.set i (some (val A u))).set j (some (val B' v))))
    (hw : ∀ env : Env, env.blockKind = .function → env.kindOf x = some .local → env.kindOf y = some .local → swappedStores [.Tuple [.Name x px, .Name y py] kt pt] (.Tuple [a, b] k2 pt2) env = pure (some [x, y]) := by intro env h1 h2 h3; unfold swappedStores; simp only [List.filterMap, h1, h2, h3]; rfl)
    (hs : ∀ env, swapsWithSole [.Tuple [.Name x px, .Name y py] kt pt] (.Tuple [a, b] k2 pt2) pos.line env = pure false := by intro _; rfl) (he : ∀ env, starEach [a, b] env = (false, eval a env) :: starEach [b] env := by intro _; rfl) (he2 : ∀ env, starEach [b] env = (false, eval b env) :: starEach [] env := by intro _; rfl) :
    S1 c Γ (.Assign [.Tuple [.Name x px, .Name y py] kt pt] (.Tuple [a, b] k2 pt2) pos) (⟨R, rt, nx, bk, ct⟩ : En ρ) := fun B σ F H hB S => by
  obtain ⟨X, rfl, rfl, rfl, rfl, rfl, rfl, nd, rfl, rfl, calm, room, pas⟩ := c
  have hb : X.env.blockKind = .function := by unfold Env.blockKind; rw [hk]; rfl
  refine of_ps (ps_par calm nd (slotOf_at hi) (slotOf_at hj) hij hx hy (pa_cons peW (pa_cons peW pa_nil (he2 _)) (he _)) (hw _ hb hx hy) (hs _)) ?_
  refine h B σ F H S _ fun v1 u1 Γ1 F1 H1 S1 e1 r1 h1 => h1 B σ F1 H1 S1 _ fun v2 u2 Γ2 F2 H2 S2 e2 r2 ⟨⟨l1, l2⟩, h2⟩ => ⟨v1, v2, rfl, ?_⟩
  exact ⟨_, F2, (S2.set (e := val A u1) l1 ⟨fun _ z => z, A.mono e2 r1⟩).set (e := val B' u2) (by rw [List.length_set]; exact l2) ⟨fun _ z => z, r2⟩, h2⟩
theorem w_par3 (hi : slotOf N x 0 = some i) (hj : slotOf N y 0 = some j) (hl : slotOf N z 0 = some l) (hij : i ≠ j) (hil : i ≠ l) (hjl : j ≠ l) (hx : sc.names.lookup x = some .local) (hy : sc.names.lookup y = some .local) (hz : sc.names.lookup z = some .local) (hk : sc.kind = .function)
    (h : EW c Γ a A fun Γ1 u => EW c Γ1 b B' fun Γ2 v => EW c Γ2 d C fun Γ3 t => (i < Γ3.length ∧ j < Γ3.length ∧ l < Γ3.length) ∧ nx (((Γ3.set i (some (val A u))).set j (some (val B' v))).set l (some (val C t))))
    (hw : ∀ env : Env, env.blockKind = .function → env.kindOf x = some .local → env.kindOf y = some .local → env.kindOf z = some .local → swappedStores [.Tuple [.Name x px, .Name y py, .Name z pz] kt pt] (.Tuple [a, b, d] k2 pt2) env = pure (some [x, y, z]) := by intro env h1 h2 h3 h4; unfold swappedStores; simp only [List.filterMap, h1, h2, h3, h4]; rfl)
    (hs : ∀ env, swapsWithSole [.Tuple [.Name x px, .Name y py, .Name z pz] kt pt] (.Tuple [a, b, d] k2 pt2) pos.line env = pure false := by intro _; rfl) (he : ∀ env, starEach [a, b, d] env = (false, eval a env) :: starEach [b, d] env := by intro _; rfl) (he2 : ∀ env, starEach [b, d] env = (false, eval b env) :: starEach [d] env := by intro _; rfl) (he3 : ∀ env, starEach [d] env = (false, eval d env) :: starEach [] env := by intro _; rfl) :
    S1 c Γ (.Assign [.Tuple [.Name x px, .Name y py, .Name z pz] kt pt] (.Tuple [a, b, d] k2 pt2) pos) (⟨R, rt, nx, bk, ct⟩ : En ρ) := fun B σ F H hB S => by
  obtain ⟨X, rfl, rfl, rfl, rfl, rfl, rfl, nd, rfl, rfl, calm, room, pas⟩ := c
  have hb : X.env.blockKind = .function := by unfold Env.blockKind; rw [hk]; rfl
  refine of_ps (ps_par3 calm nd (slotOf_at hi) (slotOf_at hj) (slotOf_at hl) hij hil hjl hx hy hz (pa_cons peW (pa_cons peW (pa_cons peW pa_nil (he3 _)) (he2 _)) (he _)) (hw _ hb hx hy hz) (hs _)) ?_
  refine h B σ F H S _ fun v1 u1 Γ1 F1 H1 S1 e1 r1 h1 => h1 B σ F1 H1 S1 _ fun v2 u2 Γ2 F2 H2 S2 e2 r2 h2 => h2 B σ F2 H2 S2 _ fun v3 u3 Γ3 F3 H3 S3 e3 r3 ⟨⟨l1, l2, l3⟩, h3⟩ => ⟨v1, v2, v3, rfl, ?_⟩
  exact ⟨_, F3, ((S3.set (e := val A u1) l1 ⟨fun _ z => z, A.mono (e2.trans e3) r1⟩).set (e := val B' u2) (by rw [List.length_set]; exact l2) ⟨fun _ z => z, B'.mono e3 r2⟩).set (e := val C u3) (by rw [List.length_set, List.length_set]; exact l3) ⟨fun _ z => z, r3⟩, h3⟩
end
end
end Px
/-! Px, fifteenth part: a tuple's reverse; zip of tuples; sorted ints. -/
namespace Px
open PySem PySem.Spec PyProof.Rows L2
theorem rev_places (n : Nat) : Builtin.Slice.slicePlaces ((n : Int) - 1) (-1) (-1) = n := by
  unfold Builtin.Slice.slicePlaces
  rw [if_neg (by decide)]
  by_cases h : n = 0
  · subst h; rfl
  · rw [if_pos (by omega)]
    have e : -(-1 : Int) = 1 := rfl
    rw [e, Int.ediv_one]
    omega
theorem rev_pick (xs : Array Value) : ((List.range xs.size).filterMap fun (k : Nat) => xs[((xs.size : Int) - 1 + (k : Int) * (-1)).toNat]?).toArray = xs.toList.reverse.toArray := by
  have e : (fun (k : Nat) => xs[((xs.size : Int) - 1 + (k : Int) * (-1)).toNat]?) = (fun k => xs[k]?) ∘ fun k => xs.size - 1 - k := by
    funext k
    show _ = xs[xs.size - 1 - k]?
    rw [show ((xs.size : Int) - 1 + (k : Int) * (-1)).toNat = xs.size - 1 - k by omega]
  have e2 : (List.range xs.size).map (fun k => xs.size - 1 - k) = (List.range xs.size).reverse := List.ext_getElem (by simp) (by intro i h1 h2; simp)
  rw [e, ← List.filterMap_map, e2, List.filterMap_reverse, PySem.W.krv_all]
theorem sorted_one : ∀ {xs ys : List Int}, xs.Perm ys → xs.Pairwise (· ≤ ·) → ys.Pairwise (· ≤ ·) → xs = ys
  | [], ys, h, _, _ => (List.Perm.nil_eq h)
  | x :: xs, [], h, _, _ => (List.Perm.eq_nil h)
  | x :: xs, y :: ys, h, hx, hy => by
    have hx' := List.pairwise_cons.mp hx
    have hy' := List.pairwise_cons.mp hy
    have e : x = y := by
      have h1 : x ∈ y :: ys := h.subset List.mem_cons_self
      have h2 : y ∈ x :: xs := h.symm.subset List.mem_cons_self
      have a1 : y ≤ x := by
        rcases List.mem_cons.mp h1 with q | q
        · omega
        · exact hy'.1 x q
      have a2 : x ≤ y := by
        rcases List.mem_cons.mp h2 with q | q
        · omega
        · exact hx'.1 y q
      omega
    subst e
    rw [sorted_one (List.Perm.cons_inv h) hx'.2 hy'.2]
/-- the sorted list of ints -/
def srt (ns : List Int) : List Int := ns.mergeSort (fun a b => decide (a ≤ b))
theorem srt_perm (ns : List Int) : (srt ns).Perm ns := List.mergeSort_perm ..
theorem srt_le (ns : List Int) : (srt ns).Pairwise (· ≤ ·) := by
  have := List.pairwise_mergeSort (le := fun a b : Int => decide (a ≤ b)) (by simp; omega) (by simp; omega) ns
  exact this.imp (by simp)
theorem srt_of {ns ns' : List Int} (h : ns'.Perm ns) (h2 : ns'.Pairwise (· ≤ ·)) : ns' = srt ns := sorted_one (h.trans (srt_perm ns).symm) h2 (srt_le ns)
theorem sh_ints (zs : List Int) : SeqAt.shaped (.list (zs.map .int)) = true := by
  have h1 : PyData.canLayAll0 (zs.map .int) = true := layAll_of fun d hd => by
    obtain ⟨z, _, rfl⟩ := List.mem_map.mp hd
    rfl
  have h2 : PyData.depthAll (zs.map .int) ≤ 0 := depthAll_of fun d hd => by
    obtain ⟨z, _, rfl⟩ := List.mem_map.mp hd
    exact Nat.le_refl _
  unfold SeqAt.shaped
  rw [PyData.canLay0, h1, PyData.depth]
  simp
  omega
section
open HT
variable {prog : Program} {w : World} {A : Around} {E : Value → Shared → Prop} {s : Shared}
theorem applied_rev {sl : Addr} {vl vu vs : Value} {n : Nat} {Q : Int × Int × Nat → Shared → Prop} (hs : s.heap.IsSliceOf sl vl vu vs) (pl : IsPart vl none) (pu : IsPart vu none) (ps : IsPart vs (some (-1)))
    (h : Q ((n : Int) - 1, -1, n) s) : wpAny (model prog w) A (Builtin.Slice.sliceApplied (.ref sl) (pure (n : Int))) Q E s := by
  obtain ⟨os, hos, hcs, hds⟩ := id hs
  unfold Builtin.Slice.sliceApplied Builtin.Slice.sliceFields
  refine wpAny_bind (wpAny_bind (wpAny_field hos hds (x := vl) rfl (wpAny_bind (wpAny_field hos hds (x := vu) rfl (wpAny_bind (wpAny_field hos hds (x := vs) rfl (wpAny_pure ?_)))))))
  refine wpAny_bind (slicePart_ ps ?_)
  show wpAny _ _ (if ((-1 : Int) == 0) = true then _ else _) _ _ s
  rw [if_neg (by decide)]
  refine wpAny_bind (slicePart_ pl (wpAny_bind (slicePart_ pu (wpAny_bind (wpAny_pure ?_)))))
  show wpAny _ _ (pure ((n : Int) - 1, (-1 : Int), Builtin.Slice.slicePlaces ((n : Int) - 1) (-1) (-1))) _ _ s
  rw [rev_places]
  exact wpAny_pure h
theorem getItem_tuple_rev {t sl : Addr} {items : Array Value} {vl vu vs : Value} {Q : Value → Shared → Prop} (ht : IsTup s.heap t items) (hs : s.heap.IsSliceOf sl vl vu vs) (pl : IsPart vl none) (pu : IsPart vu none) (ps : IsPart vs (some (-1)))
    (h : Q (.ref s.heap.objs.size) { s with heap := s.heap.push { cls := .type "tuple", data := .seq items.toList.reverse.toArray } }) (hsz : items.size ≤ sizeLine) : wpAny (model prog w) A (getItem (.ref t) (.ref sl)) Q E s := by
  have htake : sizeOk (.seq items.toList.reverse.toArray) := by
    show items.toList.reverse.toArray.size ≤ sizeLine
    simpa using hsz
  obtain ⟨os, hos, hcs, hds⟩ := id hs
  have hTs : s.TypeIs (.ref sl) "slice" := ⟨os, hos, hcs⟩
  unfold getItem
  try with_reducible refine wpAny_holding ?_
  first | refine wpAny_bind (wpAny_pure ?_) | skip
  refine wpAny_bind (wpAny_sequenceKey ht.typeIs (by decide) ?_)
  refine wpAny_bind (wpAny_callSpecial?_slot (name := Str.ofString "__getitem__") ht.typeIs PyProof.Rows.slot_tuple_getitem
    (wpAny_call_entry PyProof.Rows.slot_tuple_getitem ht.typeIs entry_tuple_getitem ?_ (args_tuple_getitem _ _)))
  show wpAny _ _ (Builtin.Tuple.tupleItemsOf (.ref t) >>= _) _ _ s
  refine wpAny_bind (tupleItemsOf_ ht ?_)
  refine wpAny_bind (wpAny_typeOf hTs ?_)
  rw [if_pos (by decide)]
  refine wpAny_bind (applied_rev hs pl pu ps ?_)
  have hno : ¬ ((((items.size : Int) - 1) == 0 && (-1 : Int) == 1 && items.size == items.size) = true) := by
    intro q
    rw [Bool.and_eq_true, Bool.and_eq_true] at q
    exact absurd q.1.2 (by decide)
  show wpAny _ _ (if (((items.size : Int) - 1) == 0 && (-1 : Int) == 1 && items.size == items.size) = true then _ else _) _ _ s
  rw [if_neg hno, rev_pick]
  first
    | exact wpAny_bind (m := Builtin.Tuple.tupleExact _) (wpAny_newObj_type (wpAny_pure ⟨_, rfl, wpAny_pure h⟩) htake)
    | exact wpAny_bind (m := Builtin.Tuple.tupleExact _) (wpAny_newObj_type (wpAny_bind (wpAny_pure (wpAny_pure ⟨_, rfl, wpAny_pure h⟩))) htake)
    | exact wpAny_bind (wpAny_bind (m := Builtin.Tuple.tupleExact _) (wpAny_newObj_type (wpAny_pure (wpAny_pure ⟨_, rfl, wpAny_pure h⟩)) htake))
    | exact wpAny_bind (wpAny_bind (m := Builtin.Tuple.tupleExact _) (wpAny_newObj_type (wpAny_pure ⟨_, rfl, wpAny_pure h⟩) htake))
end
section
variable {X : Cx} {e : Expr} {te : TE}
def tRevT (K : PySem.W.Frag) (te : TE) : TE := fun σ H Q => te σ H fun x H1 => ∃ a xs, x = .ref a ∧ SqT K H1 a xs ∧ ∀ p, H1 p = none → Q (.ref p) (upd H1 p (.tup xs.reverse))
theorem pe_revT {k : Nat} {p1 p2 p3 pos : Pos} (he : PE X e te) : PE X (.Subscript e (.Slice none none (some (.UnaryOp .USub (.Constant (.int 1) k p1) p2)) p3) pos) (tRevT X.K te) := by
  refine ⟨fun pins s σ H Q I h => ?_⟩
  refine Subscript_ (thn (he.run pins s σ H _ I h) fun v s1 ⟨x, H1, I1, r1, q1⟩ => ?_)
  obtain ⟨a, xs, ex, hx, q⟩ := q1
  subst ex
  cases r1
  have hst : PO X (some (.UnaryOp .USub (.Constant (.int 1) k p1) p2)) (tPart (tUn (rU fun i => .int (-i)) (tC (.int 1)))) := po_some (pe_un un_neg pe_int)
  refine wpAny_Slice (thn (po_none.run pins s1 σ H1 (fun o H2 => o = none ∧ H2 = H1) I1 ⟨rfl, rfl⟩) fun vl s2 ⟨l, H2, I2, pl, el, e2⟩ => ?_)
  subst el e2
  refine thn (po_none.run pins s2 σ H2 (fun o H3 => o = none ∧ H3 = H2) I2 ⟨rfl, rfl⟩) fun vu s3 ⟨u, H3, I3, pu, eu, e3⟩ => ?_
  subst eu e3
  refine thn (hst.run pins s3 σ H3 (fun o H4 => o = some (-1) ∧ H4 = H3) I3 ⟨1, rfl, -1, rfl, rfl, rfl⟩) fun vs s4 ⟨o, H4, I4, ps, eo, e4⟩ => ?_
  subst eo e4
  have I5 : Inv X pins σ H4 { s4 with heap := s4.heap.push { cls := .type "slice", data := .fields #[vl, vu, vs] } } := I4.kept (t' := s4.toks) fun b ob q => Heap.get?_push_of_some _ q
  obtain ⟨its, r, ht, hz⟩ := I5.tuple hx
  have hlen : its.toArray.size = xs.length := by rw [List.size_toArray]; exact r.length.symm
  show wpAny (model X.prog X.w) X.A (subscriptTail e (.Slice none none (some (.UnaryOp .USub (.Constant (.int 1) k p1) p2)) p3) (.ref a) (.ref s4.heap.objs.size)) (EP X pins σ Q) X.xe { s4 with heap := s4.heap.push { cls := .type "slice", data := .fields #[vl, vu, vs] } }
  refine tail_any (ops := [.ref a, .ref s4.heap.objs.size]) ht.typeIs (PyProof.Rows.slot_tuple_getitem.lookup) ?_ (by with_unfolding_all rfl)
  refine getItem_tuple_rev ht (Heap.IsSliceOf.new _ vl vu vs) pl pu ps ?_ (by rw [hlen]; exact hz)
  refine ⟨.ref _, _, I5.laid (t' := s4.toks) (o := .tup xs.reverse) (fun b ob q => Heap.get?_push_of_some _ q) (Nat.le_refl _) ?_, rfl, q _ (I5.hok.fresh (Nat.le_refl _))⟩
  exact ⟨by rw [List.length_reverse]; exact hz, _, r.reverse, IsTup.new _ _⟩
end
section
variable {P : Program} {w : World} {K : PySem.W.Frag} {mg : Str → Option Value} {base : Heap} {lv : Nat} {N : List Str} {sc : Scope} {fn : Str → Bool}
variable {α β γ δ ρ : Type}
variable {c : Ctx P w K mg base lv N sc fn} {Γ : Gm} {e a b d tg iter elt f e1 e2 : Expr} {lo hi : Option Expr} {es ts ifs : List Expr} {pos pos' p p2 pt px q2 : Pos} {T : Ty K α} {A : Ty K α} {B' : Ty K β} {C : Ty K γ} {D' : Ty K δ}
theorem ew_revT {k : Gm → List α → Prop} {j1} {p1 p3 p4 : Pos} (h : EW c Γ a (tTup T) fun Γ1 xs => k Γ1 xs.reverse) : EW c Γ (.Subscript a (.Slice none none (some (.UnaryOp .USub (.Constant (.int 1) j1 p1) p3)) p4) pos) (tTup T) k := fun B σ F H S Q q => by
  obtain ⟨X, rfl, rfl, rfl, rfl, rfl, rfl, nd, rfl, rfl, calm, room, pas⟩ := c
  refine of_pe (pe_revT peW) (h B σ F H S _ fun v xs Γ1 F1 H1 S1 e1 r1 h1 => ?_)
  obtain ⟨q1, vs, rfl, hq, hv⟩ := r1
  refine ⟨q1, vs, rfl, sqT_mono S1.sub hq, fun l hl => ?_⟩
  have st := Step.frozen (o := .tup vs.reverse) S1.sub hl
  exact q _ _ Γ1 _ _ (S1.step st) (e1.trans st.ff) ⟨l, _, rfl, .inl (.inl upd_same), All2.imp (fun _ _ => T.mono st.ff) (All2.reverse hv)⟩ h1
/-- sorted(list of ints) -/
theorem el_sorted (bi : Bi mg) {k : Gm → List Int → Prop} (hg : glB sc "sorted" = true) (h : EW c Γ a (tLst tInt) fun Γ1 ns => ns.length < 64 ∧ k Γ1 (srt ns)) (he : ∀ env, starEach [a] env = (false, eval a env) :: starEach [] env := by intro _; rfl) : EL c Γ (.Call (.Name "sorted" p) [a] [] pos) tInt k := fun B σ F H S Q q => by
  obtain ⟨X, rfl, rfl, rfl, rfl, rfl, rfl, nd, rfl, rfl, calm, room, pas⟩ := c
  refine of_pe (pe_callB cr_sorted (glB_gl hg) bi.sorted (by decide +kernel) (pa_cons peW pa_nil (he _)) (by decide +kernel) (by decide +kernel) (he _) rfl) (h B σ F H S _ fun v ns Γ1 F1 H1 S1 e1 ⟨l, vs, ev, hl, hr⟩ h1 => ?_)
  have ev2 : vs = ns.map V.int := All2.eq_map (fun _ _ r => r) hr
  subst ev2
  refine ⟨l, ns, by rw [ev], .inl (.inl (S1.sub _ _ hl)), h1.1, fun ns' p g1 g2 hp => ?_⟩
  obtain rfl := srt_of g1 g2
  obtain ⟨S4, b1, b2, b3⟩ := S1.make (o := .lst ((srt ns).map V.int)) hp
  exact q p _ _ Γ1 _ _ S4 e1 b1 b3 b2 upd_same (all2_ints _ _) h1.2
/-- list(range(n)) -/
theorem el_range1 (bi : Bi mg) {k : Gm → List Int → Prop} {rp rq : Pos} (hg : glB sc "list" = true) (hg2 : glB sc "range" = true) (h : EW c Γ a tInt fun Γ1 n => (0 ≤ n ∧ n ≤ 16777216) ∧ k Γ1 (ups 0 n)) (he : ∀ env, starEach [a] env = (false, eval a env) :: starEach [] env := by intro _; rfl)
    (he2 : ∀ env, starEach [.Call (.Name "range" rp) [a] [] rq] env = (false, eval (.Call (.Name "range" rp) [a] [] rq) env) :: starEach [] env := by intro _; rfl) : EL c Γ (.Call (.Name "list" p) [.Call (.Name "range" rp) [a] [] rq] [] pos) tInt k := fun B σ F H S Q q => by
  obtain ⟨X, rfl, rfl, rfl, rfl, rfl, rfl, nd, rfl, rfl, calm, room, pas⟩ := c
  refine of_pe (pe_listRg calm (glB_gl hg) bi.list (prg_1 (glB_gl hg2) bi.range peW (he _)) (he2 _)) (h B σ F H S _ fun v n Γ1 F1 H1 S1 e1 r1 ⟨⟨n1, n2⟩, h1⟩ => ⟨n, r1, RgOk.of_le (by omega) n2 (by omega) n1, fun p hp => ?_⟩)
  obtain ⟨S4, b1, b2, b3⟩ := S1.make (o := .lst (rgV 0 n)) hp
  refine q p _ (ups 0 n) Γ1 _ _ S4 e1 b1 b3 b2 upd_same ?_ h1
  have e : rgV 0 n = (ups 0 n).map V.int := by unfold rgV ups; rw [List.map_map]; rfl
  rw [e]
  exact all2_ints _ _
/-- a or b, lists -/
theorem pe_orW {X : Cx} {a b : Expr} {rest : List Expr} {pos : Pos} {ta tb : TE} (ha : PE X a ta) (hb : PE X (.BoolOp .Or (b :: rest) pos) tb) : PE X (.BoolOp .Or (a :: b :: rest) pos) (fun σ H Q => ta σ H fun x H1 => ∃ k, TruV X.K x H1 k ∧ (if k = true then Q x H1 else tb σ H1 Q)) := by
  refine ⟨fun pins s σ H Q I h => ?_⟩
  refine PyProof.Rows.BoolOp_or (thn (ha.run pins s σ H _ I h) fun v s1 ⟨x, H1, I1, r1, k, hk, q1⟩ => ?_)
  refine thn (tru_ok pins s1 σ H1 x v (fun j H2 => j = k ∧ H2 = H1) I1 r1 ⟨k, hk, rfl, rfl⟩) fun j s2 hj => ?_
  obtain ⟨H2, I2, ej, eh⟩ := hj
  subst ej; subst eh
  cases j with
  | true => exact iteT ⟨x, H2, I2, r1, q1⟩
  | false => exact iteF (hb.run pins s2 σ H2 Q I2 q1)
theorem ew_orL {rest : List Expr} {k : Gm → List α → Prop} (h : EW c Γ a (tLst T) fun Γ1 xs => (xs = [] → EW c Γ1 (.BoolOp .Or (b :: rest) pos) (tLst T) k) ∧ (xs ≠ [] → k Γ1 xs)) : EW c Γ (.BoolOp .Or (a :: b :: rest) pos) (tLst T) k := fun B σ F H S Q q => by
  refine of_pe (pe_orW peW peW) (h B σ F H S _ fun v xs Γ1 F1 H1 S1 e1 r1 ⟨h1, h2⟩ => ?_)
  obtain ⟨l, vs, rfl, hl, hr⟩ := id r1
  have hK := c.hK
  refine ⟨!vs.isEmpty, .inl ⟨vs, .inl (.inl (S1.sub _ _ hl)), rfl⟩, ?_⟩
  cases vs with
  | nil =>
    have e : xs = [] := List.eq_nil_of_length_eq_zero (All2.length hr).symm
    exact iteF (h1 e B σ F1 H1 S1 Q fun v y Γ2 F2 H2 S2 e2 r2 h3 => q v y Γ2 F2 H2 S2 (e1.trans e2) r2 h3)
  | cons w vs =>
    have e : xs ≠ [] := fun z => by subst z; exact hr
    exact iteT (q _ _ Γ1 F1 H1 S1 e1 r1 (h2 e))
/-! ### something or None -/
theorem eo_some {k : Gm → Option α → Prop} (hn : ∀ F v a, T.r F v a → v ≠ .non) (h : EW c Γ e T fun Γ1 x => k Γ1 (some x)) : EW c Γ e (tOpt T) k := EW.as some h fun F v a r => ⟨hn F v a r, r⟩
theorem as_some {k : Gm → α → Prop} (h : EW c Γ e (tOpt T) fun Γ1 z => ∃ x, z = some x ∧ k Γ1 x) : EW c Γ e T k := fun B σ F H S Q q => h B σ F H S Q fun v z Γ' F' H' S' e' r' ⟨s, z1, z2⟩ => q v s Γ' F' H' S' e' (by subst z1; exact r'.2) z2
theorem non_lst : ∀ F v a, (tLst T).r F v a → v ≠ .non := fun F v a ⟨l, vs, e, _⟩ z => by rw [e] at z; cases z
theorem non_tup : ∀ F v a, (tTup T).r F v a → v ≠ .non := fun F v a ⟨l, vs, e, _⟩ z => by rw [e] at z; cases z
theorem as_P2 {k : Gm → α × α → Prop} (h : EW c Γ e (tTup T) fun Γ1 z => ∃ x y, z = [x, y] ∧ k Γ1 (x, y)) : EW c Γ e (tT2 T T) k := fun B σ F H S Q q => h B σ F H S Q fun v z Γ' F' H' S' e' r' ⟨x, y, z1, z2⟩ => by
  subst z1
  obtain ⟨p, vs, e, hp, hr⟩ := r'
  match vs, hr with
  | [u, w], ⟨h1, h2, _⟩ => exact q v (x, y) Γ' F' H' S' e' ⟨p, _, e, hp, u, w, rfl, h1, h2⟩ z2
theorem p2_as {k : Gm → List α → Prop} (h : EW c Γ e (tT2 T T) fun Γ1 z => k Γ1 [z.1, z.2]) : EW c Γ e (tTup T) k := EW.as (fun z : α × α => [z.1, z.2]) h fun F v z ⟨p, vs, e, hp, u, w, e2, h1, h2⟩ => by subst e2; exact ⟨p, _, e, hp, h1, h2, trivial⟩
/-- text not in a tuple of texts -/
theorem inV_strs (s : Str) : ∀ zs : List Str, inV (.str s) (zs.map V.str) = decide (s ∈ zs)
  | [] => rfl
  | z :: zs => by
    have ih := inV_strs s zs
    unfold inV at ih ⊢
    rw [List.map_cons, List.any_cons, ih]
    show ((z == s) || decide (s ∈ zs)) = _
    by_cases h : z = s
    · subst h
      rw [decide_eq_true (List.mem_cons_self), show (z == z) = true from beq_self_eq_true z]; rfl
    · rw [show (z == s) = false from beq_eq_false_iff_ne.mpr h, Bool.false_or]
      exact decide_eq_decide.mpr ⟨fun q => List.mem_cons_of_mem _ q, fun q => (List.mem_cons.mp q).resolve_left fun e => h e.symm⟩
theorem flat_strs : ∀ zs : List Str, (zs.map V.str).all flatV = true
  | [] => rfl
  | z :: zs => by rw [List.map_cons, List.all_cons, flat_strs zs]; rfl
theorem tw_notInStrs {k : Gm → Bool → Prop} (h : EW c Γ a tStr fun Γ1 s => EW c Γ1 b (tTup tStr) fun Γ2 zs => k Γ2 (!decide (s ∈ zs))) (hm : behindInMarks .NotIn b = false := by with_unfolding_all rfl) : TW c Γ (.Compare a [.NotIn] [b] pos) k :=
  tw_cmp (r := rIn K true) (fun hK => by rw [← hK]; exact op_notIn_seq) (h.imp fun _ s h => h.imp fun _ zs h2 => fun F H x y S hx hy Q q => by
    obtain ⟨l, vs, ev, hl, hr⟩ := hy
    have ev2 : vs = zs.map V.str := All2.eq_map (fun _ _ r => r) hr
    subst ev2
    obtain rfl : x = .str s := hx
    refine ⟨l, _, ev, .inr (sqT_mono S hl), rfl, flat_strs zs, ?_⟩
    rw [inV_strs]
    exact q _ F H _ (Step.refl S) rfl h2) hm
theorem as_LI {k : Gm → List Int → Prop} (h : EW c Γ e (tLst tAny) fun Γ1 z => ∃ zs : List Int, z = zs.map .int ∧ k Γ1 zs) : EW c Γ e (tLst tInt) k := fun B σ F H S Q q => h B σ F H S Q fun v z Γ' F' H' S' e' r' ⟨zs, z1, z2⟩ => by
  subst z1
  obtain ⟨p, vs, e, hp, hr⟩ := r'
  refine q v zs Γ' F' H' S' e' ⟨p, vs, e, hp, ?_⟩ z2
  have go : ∀ (zs : List Int) (vs : List V), All2 ((tAny (K := K)).r F') vs (zs.map .int) → All2 ((tInt (K := K)).r F') vs zs := fun zs => by
    induction zs with
    | nil => intro vs h; cases vs with
      | nil => trivial
      | cons _ _ => exact h.elim
    | cons z zs ih => intro vs h; cases vs with
      | nil => exact h.elim
      | cons v vs => exact ⟨any_int h.1, ih vs h.2⟩
  exact go zs vs hr
end
end Px
/-! Px, sixteenth part: sorted(set(list of texts)). -/
namespace Px
open PySem PySem.Spec PyProof.Rows L2
abbrev tord (w : World) (t : SetTable) : Prop := w.params.followText "set-order" = true ∨ t.led = true
def tkey (e : Int × Value) : Str := strOf e.2
def TGood (P : Program) (w : World) (e : Int × Value) : Prop := ∃ k u, e.2 = Value.str k u ∧ e.1 = (PySem.strKind P w).hash k
structure TSet (P : Program) (w : World) (S : Str → Prop) (es : Array (Int × Value)) (t : SetTable) : Prop where
  good : ∀ e ∈ es.toList, TGood P w e
  nd : (es.toList.map tkey).Nodup
  mem : ∀ k, S k ↔ k ∈ es.toList.map tkey
  few : es.size < scanBound
  fit : t.fits es.size = true
  ris : Ris t.place.toList
  led : tord w t
def TSetAt (P : Program) (w : World) (h : Heap) (a : Addr) (S : Str → Prop) (n : Nat) : Prop :=
  ∃ o es ep t, h.get? a = some o ∧ o.ExactSet ∧ o.data = .set es ep t ∧ es.size = n ∧ TSet P w S es t
section
variable {P : Program} {w : World} {A : Around} {E : Value → Shared → Prop} {s : Shared} {a : Addr} {S : Str → Prop} {n : Nat}
theorem TSetAt.keep {h h' : Heap} (R : TSetAt P w h a S n) (k : ∀ o, h.get? a = some o → h'.get? a = some o) : TSetAt P w h' a S n := by
  obtain ⟨o, es, ep, t, q, r⟩ := R
  exact ⟨o, es, ep, t, k o q, r⟩
theorem tgood_el {l : List (Int × Value)} (g : ∀ e ∈ l, TGood P w e) : ElemsOf (PySem.strKind P w) l := fun e m => by
  obtain ⟨k, u, h1, h2⟩ := g e m
  exact ⟨⟨k, by rw [h1]; exact PySem.strKind_is P w k u, h2⟩, by rw [h1] <;> rfl⟩
theorem tgood_is {e : Int × Value} (g : TGood P w e) (k : Str) : (PySem.strKind P w).is k e.2 = true ↔ tkey e = k := by
  obtain ⟨j, u, h1, _⟩ := g
  unfold tkey
  rw [h1]
  constructor
  · intro q
    exact (PySem.strKind P w).inj (.str j u) j k (PySem.strKind_is P w j u) q
  · intro q
    have q' : j = k := q
    subst q'
    exact PySem.strKind_is P w j u
theorem tgood_mem {l : List (Int × Value)} (g : ∀ e ∈ l, TGood P w e) (k : Str) : k ∈ l.map tkey ↔ ∃ e ∈ l, (PySem.strKind P w).is k e.2 = true := by
  rw [List.mem_map]
  exact ⟨fun ⟨e, m, q⟩ => ⟨e, m, (tgood_is (g e m) k).2 q⟩, fun ⟨e, m, q⟩ => ⟨e, m, (tgood_is (g e m) k).1 q⟩⟩
theorem tset_tail {g : Bool → Sem Unit} (hg : ∀ (b : Bool) (s₁ : Shared) (Q' : Unit → Shared → Prop), Q' () s₁ → wpAny (model P w) A (g b) Q' E s₁)
    {o : Obj} {es : Array (Int × Value)} {ep : Nat} {t : SetTable} (ho : s.heap.get? a = some o) (hx : o.ExactSet) (hd : o.data = .set es ep t)
    {es1 : Array (Int × Value)} {t2 : SetTable} (Z : TSet P w S es1 t2) {wd : Bool} {R : Option Bool → Shared → Prop}
    (hR : ∀ h', Heap.SameBut a s.heap h' → TSetAt P w h' a S es1.size → R (some true) { s with heap := h' }) :
    wpAny (model P w) A (do
        storeSet a es1 t2
        if (!wd && t2.tooFull) = true then do
            g (relayAll t2 es1 (SetTable.grown es1.size)).2.2
            storeSet a (relayAll t2 es1 (SetTable.grown es1.size)).1 (relayAll t2 es1 (SetTable.grown es1.size)).2.1
            pure (some true)
          else pure (some true)) R E s := by
  have st1 := store_at (es' := es1) (t' := t2) ho hd
  have sb1 := Heap.SameBut.update s.heap a (Obj.putSet es1 t2)
  refine wpAny_bind (wpAny_storeSet_of ho hd ?_ (fits_of_scanBound Z.few)); split
  · have z1 := relayAll_perm t2 es1 (SetTable.grown es1.size); have z2 := relayAll_fits t2 es1 (SetTable.grown es1.size)
    have z3 := relayAll_ris t2 es1 (SetTable.grown es1.size); have z4 := relayAll_led t2 es1 (SetTable.grown es1.size)
    generalize relayAll t2 es1 (SetTable.grown es1.size) = Y at z1 z2 z3 z4 ⊢
    obtain ⟨es2, t3, gv⟩ := Y
    dsimp only at z1 z2 z3 z4 ⊢
    have z5 : es2.size = es1.size := by rw [← Array.length_toList, z1.length_eq, Array.length_toList]
    refine wpAny_bind (hg _ _ _ ?_); refine wpAny_bind (wpAny_storeSet_of st1 rfl ?_ (fits_of_scanBound (by rw [z5]; exact Z.few)))
    refine wpAny_pure (hR _ (sb1.trans (Heap.SameBut.update _ a _)) ⟨_, es2, _, t3, store_at (es' := es2) (t' := t3) st1 rfl, hx, rfl, z5, ?_⟩)
    exact ⟨fun e m => Z.good e (z1.mem_iff.mp m), (z1.map tkey).nodup_iff.mpr Z.nd, fun k => (Z.mem k).trans (z1.map tkey).mem_iff.symm, by rw [z5]; exact Z.few, z2, z3, Z.led.imp id fun q => by rw [z4]; exact q⟩
  · exact wpAny_pure (hR _ sb1 ⟨_, es1, _, t2, st1, hx, rfl, rfl, Z⟩)
theorem tset_add {k : Str} {tk : Tok} {Q : Bool → Shared → Prop} (R : TSetAt P w s.heap a S n) (room : n + 1 < scanBound)
    (hQ : ∀ h' m b, m ≤ n + 1 → Heap.SameBut a s.heap h' → TSetAt P w h' a (fun j => S j ∨ j = k) m → Q b { s with heap := h' }) :
    wpAny (model P w) A (setAddHashed a (.str k tk) ((PySem.strKind P w).hash k)) Q E s := by
  obtain ⟨o, es, ep, t, ho, hx, hd, hn, Z⟩ := R
  have hkey := PySem.strKind_is P w k tk
  have hsc : (Value.str k tk).scannable = true := rfl
  have hel : ElemsOf (PySem.strKind P w) es.toList := tgood_el Z.good
  unfold setAddHashed setAddHashedIn; refine wpAny_holding (wpAny_bind (wpAny_setState_of ho hd Z.fit ?_)); dsimp only
  rw [byScan_of hsc Z.few hel]; simp only [↓reduceIte]; unfold setAddByScan
  refine wpAny_bind ?_; refine wpAny_bind (wpAny_rule ?_); refine wpAny_bind (wpAny_setScan_of hkey ho hd Z.fit hel ?_)
  cases hfi : List.findIdx? (fun e => (PySem.strKind P w).is k e.2) es.toList with
  | some j =>
    dsimp only
    obtain ⟨hj, pj, _⟩ := List.findIdx?_eq_some_iff_getElem.mp hfi
    have hSk : S k := (Z.mem k).2 ((tgood_mem (P := P) (w := w) Z.good k).2 ⟨es.toList[j], List.getElem_mem hj, pj⟩)
    refine wpAny_pure (wpAny_pure ?_)
    exact hQ s.heap n _ (Nat.le_succ _) (Heap.SameBut.refl a s.heap) ⟨o, es, ep, t, ho, hx, hd, hn, Z.good, Z.nd, fun i => ⟨fun z => (Z.mem i).1 (z.elim id fun e => e ▸ hSk), fun z => .inl ((Z.mem i).2 z)⟩, Z.few, Z.fit, Z.ris, Z.led⟩
  | none =>
    dsimp only
    have hnk : k ∉ es.toList.map tkey := fun z => by
      obtain ⟨e, m, q⟩ := (tgood_mem (P := P) (w := w) Z.good k).1 z
      have c := List.findIdx?_eq_none_iff.mp hfi e m
      rw [q] at c
      cases c
    have hgw : ∀ (b : Bool) {s₁ : Shared} {Q' : Unit → Shared → Prop}, Q' () s₁ → wpAny (model P w) A (match b with | true => rule "set.scan.the-table-gave-way" | false => pure ()) Q' E s₁ := fun b s₁ Q' q => by
      cases b
      · exact wpAny_pure q
      · exact wpAny_rule q
    have z1 := layNew_perm t es ((PySem.strKind P w).hash k) (.str k tk)
    have z2 := layNew_fits t es ((PySem.strKind P w).hash k) (.str k tk)
    have z3 := layNew_ris t es ((PySem.strKind P w).hash k) (.str k tk) Z.ris
    have z4 := layNew_led t es ((PySem.strKind P w).hash k) (.str k tk)
    generalize layNew t es ((PySem.strKind P w).hash k) (.str k tk) = Y at z1 z2 z3 z4 ⊢
    obtain ⟨es1, t1, wd, gv⟩ := Y
    dsimp only at z1 z2 z3 z4 ⊢
    rw [Array.toList_push] at z1
    have y1 : es1.toList.Perm (((PySem.strKind P w).hash k, Value.str k tk) :: es.toList) := z1.trans (List.perm_append_singleton _ _)
    have y2 : (es1.toList.map tkey).Perm (k :: es.toList.map tkey) := y1.map tkey
    have y3 : es1.size = n + 1 := by rw [← Array.length_toList, y1.length_eq, List.length_cons, Array.length_toList, hn]
    have y4 : tord w t1 := Z.led.imp id fun q => by rw [z4]; exact q
    have mk : ∀ t2 : SetTable, t2.fits es1.size = true → Ris t2.place.toList → tord w t2 → TSet P w (fun j => S j ∨ j = k) es1 t2 := fun t2 f1 f2 f3 => ⟨fun e m => by
      rcases List.mem_cons.mp (y1.mem_iff.mp m) with q | q
      · rw [q]; exact ⟨k, tk, rfl, rfl⟩
      · exact Z.good e q, y2.nodup_iff.mpr (List.nodup_cons.mpr ⟨hnk, Z.nd⟩), fun i => by
        rw [y2.mem_iff, List.mem_cons, ← Z.mem i]
        exact Or.comm, by rw [y3]; exact room, f1, f2, f3⟩
    have fin : ∀ h' b, Heap.SameBut a s.heap h' → TSetAt P w h' a (fun j => S j ∨ j = k) es1.size → Q b { s with heap := h' } := fun h' b sb r => hQ h' es1.size b (by rw [y3]; exact Nat.le_refl _) sb r
    refine wpAny_bind (hgw _ ?_); split
    · refine wpAny_bind ?_
      rw [hashByValue_scannable 8 hsc]; refine wpAny_pure ?_
      refine tset_tail ?_ ho hx hd (mk _ ?_ ?_ ?_) ?_
      · intro b s₁ Q' q; cases b; exact wpAny_pure q; exact wpAny_rule q
      · first | (split <;> first | exact z2 | exact SetTable.fits_plain_off z2) | exact z2
      · first | (split <;> exact z3) | exact z3
      · first | (split <;> exact y4) | exact y4
      · intro h' sb r; dsimp only; exact wpAny_pure (fin h' _ sb r)
    · refine wpAny_bind (wpAny_pure ?_); simp only [↓reduceIte]
      refine tset_tail ?_ ho hx hd (mk _ z2 z3 y4) ?_
      · intro b s₁ Q' q; cases b; exact wpAny_pure q; exact wpAny_rule q
      · intro h' sb r; dsimp only; exact wpAny_pure (fin h' _ sb r)
end
section
variable {P : Program} {w : World} {A : Around} {R : Result → Shared → Prop} {I : Addr} {fp wr : List Addr} {G : Array GenState → Array GenState → Prop} {n : Nat} {Pv : Nat → Value → Prop} {St : Nat → Shared → Prop}
theorem tset_loop (W : WalksS P w A.in1 I fp wr G n Pv St) (a : Addr) (haf : a ∉ fp) (xs : List Str) (hsz : xs.length = n) (room : n + 1 < scanBound) (hv : ∀ i v, Pv i v → ∃ x t, xs[i]? = some x ∧ v = .str x t) :
    ∀ (k i : Nat) (s : Shared), n - i = k → i ≤ n → St i s → (∃ m, m ≤ i ∧ TSetAt P w s.heap a (fun j => j ∈ xs.take i) m) →
      (∀ s' m, Moved (a :: wr) G s s' → m ≤ n → TSetAt P w s'.heap a (fun j => j ∈ xs) m → R (.ok (.ret .none)) s') → codeAny (model P w) A (.builtin "set.update.loop" ⟨[.ref a, .ref I], []⟩) R s := by
  have haw : a ∉ wr := fun h => haf (W.sub _ h)
  have up : ∀ b ∈ wr, b ∈ a :: wr := fun b hb => List.mem_cons_of_mem _ hb
  intro k
  induction k with
  | zero =>
    intro i s hk hi hst ⟨m, m1, hS⟩ hR
    obtain rfl : i = n := by omega
    rw [show xs.take i = xs from List.take_of_length_le (by omega)] at hS
    refine codeAny_builtin PyProof.Rows.F.entry_set_update_loop ?_; rw [Around.under_plainId PyProof.Rows.F.plain_set_update_loop _]
    show wpAny _ A.in1 (pyNext (.ref I) >>= _) _ _ s; refine wpAny_bind (W.done s _ _ hst fun s' hm => ?_)
    show wpAny _ A.in1 (ret Value.none) _ _ s'; exact wpAny_pure (hR s' m (hm.mono up) m1 (hS.keep fun o e => hm.heap a o haw e))
  | succ k ih =>
    intro i s hk hi hst ⟨m, m1, hS⟩ hR
    have hlt : i < n := by omega
    refine codeAny_builtin PyProof.Rows.F.entry_set_update_loop ?_; rw [Around.under_plainId PyProof.Rows.F.plain_set_update_loop _]
    show wpAny _ A.in1 (pyNext (.ref I) >>= _) _ _ s; refine wpAny_bind (W.item i s _ _ hlt hst fun v s' hP hst' hm => ?_)
    obtain ⟨x, t, ex, rfl⟩ := hv i v hP
    have hS' : TSetAt P w s'.heap a (fun j => j ∈ xs.take i) m := hS.keep fun o e => hm.heap a o haw e
    show wpAny _ A.in1 (holding [Value.str x t] (setAdd a (.str x t)) >>= _) _ _ s'; refine wpAny_bind (wpAny_holding ?_); unfold setAdd
    refine wpAny_holding ?_; refine wpAny_bind ((PySem.strKind P w).pyHash (k := x) (PySem.strKind_is _ _ _ _) ?_)
    refine tset_add (s := { s' with toks := s'.toks + 1 }) hS' (by omega) fun h' m2 b g1 sb g2 => ?_
    have e1 : (fun j => j ∈ xs.take i ∨ j = x) = fun j => j ∈ xs.take (i + 1) := funext fun j => propext (by
      rw [List.take_add_one, ex]
      simp)
    rw [e1] at g2
    refine wpAny_pure ⟨plainId_quiet PyProof.Rows.F.plain_set_update_loop _, ih (i + 1) _ (by omega) hlt (W.frame _ s' _ _ hst' (Nat.le_succ _) fun b hb o e => ?_) ⟨m2, by omega, g2⟩ fun s2 m3 hm2 l2 hS2 => ?_⟩
    · rw [sb.2 b (fun z : b = a => haf (by rw [← z]; exact hb))]; exact e
    · refine hR s2 m3 (Moved.trans W.gtrans ((hm.mono up).then_heap (Nat.le_succ _) fun b o hb e => ?_) hm2) l2 hS2
      rw [sb.2 b (fun z : b = a => hb (by rw [z]; exact List.mem_cons_self))]; exact e
end
abbrev bare (w : World) : Obj := { cls := .type "set", dict := none, data := .set #[] 0 (.fresh 0 0 (!w.params.followText "set-order")) }
theorem tset_bare {P : Program} {w : World} {h : Heap} {a : Addr} (e : h.get? a = some (bare w)) : TSetAt P w h a (fun j => j ∈ ([] : List Str)) 0 :=
  ⟨_, #[], 0, _, e, ⟨rfl, rfl, rfl⟩, rfl, rfl, (fun e m => by simp at m), (by simp), (fun k => by simp), (by decide), (by rfl), List.Pairwise.nil, by
    show _ ∨ (!w.params.followText "set-order") = true
    cases w.params.followText "set-order"
    · exact .inr rfl
    · exact .inl rfl⟩
section
variable {P : Program} {w : World} {A : Around} {E : Value → Shared → Prop} {s : Shared}
set_option maxHeartbeats 3200000 in
theorem tset_call {l : Addr} {items : Array Value} {xs : List Str} {Q : Value → Shared → Prop} (hh : A.handled = none) (hl : s.heap.IsList l items) (hi : PyProof.Rows.StrsAre items.toList xs) (room : xs.length + 1 < scanBound)
    (h : ∀ (h' : Heap) (tk m : Nat), TSetAt P w h' s.heap.objs.size (fun j => j ∈ xs) m → m ≤ xs.length → (∀ b o, b < s.heap.objs.size → s.heap.get? b = some o → h'.get? b = some o) → s.heap.objs.size < h'.objs.size → Q (.ref s.heap.objs.size) { s with heap := h', toks := tk }) :
    wpAny (model P w) A (call (.type "set") [.ref l]) Q E s := by
  obtain ⟨c, tl, hmro⟩ := PySem.F.called_set.mro
  have hmade := PySem.F.called_set.made; have hsub := PySem.F.called_set.sub
  refine wpAny_call (codeAny_of_tree ?_); show wpAny _ _ (callAny (.type "set") _) _ _ _
  refine wpAny_pure ⟨Code.quiet_builtin _ (by decide +kernel), codeAny_builtin PySem.F.entry_type_call ?_⟩; rw [Around.under_plain (weight_type_call_type "set" [.ref l] []) rfl]
  have h1 := PySem.F.called_set.notType; have h2 := PySem.F.called_set.canCreate; have hct := PySem.F.typeCall_set_1 (.ref l)
  repeat (any_goals (first | assumption | wp_step))
  refine codeAny_mono (code_set_led1 (.ref l) (E := E) (Q₁ := fun obj s₁ => obj = .ref s.heap.objs.size ∧ s₁ = { s with heap := s.heap.push (bare w) }) ⟨rfl, rfl⟩) fun r s₁ hr => ?_
  cases r with
  | error e => exact hr
  | ok fl =>
    cases fl with
    | ret obj =>
      obtain ⟨rfl, rfl⟩ := hr
      have hS : (s.heap.push (bare w)).get? s.heap.objs.size = some (bare w) := Heap.get?_push_size _ rfl
      have hT : Shared.TypeIs { s with heap := s.heap.push (bare w) } (.ref s.heap.objs.size) "set" := ⟨_, hS, rfl⟩
      have hli := PySem.F.called_set.init.lookup; have hbi := PySem.F.called_set.init.bind (.ref s.heap.objs.size)
      repeat (any_goals (first | assumption | wp_step))
      refine codeAny_mono (codeAny_call_builtin (R := wants (fun r s₂ => r = .none ∧ ∃ h' tk m, s₂ = { s with heap := h', toks := tk } ∧ TSetAt P w h' s.heap.objs.size (fun j => j ∈ xs) m ∧ m ≤ xs.length ∧ (∀ b o, b < s.heap.objs.size → s.heap.get? b = some o → h'.get? b = some o)) E) PySem.F.called_set.init.plain PySem.F.entry_set_init (check_set_init_1 hT ?_)) fun r₂ s₂ hr₂ => ?_
      · obtain ⟨ol, hol, hcl, nl, hdl⟩ := hl
        obtain ⟨ocls, odict, odata, oslots⟩ := ol
        simp only at hcl hdl; subst hcl; subst hdl
        have hol' : (s.heap.push (bare w)).get? l = some { cls := .type "list", dict := odict, data := .seq items nl, slots := oslots } := Heap.get?_push_of_some _ hol
        have hsls := PySem.F.sub_list_set; have hslf := PySem.F.sub_list_frozenset
        have hne : (Value.type "list" == Value.type "dict") = false := by decide
        have hl1 : (s.heap.push (bare w)).IsList l items := ⟨_, hol', rfl, nl, rfl⟩
        unfold Builtin.«set.__init__» noKeywords Builtin.Frozenset.updateFrom; generalize hPI : pyIter = PI; wp_walk; subst hPI
        refine wpAny_pyIter_list hl1 ?_; refine wpAny_bind (wpAny_runValue ?_)
        have hlS : l < s.heap.objs.size := Heap.lt_size hol
        have hh3 : A.in1.in1.in1.handled = none := by simp [hh]
        have hneI : l ≠ (s.heap.push (bare w)).objs.size := by rw [Heap.size_push]; exact Nat.ne_of_lt (Nat.lt_succ_of_lt hlS)
        have hSf : s.heap.objs.size ∉ [(s.heap.push (bare w)).objs.size, l] := by
          rw [Heap.size_push]; simp only [List.mem_cons, List.mem_singleton, List.not_mem_nil, or_false, not_or]; exact ⟨Nat.ne_of_lt (Nat.lt_succ_self _), Nat.ne_of_gt hlS⟩
        have hsz : xs.length = items.size := by rw [← StrsAre.len_eq hi, Array.length_toList]
        have hval : ∀ (i : Nat) (v : Value), items[i]? = some v → ∃ x t, xs[i]? = some x ∧ v = .str x t := fun i v hv => by
          have hv' : items.toList[i]? = some v := by rw [Array.getElem?_toList]; exact hv
          obtain ⟨t, e⟩ := SS.strs_at hi i v hv'
          have il : i < xs.length := by
            have := (List.getElem?_eq_some_iff.mp hv').1
            rw [Array.length_toList] at this
            omega
          exact ⟨xs.getD i Str.empty, t, by rw [List.getD_eq_getElem?_getD, List.getElem?_eq_getElem il]; rfl, e⟩
        refine tset_loop ((Walks.list hh3 _ l hneI items).toS) s.heap.objs.size hSf xs hsz (by rw [← hsz]; exact room) hval (items.size - 0) 0 _ (by omega) (Nat.zero_le _) ⟨⟨_, Heap.get?_push_size _ rfl, rfl, rfl⟩, (hl1.push _)⟩ ?hS0 ?hR
        case hS0 => exact ⟨0, Nat.le_refl _, tset_bare (Heap.get?_push_of_some _ hS)⟩
        case hR =>
          intro s' m hm m1 hS'
          obtain ⟨h', g', d', tk', os'⟩ := s'
          have eg : g' = s.gens := hm.gens; have ed : d' = s.drawn := hm.drawn; have eo : os' = s.os := hm.os
          subst eg; subst ed; subst eo
          show wpAny _ _ _ _ _ _; refine wpAny_pure ?_; show wpAny _ _ (ret Value.none) _ _ _
          refine wpAny_pure ⟨rfl, h', tk', m, rfl, hS', by rw [hsz]; exact m1, fun b o hb e => ?_⟩
          have hb2 : b ≠ (s.heap.push (bare w)).objs.size := by rw [Heap.size_push]; exact Nat.ne_of_lt (Nat.lt_succ_of_lt hb)
          exact hm.heap b o (by simp only [List.mem_cons, List.mem_singleton, List.not_mem_nil, or_false, not_or]; exact ⟨Nat.ne_of_lt hb, hb2⟩) (Heap.get?_push_of_some _ (Heap.get?_push_of_some _ e))
      · cases r₂ with
        | error e => exact hr₂
        | ok fl₂ =>
          cases fl₂ with
          | ret r =>
            obtain ⟨rfl, h', tk, m, rfl, hS', m1, hk'⟩ := hr₂
            repeat (any_goals (first | assumption | wp_step))
            refine h _ _ m hS' m1 hk' ?_
            obtain ⟨o, _, _, _, e, _⟩ := hS'
            exact Heap.lt_size e
          | _ => exact hr₂.elim
    | _ => exact hr.elim
theorem tset_sorted {a : Addr} {S : Str → Prop} {n : Nat} {Q : Value → Shared → Prop} (R : TSetAt P w s.heap a S n) (hh : A.handled = none) (h64 : n < 64)
    (hQ : ∀ s' p (out : Array Value) (c : Nat) (ys : List Str), (∀ b o, s.heap.get? b = some o → s'.heap.get? b = some o) → s'.gens = s.gens → s'.os = s.os → s.heap.objs.size ≤ p →
      s'.heap.get? p = some (seqObj "list" out c) → StrsAre out.toList ys → sortedS ys = true → ys.Nodup → (∀ k, k ∈ ys ↔ S k) → ys.length = n → Q (.ref p) s') :
    wpAny (model P w) A (call (.builtin "sorted") [.ref a]) Q E s := by
  obtain ⟨o, es, ep, t, ho, hx, hd, hn, Z⟩ := R
  refine Calls.call_function_entry kind_sorted plain_sorted entry_sorted (args_sorted1 _) ?_; unfold Builtin.«sorted»
  refine wpAny_bind (m := checkCount "sorted" 1 1 _) (wpAny_pure ?_)
  refine wpAny_bind (collect_set (A := A.in1) hh ⟨o, ho, hx.1, hd⟩ Z.fit Z.few Z.ris Z.led fun s1 vs k1 hz g1 o1 pm => ?_)
  have vl : vs.length = n := by rw [pm.length_eq, List.length_map, Array.length_toList]; exact hn
  have hI : StrsAre vs (vs.map strOf) := strsAre_map vs fun v hv => by
    obtain ⟨e, he, q⟩ := List.mem_map.mp (pm.mem_iff.mp hv)
    obtain ⟨k, tk, h1, _⟩ := Z.good e he
    exact ⟨k, tk, by rw [← q]; exact h1⟩
  have pk : (vs.map strOf).Perm (es.toList.map tkey) := by
    have q := pm.map strOf
    rwa [List.map_map] at q
  refine wpAny_bind (wpAny_newList ?_ (by rw [vl, sizeLine_eq]; omega))
  have hoL : (s1.heap.push (seqObj "list" vs.toArray 0)).get? s1.heap.objs.size = some (seqObj "list" vs.toArray 0) := Heap.get?_push_size _ rfl
  refine wpAny_bind (wpAny_holding (wpAny_call_entry slot_list_sort ⟨_, hoL, rfl⟩ entry_list_sort (list_sort_treeK PyProof.Rows.strKind_oneLt hoL hI.keysOf (fun v₁ v₂ rest e => keyKind_strs (by rw [← e]; exact hI)) (by rw [vl]; exact h64) fun st' hp hs => ?_) (args_list_sort _)))
  obtain ⟨ys, a1, a2, a3⟩ := sorted_out_str hI hp hs
  obtain ⟨c, hc⟩ := sortedHeap_at (vs := vs) (out := (arrOf st').map (·.2)) hoL
  have pn : ys.Perm (es.toList.map tkey) := a2.trans pk
  refine ⟨_, rfl, wpAny_pure ⟨_, rfl, hQ _ s1.heap.objs.size _ c ys (fun b u e => ?_) g1 o1 hz hc a1 a3 (pn.nodup_iff.mpr Z.nd) (fun k => by rw [pn.mem_iff, ← Z.mem k]) ?_⟩⟩
  · have q := k1 b u e; have hlt := Heap.lt_size q
    show (sortedHeap (s1.heap.push (seqObj "list" vs.toArray 0)) s1.heap.objs.size vs _).get? b = some u
    rw [sortedHeap_old (Nat.ne_of_lt hlt) (by rw [size_push']; exact Nat.lt_succ_of_lt hlt)]; exact Heap.get?_push_of_some _ q
  · rw [pn.length_eq, List.length_map, Array.length_toList]; exact hn
end
section
variable {X : Cx}
def tSortedSet (K : PySem.W.Frag) (ta : TE) : TE := fun σ H Q => ta σ H fun x H1 => ∃ l, ∃ xs : List Str, x = .ref l ∧ SqL K H1 l (xs.map V.str) ∧ xs.length < 64 ∧
  ∀ (ys : List Str) p, sortedS ys = true → ys.Nodup → (∀ k, k ∈ ys ↔ k ∈ xs) → ys.length ≤ xs.length → H1 p = none → Q (.ref p) (upd H1 p (.lst (ys.map V.str)))
theorem pe_sortedSet {a : Expr} {ta : TE} {p p2 q pos : Pos} (hc : X.calm = true) (hg : Gl X "sorted") (hm : X.mg "sorted" = none) (hg2 : Gl X "set") (hm2 : X.mg "set" = none) (ha : PE X a ta)
    (na : starEach [a] X.env = (false, eval a X.env) :: starEach [] X.env) (nb : starEach [.Call (.Name "set" p2) [a] [] q] X.env = (false, eval (.Call (.Name "set" p2) [a] [] q) X.env) :: starEach [] X.env) : PE X (.Call (.Name "sorted" p) [.Call (.Name "set" p2) [a] [] q] [] pos) (tSortedSet X.K ta) := by
  refine ⟨fun pins s σ H Q I h => ?_⟩
  refine Call_ (ld_blt I hg hm boot_sorted ?_); refine PyProof.Rows.callWith_builtin1 (PyProof.Rows.args_cons ?_ nb) nb rfl
  refine Call_ (ld_blt I hg2 hm2 PyProof.Rows.boot_set ?_)
  refine PyProof.Rows.callWith_type1 (PyProof.Rows.args_cons (thn (ha.run pins s σ H _ I h) fun v s1 ⟨x, H1, I1, r1, q1⟩ => PyProof.Rows.args_nil ?_) na) na rfl
  obtain ⟨l, xs, rfl, hq, h1, q1⟩ := q1
  cases r1
  obtain ⟨its, r, pl, hz⟩ := I1.list hq
  refine tset_call (I1.ok.hd hc) pl.isList (by simpa using strsAre_of r) (by unfold scanBound; omega) fun h' tk m hS hm hk hlt => PyProof.Rows.args_nil ?_
  have I2 : Inv X pins σ H1 { s1 with heap := h', toks := tk } := I1.kept fun b o e => hk b o (Heap.lt_size e) e
  refine tset_sorted (s := { s1 with heap := h', toks := tk }) hS (I2.ok.hd hc) (by omega) fun s' p out c ys k g o hp hg' hi hs hnd hmm hlen => ?_
  have hl2 : (ys.map V.str).length ≤ sizeLine := by rw [List.length_map, hlen, sizeLine_eq]; omega
  have hn : H1 p = none := I2.hok.fresh hp
  have J : Inv X pins σ (upd H1 p (.lst (ys.map V.str))) { ({ s1 with heap := h', toks := tk } : Shared) with heap := s'.heap, gens := s'.gens, drawn := s'.drawn, toks := s'.toks } := I2.call (ch := []) (Un.laid k hp hn) (I2.hok.laid k hp ⟨hl2, out.toList, c, vals_of_strs hi, hg'⟩) (by rw [g]; exact I2.bare) (fun _ z => nomatch z)
  have e : s' = { ({ s1 with heap := h', toks := tk } : Shared) with heap := s'.heap, gens := s'.gens, drawn := s'.drawn, toks := s'.toks } := by
    cases s'; cases s1; cases o; rfl
  rw [e]
  exact ⟨.ref p, _, J, rfl, q1 ys p hs hnd hmm (by omega) hn⟩
end
section
variable {P : Program} {w : World} {K : PySem.W.Frag} {mg : Str → Option Value} {base : Heap} {lv : Nat} {N : List Str} {sc : Scope} {fn : Str → Bool}
variable {α β γ δ ρ : Type}
variable {c : Ctx P w K mg base lv N sc fn} {Γ : Gm} {e a b d tg iter elt f e1 e2 : Expr} {lo hi : Option Expr} {es ts ifs : List Expr} {pos pos' p p2 pt px q2 : Pos} {T : Ty K α} {A : Ty K α} {B' : Ty K β} {C : Ty K γ} {D' : Ty K δ}
/-- sorted(set(list of texts)) -/
theorem el_sortedSet (bi : Bi mg) {k : Gm → List Str → Prop} (hg : glB sc "sorted" = true) (hg2 : glB sc "set" = true) (h : EW c Γ a (tLst tStr) fun Γ1 xs => xs.length < 64 ∧ ∀ ys : List Str, sortedS ys = true → ys.Nodup → (∀ k, k ∈ ys ↔ k ∈ xs) → ys.length ≤ xs.length → k Γ1 ys)
    (he : ∀ env, starEach [a] env = (false, eval a env) :: starEach [] env := by intro _; rfl) (he2 : ∀ env, starEach [.Call (.Name "set" p2) [a] [] q2] env = (false, eval (.Call (.Name "set" p2) [a] [] q2) env) :: starEach [] env := by intro _; rfl) : EL c Γ (.Call (.Name "sorted" p) [.Call (.Name "set" p2) [a] [] q2] [] pos) tStr k := fun B σ F H S Q q => by
  obtain ⟨X, rfl, rfl, rfl, rfl, rfl, rfl, nd, rfl, rfl, calm, room, pas⟩ := c
  refine of_pe (pe_sortedSet calm (glB_gl hg) bi.sorted (glB_gl hg2) bi.set peW (he _) (he2 _)) (h B σ F H S _ fun v xs Γ1 F1 H1 S1 e1 ⟨l, vs, ev, hl, hr⟩ ⟨h0, h1⟩ => ?_)
  have ev2 : vs = xs.map V.str := All2.eq_map (fun _ _ r => r) hr
  subst ev2
  refine ⟨l, xs, by rw [ev], .inl (.inl (S1.sub _ _ hl)), h0, fun ys p g1 g2 g3 g4 hp => ?_⟩
  obtain ⟨S4, b1, b2, b3⟩ := S1.make (o := .lst (ys.map V.str)) hp
  exact q p _ _ Γ1 _ _ S4 e1 b1 b3 b2 upd_same (All2.of_map (f := V.str) (fun _ => rfl) ys) (h1 ys g1 g2 g3 g4)
end
end Px
/-! Px, seventeenth part: the order of texts; zip. -/
namespace Px
open PySem PySem.Spec PyProof.Rows L2
section
variable {P : Program} {w : World} {K : PySem.W.Frag} {mg : Str → Option Value} {base : Heap} {lv : Nat} {N : List Str} {sc : Scope} {fn : Str → Bool}
variable {α β γ δ ρ : Type}
variable {c : Ctx P w K mg base lv N sc fn} {Γ : Gm} {e a b d tg iter elt f e1 e2 : Expr} {lo hi : Option Expr} {es ts ifs : List Expr} {pos pos' p p2 pt px q2 : Pos} {T : Ty K α} {A : Ty K α} {B' : Ty K β} {C : Ty K γ} {D' : Ty K δ}
theorem ew_ltS {k : Gm → Bool → Prop} (h : EW c Γ a tStr fun Γ1 s => EW c Γ1 b tStr fun Γ2 t => k Γ2 (decide (s.cps.toList < t.cps.toList))) : EW c Γ (.Compare a [.Lt] [b] pos) tBool k :=
  ew_cmp (fun _ => op_lt_str) (h.imp fun _ s h => h.imp fun _ t hx => fun F H x y S hx' hy Q q => ⟨s, t, hx', hy, q _ F H _ (Step.refl S) rfl hx⟩) (nomark _)
theorem tw_leS {k : Gm → Bool → Prop} (h : EW c Γ a tStr fun Γ1 s => EW c Γ1 b tStr fun Γ2 t => k Γ2 (!decide (t.cps.toList < s.cps.toList))) : TW c Γ (.Compare a [.LtE] [b] pos) k :=
  tw_cmp (fun _ => op_le_str) (h.imp fun _ s h => h.imp fun _ t hx => fun F H x y S hx' hy Q q => ⟨s, t, hx', hy, q _ F H _ (Step.refl S) rfl hx⟩) (nomark _)
theorem zip_get {xs : List α} {ys : List β} {i : Nat} {z : α × β} (h : (xs.zip ys)[i]? = some z) : xs[i]? = some z.1 ∧ ys[i]? = some z.2 := by
  rw [List.getElem?_zip_eq_some] at h
  exact h
theorem it_zipT {F : Hp} {p q : Addr} {vs us : List V} {xs : List α} {ys : List β} (hp : SqT K F p vs) (hq : SqT K F q us) (hv : All2 (A.r F) vs xs) (hu : All2 (B'.r F) us ys) : ItOk (K := K) (RZ.ItzT K p q) (tT2 A B') F (xs.zip ys) := by
  have l1 := All2.length hv
  have l2 := All2.length hu
  refine ⟨fun i F1 H s1 s2 hi => ?_, fun i F1 H s1 s2 hi => ?_, fun i F1 H x H' s1 s2 ⟨T, a, b, e1, e2, e3, e4, e5⟩ z hz => ?_⟩
  · rw [List.length_zip] at hi
    have i1 : i < vs.length := by omega
    have i2 : i < us.length := by omega
    exact ⟨vs, us, vs[i], us[i], sqT_mono (s1.trans s2) hp, sqT_mono (s1.trans s2) hq, List.getElem?_eq_getElem i1, List.getElem?_eq_getElem i2⟩
  · rw [List.length_zip] at hi
    exact ⟨vs, us, sqT_mono (s1.trans s2) hp, sqT_mono (s1.trans s2) hq, by omega⟩
  · obtain ⟨h1, h2⟩ := zip_get hz
    obtain ⟨x1, g1, r1⟩ := All2.getR hv h1
    obtain ⟨x2, g2, r2⟩ := All2.getR hu h2
    have f1 := e4 vs (sqT_mono (s1.trans s2) hp)
    have f2 := e5 us (sqT_mono (s1.trans s2) hq)
    rw [g1] at f1
    rw [g2] at f2
    have y1 := Option.some.inj f1
    have y2 := Option.some.inj f2
    subst y1
    subst y2
    subst e1
    subst e3
    have st := Step.frozen (o := .tup [x1, x2]) s2 e2
    exact ⟨_, st, T, [x1, x2], rfl, .inl (.inl upd_same), x1, x2, rfl, A.mono (s1.trans st.ff) r1, B'.mono (s1.trans st.ff) r2⟩
/-- for .. in zip(tuple, tuple) -/
theorem iw_zipT (bi : Bi mg) {k : Gm → List (α × β) → Prop} {tpos : Pos} {elts : List Expr} {kk : Nat} (hg : glB sc "zip" = true) (h : EW c Γ a (tTup A) fun Γ1 xs => EW c Γ1 b (tTup B') fun Γ2 ys => k Γ2 (xs.zip ys))
    (hs : ∀ env, starEach [a, b] env = (false, eval a env) :: starEach [b] env := by intro _; rfl) (hs2 : ∀ env, starEach [b] env = (false, eval b env) :: starEach [] env := by intro _; rfl) (hpl : ∀ env, (backTo pos (starEach [b] env)).any (·.1) = false := by intro _; rfl) :
    IW c Γ (.Tuple elts kk tpos) (.Call (.Name "zip" p) [a, b] [] pos) (tT2 A B') k := fun B σ F H S R q => by
  obtain ⟨X, rfl, rfl, rfl, rfl, rfl, rfl, nd, rfl, rfl, calm, room, pas⟩ := c
  refine of_pi (RZ.pi_zipA (glB_gl hg) bi.zip (pa_cons peW (pa_cons peW pa_nil (hs2 _)) (hs _)) (hs _) (hpl _)) (h B σ F H S _ fun v xs Γ1 F1 H1 S1 e1 r1 h1 => h1 B σ F1 H1 S1 _ fun u ys Γ2 F2 H2 S2 e2 r2 h2 => ?_)
  obtain ⟨p1, vs, rfl, hp, hv⟩ := (tTup A).mono e2 r1
  obtain ⟨p2, us, rfl, hq, hu⟩ := r2
  exact ⟨p1, p2, vs, us, rfl, .inr ⟨sqT_mono S2.sub hp, sqT_mono S2.sub hq, q _ _ Γ2 F2 H2 S2 (e1.trans e2) (it_zipT hp hq hv hu) h2⟩⟩
end
end Px
/-! Px, eighteenth part: objects of the program's own classes, owned by one slot, their fields typed. -/
namespace Px
open PySem PySem.Spec PyProof.Rows L2
section
variable {K : PySem.W.Frag}
def Flds (F : Hp) (vs : List (Str × V)) (fs : List (Str × TV K)) : Prop := All2 (fun (a : Str × V) (b : Str × TV K) => a.1 = b.1 ∧ b.2.r F a.2) vs fs
theorem Flds.mono {F F' : Hp} {vs : List (Str × V)} {fs : List (Str × TV K)} (e : Same F F') (h : Flds F vs fs) : Flds F' vs fs := All2.imp (fun _ b q => ⟨q.1, b.2.mono e q.2⟩) h
theorem Flds.get {F : Hp} {f : Str} {t : TV K} : ∀ {vs : List (Str × V)} {fs : List (Str × TV K)}, Flds F vs fs → fs.lookup f = some t → ∃ v, vs.lookup f = some v ∧ t.r F v
  | [], [], _, h => by cases h
  | (g, v) :: vs, (g', t') :: fs, h, e => by
    obtain ⟨⟨e1, r1⟩, h2⟩ := h
    have e1' : g = g' := e1
    subst e1'
    rw [List.lookup_cons] at e ⊢
    cases q : f == g with
    | true => rw [q] at e; cases e; exact ⟨v, rfl, r1⟩
    | false => rw [q] at e; exact Flds.get h2 e
theorem Flds.no {F : Hp} {f : Str} : ∀ {vs : List (Str × V)} {fs : List (Str × TV K)}, Flds F vs fs → fs.lookup f = none → vs.lookup f = none
  | [], [], _, _ => rfl
  | (g, v) :: vs, (g', t') :: fs, h, e => by
    obtain ⟨⟨e1, r1⟩, h2⟩ := h
    have e1' : g = g' := e1
    subst e1'
    rw [List.lookup_cons] at e ⊢
    cases q : f == g with
    | true => rw [q] at e; cases e
    | false => rw [q] at e; exact Flds.no h2 e
def putT (f : Str) (t : TV K) : List (Str × TV K) → List (Str × TV K)
  | [] => [(f, t)]
  | (g, x) :: r => if g = f then (g, t) :: r else (g, x) :: putT f t r
theorem Flds.put {F : Hp} {f : Str} {t : TV K} {v : V} (hr : t.r F v) : ∀ {vs : List (Str × V)} {fs : List (Str × TV K)}, Flds F vs fs → Flds F (putF f v vs) (putT f t fs)
  | [], [], _ => ⟨⟨rfl, hr⟩, trivial⟩
  | (g, x) :: vs, (g', t') :: fs, h => by
    obtain ⟨⟨e1, r1⟩, h2⟩ := h
    have e1' : g = g' := e1
    subst e1'
    unfold putF putT
    by_cases q : g = f
    · rw [if_pos q, if_pos q]; exact ⟨⟨rfl, hr⟩, h2⟩
    · rw [if_neg q, if_neg q]; exact ⟨⟨rfl, r1⟩, Flds.put hr h2⟩
def ObAt (C : Addr) (fs : List (Str × TV K)) (F H : Hp) (p : Addr) : Prop := ∃ dx vs, H p = some (.ins C dx vs) ∧ Flds F vs fs
theorem ObAt.ne {C : Addr} {fs : List (Str × TV K)} {F H : Hp} {p : Addr} (h : ObAt C fs F H p) : H p ≠ none := by
  obtain ⟨dx, vs, e, _⟩ := h
  rw [e]
  exact fun z => nomatch z
/-- the object at p, of the class at C, with these fields -/
def obj (C p : Addr) (fs : List (Str × TV K)) : Ent := ⟨fun v ps F H => v = .ref p ∧ (∀ q, ps q ↔ q = p) ∧ ObAt C fs F H p, false, true, fun ⟨h1, h2, dx, vs, h3, h4⟩ e k => ⟨h1, h2, dx, vs, by rw [k p ((h2 p).mpr rfl)]; exact h3, h4.mono e⟩, fun h => nomatch h⟩
/-- a method's promise: of the object ahead and behind -/
def spO {τ ι ρ : Type} (C : Addr) (fo : τ → List (Str × TV K)) (args : ι → List (TV K)) (T : Ty K ρ) (pre : τ → ι → Prop) (post : τ → ι → ρ → τ → Prop) : Sp := fun vs H Q _ =>
  ∃ F s i p va, vs = .ref p :: va ∧ Same F H ∧ F p = none ∧ ObAt C (fo s) F H p ∧ All2 (fun v (t : TV K) => t.r F v) va (args i) ∧ pre s i ∧
    ∀ v r s' F' H', Same F F' → Same F' H' → (∀ b o, b ≠ p → H b = some o → H' b = some o) → (∀ b, H b ≠ none → F b = none → F' b = none) → ObAt C (fo s') F' H' p → T.r F' v r → post s i r s' → Q v H'
end
/-- a method of the class at C, and its promise -/
structure MProm (P : Program) (w : World) (K : PySem.W.Frag) (mg : Str → Option Value) (base : Heap) (C : Addr) (m : Str) (lv : Nat) (ps : List Str) (sp : Sp) : Prop where
  cl : Cls K C
  ex : ∃ f fd, Meth K C m f ∧ Binds K fd ps [] ∧ FnOk P w K mg base CX0 lv f fd ps sp
theorem MProm.mono {P : Program} {w : World} {K : PySem.W.Frag} {mg : Str → Option Value} {base : Heap} {C : Addr} {m : Str} {l l' : Nat} {ps : List Str} {sp : Sp} (h : MProm P w K mg base C m l ps sp) (hl : l ≤ l') : MProm P w K mg base C m l' ps sp := by
  obtain ⟨c, f, fd, h1, h2, h3⟩ := h
  exact ⟨c, f, fd, h1, h2, h3.mono hl⟩
/-- a def of a class as the top has left it -/
def MAt (K : PySem.W.Frag) (C : Addr) (m qual : Str) (st : Stmt) (ps : List Str) : Prop := ∃ f fd, Fun K m qual st f fd ∧ Meth K C m f ∧ Binds K fd ps []
theorem MAt.prom {P : Program} {w : World} {K : PySem.W.Frag} {mg : Str → Option Value} {base : Heap} {C : Addr} {m qual : Str} {st : Stmt} {ps : List Str} {sp : Sp} {l : Nat} (c : Cls K C) (h : MAt K C m qual st ps) (k : ∀ f fd, Fun K m qual st f fd → FnOk P w K mg base CX0 l f fd ps sp) : MProm P w K mg base C m l ps sp := by
  obtain ⟨f, fd, F, h1, h2⟩ := h
  exact ⟨c, f, fd, h1, h2, k f fd F⟩
section
variable {P : Program} {w : World} {K : PySem.W.Frag} {mg : Str → Option Value} {base : Heap} {lv : Nat} {N : List Str} {sc : Scope} {fn : Str → Bool}
variable {α β γ δ ρ τ ι : Type}
variable {c : Ctx P w K mg base lv N sc fn} {Γ : Gm} {e a b d tg iter elt f e1 e2 : Expr} {lo hi : Option Expr} {es ts ifs : List Expr} {pos pos' p p2 pt px q2 : Pos} {T : Ty K α} {A : Ty K α} {B' : Ty K β} {R : Ty K ρ} {D' : Ty K δ}
theorem gm_same {i : Nat} {x : Ent} (h : Γ[i]? = some (some x)) : Γ.set i (some x) = Γ := by
  apply List.ext_getElem?
  intro n
  by_cases hn : n = i
  · subst hn
    rw [List.getElem?_set_self (List.getElem?_eq_some_iff.mp h).1, h]
  · rw [List.getElem?_set_ne (Ne.symm hn)]
/-- the callee has changed the slot's object -/
theorem Sta.obj_upd {B : Base} {σ : L2.St} {F H F2 H2 : Hp} {i : Nat} {C p : Addr} {fs fs' : List (Str × TV K)} (S : Sta B Γ σ F H) (hx : Γ[i]? = some (some (obj C p fs))) (s1 : Same F F2) (s2 : Same F2 H2) (s3 : ∀ b o, b ≠ p → H b = some o → H2 b = some o) (s4 : ∀ b, H b ≠ none → F b = none → F2 b = none) (d3 : ObAt C fs' F2 H2 p) :
    Sta B (Γ.set i (some (obj C p fs'))) σ F2 H2 := by
  refine S.own_upd (F' := F2) (H' := H2) (e' := obj C p fs') hx rfl fun v3 ps3 hv3 ⟨e3, hq3, d4⟩ own3 => ?_
  refine ⟨ps3, s2, s1, fun b o hb nb => s3 b o (fun z => nb ((hq3 b).mpr z)) hb, fun b nb => ?_, s4, fun q hq => ?_, e3, hq3, d3⟩
  · by_cases z : b = p
    · rw [z]; exact d3.ne
    · cases y : H b with
      | none => exact absurd y nb
      | some o => rw [s3 b o z y]; exact fun z => nomatch z
  · obtain rfl : q = p := (hq3 q).mp hq
    have o3 := own3 q hq
    exact ⟨.inl hq, s4 q o3.2.1 o3.1, d3.ne, o3.2.2.2⟩
/-- x.m(e, ..) of the slot's object -/
theorem ew_meth {C o : Addr} {fo : τ → List (Str × TV K)} {args : ι → List (TV K)} {pre : τ → ι → Prop} {post : τ → ι → ρ → τ → Prop} {m x : Str} {ps : List Str} {l i : Nat} {k : Gm → ρ → Prop} {apos : Pos} {s : τ} {pl : Env → Sem Bool} (G : MProm P w K mg base C m l ps (spO C fo args R pre post)) (hl : l ≤ lv)
    (hs : slotOf N x 0 = some i) (hv : visB sc x = true) (hx : Γ[i]? = some (some (obj C o (fo s)))) (hn : (fo s).lookup m = none)
    (h : EWs c Γ (e :: es) fun Γ1 ts => Γ1[i]? = some (some (obj C o (fo s))) ∧ ∃ j, ts = args j ∧ pre s j ∧ ∀ r s', post s j r s' → k (Γ1.set i (some (obj C o (fo s')))) r) (hd : (x == ("__debug__" : Str)) = false := by decide +kernel) (hcd : (x == ("__classdict__" : Str)) = false := by decide +kernel)
    (he : ∀ env, starEach (e :: es) env = (false, eval e env) :: starEach es env := by intro _; rfl) (hpl : ∀ env, (backTo pos (starEach es env)).any (·.1) = false := by intro _; rfl)
    (ht : ∀ env, eval (.Call (.Attribute (.Name x px) m apos) (e :: es) [] pos) env = (do
      let ov ← eval (.Name x px) env
      standAt apos.atName
      let (f, first) ← holding [ov] (getMethod ov m (pl env))
      callWith pos f first (backTo pos (starEach (e :: es) env)) (backToKw pos (keywordEach [] env))) := by intro _; rfl) :
    EW c Γ (.Call (.Attribute (.Name x px) m apos) (e :: es) [] pos) R k := by
  intro B σ F H S Q q
  obtain ⟨X, rfl, rfl, rfl, rfl, rfl, rfl, nd, rfl, rfl, calm, room, pas⟩ := c
  obtain ⟨cl, f, fd, g1, g3, g4⟩ := G
  refine of_pe (pe_meth (pl := pl X.env) (pe_var (slotOf_at hs) (visB_vis hv) hd hcd) cl g1 g4 (room.mono hl) g3 .nil pass0 paW (he _) (hpl _) (ht _)) ?_
  obtain ⟨v, ps0, hv1, ⟨rfl, hq1, dx, vs0, h3, h4⟩, _⟩ := S.get hx
  refine ⟨_, hv1, o, dx, vs0, rfl, h3, h4.no hn, h B σ F H S _ fun vs ts Γ1 F1 H1 S1 e1 r1 ⟨hx1, j, ej, hp, hk⟩ => ?_⟩
  subst ej
  obtain ⟨v', ps1, hv2, ⟨rfl, hq2, d2⟩, own⟩ := S1.get hx1
  show spO C fo args R pre post (V.ref o :: (vs ++ [])) H1 Q E0
  rw [List.append_nil]
  exact ⟨F1, s, j, o, vs, rfl, S1.sub, (own o ((hq2 o).mpr rfl)).1, d2, r1, hp, fun v r s' F2 H2 s1 s2 s3 s4 d3 rr hr => q v r _ F2 H2 (S1.obj_upd hx1 s1 s2 s3 s4 d3) (e1.trans s1) rr (hk r s' hr)⟩
/-- x.m() of the slot's object -/
theorem ew_meth0 {C o : Addr} {fo : τ → List (Str × TV K)} {args : ι → List (TV K)} {pre : τ → ι → Prop} {post : τ → ι → ρ → τ → Prop} {m x : Str} {ps : List Str} {l i : Nat} {k : Gm → ρ → Prop} {apos : Pos} {s : τ} {pl : Env → Sem Bool} (G : MProm P w K mg base C m l ps (spO C fo args R pre post)) (hl : l ≤ lv)
    (hs : slotOf N x 0 = some i) (hv : visB sc x = true) (hx : Γ[i]? = some (some (obj C o (fo s)))) (hn : (fo s).lookup m = none)
    (h : ∃ j, args j = [] ∧ pre s j ∧ ∀ r s', post s j r s' → k (Γ.set i (some (obj C o (fo s')))) r) (hd : (x == ("__debug__" : Str)) = false := by decide +kernel) (hcd : (x == ("__classdict__" : Str)) = false := by decide +kernel)
    (ht : ∀ env, eval (.Call (.Attribute (.Name x px) m apos) [] [] pos) env = (do
      let ov ← eval (.Name x px) env
      standAt apos.atName
      let (f, first) ← holding [ov] (getMethod ov m (pl env))
      callWith pos f first (backTo pos (starEach [] env)) (backToKw pos (keywordEach [] env))) := by intro _; rfl) :
    EW c Γ (.Call (.Attribute (.Name x px) m apos) [] [] pos) R k := by
  intro B σ F H S Q q
  obtain ⟨X, rfl, rfl, rfl, rfl, rfl, rfl, nd, rfl, rfl, calm, room, pas⟩ := c
  obtain ⟨cl, f, fd, g1, g3, g4⟩ := G
  refine of_pe (pe_meth0 (pl := pl X.env) (pe_var (slotOf_at hs) (visB_vis hv) hd hcd) cl g1 g4 (room.mono hl) g3 .nil pass0 (ht _)) ?_
  obtain ⟨v, ps0, hv1, ⟨rfl, hq1, dx, vs0, h3, h4⟩, own⟩ := S.get hx
  obtain ⟨j, ej, hp, hk⟩ := h
  refine ⟨_, hv1, o, dx, vs0, rfl, h3, h4.no hn, ?_⟩
  exact ⟨F, s, j, o, [], rfl, S.sub, (own o ((hq1 o).mpr rfl)).1, ⟨dx, vs0, h3, h4⟩, by rw [ej]; trivial, hp, fun v r s' F2 H2 s1 s2 s3 s4 d3 rr hr => q v r _ F2 H2 (S.obj_upd hx s1 s2 s3 s4 d3) s1 rr (hk r s' hr)⟩
/-- x.f of the slot's object -/
theorem ew_fld {C o : Addr} {fs : List (Str × TV K)} {x fl : Str} {i : Nat} {z : α} {k : Gm → α → Prop} (cl : Cls K C) (na : NoAttr K C fl) (hs : slotOf N x 0 = some i) (hv : visB sc x = true) (hx : Γ[i]? = some (some (obj C o fs))) (hf : fs.lookup fl = some (tv T z)) (h : k Γ z)
    (hd : (x == ("__debug__" : Str)) = false := by decide +kernel) (hcd : (x == ("__classdict__" : Str)) = false := by decide +kernel) (hb : ∀ env, attributeBase (.Name x px) fl env (eval (.Name x px) env) = eval (.Name x px) env := by intro _; rfl) : EW c Γ (.Attribute (.Name x px) fl pos) T k := by
  intro B σ F H S Q q
  obtain ⟨X, rfl, rfl, rfl, rfl, rfl, rfl, nd, rfl, rfl, calm, room, pas⟩ := c
  refine of_pe (pe_fld (pe_var (slotOf_at hs) (visB_vis hv) hd hcd) (hb _)) ?_
  obtain ⟨v, ps0, hv1, ⟨rfl, hq1, dx, vs0, h3, h4⟩, own⟩ := S.get hx
  obtain ⟨u, hu, ru⟩ := h4.get hf
  exact ⟨_, hv1, o, C, dx, vs0, u, rfl, h3, cl, na, hu, q u z Γ F H S (Same.refl _) ru h⟩
/-- x.f = e -/
theorem s1_fld {D : En ρ} {C o : Addr} {fs : List (Str × TV K)} {x fl : Str} {i : Nat} (cl : Cls K C) (na : NoAttr K C fl) (hs : slotOf N x 0 = some i) (hv : visB sc x = true) (h : EW c Γ e T fun Γ1 z => Γ1[i]? = some (some (obj C o fs)) ∧ fs.length < 1000 ∧ D.nx (Γ1.set i (some (obj C o (putT fl (tv T z) fs)))))
    (hd : (x == ("__debug__" : Str)) = false := by decide +kernel) (hcd : (x == ("__classdict__" : Str)) = false := by decide +kernel) (hsw : ∀ env, swapsWith e (some (.Attribute (.Name x px) fl pos')) pos.line env = pure false := by intro _; rfl) : S1 c Γ (.Assign [.Attribute (.Name x px) fl pos'] e pos) D := fun B σ F H hB S => by
  obtain ⟨X, rfl, rfl, rfl, rfl, rfl, rfl, nd, rfl, rfl, calm, room, pas⟩ := c
  refine of_ps (ps_fld (pe_var (slotOf_at hs) (visB_vis hv) hd hcd) peW (hsw _)) (h B σ F H S _ fun v z Γ1 F1 H1 S1 e1 r1 ⟨hx, hl, hk⟩ => ?_)
  obtain ⟨v0, ps0, hv1, ⟨rfl, hq1, dx, vs0, h3, h4⟩, own⟩ := S1.get hx
  have hlen := All2.length h4
  refine ⟨_, hv1, o, C, dx, vs0, rfl, h3, cl, na, by omega, _, F1, S1.obj_upd hx (Same.refl _) (fun b x q => ?_) (fun b x nb q => by rw [upd_ne nb]; exact q) (fun b _ n2 => n2) ⟨dx, _, upd_same, h4.put r1⟩, hk⟩
  have ho := (own o ((hq1 o).mpr rfl)).1
  rw [upd_ne (ne_of_none q ho)]
  exact S1.sub b x q
/-- x.f op= e, on ints -/
theorem s1_fldaug {D : En ρ} {C o : Addr} {fs : List (Str × TV K)} {x fl : Str} {i : Nat} {z : Int} (cl : Cls K C) (na : NoAttr K C fl) (hs : slotOf N x 0 = some i) (hv : visB sc x = true) (hx : Γ[i]? = some (some (obj C o fs))) (hf : fs.lookup fl = some (tv (tInt (K := K)) z))
    (h : EW c Γ e tInt fun Γ1 u => Γ1[i]? = some (some (obj C o fs)) ∧ fs.length < 1000 ∧ D.nx (Γ1.set i (some (obj C o (putT fl (tv (tInt (K := K)) (z + u)) fs)))))
    (hd : (x == ("__debug__" : Str)) = false := by decide +kernel) (hcd : (x == ("__classdict__" : Str)) = false := by decide +kernel) : S1 c Γ (.AugAssign (.Attribute (.Name x px) fl pos') .Add e pos) D := fun B σ F H hB S => by
  obtain ⟨X, rfl, rfl, rfl, rfl, rfl, rfl, nd, rfl, rfl, calm, room, pas⟩ := c
  obtain ⟨v0, ps0, hv1, ⟨rfl, hq1, dx, vs0, h3, h4⟩, own⟩ := S.get hx
  obtain ⟨u, hu, ru⟩ := h4.get hf
  refine of_ps (ps_fldaug (pe_var (slotOf_at hs) (visB_vis hv) hd hcd) peW in_add) ⟨_, hv1, o, C, dx, vs0, u, rfl, h3, cl, na, hu, h B σ F H S _ fun y n Γ1 F1 H1 S1 e1 r1 ⟨hx1, hl, hk⟩ => ⟨z, n, ru, r1, ?_⟩⟩
  obtain ⟨v1, ps1, hv2, ⟨rfl, hq2, dx', vs1, g3, g4⟩, own1⟩ := S1.get hx1
  have hlen := All2.length g4
  refine ⟨dx', vs1, g3, by omega, _, F1, S1.obj_upd hx1 (Same.refl _) (fun b x q => ?_) (fun b x nb q => by rw [upd_ne nb]; exact q) (fun b _ n2 => n2) ⟨dx', _, upd_same, g4.put rfl⟩, hk⟩
  have ho := (own1 o ((hq2 o).mpr rfl)).1
  rw [upd_ne (ne_of_none q ho)]
  exact S1.sub b x q
/-- a class that can be made -/
structure MkAt (P : Program) (w : World) (K : PySem.W.Frag) (mg : Str → Option Value) (base : Heap) (C : Addr) (name : Str) (lv : Nat) (ps : List Str) (sp : Sp) : Prop where
  at_ : mg name = some (.ref C)
  ex : ∃ f fd, Mk K C f ∧ Binds K fd ps [] ∧ FnOk P w K mg base CX0 lv f fd ps sp
/-- x = C(e, ..) -/
theorem s1_make {D : En δ} {C : Addr} {fo : τ → List (Str × TV K)} {args : ι → List (TV K)} {pre : τ → ι → Prop} {post : τ → ι → Unit → τ → Prop} {name x : Str} {ps : List Str} {l i : Nat} {cpos : Pos} {s0 : τ} (G : MkAt P w K mg base C name l ps (spO C fo args tNon pre post)) (hl : l + 1 ≤ lv) (hg : glB sc name = true) (hs : slotOf N x 0 = some i) (hv : locB sc fn x = true) (h0 : fo s0 = [])
    (h : EWs c Γ (e :: es) fun Γ1 ts => i < Γ1.length ∧ ∃ j, ts = args j ∧ pre s0 j ∧ ∀ o s', post s0 j () s' → D.nx (Γ1.set i (some (obj C o (fo s'))))) (hdb : (name == ("__debug__" : Str)) = false := by decide +kernel)
    (he : ∀ env, starEach (e :: es) env = (false, eval e env) :: starEach es env := by intro _; rfl) (hpl : ∀ env, (backTo cpos (starEach es env)).any (·.1) = false := by intro _; rfl)
    (hsw : ∀ env, swapsWith (.Call (.Name name p) (e :: es) [] cpos) (some (.Name x pos')) pos.line env = pure false := by intro _; rfl) : S1 c Γ (.Assign [.Name x pos'] (.Call (.Name name p) (e :: es) [] cpos) pos) D := fun B σ F H hB S => by
  obtain ⟨X, rfl, rfl, rfl, rfl, rfl, rfl, nd, rfl, rfl, calm, room, pas⟩ := c
  obtain ⟨g1, f, fd, g2, g3, g4⟩ := G
  have hl' := locB_loc hv
  refine of_ps (ps_set (i := i) nd (slotOf_at hs) hl'.1 (pe_make g2 g4 (room.mono hl) (glB_gl hg) g1 g3 .nil pass0 paW hdb (he _) (hpl _)) (hsw _) hl'.2) ?_
  refine h B σ F H S _ fun vs ts Γ1 F1 H1 S1 e1 r1 ⟨hil, j, ej, hp, hk⟩ => ?_
  subst ej
  intro o dx no ndx ndo
  show spO C fo args tNon pre post (V.ref o :: (vs ++ [])) _ _ E0
  rw [List.append_nil]
  have s0' : Same H1 (upd (upd H1 dx (.own o)) o (.ins C dx [])) := fun b x q => by
    rw [upd_ne (ne_of_none q no), upd_ne (ne_of_none q ndx)]
    exact q
  have fo0 : F1 o = none := S1.sub.free no
  refine ⟨F1, s0, j, o, vs, rfl, S1.sub.trans s0', fo0, ⟨dx, [], upd_same, by rw [h0]; trivial⟩, r1, hp, fun v r s' F2 H2 s1 s2 s3 s4 d3 rr hr => ⟨rr, ?_⟩⟩
  have st : Step F1 H1 F2 H2 := ⟨s1, fun b x q => s3 b x (ne_of_none q no) (s0' b x q), s2, fun b n1 n2 => s4 b (Same.dom s0' n1) n2⟩
  have f2 : F2 o = none := s4 o (by rw [upd_same]; exact fun z => nomatch z) fo0
  obtain ⟨S2, b1, b2⟩ := S1.fresh st no f2 d3.ne
  exact ⟨_, F2, Sta.take (e := obj C o (fo s')) (B := B) S2 hil ⟨rfl, fun q => Iff.rfl, d3⟩ f2 d3.ne b1 b2, hk o s' hr⟩
/-- a method keeps its promise -/
theorem fn_obj {C : Addr} {fo : τ → List (Str × TV K)} {args : ι → List (TV K)} {pre : τ → ι → Prop} {post : τ → ι → ρ → τ → Prop} {x qual : Str} {st : Stmt} {f : Addr} {fd : FuncData} {ps : List Str} (F : Fun K x qual st f fd) (S : FnScope N ps (defScope st)) (hl : ∀ i, (args i).length + 1 = ps.length)
    (h : ∀ s i, pre s i → ∀ (o : Addr) (c : Ctx P w K mg base lv N (defScope st) (fun _ => true)), SW c (some (obj C o (fo s)) :: gmOf (N.length - 1) (args i)) (defBody st) ⟨rTy R, fun Γ r => ∃ s', Γ[0]? = some (some (obj C o (fo s'))) ∧ post s i r s', fun Γ => ∃ s', Γ[0]? = some (some (obj C o (fo s'))) ∧ ∃ r, (∀ F, R.r F .non r) ∧ post s i r s', fun _ => False, fun _ => False⟩) :
    FnOk P w K mg base CX0 (lv + 1) f fd ps (spO C fo args R pre post) := by
  have hpl : ps.length ≤ N.length := by have := congrArg List.length S.pre; rw [List.length_take] at this; omega
  refine fn_px F S (fun vs H Q E ⟨F0, s, i, p, va, e, _, _, _, r, _⟩ => by subst e; exact (congrArg (· + 1) (All2.length r)).trans (hl i)) fun vs H Q E ⟨F0, s, i, p, va, e, hs, hf, hd, r, hp, q⟩ => ?_
  subst e
  have hlen := All2.length r
  have hl' := hl i
  have fin : ∀ (v : V) (Γ' : Gm) (σ' : L2.St) (F' H' : Hp) (a : ρ) (s' : τ), Sta ⟨F0, H, fun q => q = p, fun _ => False, fun _ => False⟩ Γ' σ' F' H' → R.r F' v a → Γ'[0]? = some (some (obj C p (fo s'))) → post s i a s' → Q v H' := fun v Γ' σ' F' H' a s' S' ra h0 ha => by
    obtain ⟨v0, ps0, hv0, ⟨_, _, d0⟩, _⟩ := S'.get h0
    exact q v a s' F' H' S'.ext S'.sub (fun b o nb hb => S'.keep b o hb nb) S'.new d0 ra ha
  refine ⟨ρ, ⟨F0, H, fun q => q = p, fun _ => False, fun _ => False⟩, some (obj C p (fo s)) :: gmOf (N.length - 1) (args i), F0, rTy R, _, _, fun _ h => h, ?_, h s i hp p, fun v Γ' σ' F' H' a S' ra ⟨s', h0, ha⟩ => fin v Γ' σ' F' H' a s' S' ra h0 ha, fun Γ' σ' F' H' S' ⟨s', h0, a, ra, ha⟩ => fin .non Γ' σ' F' H' a s' S' (ra F') h0 ha⟩
  refine ⟨?_, hs, Same.refl _, fun _ _ h _ => h, fun _ h => h, fun _ _ h => h, fun _ h => h.elim, fun j q => j = 0 ∧ q = p, fun j q ⟨_, e⟩ => ⟨by rw [e]; exact hf, by rw [e]; exact hd.ne, .inr e, fun h => h⟩, fun j k q ⟨e1, _⟩ ⟨e2, _⟩ => e1.trans e2.symm, fun j x hx => ?_⟩
  · rw [start_len (by rw [List.length_cons]; omega)]
    unfold gmOf
    rw [List.length_cons, List.length_append, List.length_map, List.length_replicate]
    omega
  · cases j with
    | zero =>
      cases hx
      exact ⟨.ref p, start_get rfl, ⟨rfl, fun q => by simp, hd⟩, fun z => nomatch z⟩
    | succ j =>
      rw [List.getElem?_cons_succ] at hx
      obtain ⟨t, ht, rfl⟩ := gm_get hx
      obtain ⟨v, hv, rv⟩ := All2.getR r ht
      refine ⟨v, start_get (by rw [List.getElem?_cons_succ]; exact hv), ⟨?_, rv⟩, fun _ q hq => absurd hq.1 (Nat.succ_ne_zero j)⟩
      intro q hq
      exact Nat.succ_ne_zero j hq.1
end
/-! the same, for goals with the ends spelled out -/
section
variable {P : Program} {w : World} {K : PySem.W.Frag} {mg : Str → Option Value} {base : Heap} {lv : Nat} {N : List Str} {sc : Scope} {fn : Str → Bool}
variable {α β γ δ ρ τ ι : Type}
variable {c : Ctx P w K mg base lv N sc fn} {Γ : Gm} {e : Expr} {es : List Expr} {pos pos' p px : Pos} {T : Ty K α} {R : Rs ρ} {rt : Gm → ρ → Prop} {nx bk ct : Gm → Prop}
theorem w_fld {C o : Addr} {fs : List (Str × TV K)} {x fl : Str} {i : Nat} (cl : Cls K C) (na : NoAttr K C fl) (hs : slotOf N x 0 = some i) (hv : visB sc x = true) (h : EW c Γ e T fun Γ1 z => Γ1[i]? = some (some (obj C o fs)) ∧ fs.length < 1000 ∧ nx (Γ1.set i (some (obj C o (putT fl (tv T z) fs)))))
    (hd : (x == ("__debug__" : Str)) = false := by decide +kernel) (hcd : (x == ("__classdict__" : Str)) = false := by decide +kernel) (hsw : ∀ env, swapsWith e (some (.Attribute (.Name x px) fl pos')) pos.line env = pure false := by intro _; rfl) : S1 c Γ (.Assign [.Attribute (.Name x px) fl pos'] e pos) (⟨R, rt, nx, bk, ct⟩ : En ρ) := s1_fld cl na hs hv h hd hcd hsw
theorem w_fldaug {C o : Addr} {fs : List (Str × TV K)} {x fl : Str} {i : Nat} {z : Int} (cl : Cls K C) (na : NoAttr K C fl) (hs : slotOf N x 0 = some i) (hv : visB sc x = true) (hx : Γ[i]? = some (some (obj C o fs))) (hf : fs.lookup fl = some (tv (tInt (K := K)) z))
    (h : EW c Γ e tInt fun Γ1 u => Γ1[i]? = some (some (obj C o fs)) ∧ fs.length < 1000 ∧ nx (Γ1.set i (some (obj C o (putT fl (tv (tInt (K := K)) (z + u)) fs)))))
    (hd : (x == ("__debug__" : Str)) = false := by decide +kernel) (hcd : (x == ("__classdict__" : Str)) = false := by decide +kernel) : S1 c Γ (.AugAssign (.Attribute (.Name x px) fl pos') .Add e pos) (⟨R, rt, nx, bk, ct⟩ : En ρ) := s1_fldaug cl na hs hv hx hf h hd hcd
theorem w_make {C : Addr} {fo : τ → List (Str × TV K)} {args : ι → List (TV K)} {pre : τ → ι → Prop} {post : τ → ι → Unit → τ → Prop} {name x : Str} {ps : List Str} {l i : Nat} {cpos : Pos} {s0 : τ} (G : MkAt P w K mg base C name l ps (spO C fo args tNon pre post)) (hl : l + 1 ≤ lv) (hg : glB sc name = true) (hs : slotOf N x 0 = some i) (hv : locB sc fn x = true) (h0 : fo s0 = [])
    (h : EWs c Γ (e :: es) fun Γ1 ts => i < Γ1.length ∧ ∃ j, ts = args j ∧ pre s0 j ∧ ∀ o s', post s0 j () s' → nx (Γ1.set i (some (obj C o (fo s'))))) (hdb : (name == ("__debug__" : Str)) = false := by decide +kernel)
    (he : ∀ env, starEach (e :: es) env = (false, eval e env) :: starEach es env := by intro _; rfl) (hpl : ∀ env, (backTo cpos (starEach es env)).any (·.1) = false := by intro _; rfl)
    (hsw : ∀ env, swapsWith (.Call (.Name name p) (e :: es) [] cpos) (some (.Name x pos')) pos.line env = pure false := by intro _; rfl) : S1 c Γ (.Assign [.Name x pos'] (.Call (.Name name p) (e :: es) [] cpos) pos) (⟨R, rt, nx, bk, ct⟩ : En ρ) := s1_make G hl hg hs hv h0 h hdb he hpl hsw
end
end Px
/-! Px, nineteenth part: texts: startswith at a place, split, join of a tuple, str(), int(), f-strings, a text no time or once. -/
namespace Px
open PySem PySem.Spec PyProof.Rows L2
def rRep01 : R2 := fun x y H Q => ∃ s n, x = .str s ∧ y = .int n ∧ ((n = 0 ∧ Q (.str Str.empty) H) ∨ (n = 1 ∧ Q (.str s) H))
theorem op_rep01 {X : Cx} : OpR X (binaryOp .Mult) rRep01 := by
  intro pins s σ H x y v u Q I rx ry h
  obtain ⟨z, n, rfl, rfl, q⟩ := h
  obtain ⟨t, rfl⟩ := rx
  obtain ⟨t', rfl⟩ := ry
  rcases q with ⟨rfl, q⟩ | ⟨rfl, q⟩
  · exact PySem.P.mul_str_none (by decide) (by decide) ⟨.str Str.empty, H, I.tok _, ⟨_, rfl⟩, q⟩
  · refine PySem.P.mul_str (by decide) (fun _ h => absurd h (by simp)) (fun _ h => absurd h (by simp)) ?_
    rw [if_neg (by decide), if_pos (by simp)]
    exact ⟨.str z, H, I, ⟨_, rfl⟩, q⟩
section
variable {P : Program} {w : World} {K : PySem.W.Frag} {mg : Str → Option Value} {base : Heap} {lv : Nat} {N : List Str} {sc : Scope} {fn : Str → Bool}
variable {α β γ δ ρ : Type}
variable {c : Ctx P w K mg base lv N sc fn} {Γ : Gm} {e a b d tg iter elt f e1 e2 : Expr} {lo hi : Option Expr} {es ts ifs : List Expr} {pos pos' p p2 pt px q2 ap : Pos} {T : Ty K α} {A : Ty K α} {B' : Ty K β} {C : Ty K γ} {D' : Ty K δ}
theorem ew_rep01 {k : Gm → Str → Prop} (h : EW c Γ a tStr fun Γ1 s => EW c Γ1 b tInt fun Γ2 n => (n = 0 ∧ k Γ2 Str.empty) ∨ (n = 1 ∧ k Γ2 s)) : EW c Γ (.BinOp a .Mult b pos) tStr k :=
  ew_bin (fun _ => op_rep01) (h.imp fun _ s h => h.imp fun _ n hx => fun F H x y S hx' hy Q q => ⟨s, n, hx', hy, hx.imp (fun z => ⟨z.1, q _ F H _ (Step.refl S) rfl z.2⟩) fun z => ⟨z.1, q _ F H _ (Step.refl S) rfl z.2⟩⟩)
theorem tw_inS {k : Gm → Bool → Prop} (h : EW c Γ a tStr fun Γ1 s => EW c Γ1 b tStr fun Γ2 z => ∃ i, s = sg i ∧ k Γ2 (decide (i ∈ z.cps.toList))) (hm : behindInMarks .In b = false := by with_unfolding_all rfl) : TW c Γ (.Compare a [.In] [b] pos) k :=
  tw_cmp (fun _ => op_in_sign) (h.imp fun _ s h => h.imp fun _ z ⟨i, h1, h2⟩ => fun F H x y S hx hy Q q => ⟨i, z, by rw [show x = .str s from hx, h1]; rfl, hy, q _ F H _ (Step.refl S) rfl h2⟩) hm
/-- text.startswith(text, place) -/
theorem ew_starts3 {k : Gm → Bool → Prop} (h : EW c Γ a tStr fun Γ1 s => EW c Γ1 b tStr fun Γ2 g => EW c Γ2 d tInt fun Γ3 i => k Γ3 (Txt.startswith3 s g i)) (ok : MOk a "startswith" ap b [d] pos) (h2 : ∀ env, starEach [d] env = (false, eval d env) :: starEach [] env := by intro _; rfl) : EW c Γ (.Call (.Attribute a "startswith" ap) [b, d] [] pos) tBool k := fun B σ F H S Q q => by
  refine of_pe (pe_bmW PySem.F.plainAttrs_str PySem.F.slot_str_startswith PySem.F.type_str_startswith mt_startswith3 ok peW (pa_cons peW (pa_cons peW pa_nil (h2 _)) (ok.star _))) ?_
  refine h B σ F H S _ fun v s Γ1 F1 H1 S1 e1 r1 h1 => ⟨by rw [show v = .str s from r1]; rfl, h1 B σ F1 H1 S1 _ fun u g Γ2 F2 H2 S2 e2 r2 h2 => h2 B σ F2 H2 S2 _ fun t i Γ3 F3 H3 S3 e3 r3 h3 => ?_⟩
  exact ⟨s, g, i, r1, by rw [show u = .str g from r2, show t = .int i from r3], q _ _ Γ3 F3 H3 S3 ((e1.trans e2).trans e3) rfl h3⟩
/-- text.split(text) -/
theorem el_split {k : Gm → List Str → Prop} (h : EW c Γ a tStr fun Γ1 s => EW c Γ1 b tStr fun Γ2 g => ((g.length == 0) = false ∧ s.length + 2 ≤ sizeLine) ∧ k Γ2 (Txt.split s g)) (hs : ∀ env, starEach [b] env = [(false, eval b env)] := by intro _; rfl) (hb : ∀ env, attributeBase a "split" env (eval a env) = eval a env := by intro _; rfl) (hl : (ap.endLine == pos.line) = true := by rfl) : EL c Γ (.Call (.Attribute a "split" ap) [b] [] pos) tStr k := fun B σ F H S Q q => by
  refine of_pe (pe_split peW peW (hs _) (hb _) hl) (h B σ F H S _ fun v s Γ1 F1 H1 S1 e1 r1 h1 => ⟨⟨s, r1⟩, h1 B σ F1 H1 S1 _ fun u g Γ2 F2 H2 S2 e2 r2 ⟨⟨h2, h3⟩, h4⟩ => ?_⟩)
  refine ⟨s, g, r1, by rw [show u = .str g from r2], h2, h3, fun p hp => ?_⟩
  obtain ⟨S4, b1, b2, b3⟩ := S2.make (o := .lst ((Txt.split s g).map V.str)) hp
  exact q p _ _ Γ2 _ _ S4 (e1.trans e2) b1 b3 b2 upd_same (All2.of_map (f := V.str) (fun _ => rfl) _) h4
/-- text.join(tuple) -/
theorem ew_joinT {k : Gm → Str → Prop} (h : EW c Γ a tStr fun Γ1 s => EW c Γ1 b (tTup tStr) fun Γ2 ys => (ys.map (·.length)).sum + ys.length * s.length ≤ 16777216 ∧ k Γ2 (Txt.join s ys))
    (hs : ∀ env, starEach [b] env = [(false, eval b env)] := by intro _; rfl) (hb : ∀ env, attributeBase a "join" env (eval a env) = eval a env := by intro _; rfl) (hl : (ap.endLine == pos.line) = true := by rfl) : EW c Γ (.Call (.Attribute a "join" ap) [b] [] pos) tStr k := fun B σ F H S Q q => by
  obtain ⟨X, rfl, rfl, rfl, rfl, rfl, rfl, nd, rfl, rfl, calm, room, pas⟩ := c
  refine of_pe (pe_join peW peW (hs _) (hb _) hl) (h B σ F H S _ fun v s Γ1 F1 H1 S1 e1 r1 h1 => ⟨⟨s, r1⟩, h1 B σ F1 H1 S1 _ fun u ys Γ2 F2 H2 S2 e2 ⟨l, vs, ev, hq, hr⟩ h2 => ?_⟩)
  have ev2 : vs = ys.map V.str := All2.eq_map (fun _ _ r => r) hr
  subst ev2
  exact ⟨s, l, ys, r1, by rw [ev], .inr (sqT_mono S2.sub hq), h2.1, q _ _ Γ2 F2 H2 S2 (e1.trans e2) rfl h2.2⟩
/-- str(int) -/
theorem ew_strI (bi : Bi mg) {k : Gm → Str → Prop} (hg : glB sc "str" = true) (h : EW c Γ a tInt fun Γ1 i => i.natAbs.log2 < 1920 ∧ k Γ1 (toString i)) (he : ∀ env, starEach [a] env = (false, eval a env) :: starEach [] env := by intro _; rfl) : EW c Γ (.Call (.Name "str" p) [a] [] pos) tStr k :=
  ew_Ty (i' := "str") (fun _ _ => call_str_int) hg bi.str (by decide +kernel) (ews_cons (h.imp fun _ i hx => ews_nil fun F H xs S r Q q => match xs, r with
    | [v], ⟨r, _⟩ => ⟨i, by rw [show v = .int i from r], hx.1, q _ F H _ (Step.refl S) rfl hx.2⟩) he) (he := he)
/-- int(text) -/
theorem ew_intS (bi : Bi mg) {k : Gm → Int → Prop} (hg : glB sc "int" = true) (h : EW c Γ a tStr fun Γ1 s => s.length ≤ 640 ∧ ∃ n, PySem.intText? s = some n ∧ k Γ1 n) (he : ∀ env, starEach [a] env = (false, eval a env) :: starEach [] env := by intro _; rfl) : EW c Γ (.Call (.Name "int" p) [a] [] pos) tInt k :=
  ew_Ty (i' := "int") (fun _ _ => call_int_str) hg bi.int (by decide +kernel) (ews_cons (h.imp fun _ s ⟨h1, n, h2, h3⟩ => ews_nil fun F H xs S r Q q => match xs, r with
    | [v], ⟨r, _⟩ => ⟨s, n, by rw [show v = .str s from r], h2, h1, q _ F H _ (Step.refl S) rfl h3⟩) he) (he := he)
/-! ### f-strings -/
def EJ (c : Ctx P w K mg base lv N sc fn) (Γ : Gm) (es : List Expr) (acc : Str) (k : Gm → Str → Prop) : Prop :=
  ∀ B σ F H, Sta B Γ σ F H → ∀ Q : Str → Hp → Prop, (∀ out Γ' F' H', Sta B Γ' σ F' H' → Same F F' → k Γ' out → Q out H') → tJs (es.map fun e => wE c.X e) acc σ H Q
theorem ej_nil {acc : Str} {k : Gm → Str → Prop} (h : k Γ acc) : EJ c Γ [] acc k := fun B σ F H S Q q => q acc Γ F H S (Same.refl _) h
theorem ej_cons {acc : Str} {k : Gm → Str → Prop} (h : EW c Γ e tStr fun Γ1 y => (acc ++ y).length ≤ sizeLine ∧ EJ c Γ1 es (acc ++ y) k) : EJ c Γ (e :: es) acc k := fun B σ F H S Q q =>
  h B σ F H S _ fun v y Γ1 F1 H1 S1 e1 r1 ⟨h1, h2⟩ => ⟨y, r1, h1, h2 B σ F1 H1 S1 Q fun out Γ2 F2 H2 S2 e2 h3 => q out Γ2 F2 H2 S2 (e1.trans e2) h3⟩
theorem pjW {X : Cx} : ∀ es : List Expr, PJ X es (es.map fun e => wE X e)
  | [] => .nil
  | e :: es => .cons peW (pjW es)
theorem ew_joined {v1 v2 : Expr} {rest : List Expr} {k : Gm → Str → Prop} (h : EJ c Γ (v1 :: v2 :: rest) Str.empty k) : EW c Γ (.JoinedStr (v1 :: v2 :: rest) pos) tStr k := fun B σ F H S Q q =>
  of_pe (pe_joined (pjW _)) (h B σ F H S _ fun out Γ1 F1 H1 S1 e1 h1 => q _ out Γ1 F1 H1 S1 e1 rfl h1)
theorem ew_fmtS {k : Gm → Str → Prop} (h : EW c Γ e tStr fun Γ1 y => y.length ≤ sizeLine ∧ k Γ1 y) : EW c Γ (.FormattedValue e (-1) none pos) tStr k := fun B σ F H S Q q =>
  of_pe (pe_fmt peW) (h B σ F H S _ fun v y Γ1 F1 H1 S1 e1 r1 ⟨h1, h2⟩ => .inl ⟨y, r1, h1, q _ y Γ1 F1 H1 S1 e1 rfl h2⟩)
theorem ew_fmtI {k : Gm → Str → Prop} (h : EW c Γ e tInt fun Γ1 i => i.natAbs.log2 < 1920 ∧ k Γ1 (toString i)) : EW c Γ (.FormattedValue e (-1) none pos) tStr k := fun B σ F H S Q q =>
  of_pe (pe_fmt peW) (h B σ F H S _ fun v y Γ1 F1 H1 S1 e1 r1 ⟨h1, h2⟩ => .inr ⟨y, r1, h1, q _ _ Γ1 F1 H1 S1 e1 rfl h2⟩)
end
end Px
/-! Px, twentieth part: tables of code objects owned beside a slot's value; lambdas with one parameter; min by key. -/
namespace Px
open PySem PySem.Spec PyProof.Rows L2
open LamX (CodeO TabB lamEnv)
/-- f is this very function object -/
def FunO (f : Addr) (o : Obj) : HO := .ext fun h => h.get? f = some o
def TabOk (F H : Hp) (P : Addr) (q : Str) : Prop := ∃ ps : Array Value, H P = some (.tbl ps) ∧ TriplesOk ps.toList ∧ ∀ (z : Pos) (cv : Value), codeAmong z ps.toList = some cv → ∃ d, cv = .ref d ∧ F d = some (CodeO d q)
theorem TabOk.ne {F H : Hp} {P : Addr} {q : Str} (h : TabOk F H P q) : H P ≠ none := by
  obtain ⟨ps, e, _⟩ := h
  rw [e]; exact fun z => nomatch z
theorem TabOk.st {F F' H H' : Hp} {P : Addr} {q : Str} (h : TabOk F H P q) (e : Same F F') (k : H' P = H P) : TabOk F' H' P q := by
  obtain ⟨ps, h1, h2, h3⟩ := h
  exact ⟨ps, k.trans h1, h2, fun z cv y => let ⟨d, e1, e2⟩ := h3 z cv y; ⟨d, e1, e _ _ e2⟩⟩
theorem TabOk.nil {F H : Hp} {P : Addr} {q : Str} (h : H P = some (.tbl #[])) : TabOk F H P q := ⟨#[], h, True.intro, fun z cv y => by
  have y' : codeAmong z [] = some cv := y
  simp [codeAmong] at y'⟩
section
variable {K : PySem.W.Frag} {α : Type}
/-- a frozen value; the slot owns the code table at P, too -/
def entT (t : TV K) (P : Addr) (q : Str) : Ent := ⟨fun v ps F H => (∀ b, ps b ↔ b = P) ∧ t.r F v ∧ TabOk F H P q, false, true, fun ⟨h1, h2, h3⟩ e k => ⟨h1, t.mono e h2, h3.st e (k P ((h1 P).mpr rfl))⟩, fun h => nomatch h⟩
abbrev valT (T : Ty K α) (a : α) (P : Addr) (q : Str) : Ent := entT (tv T a) P q
/-- the function that a lambda makes -/
def tLam (q : Str) (params : Arguments) (body : Expr) (scope : Scope) (cells : List (Str × Addr)) : Ty K Unit :=
  ⟨fun F v _ => ∃ (f d : Addr) (pm ctv : Value), v = .ref f ∧ F f = some (FunO f (PySem.W.kla_obj "<lambda>" q params body scope (cloFrom cells scope.names []) pm d ctv)) ∧ F d = some (CodeO d q),
   fun e ⟨f, d, pm, ctv, h1, h2, h3⟩ => ⟨f, d, pm, ctv, h1, e _ _ h2, e _ _ h3⟩⟩
/-- a promise that may fill the table -/
def spT {ι ρ : Type} (P : Addr) (q : Str) (args : ι → List (TV K)) (R : Ty K ρ) (pre : ι → Prop) (post : ι → ρ → Prop) : Sp := fun vs H Q _ =>
  ∃ F i, Same F H ∧ F P = none ∧ TabOk F H P q ∧ All2 (fun v (t : TV K) => t.r F v) vs (args i) ∧ pre i ∧
    ∀ v r F' H', Same F F' → Same F' H' → (∀ b o, b ≠ P → H b = some o → H' b = some o) → (∀ b, H b ≠ none → F b = none → F' b = none) → TabOk F' H' P q → R.r F' v r → post i r → Q v H'
end
/-! ### the names of a lambda -/
def lamB (sc scope : Scope) (x : Str) : Bool := decide (scope.kind = .function) && !scope.isCoroutine && !scope.isGenerator && decide (scope.names.lookup x = some .local) &&
  scope.names.all fun y => !decide (y.2 = .cell) && (!decide (y.2 = .local) || decide (y.1 = x)) && (!decide (y.2 = .free) || decide (sc.names.lookup y.1 = some .cell) || decide (sc.names.lookup y.1 = some .free))
structure LamN (sc scope : Scope) (x : Str) : Prop where
  kind : scope.kind = .function
  co : scope.isCoroutine = false
  gen : scope.isGenerator = false
  loc : scope.names.lookup x = some .local
  ncell : ∀ y ∈ scope.names, y.2 ≠ .cell
  own : ∀ y ∈ scope.names, y.2 = .local → y.1 = x
  free : ∀ y ∈ scope.names, y.2 = .free → sc.names.lookup y.1 = some .cell ∨ sc.names.lookup y.1 = some .free
theorem lamB_n {sc scope : Scope} {x : Str} (h : lamB sc scope x = true) : LamN sc scope x := by
  unfold lamB at h
  simp only [Bool.and_eq_true, Bool.or_eq_true, Bool.not_eq_true', decide_eq_true_eq, decide_eq_false_iff_not, List.all_eq_true] at h
  obtain ⟨⟨⟨⟨h1, h2⟩, h3⟩, h4⟩, h5⟩ := h
  refine ⟨h1, h2, h3, h4, fun y hy => (h5 y hy).1.1, fun y hy e => ?_, fun y hy e => ?_⟩
  · exact (h5 y hy).1.2.resolve_left fun z => z e
  · rcases (h5 y hy).2 with (z | z) | z
    · exact absurd e z
    · exact .inl z
    · exact .inr z
theorem LamN.has {X : Cx} {scope : Scope} {x : Str} (L : LamN X.env.scope scope x) (ok : X.Ok) : ∀ y ∈ scope.names, y.2 = .free → ∃ c, X.env.cells.lookup y.1 = some c := fun y hy e =>
  ok.has _ (L.free y hy e)
/-! ### the lambda is made -/
section
variable {X : Cx} {pins : List (Addr × Obj)} {σ : L2.St} {H : Hp} {s : Shared}
theorem lam_mk {c P : Addr} {q : Str} {ps : Array Value} {params : Arguments} {body : Expr} {scope : Scope} {z : Pos} {E : Value → Shared → Prop} {Q : Value → Shared → Prop} (I : Inv X pins σ H s) (TB : TabB X.base X.mg c P) (hcode : X.env.code = .ref c) (hq : X.env.qual ++ "<lambda>" = q)
    (hP : H P = some (.tbl ps)) (ht : TriplesOk ps.toList) (ha : ∀ (z : Pos) (cv : Value), codeAmong z ps.toList = some cv → ∃ d, cv = .ref d ∧ H d = some (CodeO d q)) (hdef : defaultsOf params X.env = ([], [])) (hfree : ∀ y ∈ scope.names, y.2 = .free → ∃ d, X.env.cells.lookup y.1 = some d)
    (h : ∀ (f d : Addr) (pm ctv : Value) (ps' : Array Value) (H1 : Hp) (s' : Shared), (H1 = H ∧ ps' = ps ∧ (∃ z, codeAmong z ps.toList = some (.ref d)) ∨ H d = none ∧ H1 = upd (upd H P (.tbl ps')) d (CodeO d q)) → TriplesOk ps'.toList → (∀ (z : Pos) (cv : Value), codeAmong z ps'.toList = some cv → codeAmong z ps.toList = some cv ∨ cv = .ref d) → H1 f = none →
      Inv X pins σ (upd H1 f (FunO f (PySem.W.kla_obj "<lambda>" q params body scope (cloFrom X.env.cells scope.names []) pm d ctv))) s' → Q (.ref f) s') :
    wpAny (model X.prog X.w) X.A (eval (.Lambda params body scope z) X.env) Q E s := by
  subst hq
  refine PySem.W.kla_eval hdef ?_
  have bP := TB.bm.keeps I.bk
  have oP : s.heap.get? P = some { cls := .none, data := .fields ps } := I.hok P _ hP
  have lay : ∀ {H1 : Hp} {h' : Heap} {tk : Tok} {o : Obj} (hf : o.isFreed = false) (J : Inv X pins σ H1 { s with heap := h', toks := tk }), H1 h'.objs.size = none ∧ Inv X pins σ (upd H1 h'.objs.size (FunO h'.objs.size o)) { s with heap := h'.push o, toks := tk } := fun {H1 h' tk o} hf J =>
    ⟨J.fresh, J.laid (a := h'.objs.size) (o := FunO h'.objs.size o) (t' := tk) (fun b u e => Heap.get?_push_of_some _ e) (Nat.le_refl _) ⟨Heap.get?_push_size _ hf, ⟨o, Heap.get?_push_size _ hf⟩, fun h1 h2 e k => k _ e⟩⟩
  cases hc : codeAmong z ps.toList with
  | some cv =>
    obtain ⟨d, rfl, hd⟩ := ha z cv hc
    refine PySem.W.kla_makeFunctionHit (mg := X.mg) (c := c) (P := P) (ps := ps) (closure_ok hfree) I.ok.glob (I.mod.glob.keeps I.bk) hcode (TB.code.keeps I.bk) oP ht hc bP fun ctv h' tk hx _ => ?_
    have J : Inv X pins σ H { s with heap := h', toks := tk } := I.kept hx
    obtain ⟨l1, l2⟩ := lay (o := PySem.W.kla_obj "<lambda>" (X.env.qual ++ "<lambda>") params body scope (cloFrom X.env.cells scope.names []) ((X.mg "__name__").getD .none) d ctv) rfl J
    exact h _ d _ ctv ps H _ (.inl ⟨rfl, rfl, z, hc⟩) ht (fun z' cv' y => .inl y) l1 l2
  | none =>
    refine PySem.W.kla_makeFunction (mg := X.mg) (c := c) (P := P) (ps := ps) (closure_ok hfree) I.ok.glob (I.mod.glob.keeps I.bk) hcode (TB.code.keeps I.bk) oP ht hc TB.gP bP fun d ctv h' tk hx hge hlt hrec htb => ?_
    obtain ⟨d2, oc, vs, t, e2, hoc, hdt, hv⟩ := hrec
    cases e2
    have J := LamX.inv_table (t' := tk) (more := #[rawInt z.line, rawInt z.col, .ref d]) (h' := h') I hP (fun b o hb e => hx b o hb e) htb hge ⟨oc, vs, t, hoc, hdt, hv⟩
    obtain ⟨l1, l2⟩ := lay (o := PySem.W.kla_obj "<lambda>" (X.env.qual ++ "<lambda>") params body scope (cloFrom X.env.cells scope.names []) ((X.mg "__name__").getD .none) d ctv) rfl J
    have eL : (ps ++ #[rawInt z.line, rawInt z.col, .ref d]).toList = ps.toList ++ [rawInt z.line, rawInt z.col, .ref d] := Array.toList_append
    refine h _ d _ ctv (ps ++ #[rawInt z.line, rawInt z.col, .ref d]) _ _ (.inr ⟨I.hok.fresh hge, rfl⟩) (by rw [eL]; exact PySem.TriplesOk_snoc _ _ _ _ ht) (fun z' cv' y => ?_) l1 l2
    rw [eL] at y
    exact LamX.among_app _ ht y
end
/-! ### the rules -/
section
variable {P : Program} {w : World} {K : PySem.W.Frag} {mg : Str → Option Value} {base : Heap} {lv : Nat} {N : List Str} {sc : Scope} {fn : Str → Bool}
variable {α β γ δ ρ ι : Type}
variable {c : Ctx P w K mg base lv N sc fn} {Γ : Gm} {e a b : Expr} {es : List Expr} {pos pos' p : Pos} {T : Ty K α} {R : Ty K ρ}
theorem Sta.tab_upd {B : Base} {σ : L2.St} {F H F2 H2 : Hp} {j : Nat} {t : TV K} {W : Addr} {q : Str} (S : Sta B Γ σ F H) (hx : Γ[j]? = some (some (entT t W q))) (s1 : Same F F2) (s2 : Same F2 H2) (s3 : ∀ b o, b ≠ W → H b = some o → H2 b = some o) (s4 : ∀ b, H b ≠ none → F b = none → F2 b = none) (s5 : TabOk F2 H2 W q) : Sta B Γ σ F2 H2 := by
  have := S.own_upd (F' := F2) (H' := H2) (e' := entT t W q) hx rfl fun v3 ps3 hv3 ⟨hq3, r3, _⟩ own3 => ?_
  · rwa [gm_same hx] at this
  · refine ⟨ps3, s2, s1, fun b o hb nb => s3 b o (fun z => nb ((hq3 b).mpr z)) hb, fun b nb => ?_, s4, fun y hy => ?_, hq3, t.mono s1 r3, s5⟩
    · by_cases z : b = W
      · rw [z]; exact s5.ne
      · cases y : H b with
        | none => exact absurd y nb
        | some o => rw [s3 b o z y]; exact fun z => nomatch z
    · obtain rfl : y = W := (hq3 y).mp hy
      have o3 := own3 y hy
      exact ⟨.inl hy, s4 y o3.2.1 o3.1, s5.ne, o3.2.2.2⟩
/-- a name whose slot owns the table, too -/
theorem ew_nameT {i : Nat} {x : Str} {x0 : α} {W : Addr} {q : Str} {k : Gm → α → Prop} (hs : slotOf N x 0 = some i) (hv : visB sc x = true) (hg : Γ[i]? = some (some (valT T x0 W q))) (hk : k Γ x0)
    (hd : (x == ("__debug__" : Str)) = false := by decide +kernel) (hcd : (x == ("__classdict__" : Str)) = false := by decide +kernel) : EW c Γ (.Name x pos) T k := by
  intro B σ F H S Q k2
  have hN := c.hN
  have hsc := c.hsc
  obtain ⟨v, ps, h1, h2, _⟩ := S.get hg
  exact of_pe (pe_var (by rw [hN]; exact slotOf_at hs) (by rw [hsc]; exact visB_vis hv) hd hcd) ⟨v, h1, k2 v x0 Γ F H S (Same.refl _) h2.2.1 hk⟩
/-- lambda x: body -/
theorem ew_lam {t : TV K} {W cT : Addr} {q : Str} {j : Nat} {params : Arguments} {body : Expr} {scope : Scope} {x : Str} {k : Gm → Unit → Prop} (TB : TabB base mg cT W) (hcode : c.X.env.code = .ref cT) (hq : c.X.env.qual ++ "<lambda>" = q) (hj : Γ[j]? = some (some (entT t W q))) (L : lamB sc scope x = true)
    (hk : k Γ ()) (hdef : ∀ env, defaultsOf params env = ([], []) := by intro _; rfl) : EW c Γ (.Lambda params body scope pos) (tLam q params body scope c.X.env.cells) k := by
  intro B σ F H S Q k2 pins s I
  have LL : LamN c.X.env.scope scope x := by rw [c.hsc]; exact lamB_n L
  obtain ⟨v, ps0, hv, ⟨hp, rv, ps, hP, ht, ha⟩, own⟩ := S.get hj
  refine lam_mk I (by rw [c.hbase, c.hmg]; exact TB) hcode hq hP ht (fun z cv y => let ⟨d, e1, e2⟩ := ha z cv y; ⟨d, e1, S.sub _ _ e2⟩) (hdef _) (LL.has I.ok) fun f d pm ctv ps' H1 s' hH hT hA hf J => ?_
  have key : ∃ F1, Sta B Γ σ F1 H1 ∧ Same F F1 ∧ F1 d = some (CodeO d q) := by
    rcases hH with ⟨rfl, _, z, hz⟩ | ⟨nd, rfl⟩
    · obtain ⟨d', e1, e2⟩ := ha z _ hz
      cases e1
      exact ⟨F, S, Same.refl _, e2⟩
    · have nW : W ≠ d := ne_of_none hP nd
      have fd := S.sub.free nd
      have ff : Same F (upd F d (CodeO d q)) := same_new fd
      have fW : F W = none := (own W ((hp W).mpr rfl)).1
      refine ⟨upd F d (CodeO d q), S.tab_upd hj ff (fun b o y => ?_) (fun b o nb y => ?_) (fun b n1 n2 => ?_) ⟨ps', by rw [upd_ne nW, upd_same], hT, fun z cv y => ?_⟩, ff, upd_same⟩
      · by_cases hb : b = d
        · rw [hb, upd_same] at y ⊢; exact y
        · rw [upd_ne hb] at y ⊢
          rw [upd_ne (ne_of_none y fW)]
          exact S.sub b o y
      · rw [upd_ne (ne_of_none y nd), upd_ne nb]; exact y
      · rw [upd_ne fun y => n1 (by rw [y]; exact nd)]; exact n2
      · rcases hA z cv y with y | y
        · obtain ⟨d', e1, e2⟩ := ha z cv y
          exact ⟨d', e1, ff _ _ e2⟩
        · exact ⟨d, y, upd_same⟩
  obtain ⟨F1, S1, e1, hd⟩ := key
  have st := Step.frozen (o := FunO f (PySem.W.kla_obj "<lambda>" q params body scope (cloFrom c.X.env.cells scope.names []) pm d ctv)) S1.sub hf
  exact ⟨.ref f, _, J, rfl, k2 _ () Γ _ _ (S1.step st) (e1.trans st.ff) ⟨f, d, pm, ctv, rfl, upd_same, st.ff _ _ hd⟩ hk⟩
/-- f(e, ..) of a def that may fill the table -/
theorem ew_callT {args : ι → List (TV K)} {pre : ι → Prop} {post : ι → ρ → Prop} {name : Str} {ps : List Str} {l : Nat} {k : Gm → ρ → Prop} {W : Addr} {q : Str} (G : Prom P w K mg base name l ps (spT W q args R pre post)) (hl : l ≤ lv) (hg : glB sc name = true)
    (h : EWs c Γ (e :: es) fun Γ1 ts => (∃ (j : Nat) (t : TV K), Γ1[j]? = some (some (entT t W q))) ∧ ∃ i, ts = args i ∧ pre i ∧ ∀ r, post i r → k Γ1 r) (hdb : (name == ("__debug__" : Str)) = false := by decide +kernel)
    (he : ∀ env, starEach (e :: es) env = (false, eval e env) :: starEach es env := by intro _; rfl) (hpl : ∀ env, (backTo pos (starEach es env)).any (·.1) = false := by intro _; rfl) : EW c Γ (.Call (.Name name p) (e :: es) [] pos) R k := by
  intro B σ F H S Q k2
  obtain ⟨X, rfl, rfl, rfl, rfl, rfl, rfl, nd, rfl, rfl, calm, room, pas⟩ := c
  obtain ⟨f, fd, g1, g2, g3, g4⟩ := G.ex
  refine of_pe (pe_call g4 (room.mono hl) (glB_gl hg) g1 g2 g3 .nil pass0 paW hdb (he _) (hpl _)) ?_
  refine h B σ F H S _ fun vs ts Γ1 F1 H1 S1 e1 r1 ⟨⟨j, t, hj⟩, i, ei, hp, hk⟩ => ?_
  subst ei
  obtain ⟨v', ps1, hv2, ⟨hq2, _, d2⟩, own⟩ := S1.get hj
  show spT W q args R pre post (vs ++ []) H1 Q E0
  rw [List.append_nil]
  exact ⟨F1, i, S1.sub, (own W ((hq2 W).mpr rfl)).1, d2, r1, hp, fun v r F2 H2 s1 s2 s3 s4 s5 rr hr => k2 v r _ F2 H2 (S1.tab_upd hj s1 s2 s3 s4 s5) (e1.trans s1) rr (hk r hr)⟩
/-- .. by keywords -/
theorem ew_callKT {args : ι → List (TV K)} {pre : ι → Prop} {post : ι → ρ → Prop} {name : Str} {st : Stmt} {ps ks : List Str} {perm : ∀ {β : Type}, List β → List β} {l : Nat} {k : Gm → ρ → Prop} {kws : List Keyword} {W : Addr} {q : Str} (G : FnAt K mg name name st ps) (G2 : ∀ f fd, Fun K name name st f fd → FnOk P w K mg base CX0 l f fd ps (spT W q args R pre post)) (hl : l ≤ lv) (kb : KwB K name st ps ks @perm) (hg : glB sc name = true)
    (h : EWk c Γ kws fun Γ1 ts => ts.length = ks.length ∧ (∃ (j : Nat) (t : TV K), Γ1[j]? = some (some (entT t W q))) ∧ ∃ i, perm ts = args i ∧ pre i ∧ ∀ r, post i r → k Γ1 r) (hperm : ∀ F vs (ts : List (TV K)), All2 (fun v (t : TV K) => t.r F v) vs ts → All2 (fun v (t : TV K) => t.r F v) (perm vs) (perm ts)) (hdb : (name == ("__debug__" : Str)) = false := by decide +kernel)
    (hall : ∀ env, (backToKw pos (keywordEach kws env)).all (·.1.isSome) = true := by intro _; rfl) (hks : ∀ env, (backToKw pos (keywordEach kws env)).filterMap (·.1) = ks := by intro _; rfl)
    (hpl : ∀ env, ((backTo pos (starEach [] env)).any (·.1) || (backToKw pos (keywordEach kws env)).any (·.1.isNone)) = false := by intro _; rfl) : EW c Γ (.Call (.Name name p) [] kws pos) R k := by
  intro B σ F H S Q k2
  obtain ⟨X, rfl, rfl, rfl, rfl, rfl, rfl, nd, rfl, rfl, calm, room, pas⟩ := c
  obtain ⟨f, fd, FF, hm, hb⟩ := G
  refine of_pe (run_kw (G2 f fd FF) (room.mono hl) (glB_gl hg) hm FF.kp (kb.to f fd FF) kb.rel pkW (hall _) (hks _) hdb (hpl _)) ?_
  refine h B σ F H S _ fun vs ts Γ1 F1 H1 S1 e1 r1 ⟨hl', ⟨j, t, hj⟩, i, ei, hp, hk⟩ => ⟨by rw [All2.length r1]; exact hl', ?_⟩
  obtain ⟨v', ps1, hv2, ⟨hq2, _, d2⟩, own⟩ := S1.get hj
  exact ⟨F1, i, S1.sub, (own W ((hq2 W).mpr rfl)).1, d2, by rw [← ei]; exact hperm _ _ _ r1, hp, fun v r F2 H2 s1 s2 s3 s4 s5 rr hr => k2 v r _ F2 H2 (S1.tab_upd hj s1 s2 s3 s4 s5) (e1.trans s1) rr (hk r hr)⟩
/-- the slots at the entry: the first one owns the table -/
def gmT (n : Nat) (W : Addr) (q : Str) : List (TV K) → Gm
  | [] => gmOf n ([] : List (TV K))
  | t :: ts => some (entT t W q) :: gmOf (n - 1) ts
theorem sta_startT {F H : Hp} {W : Addr} {q : Str} {ts : List (TV K)} {vs : List V} (hs : Same F H) (hf : F W = none) (hd : TabOk F H W q) (r : All2 (fun v (t : TV K) => t.r F v) vs ts) (hn : ts ≠ []) (hl : vs.length ≤ N.length) : Sta ⟨F, H, fun y => y = W, fun _ => False, fun _ => False⟩ (gmT N.length W q ts) (start N vs) F H := by
  cases ts with
  | nil => exact absurd rfl hn
  | cons t ts =>
    cases vs with
    | nil => exact r.elim
    | cons v vs =>
      obtain ⟨r0, r⟩ := r
      have hlen := All2.length r
      rw [List.length_cons] at hl
      refine ⟨?_, hs, Same.refl _, fun _ _ h _ => h, fun _ h => h, fun _ _ h => h, fun _ h => h.elim, fun j y => j = 0 ∧ y = W, fun j y ⟨_, e⟩ => ⟨by rw [e]; exact hf, by rw [e]; exact hd.ne, .inr e, fun h => h⟩, fun j k y ⟨e1, _⟩ ⟨e2, _⟩ => e1.trans e2.symm, fun j x hx => ?_⟩
      · rw [start_len (by rw [List.length_cons]; omega)]
        show (some (entT t W q) :: gmOf (N.length - 1) ts).length = _
        unfold gmOf
        rw [List.length_cons, List.length_append, List.length_map, List.length_replicate]
        omega
      · cases j with
        | zero =>
          cases hx
          exact ⟨v, start_get rfl, ⟨fun b => by simp, r0, hd⟩, fun z => nomatch z⟩
        | succ j =>
          have hx' : (gmOf (N.length - 1) ts)[j]? = some (some x) := hx
          obtain ⟨t', ht, rfl⟩ := gm_get hx'
          obtain ⟨v', hv, rv⟩ := All2.getR r ht
          refine ⟨v', start_get (by rw [List.getElem?_cons_succ]; exact hv), ⟨?_, rv⟩, fun _ y hy => absurd hy.1 (Nat.succ_ne_zero j)⟩
          intro y hy
          exact Nat.succ_ne_zero j hy.1
/-- a def that may fill the table; its first slot owns it -/
theorem fn_tab {args : ι → List (TV K)} {pre : ι → Prop} {post : ι → ρ → Prop} {x qual : Str} {st : Stmt} {f : Addr} {fd : FuncData} {ps : List Str} {W : Addr} {q : Str} (F : Fun K x qual st f fd) (S : FnScope N ps (defScope st)) (hl : ∀ i, (args i).length = ps.length) (hps : ps ≠ [])
    (h : ∀ i, pre i → ∀ c : Ctx P w K mg base lv N (defScope st) (fun _ => true), SW c (gmT N.length W q (args i)) (defBody st) ⟨rTy R, fun Γ r => (∃ (j : Nat) (t : TV K), Γ[j]? = some (some (entT t W q))) ∧ post i r, fun _ => False, fun _ => False, fun _ => False⟩) : FnOk P w K mg base CX0 (lv + 1) f fd ps (spT W q args R pre post) := by
  have hpl : ps.length ≤ N.length := by have := congrArg List.length S.pre; rw [List.length_take] at this; omega
  refine fn_px F S (fun vs H Q E ⟨F0, i, _, _, _, r, _⟩ => (All2.length r).trans (hl i)) fun vs H Q E ⟨F0, i, hs, hf, hd, r, hp, k2⟩ => ?_
  have hn : args i ≠ [] := fun z => hps (List.eq_nil_of_length_eq_zero (by rw [← hl i, z]; rfl))
  refine ⟨ρ, ⟨F0, H, fun y => y = W, fun _ => False, fun _ => False⟩, gmT N.length W q (args i), F0, rTy R, _, _, fun _ h => h, sta_startT hs hf hd r hn (by rw [All2.length r, hl i]; exact hpl), h i hp, fun v Γ' σ' F' H' a S' ra ⟨⟨j, t, hj⟩, ha⟩ => ?_, fun Γ' σ' F' H' S' z => z.elim⟩
  obtain ⟨v0, ps0, hv0, ⟨_, _, d0⟩, _⟩ := S'.get hj
  exact k2 v a F' H' S'.ext S'.sub (fun b o nb hb => S'.keep b o hb nb) S'.new d0 ra ha
/-- the same for the def that makes the lambda: its code object is known -/
theorem fn_mk {args : ι → List (TV K)} {pre : ι → Prop} {post : ι → ρ → Prop} {x qual : Str} {st : Stmt} {f : Addr} {fd : FuncData} {ps : List Str} {W cT : Addr} {q : Str} (F : Fun K x qual st f fd) (hcode : fd.code = .ref cT) (S : FnScope N ps (defScope st)) (hl : ∀ i, (args i).length = ps.length) (hps : ps ≠ [])
    (h : ∀ i, pre i → ∀ c : Ctx P w K mg base lv N (defScope st) (fun _ => true), c.X.env.code = .ref cT → c.X.env.qual = qual ++ ".<locals>." → SW c (gmT N.length W q (args i)) (defBody st) ⟨rTy R, fun Γ r => (∃ (j : Nat) (t : TV K), Γ[j]? = some (some (entT t W q))) ∧ post i r, fun _ => False, fun _ => False, fun _ => False⟩) : FnOk P w K mg base CX0 (lv + 1) f fd ps (spT W q args R pre post) := by
  have hpl : ps.length ≤ N.length := by have := congrArg List.length S.pre; rw [List.length_take] at this; omega
  obtain ⟨oc, od, kV, doc, pm, an, cdv, ct, osl, rfl, lk, hcd⟩ := F.ex
  obtain rfl : cdv = .ref cT := hcode
  refine fn_of lk hcd S (fun vs H Q E ⟨F0, i, _, _, _, r, _⟩ => (All2.length r).trans (hl i)) fun A outer s H vs Q E hr ⟨F0, i, hs, hf, hd, r, hp, k2⟩ => ?_
  have hn : args i ≠ [] := fun z => hps (List.eq_nil_of_length_eq_zero (by rw [← hl i, z]; rfl))
  have S0 := sta_startT (N := N) hs hf hd r hn (by rw [All2.length r, hl i]; exact hpl)
  refine ⟨_, (pssW (X := (cxOf CX0 P w K mg base N qual (defScope st) f (.ref cT) A outer s H E).nox)).nox, ?_⟩
  refine wSs_mono (h i hp ⟨(cxOf CX0 P w K mg base N qual (defScope st) f (.ref cT) A outer s H E).nox, rfl, rfl, rfl, rfl, rfl, rfl, S.nd, rfl, rfl, rfl, hr, PassesOwn.never⟩ rfl rfl _ (start N vs) F0 H (fun _ h => h) S0) (fun σ1 H1 ⟨Γ1, F1, S1, z⟩ => z.elim) (fun v H1 ⟨Γ1, σ1, F1, a, S1, ra, ⟨j, t, hj⟩, ha⟩ => ?_) (fun σ1 H1 ⟨Γ1, F1, S1, z⟩ => z.elim) fun σ1 H1 ⟨Γ1, F1, S1, z⟩ => z.elim
  obtain ⟨v0, ps0, hv0, ⟨_, _, d0⟩, _⟩ := S1.get hj
  exact k2 v a F1 H1 S1.ext S1.sub (fun b o nb hb => S1.keep b o hb nb) S1.new d0 ra ha
/-! ### the law's own promise, with the table -/
def spLawT (K : PySem.W.Frag) (W : Addr) : Sp := fun vs H Q _ => H W = some (.tbl #[]) ∧ spLaw K vs H Q E0
theorem fn_lawT {x qual : Str} {st : Stmt} {f : Addr} {fd : FuncData} {W : Addr} {q : Str} (F : Fun K x qual st f fd) (S : FnScope N ["script"] (defScope st))
    (h : ∀ ns : List Int, ns.length ≤ 63 → ∀ c : Ctx P w K mg base lv N (defScope st) (fun _ => true), SW c (gmT N.length W q [tv (tSeq (K := K) tInt) ns]) (defBody st) ⟨rTy (K := K) tBool, fun _ r => r = true, fun _ => False, fun _ => False, fun _ => False⟩) : FnOk P w K mg base CX0 (lv + 1) f fd ["script"] (spLawT K W) := by
  have hpl : 1 ≤ N.length := by have := congrArg List.length S.pre; rw [List.length_take] at this; simp at this; omega
  refine fn_px F S (fun vs H Q E ⟨_, a, ns, e, _⟩ => by rw [e]; rfl) fun vs H Q E ⟨hW, a, ns, e, hS, hl, k2⟩ => ?_
  subst e
  have key : ∃ F0 : Hp, Same F0 H ∧ F0 W = none ∧ SqL K F0 a (ns.map V.int) := by
    rcases hS with hS | hS
    · have hk : ∃ o, H a = some o ∧ SqL K (upd (fun _ => none) a o) a (ns.map V.int) ∧ W ≠ a := by
        rcases hS with h | ⟨o, h⟩
        · exact ⟨_, h, .inl (.inl upd_same), fun z => by rw [z, h] at hW; cases hW⟩
        · exact ⟨_, h, .inl (.inr ⟨o, upd_same⟩), fun z => by rw [z, h] at hW; cases hW⟩
      obtain ⟨o, ho, hq, hne⟩ := hk
      refine ⟨upd (fun _ => none) a o, fun b x z => ?_, by rw [upd_ne hne], hq⟩
      by_cases hb : b = a
      · rw [hb, upd_same] at z; rw [hb, ho]; exact z
      · rw [upd_ne hb] at z; cases z
    · exact ⟨fun _ => none, (fun _ _ z => nomatch z), rfl, .inr hS⟩
  obtain ⟨F0, hs, hf, hq⟩ := key
  refine ⟨Bool, ⟨F0, H, fun y => y = W, fun _ => False, fun _ => False⟩, gmT N.length W q [tv (tSeq (K := K) tInt) ns], F0, rTy (K := K) tBool, _, _, fun _ h => h, sta_startT hs hf (TabOk.nil hW) ⟨⟨a, ns.map V.int, rfl, hq, all2_ints _ ns⟩, trivial⟩ (by simp) hpl, h ns hl, fun v Γ' σ' F' H' z S' ra ha => ?_, fun Γ' σ' F' H' S' z => z.elim⟩
  obtain rfl : v = .bl z := ra
  rw [ha]; exact k2 H'
end
/-- the def that makes lambdas, as the top has left it: its code object at cT, the table at W -/
structure MakerAt (K : PySem.W.Frag) (mg : Str → Option Value) (base : Heap) (x qual : Str) (st : Stmt) (ps : List Str) (cT W : Addr) : Prop where
  ex : ∃ f fd, Fun K x qual st f fd ∧ mg x = some (.ref f) ∧ Binds K fd ps [] ∧ fd.code = .ref cT
  tb : TabB base mg cT W
theorem MakerAt.prom {P : Program} {w : World} {K : PySem.W.Frag} {mg : Str → Option Value} {base : Heap} {x qual : Str} {st : Stmt} {ps : List Str} {cT W : Addr} {sp : Sp} {l : Nat} (h : MakerAt K mg base x qual st ps cT W) (k : ∀ f fd, Fun K x qual st f fd → fd.code = .ref cT → FnOk P w K mg base CX0 l f fd ps sp) : Prom P w K mg base x l ps sp := by
  obtain ⟨f, fd, F, hm, hb, hc⟩ := h.ex
  exact ⟨f, fd, hm, F.kp, hb, k f fd F hc⟩
end Px
/-! Px, twenty-first part: a lambda run; min by key. -/
namespace Px
open PySem PySem.Spec PyProof.Rows L2
open LamX (CodeO TabB lamEnv)
/-- the context of the lambda's body -/
def lamC (X : Cx) (A : Around) (outer : List Env) (s : Shared) (H : Hp) (scope : Scope) (f d : Addr) : Cx := { LamX.lamCx X A outer s H (fun _ _ _ => False) scope f d with xe := fun _ _ => False }
section
variable {X : Cx} {pins : List (Addr × Obj)} {σ : L2.St} {H : Hp} {s : Shared}
theorem lam_start {A : Around} {scope : Scope} {f d : Addr} {x : Str} {i : Nat} {v : V} {u : Value} {h₁ : Heap} {tk : Nat} (I : Inv X pins σ H s) (L : LamN X.env.scope scope x) (hN : X.N[i]? = some x) (nd : X.N.Nodup) (e0 : Env0 X.prog X.w X.K X.mg X.base A X.stack s H) (hd : A.handled = none)
    (hns : h₁.Ns s.heap.objs.size fun y => ([(x, u)] : List (Str × Value)).reverse.lookup y) (kp : ∀ b o, s.heap.get? b = some o → h₁.get? b = some o) (r : RelV v u) :
    Inv (lamC X A X.stack s H scope f d) [] (σ.set i (some v)) H { s with heap := h₁, toks := tk } := by
  have hfree := L.has I.ok
  have cm : ∀ {y c}, (cloFrom X.env.cells scope.names []).lookup y = some c → X.env.cells.lookup y = some c := fun {y c} e => by
    rcases cloFrom_mem (PySem.mem_of_lookup e) with hm | ⟨h1, h2⟩
    · exact nomatch hm
    · obtain ⟨c1, hc⟩ := hfree _ h1 rfl
      have hc' : X.env.cells.lookup y = some c1 := hc
      rw [h2, hc']; rfl
  have look : ∀ {y}, scope.names.lookup y = some .free → ∃ c, (cloFrom X.env.cells scope.names []).lookup y = some c := fun {y} hl => by
    exact mem_lookup (cloFrom_has (cells := X.env.cells) (acc := []) (PySem.mem_of_lookup hl))
  have cellK : ∀ {c : Addr} {v : Option Value}, s.heap.IsCell c v → h₁.IsCell c v := fun {c v} ⟨o, ho, hd⟩ => ⟨o, kp _ _ ho, hd⟩
  have notC : ∀ {y}, scope.names.lookup y ≠ some .cell := fun {y} e => L.ncell _ (PySem.mem_of_lookup e) rfl
  have noA : ∀ b : Addr, b ∉ (lamC X A X.stack s H scope f d).ex := fun b z => nomatch (show b ∈ ([] : List Addr) from z)
  exact {
    ok := {
      mod := e0.mod, kind := L.kind, glob := rfl, blt := rfl, above := Nat.le_refl _
      inj := fun y z c e1 e2 => I.ok.inj y z c (cm e1) (cm e2)
      has := fun y hy => hy.elim (fun z => absurd z notC) look
      cab := fun y c z _ => nomatch (show false = true from z)
      hd := fun _ => hd
      frames := Around.frames_deeper e0.frames
      stk := .inr ⟨rfl, rfl⟩
      exf := fun b z => absurd z (noA b)
      bs := e0.bs, bsz := e0.bsz
      noex := fun b _ _ => noA b
      exfs := fun b z => absurd z (noA b)
      funs := e0.funs, frf := e0.frf }
    os := rfl
    bare := e0.bare
    base := Un.kept kp
    loc := ⟨_, hns, fun j y w e1 e2 e3 => by
      have e1' : X.N[j]? = some y := e1
      have e3' : Vis scope y := e3
      rcases e3' with k | k | k
      · obtain rfl : y = x := L.own _ (PySem.mem_of_lookup k) rfl
        have hij : j = i := by
          have h1 := (List.getElem?_eq_some_iff.mp e1')
          have h2 := (List.getElem?_eq_some_iff.mp hN)
          obtain ⟨a1, a2⟩ := h1
          obtain ⟨b1, b2⟩ := h2
          exact (List.getElem_inj nd).mp (a2.trans b2.symm)
        subst hij
        have hl : j < σ.length := by rw [I.len]; exact (List.getElem?_eq_some_iff.mp e1').1
        rw [List.getElem?_set_self hl] at e2
        cases e2
        exact ⟨u, r, .inl ⟨k, by simp⟩⟩
      · exact absurd k notC
      · have hji : j ≠ i := fun z => by
          subst z
          rw [hN] at e1'
          cases e1'
          have k' := L.loc
          have k2 : scope.names.lookup x = some .free := k
          rw [k'] at k2
          cases k2
        rw [List.getElem?_set_ne (Ne.symm hji)] at e2
        obtain ⟨m, hn, hl⟩ := I.loc
        have hvis : Vis X.env.scope y := (L.free _ (PySem.mem_of_lookup k) rfl).elim (fun k => .inr (.inl k)) (fun k => .inr (.inr k))
        obtain ⟨w', r', z⟩ := hl j y w e1' e2 hvis
        obtain ⟨c2, h2⟩ := look k
        refine ⟨w', r', .inr ⟨.inr k, c2, h2, ?_⟩⟩
        rcases z with ⟨k', _⟩ | ⟨_, c3, e', z⟩
        · have k1 : X.env.scope.names.lookup y = some .local := k'
          rcases L.free _ (PySem.mem_of_lookup k) rfl with k2 | k2 <;> rw [show X.env.scope.names.lookup y = _ from k2] at k1 <;> cases k1
        · rw [cm h2] at e'
          cases e'
          exact cellK z⟩
    cell := fun y c e => let ⟨w', z⟩ := I.cell y c (cm e); ⟨w', cellK z⟩
    free := e0.hok.fresh (Nat.le_refl _)
    freeC := fun y c e => I.freeC y c (cm e)
    pin := fun q hq => nomatch (show q ∈ ([] : List (Addr × Obj)) from hq)
    hok := e0.hok.kept kp
    len := by rw [List.length_set]; exact I.len }
end
/-- slots of frozen values, of those that Γ tells -/
def FrzOf (Γ Γl : Gm) : Prop := Γl.length = Γ.length ∧ ∀ (j : Nat) (e : Ent), Γl[j]? = some (some e) → e.frz = true ∧ Γ[j]? = some (some e)
theorem frz_nil : FrzOf [] [] := ⟨rfl, fun j e h => by simp at h⟩
theorem frz_none {x : Option Ent} {Γ Γl : Gm} (h : FrzOf Γ Γl) : FrzOf (x :: Γ) (none :: Γl) := ⟨congrArg (· + 1) h.1, fun j e z => by
  cases j with
  | zero => cases z
  | succ j => exact h.2 j e z⟩
theorem frz_val {x : Ent} {Γ Γl : Gm} (hx : x.frz = true) (h : FrzOf Γ Γl) : FrzOf (some x :: Γ) (some x :: Γl) := ⟨congrArg (· + 1) h.1, fun j e z => by
  cases j with
  | zero => cases z; exact ⟨hx, rfl⟩
  | succ j => exact h.2 j e z⟩
section
variable {P : Program} {w : World} {K : PySem.W.Frag} {mg : Str → Option Value} {base : Heap} {lv : Nat} {N : List Str} {sc : Scope} {fn : Str → Bool}
variable {α β γ δ ρ ι : Type}
variable {Γ Γl : Gm} {e a b : Expr} {es : List Expr} {pos pos' p : Pos} {T : Ty K α} {R : Ty K ρ}
theorem sta_lam {B : Base} {σ : L2.St} {F H : Hp} {i : Nat} {v : V} {x0 : α} (S : Sta B Γ σ F H) (hf : FrzOf Γ Γl) (hi : i < Γ.length) (r : T.r F v x0) : Sta ⟨F, H, fun _ => False, fun _ => False, fun _ => False⟩ (Γl.set i (some (val T x0))) (σ.set i (some v)) F H := by
  refine ⟨by rw [List.length_set, List.length_set, hf.1]; exact S.len, S.sub, Same.refl _, fun _ _ h _ => h, fun _ h => h, fun _ _ h => h, fun _ h => h.elim, fun _ _ => False, fun _ _ h => h.elim, fun _ _ _ h => h.elim, fun j y hy => ?_⟩
  by_cases hj : j = i
  · subst hj
    rw [List.getElem?_set_self (by rw [hf.1]; exact hi)] at hy
    cases hy
    exact ⟨v, List.getElem?_set_self (by rw [← S.len]; exact hi), ⟨fun _ h => h, r⟩, fun _ _ h => h.elim⟩
  · rw [List.getElem?_set_ne (Ne.symm hj)] at hy
    obtain ⟨h1, h2⟩ := hf.2 j y hy
    obtain ⟨v', ps, hv, ho, _⟩ := S.get h2
    refine ⟨v', by rw [List.getElem?_set_ne (Ne.symm hj)]; exact hv, ?_, fun _ _ h => h.elim⟩
    have e0 : ps = fun _ => False := by
      funext p
      exact propext ⟨fun z => y.fz h1 ho p z, fun z => z.elim⟩
    rw [e0] at ho
    exact ho
theorem lam_run {lvl : Nat} (c : Ctx P w K mg base lv N sc fn) {B : Base} {σ : L2.St} {F H : Hp} {pins : List (Addr × Obj)} {s : Shared} {q x : Str} {params : Arguments} {body : Expr} {scope : Scope} {f : Addr} {i : Nat} {x0 : α} {v : V} {u : Value} {post : ρ → Prop} {Q E : Value → Shared → Prop} (hr : lvl + 2 ≤ lv)
    (I : Inv c.X pins σ H s) (S : Sta B Γ σ F H) (hlam : (tLam (K := K) q params body scope c.X.env.cells).r F (.ref f) ()) (hq : c.X.env.qual ++ "<lambda>" = q) (hs : slotOf N x 0 = some i) (L : lamB sc scope x = true) (hf : FrzOf Γ Γl)
    (hbind : ∀ (cl : List (Str × Addr)) (pm cv ctv : Value) (u : Value), bindArgs (PySem.W.kla_fn "<lambda>" q params body scope cl pm cv ctv) ⟨[u], []⟩ = pure [(x, u)])
    (rv : RelV v u) (ra : T.r F v x0) (hbody : ∀ cl : Ctx P w K mg base lvl N scope (fun _ => false), EW cl (Γl.set i (some (val T x0))) body R fun _ r => post r)
    (hQ : ∀ (z : V) (y : Value) (r : ρ) (F' H' : Hp) (s' : Shared), Inv c.X pins σ H' s' → Sta B Γ σ F' H' → Same F F' → RelV z y → R.r F' z r → post r → (∀ b o, s.heap.get? b = some o → H b = none → H' b = none ∧ (b ∉ frs c.X.stack → s'.heap.get? b = some o)) → Q y s') :
    wpAny (model c.X.prog c.X.w) c.X.A.in1 (call (.ref f) [u]) Q E s := by
  obtain ⟨X, rfl, rfl, rfl, rfl, rfl, rfl, nd, rfl, rfl, calm, room, pas⟩ := c
  obtain ⟨f', d, pm, ctv, ef, h1, h2⟩ := hlam
  cases ef
  subst hq
  have LL : LamN X.env.scope scope x := lamB_n L
  have hil : i < Γ.length := by rw [S.len, I.len]; exact (List.getElem?_eq_some_iff.mp (slotOf_at hs)).1
  have ofn : s.heap.get? f = some (PySem.W.kla_obj "<lambda>" (X.env.qual ++ "<lambda>") params body scope (cloFrom X.env.cells scope.names []) pm d ctv) := (I.hok f _ (S.sub _ _ h1)).1
  obtain ⟨⟨oc, vs, t, hoc, hdc, hvc⟩, _, _⟩ := I.hok d _ (S.sub _ _ h2)
  have r0 : Room (lvl + 1) X.A.in1 := (room.mono (show lvl + 1 + 1 ≤ lv from hr)).in1
  have run : codeAny (model X.prog X.w) X.A.in1 (.call (.ref f) ⟨[u], []⟩) (CR CX0 X.stack X.prog X.w H s (fun z H' => ∃ r F', Sta ⟨F, H, fun _ => False, fun _ => False, fun _ => False⟩ [] [] F' H' ∧ Same F F' ∧ R.r F' z r ∧ post r) E0) s := by
    refine PySem.W.kla_callFunE r0.depth ofn rfl LL.co LL.gen rfl ⟨d, oc, vs, t, rfl, hoc, hdc, hvc⟩ ?_
    rw [hbind]
    refine wpAny_pure (wpAny_newFunctionEnv LL.ncell (fun y hy => ?_) (fun h₁ hns hsb => ⟨I.nolimit.fresh _ hsb, ?_⟩) LL.kind)
    · obtain rfl : y = (x, u) := by simpa using hy
      exact LL.loc
    show codeAny _ _ (.expr body (lamEnv X scope s.heap.objs.size f d)) _ _
    have kp : ∀ b o, s.heap.get? b = some o → h₁.get? b = some o := fun b o e => hsb.extBut b o (Nat.ne_of_lt (Heap.lt_size e)) (Heap.get?_push_of_some _ e)
    have J := lam_start (f := f) (d := d) (tk := s.toks + ([(x, u)] : List (Str × Value)).length) I LL (slotOf_at hs) nd I.env0.in1 r0.hd hns kp rv
    have cl : Ctx X.prog X.w X.K X.mg X.base lvl X.N scope (fun _ => false) := ⟨lamC X X.A.in1 X.stack s H scope f d, rfl, rfl, rfl, rfl, rfl, rfl, nd, rfl, rfl, rfl, r0.deeper _, PassesOwn.never⟩
    refine PySem.W.kla_codeExpr (wpAny_mono ((hbody ⟨lamC X X.A.in1 X.stack s H scope f d, rfl, rfl, rfl, rfl, rfl, rfl, nd, rfl, rfl, rfl, r0.deeper _, PassesOwn.never⟩ _ _ F H (sta_lam S hf hil ra)
      (fun z H' => ∃ r F', Sta ⟨F, H, fun _ => False, fun _ => False, fun _ => False⟩ [] [] F' H' ∧ Same F F' ∧ R.r F' z r ∧ post r) fun z r Γ' F' H' S' e' rr hp => ⟨r, F', ⟨rfl, S'.sub, S'.ext, S'.keep, S'.dom, S'.new, fun _ h => h.elim, fun _ _ => False, fun _ _ h => h.elim, fun _ _ _ h => h.elim, fun j x hx => by simp at hx⟩, e', rr, hp⟩) [] _ J) (fun v s' hq => ?_) fun e s' hq => False.elim hq)
    obtain ⟨w', H', J', rv', z⟩ := hq
    exact ⟨w', H', J'.os, J'.bare, J'.base, J'.hok, rv', z⟩
  refine wpAny_call (codeAny_mono run fun rr s' hq => ?_)
  cases rr with
  | error e => exact False.elim hq
  | ok fl =>
    cases fl with
    | next => exact False.elim hq
    | brk => exact False.elim hq
    | cont => exact False.elim hq
    | ret y =>
      obtain ⟨z, H', os, bare, un, hok, rz, r, F', S', e', hr', hp⟩ := hq
      obtain ⟨hh, g, d', t', os'⟩ := s'
      obtain rfl : os' = s.os := os
      exact hQ z y r F' H' _ (I.call (h' := hh) (g' := g) (d' := d') (t' := t') (ch := []) un hok bare (fun b z => nomatch z)) (S.step (sta_step S' fun _ z => z)) e' rz hr' hp fun b o q1 q2 => ⟨un.free b o q1 q2 (fun z => nomatch z), fun q3 => un.keep b o q1 q2 q3 (fun z => nomatch z)⟩
/-! ### min by key -/
theorem walk_tupV {prog : Program} {w : World} {A : Around} (hh : A.handled = none) (I ax : Addr) (hne : ax ≠ I) (xs : List V) :
    WalksS prog w A I [I, ax] [I] (fun a b => b = a) xs.length (fun i v => ∃ x, xs[i]? = some x ∧ RelV x v) (fun i s => s.heap.IsTupleIter I ax i ∧ ∃ its : List Value, Vals xs its ∧ s.heap.IsTuple ax its.toArray) where
  sub := fun b hb => by simp at hb; simp [hb]
  grefl := fun _ => rfl
  gtrans := fun _ _ _ h1 h2 => h2.trans h1
  frame := fun i s h' tk ⟨a, its, r, b⟩ _ k => ⟨a.at fun o e => k I (by simp) o e, its, r, b.at fun o e => k ax (by simp) o e⟩
  item := fun i s Q E hi ⟨a, its, r, b⟩ hQ => by
    obtain ⟨u, hu, ru⟩ := r.get (List.getElem?_eq_getElem hi)
    exact wpAny_pyNext_tuple_item a b (x := u) (by simpa using hu) fun h' hit' hs' => hQ u _ ⟨_, List.getElem?_eq_getElem hi, ru⟩ ⟨hit', its, r, b.extBut hs'.extBut hne⟩ ⟨fun b o hb e => hs'.extBut b o (fun z => hb (by simp [z])) e, rfl, rfl, rfl, Nat.le_refl _⟩
  done := fun s Q E ⟨a, its, r, b⟩ hQ => wpAny_pyNext_tuple_end hh a b (by simp [r.length]) fun h' he' => hQ _ ⟨fun b o hb e => he' b o (fun z => hb (by simp [z])) e, rfl, rfl, rfl, Nat.le_refl _⟩
  self := fun _ _ _ _ ⟨a, _⟩ hQ => wpAny_pyIter_tupleiter a hQ
theorem argBest_first (gs : Nat → Int) : ∀ k, argBest (fun i j => decide (gs i < gs j)) k ≤ k ∧ (∀ j, j < argBest (fun i j => decide (gs i < gs j)) k → gs (argBest (fun i j => decide (gs i < gs j)) k) < gs j) ∧ ∀ j, j ≤ k → gs (argBest (fun i j => decide (gs i < gs j)) k) ≤ gs j
  | 0 => ⟨Nat.le_refl _, fun j h => absurd h (Nat.not_lt_zero _), fun j h => by obtain rfl : j = 0 := by omega
                                                                                exact Int.le_refl _⟩
  | k + 1 => by
    obtain ⟨h1, h2, h3⟩ := argBest_first gs k
    unfold argBest
    by_cases hb : gs (k + 1) < gs (argBest (fun i j => decide (gs i < gs j)) k)
    · rw [if_pos (by simpa using hb)]
      refine ⟨Nat.le_refl _, fun j hj => Int.lt_of_lt_of_le hb (h3 j (by omega)), fun j hj => ?_⟩
      by_cases e : j = k + 1
      · rw [e]; exact Int.le_refl _
      · exact Int.le_of_lt (Int.lt_of_lt_of_le hb (h3 j (by omega)))
    · rw [if_neg (by simpa using hb)]
      refine ⟨by omega, h2, fun j hj => ?_⟩
      by_cases e : j = k + 1
      · rw [e]; omega
      · exact h3 j (by omega)
theorem vals_one {F : Hp} {t : TV K} : ∀ {vs : List V} {us : List Value}, All2 (fun v (t : TV K) => t.r F v) vs [t] → Vals vs us → ∃ v u, vs = [v] ∧ us = [u] ∧ t.r F v ∧ RelV v u
  | [v], _, ⟨h, _⟩, .cons r .nil => ⟨v, _, rfl, rfl, h, r⟩
/-- x is the first of the least -/
def FirstMin {α : Type} (g : α → Int) (as : List α) (x : α) : Prop := ∃ i : Nat, as[i]? = some x ∧ (∀ j y, j < i → as[j]? = some y → g x < g y) ∧ ∀ (j : Nat) y, as[j]? = some y → g x ≤ g y
theorem FirstMin.uniq {α : Type} {g : α → Int} {as : List α} {x y : α} (hx : FirstMin g as x) (hy : FirstMin g as y) : x = y := by
  obtain ⟨i, i1, i2, i3⟩ := hx
  obtain ⟨j, j1, j2, j3⟩ := hy
  rcases Nat.lt_trichotomy i j with h | rfl | h
  · have a := j2 i x h i1
    have b := i3 j y j1
    omega
  · rw [i1] at j1; exact Option.some.inj j1
  · have a := i2 j y h j1
    have b := j3 i x i1
    omega
/-- min(xs, key=lambda x: body), xs a tuple -/
theorem ew_minKey {lvl i : Nat} {c : Ctx P w K mg base lv N sc fn} {q x : Str} {params : Arguments} {body : Expr} {scope : Scope} {lpos kpos px : Pos} {k : Gm → α → Prop} (bi : Bi mg) (hr : lvl + 2 ≤ lv) (hgm : glB sc "min" = true) (hq : c.X.env.qual ++ "<lambda>" = q) (hs : slotOf N x 0 = some i) (L : lamB sc scope x = true)
    (h : EW c Γ e (tTup T) fun Γ1 as => EW c Γ1 (.Lambda params body scope lpos) (tLam q params body scope c.X.env.cells) fun Γ2 _ => as ≠ [] ∧ ∃ (Γl : Gm) (g : α → Int), FrzOf Γ2 Γl ∧ (∀ x0 ∈ as, ∀ cl : Ctx P w K mg base lvl N scope (fun _ => false), EW cl (Γl.set i (some (val T x0))) body tInt fun _ r => r = g x0) ∧ ∀ x0, FirstMin g as x0 → k Γ2 x0)
    (hbind : ∀ (cl : List (Str × Addr)) (pm cv ctv : Value) (u : Value), bindArgs (PySem.W.kla_fn "<lambda>" q params body scope cl pm cv ctv) ⟨[u], []⟩ = pure [(x, u)] := by intro _ _ _ _ _; rfl)
    (he : ∀ env, starEach [e] env = (false, eval e env) :: starEach [] env := by intro _; rfl) (he2 : ∀ env, backTo pos (starEach [e] env) = (false, eval e env) :: backTo pos (starEach [] env) := by intro _; rfl) (hpl : ∀ env, (backTo pos (starEach [e] env)).any (·.1) = false := by intro _; rfl)
    (hall : ∀ env, (backToKw pos (keywordEach [⟨some "key", .Lambda params body scope lpos, kpos⟩] env)).all (·.1.isSome) = true := by intro _; rfl) (hnone : ∀ env, (backToKw pos (keywordEach [⟨some "key", .Lambda params body scope lpos, kpos⟩] env)).any (·.1.isNone) = false := by intro _; rfl)
    (hks : ∀ env, (backToKw pos (keywordEach [⟨some "key", .Lambda params body scope lpos, kpos⟩] env)).filterMap (·.1) = [Str.ofString "key"] := by intro _; rfl) : EW c Γ (.Call (.Name "min" px) [e] [⟨some "key", .Lambda params body scope lpos, kpos⟩] pos) T k := by
  intro B σ F H S Q k2 pins s I
  have hh : c.X.A.handled = none := c.room.hd
  refine wpAny_Call_Name_kw (ld_blt I (by show c.X.env.scope.names.lookup _ = _; rw [c.hsc]; exact glB_gl hgm) (by rw [c.hmg]; exact bi.min) (show bootBuiltins "min" = some (.builtin "min") by decide +kernel) ?_)
  refine PyProof.Rows.callWith_kw ?_ (he2 _) (hpl _) (hall _) (hnone _)
  rw [hks]
  have hes : EWs c Γ [e] fun Γ1 ts => ∃ as, ts = [tv (tTup T) as] ∧ EW c Γ1 (.Lambda params body scope lpos) (tLam q params body scope c.X.env.cells) fun Γ2 _ => as ≠ [] ∧ ∃ (Γl : Gm) (g : α → Int), FrzOf Γ2 Γl ∧ (∀ x0 ∈ as, ∀ cl : Ctx P w K mg base lvl N scope (fun _ => false), EW cl (Γl.set i (some (val T x0))) body tInt fun _ r => r = g x0) ∧ ∀ x0, FirstMin g as x0 → k Γ2 x0 :=
    ews_cons (h.imp fun _ as h1 => ews_nil ⟨as, rfl, h1⟩) he
  refine thn (hes B σ F H S (fun vs H1 => ∀ us s1, Inv c.X pins σ H1 s1 → Vals vs us → wpAny (model c.X.prog c.X.w) c.X.A (evalAll ((backToKw pos (keywordEach [⟨some "key", .Lambda params body scope lpos, kpos⟩] c.X.env)).map (·.2))) (fun kvs s2 => wpAny (model c.X.prog c.X.w) c.X.A (call (.builtin "min") us (List.zip [Str.ofString "key"] kvs)) (EP c.X pins σ Q) c.X.xe s2) c.X.xe s1) (fun vs ts Γ1 F1 H1 S1 e1 r1 ⟨as, ets, h1⟩ us s1 I1 rus => ?_) pos pins s I) fun us s1 ⟨vs, H1, I1, rus, z⟩ => z us s1 I1 rus
  subst ets
  have hek : EWk c Γ1 [⟨some "key", .Lambda params body scope lpos, kpos⟩] fun Γ2 ts => ts = [tv (tLam q params body scope c.X.env.cells) ()] ∧ as ≠ [] ∧ ∃ (Γl : Gm) (g : α → Int), FrzOf Γ2 Γl ∧ (∀ x0 ∈ as, ∀ cl : Ctx P w K mg base lvl N scope (fun _ => false), EW cl (Γl.set i (some (val T x0))) body tInt fun _ r => r = g x0) ∧ ∀ x0, FirstMin g as x0 → k Γ2 x0 :=
    ewk_cons (h1.imp fun _ _ z => ewk_nil ⟨rfl, z⟩)
  refine thn (hek B σ F1 H1 S1 (fun zs H2 => ∀ ws s2, Inv c.X pins σ H2 s2 → Vals zs ws → wpAny (model c.X.prog c.X.w) c.X.A (call (.builtin "min") us (List.zip [Str.ofString "key"] ws)) (EP c.X pins σ Q) c.X.xe s2) (fun zs ts Γ2 F2 H2 S2 e2 r2 ⟨ets, hne, Γl, g, hF, hb, hk⟩ ws s2 I2 rws => ?_) pos pins s1 I1) fun ws s2 ⟨zs, H2, I2, rws, z⟩ => z ws s2 I2 rws
  subst ets
  obtain ⟨v, u, rfl, rfl, ⟨ax, xs, rfl, hT, hxs⟩, ru⟩ := vals_one r1 rus
  obtain ⟨z, y, rfl, rfl, ⟨f, d, pm, ctv, rfl, hz1, hz2⟩, rw'⟩ := vals_one r2 rws
  obtain rfl : u = .ref ax := ru
  obtain rfl : y = .ref f := rw'
  have hlam : (tLam (K := K) q params body scope c.X.env.cells).r F2 (.ref f) () := ⟨f, d, pm, ctv, rfl, hz1, hz2⟩
  have hT2 : SqT K F2 ax xs := sqT_mono e2 hT
  have hxs2 : All2 (T.r F2) xs as := All2.imp (fun _ _ => T.mono e2) hxs
  have hlen : xs.length = as.length := All2.length hxs
  obtain ⟨its, rv, tp, _⟩ := I2.tuple (a := ax) (xs := xs) (by rw [c.hK]; exact sqT_mono S2.sub hT2)
  have tp' : s2.heap.IsTuple ax its.toArray := tp
  have hax : ax < s2.heap.objs.size := by obtain ⟨o, ho, _⟩ := tp'; exact Heap.lt_size ho
  refine call_min_walkK (wpAny_pyIter_tuple tp' ?_)
  have I3 : Inv c.X pins σ H2 { s2 with heap := s2.heap.push { cls := .type "tuple_iterator", data := .fields #[.ref ax, .int 0 0] } } := I2.kept (t' := s2.toks) fun b o e => Heap.get?_push_of_some _ e
  have fI : ∀ H', H' s2.heap.objs.size = none → FpOk c.X pins H' s2.heap.objs.size := fun H' n => I2.fpOk (Nat.le_refl _) n
  have fS : ∀ H', H' (s2.heap.push { cls := .type "tuple_iterator", data := .fields #[.ref ax, .int 0 0] }).objs.size = none → FpOk c.X pins H' (s2.heap.push { cls := .type "tuple_iterator", data := .fields #[.ref ax, .int 0 0] }).objs.size := fun H' n => I3.fpOk (Nat.le_refl _) n
  let gs : Nat → Int := fun i => (as[i]?.map g).getD 0
  have W := walk_tupV (prog := c.X.prog) (w := c.X.w) (A := c.X.A.in1) hh s2.heap.objs.size ax (Nat.ne_of_lt hax) xs
  refine ⟨s2.heap.objs.size, [s2.heap.objs.size, ax], [s2.heap.objs.size], _, xs.length, _, _, (fun s' => ∃ F' H', Inv c.X pins σ H' s' ∧ Sta B Γ2 σ F' H' ∧ Same F2 F' ∧ H' s2.heap.objs.size = none ∧ H' (s2.heap.push { cls := .type "tuple_iterator", data := .fields #[.ref ax, .int 0 0] }).objs.size = none),
    (fun i kv _ => ∃ t, kv = .int (gs i) t), (fun i j => decide (gs i < gs j)), rfl, W, ⟨⟨_, Heap.get?_push_size _ rfl, rfl, rfl⟩, its, rv, tp'.push _⟩, fun b hb => ?_, ?_, ⟨?_, fun _ _ _ _ z _ => z, ?_, ?_⟩, ⟨F2, H2, I3, S2, Same.refl _, I2.fresh, I3.fresh⟩, ?_⟩
  · show b < (s2.heap.push _).objs.size
    rw [Heap.size_push]
    rcases List.mem_cons.mp hb with rfl | hb
    · exact Nat.lt_succ_self _
    · obtain rfl : b = ax := by simpa using hb
      exact Nat.lt_succ_of_lt hax
  · rw [hlen]
    exact List.length_pos_iff.mpr hne
  · rintro t t' ⟨F', H', I', S', e', n1, n2⟩ mv
    obtain ⟨m1, m2, m3, m4, m5⟩ := mv
    obtain ⟨th, tg, td, tt, tos⟩ := t'
    obtain rfl : tg = t.gens := m2
    obtain rfl : td = t.drawn := m3
    obtain rfl : tos = t.os := m4
    refine ⟨F', H', I'.turnedL (h' := th) (t' := tt) (ch := [(s2.heap.push { cls := .type "tuple_iterator", data := .fields #[.ref ax, .int 0 0] }).objs.size, s2.heap.objs.size]) m1 (fun b hb => ?_), S', e', n1, n2⟩
    rcases List.mem_cons.mp hb with rfl | hb
    · exact fS _ n2
    · obtain rfl : b = s2.heap.objs.size := by simpa using hb
      exact fI _ n1
  · rintro j v t o Q' E' hj ⟨xv, hxv, rxv⟩ ⟨F', H', I', S', e', n1, n2⟩ ⟨hit, _⟩ hSo hQ'
    obtain ⟨x0, hx0, rx0⟩ := All2.get hxs2 hxv
    have nf : ∀ b, FpOk c.X pins H' b → b ∉ frs c.X.stack := fun b hb z => (List.mem_cons.mp (I'.stkSub b z)).elim hb.2.1 hb.2.2.1
    obtain ⟨oi, hoi, hi2⟩ := hit
    refine lam_run c hr I' S' ((tLam (K := K) q params body scope c.X.env.cells).mono e' hlam) hq hs L hF hbind rxv (T.mono e' rx0) (hb x0 (List.mem_of_getElem? hx0)) fun z y r F'' H'' s'' I'' S'' e'' rz hz hr' kp => ?_
    obtain rfl : z = .int r := hz
    obtain ⟨ty, rfl⟩ := rz
    obtain ⟨a1, a2⟩ := kp _ _ hoi n1
    obtain ⟨b1, b2⟩ := kp _ _ hSo n2
    obtain ⟨its', rv', tp2, _⟩ := I''.tuple (a := ax) (xs := xs) (by rw [c.hK]; exact sqT_mono S''.sub (sqT_mono (e'.trans e'') hT2))
    refine hQ' _ _ ⟨F'', H'', I'', S'', e'.trans e'', a1, b1⟩ ⟨⟨oi, a2 (nf _ (fI _ n1)), hi2⟩, its', rv', tp2⟩ (b2 (nf _ (fS _ n2))) ⟨ty, ?_⟩ fun _ _ z => z
    show Value.int r ty = Value.int ((as[j]?.map g).getD 0) ty
    rw [hx0, hr']; rfl
  · rintro a b ka kb t Q' E' _ ⟨ta, rfl⟩ ⟨tb, rfl⟩ hQ'
    exact CmpOf.ints_lt (P := fun i v => ∃ t, v = .int (gs i) t) gs (fun _ _ z => z) a b _ _ t _ _ ⟨ta, rfl⟩ ⟨tb, rfl⟩ hQ'
  · rintro v t ⟨xv, hxv, rxv⟩ ⟨F', H', I', S', e', _, _⟩
    obtain ⟨x0, hx0, rx0⟩ := All2.get hxs2 hxv
    obtain ⟨b1, b2, b3⟩ := argBest_first gs (xs.length - 1)
    have hg0 : gs (argBest (fun i j => decide (gs i < gs j)) (xs.length - 1)) = g x0 := by show (as[_]?.map g).getD 0 = _; rw [hx0]; rfl
    have hgj : ∀ {j y}, as[j]? = some y → gs j = g y := fun {j y} e => by show (as[j]?.map g).getD 0 = _; rw [e]; rfl
    refine ⟨xv, H', I', rxv, k2 xv x0 Γ2 F' H' S' ((e1.trans e2).trans e') (T.mono e' rx0) (hk x0 ⟨_, hx0, fun j y hj hy => ?_, fun j y hy => ?_⟩)⟩
    · have := b2 j hj
      rw [hg0, hgj hy] at this
      exact this
    · have hjl := (List.getElem?_eq_some_iff.mp hy).1
      have := b3 j (by omega)
      rw [hg0, hgj hy] at this
      exact this
/-! ### sum, min, max of lists of ints; tuples with one head -/
section
variable {c : Ctx P w K mg base lv N sc fn} {A : Ty K α} {B' : Ty K β}
theorem ew_sumL (bi : Bi mg) {k : Gm → Int → Prop} (hg : glB sc "sum" = true) (h : EW c Γ a (tLst tInt) fun Γ1 xs => k Γ1 xs.sum) (he : ∀ env, starEach [a] env = (false, eval a env) :: starEach [] env := by intro _; rfl) : EW c Γ (.Call (.Name "sum" p) [a] [] pos) tInt k :=
  ew_B (id := "sum") (i' := "sum") (r := rSum K) (fun hK hc => by rw [← hK]; exact cr_sum hc) hg bi.sum (by decide +kernel) (ews_cons (h.imp fun _ xs hx => ews_nil fun F H vs S r Q q => match vs, r with
    | [v], ⟨⟨p, us, ev, hp, hu⟩, _⟩ => ⟨p, xs, by rw [ev], .inl (.inl (S _ _ (by rw [hp, All2.eq_map (f := V.int) (fun _ _ e => e) hu]))), q _ F H xs.sum (Step.refl S) rfl hx⟩) he) (he := he) (hpl := fun _ => rfl)
theorem ew_minL (bi : Bi mg) {k : Gm → Int → Prop} (hg : glB sc "min" = true) (h : EW c Γ a (tLst tInt) fun Γ1 xs => 0 < xs.length ∧ ∀ m, m ∈ xs → (∀ y, y ∈ xs → m ≤ y) → k Γ1 m) (he : ∀ env, starEach [a] env = (false, eval a env) :: starEach [] env := by intro _; rfl) : EW c Γ (.Call (.Name "min" p) [a] [] pos) tInt k :=
  ew_B (id := "min") (i' := "min") (r := rMin K) (fun hK hc => by rw [← hK]; exact cr_min hc) hg bi.min (by decide +kernel) (ews_cons (h.imp fun _ xs hx => ews_nil fun F H vs S r Q q => match vs, r with
    | [v], ⟨⟨p, us, ev, hp, hu⟩, _⟩ => ⟨p, xs, by rw [ev], .inl (.inl (S _ _ (by rw [hp, All2.eq_map (f := V.int) (fun _ _ e => e) hu]))), hx.1, fun m h1 h2 => q _ F H m (Step.refl S) rfl (hx.2 m h1 h2)⟩) he) (he := he) (hpl := fun _ => rfl)
theorem ew_maxL (bi : Bi mg) {k : Gm → Int → Prop} (hg : glB sc "max" = true) (h : EW c Γ a (tLst tInt) fun Γ1 xs => 0 < xs.length ∧ ∀ m, m ∈ xs → (∀ y, y ∈ xs → y ≤ m) → k Γ1 m) (he : ∀ env, starEach [a] env = (false, eval a env) :: starEach [] env := by intro _; rfl) : EW c Γ (.Call (.Name "max" p) [a] [] pos) tInt k :=
  ew_B (id := "max") (i' := "max") (r := rMax K) (fun hK hc => by rw [← hK]; exact cr_max hc) hg bi.max (by decide +kernel) (ews_cons (h.imp fun _ xs hx => ews_nil fun F H vs S r Q q => match vs, r with
    | [v], ⟨⟨p, us, ev, hp, hu⟩, _⟩ => ⟨p, xs, by rw [ev], .inl (.inl (S _ _ (by rw [hp, All2.eq_map (f := V.int) (fun _ _ e => e) hu]))), hx.1, fun m h1 h2 => q _ F H m (Step.refl S) rfl (hx.2 m h1 h2)⟩) he) (he := he) (hpl := fun _ => rfl)
/-- a law's outer loop, where script's slot owns the table -/
theorem w_turnsT {W : Addr} {q : Str} {R : Rs ρ} {rt : Gm → ρ → Prop} {nx bk ct : Gm → Prop} {body : List Stmt} {tg : Expr} {x : Str} {i : Nat} {ns : List Int} {m : Int} {j1 j2} {p1 p2 p3 p4 p5 p6 p7 p8 p9 : Pos} (bi : Bi mg) (hm : 0 ≤ m) (hm2 : m < 64) (g1 : glB sc "range" = true) (g2 : glB sc "max" = true) (g3 : glB sc "min" = true) (g4 : glB sc "len" = true)
    (hs : slotOf N x 0 = some i) (hv : visB sc x = true) (hg : Γ[i]? = some (some (valT (tSeq (K := K) tInt) ns W q))) (hn : ns.length ≤ 63)
    (step : ∀ a : Int, 0 ≤ a → a < 64 → GW c (fun _ => True) Γ tg (tInt (K := K)) a fun Γ3 => SW c Γ3 body ⟨R, rt, fun G => G = Γ, nx, fun G => G = Γ⟩) (fin : nx Γ) (hd : (x == ("__debug__" : Str)) = false := by decide +kernel) (hcd : (x == ("__classdict__" : Str)) = false := by decide +kernel) :
    S1 c Γ (.For tg (.Call (.Name "range" p1) [.Call (.Name "max" p2) [.Constant (.int 1) j1 p3, .Call (.Name "min" p4) [.Constant (.int m) j2 p5, .Call (.Name "len" p6) [.Name x p7] [] p8] [] p9] [] pos'] [] p) body [] pos) (⟨R, rt, nx, bk, ct⟩ : En ρ) := by
  refine w_for (A := tInt) (iw_range1 bi g1 (ew_max2 bi g2 (ew_int (ew_min2 bi g3 (ew_int (ew_lenQ (A := tInt) bi g4 (ew_nameT hs hv hg ?_ hd hcd)))))))
  refine ⟨by split <;> split <;> omega, by split <;> split <;> omega, fun _ G => G = Γ, rfl, fun i a ha G e => ?_, fun G e => by rw [e]; exact fin⟩
  subst e
  obtain ⟨a1, a2⟩ := ups_get ha
  refine step a (by omega) ?_
  rw [a1]
  split at a2 <;> split at a2 <;> omega
/-- a tuple, its first item and all others -/
def tTail (A : Ty K α) (B' : Ty K β) : Ty K (α × List β) := tupTy (fun F xs z => ∃ x ys, xs = x :: ys ∧ A.r F x z.1 ∧ All2 (B'.r F) ys z.2) fun e ⟨x, ys, h, h1, h2⟩ => ⟨x, ys, h, A.mono e h1, All2.imp (fun _ _ => B'.mono e) h2⟩
theorem tail4 : ∀ F v (z : α × β × β × β), (tT4 A B' B' B').r F v z → (tTail A B').r F v (z.1, [z.2.1, z.2.2.1, z.2.2.2]) := fun F v z ⟨p, xs, h1, h2, x, y, u, t, e, r1, r2, r3, r4⟩ => ⟨p, xs, h1, h2, x, [y, u, t], e, r1, r2, r3, r4, trivial⟩
/-- z[1:] -/
theorem ew_slTail {p2 p3 : Pos} {j} {k : Gm → List β → Prop} (h : EW c Γ a (tTail A B') fun Γ1 z => k Γ1 z.2) : EW c Γ (.Subscript a (.Slice (some (.Constant (.int 1) j p3)) none none p2) pos) (tTup B') k := fun B σ F H S Q q => by
  obtain ⟨X, rfl, rfl, rfl, rfl, rfl, rfl, nd, rfl, rfl, calm, room, pas⟩ := c
  refine of_pe (pe_slice sl_tupA peW poW poW) (h B σ F H S _ fun v z Γ1 F1 H1 S1 e1 r1 h1 => ?_)
  refine (ow_some (k := fun Γ o => o = some 1 ∧ Γ = Γ1) (ew_int ⟨rfl, rfl⟩)) B σ F1 H1 S1 _ fun l Γ2 F2 H2 S2 e2 h2 => ow_none (k := fun Γ o => o = none ∧ Γ = Γ2) ⟨rfl, rfl⟩ B σ F2 H2 S2 _ fun u Γ3 F3 H3 S3 e3 h3 => ?_
  obtain ⟨eu, e4⟩ := h3
  subst eu
  subst e4
  obtain ⟨el, e5⟩ := h2
  subst el
  subst e5
  obtain ⟨q1, vs, rfl, hq, x, ys, rfl, rx, ry⟩ := (tTail A B').mono (e2.trans e3) r1
  have ec : cutV (x :: ys) (some 1) none = ys := by
    unfold cutV
    simp [HT.sIx]
  refine ⟨q1, x :: ys, rfl, sqT_mono S3.sub hq, fun hw => ?_, fun hw p hp => ?_⟩
  · exfalso
    have := hw.1
    simp [HT.sIx] at this
  · rw [ec]
    have st := Step.frozen (o := .tup ys) S3.sub hp
    exact q _ _ Γ3 _ _ (S3.step st) (((e1.trans e2).trans e3).trans st.ff) ⟨p, _, rfl, .inl (.inl upd_same), All2.imp (fun _ _ => B'.mono st.ff) ry⟩ h1
/-- z[1 + i] -/
theorem ew_ixTail {k : Gm → β → Prop} (h : EW c Γ a (tTail A B') fun Γ1 z => EW c Γ1 b tInt fun Γ2 i => ∃ (n : Nat) (y : β), i = 1 + (n : Int) ∧ z.2[n]? = some y ∧ k Γ2 y) (hs : PlainIx b := by intro _ _; rfl) : EW c Γ (.Subscript a b pos) B' k :=
  ew_ixG (r := rIxT K) (fun hK => by rw [← hK]; exact ix_tup) (h.imp fun _ z h => h.imp fun _ i ⟨n, y, h1, h2, h3⟩ => fun F H u v S ⟨p, vs, e1, hp, x, ys, e2, rx, ry⟩ ev Q q => by
    obtain ⟨w', hw, rw'⟩ := All2.getR ry h2
    refine ⟨p, vs, i, w', e1, ev, sqT_mono S hp, ?_, q w' F H y (Step.refl S) rw' h3⟩
    have hn := (List.getElem?_eq_some_iff.mp hw).1
    subst e2
    subst h1
    unfold atI ixN
    rw [if_pos (by omega), if_pos (by simp only [List.length_cons]; omega)]
    show (x :: ys)[(1 + (n : Int)).toNat]? = some w'
    rw [show (1 + (n : Int)).toNat = n + 1 by omega]
    exact hw) hs
end
end
end Px
/-! Px, twenty-second part: enumerate of tuples. -/
namespace Px
open PySem PySem.Spec PyProof.Rows L2
abbrev tupIt (l : Addr) : Obj := { cls := .type "tuple_iterator", data := .fields #[.ref l, .int 0 0] }
abbrev enumO (i : Addr) : Obj := { cls := .type "enumerate", data := .fields #[.none, .bool false, .ref i, rawInt 0, .none, .none] }
theorem meets_enumT (l : Addr) : Meets (Builtin.«enumerate.__new__» ⟨[.type "enumerate", .ref l], []⟩) (fun _ R s => (∃ items, s.heap.IsTuple l items) ∧ R (.ok (.ret (.ref (s.heap.push (tupIt l)).objs.size))) { s with heap := (s.heap.push (tupIt l)).push (enumO s.heap.objs.size) }) :=
  .of_wp fun prog w A R s h => by
    obtain ⟨hp, g, d, tk, os⟩ := s
    obtain ⟨⟨items, ht⟩, h⟩ := h
    have hsub := sub_enumerate
    have q1 : ∀ {A' : Around} {E : Value → Shared → Prop} {Q : Value → Shared → Prop}, Q (.ref hp.objs.size) ⟨hp.push (tupIt l), g, d, tk, os⟩ → wpAny (model prog w) A' (pyIter (.ref l)) Q E ⟨hp, g, d, tk, os⟩ := fun q => wpAny_pyIter_tuple (s := ⟨hp, g, d, tk, os⟩) ht q
    wp_walk using q1
    refine wpAny_stack_any fun st => wpAny_pure ?_
    split
    · rename_i c _ _ _ _ _
      cases (c == Value.type "enumerate") <;> (wp_walk using q1; exact ⟨_, rfl, h⟩)
    · wp_walk using q1
      exact ⟨_, rfl, h⟩
theorem call_enumT {prog : Program} {w : World} {A : Around} {E : Value → Shared → Prop} {s : Shared} {l : Addr} {items : Array Value} {Q : Value → Shared → Prop} (ht : s.heap.IsTuple l items)
    (h : ∀ h', IsEnum h' (s.heap.objs.size + 1) s.heap.objs.size 0 .none → h'.IsTupleIter s.heap.objs.size l 0 → (∀ b o, s.heap.get? b = some o → h'.get? b = some o) → Q (.ref (s.heap.objs.size + 1)) { s with heap := h' }) :
    wpAny (model prog w) A (call (.type "enumerate") [.ref l]) Q E s := by
  refine callType_new F.called_enumerate (by decide) (F.typeCall_enumerate_1 _) (F.newCall_enumerate_1 _) (fun obj => F.args_object_init_2 obj _) F.entry_enumerate_new (meets_enumT l) ⟨⟨items, ht⟩, ?_⟩
  have hz : (s.heap.push (tupIt l)).objs.size = s.heap.objs.size + 1 := Heap.size_push ..
  show _ ∧ _
  rw [hz]
  have he : IsEnum ((s.heap.push (tupIt l)).push (enumO s.heap.objs.size)) (s.heap.objs.size + 1) s.heap.objs.size 0 .none := by
    have z := Heap.get?_push_size (s.heap.push (tupIt l)) (o := enumO s.heap.objs.size) rfl
    rw [hz] at z
    exact z
  exact ⟨⟨_, he, rfl⟩, h _ he ⟨_, Heap.get?_push_of_some _ (Heap.get?_push_size _ rfl), rfl, rfl⟩ fun b o x => Heap.get?_push_of_some _ (Heap.get?_push_of_some _ x)⟩
/-- the tuple at a, each item in a new pair -/
def IteT (K : PySem.W.Frag) (a : Addr) : It :=
  ⟨fun i H => ∃ (xs : List V) (x : V), SqT K H a xs ∧ xs[i]? = some x, fun i H v H' => ∃ T x, v = .ref T ∧ H T = none ∧ H' = upd H T (.tup [.int (i : Nat), x]) ∧ ∀ xs, SqT K H a xs → xs[i]? = some x, fun i H => ∃ xs : List V, SqT K H a xs ∧ xs.length ≤ i⟩
theorem turn_enumT {P : Program} {w : World} {K : PySem.W.Frag} {elts : List Expr} {kk : Nat} {tpos : Pos} (a e it : Addr) :
    Turn P w K (.Tuple elts kk tpos) (IteT K a) [e, it] e (fun i h => (∃ old, IsEnum h e it ((i : Nat) : Int) old) ∧ h.IsTupleIter it a i ∧ e ≠ it ∧ a ≠ it ∧ e ≠ a) where
  mem := by simp
  obj := fun i h st b hb => by
    obtain ⟨⟨old, he⟩, ⟨o, ho, hc, hd⟩, _⟩ := st
    have e' : b = e ∨ b = it := by simpa using hb
    rcases e' with z | z
    · rw [z]; exact ⟨_, he, fun v q => nomatch q⟩
    · rw [z]; exact ⟨o, ho, fun v q => by rw [hd] at q; cases q⟩
  keep := fun i h h' ⟨⟨old, he⟩, hi, hne⟩ k => ⟨⟨old, k e (by simp) _ he⟩, hi.at fun o q => k it (by simp) o q, hne⟩
  item := by
    intro X hP hw hK hc i pins s σ H E I hf st hg
    subst hP hw hK
    obtain ⟨⟨old, he⟩, hit, hne, hai, hea⟩ := st
    obtain ⟨xs, x, hq, hx⟩ := hg
    obtain ⟨its, rv, p, hz⟩ := I.tuple hq
    obtain ⟨u, hu, ru⟩ := rv.get hx
    have hu' : its.toArray[i]? = some u := by simpa using hu
    have hil' : i < its.toArray.size := by simpa using (List.getElem?_eq_some_iff.mp hu).1
    have hel : e < s.heap.objs.size := Heap.lt_size he
    have hil : it < s.heap.objs.size := by obtain ⟨_, q, _⟩ := hit; exact Heap.lt_size q
    have D := Draws.tuple (prog := X.prog) (w := X.w) (A := X.A.in1) (show X.A.in1.handled = none from I.ok.hd hc) it a hai its.toArray
    have hef : e ∉ [it, a] := fun z => by
      rcases List.mem_cons.mp z with z | z
      · exact hne z
      · exact hea (by simpa using z)
    refine wpAny_pyNext_enum_itemD D he ⟨hit, p⟩ hil' hne hef fun v h' tk hv ho hst' hT hsz hk => ?_
    obtain rfl : v = u := Option.some.inj ((hv : its.toArray[i]? = some v).symm.trans hu')
    refine ⟨_, rfl, wpAny_letOwnedTupleGo_enum (s := { s with heap := h', toks := tk + 1 }) ho fun h'' he' sb => ?_⟩
    have hT2 : h''.get? s.heap.objs.size = some { cls := .type "tuple", data := .seq #[.int i tk, v] } := (sb.2 _ (Nat.ne_of_gt hel)).trans hT
    have new : ObjOk X.prog X.w (upd H s.heap.objs.size (.tup [.int (i : Nat), x])) h'' s.heap.objs.size (.tup [.int (i : Nat), x]) :=
      ⟨by show 2 ≤ sizeLine; decide, [.int i tk, v], .cons ⟨_, rfl⟩ (.cons ru .nil), ⟨_, hT2, rfl, _, rfl⟩⟩
    have I1 := I.turnedNew (t' := tk + 1) (ch := [e, it]) (fun b ob hb q => (sb.2 b (fun z => hb (by simp [z]))).trans (hk b ob (fun z => hb (by simp [z])) (fun z => hb (by simp [z])) q)) hf (Nat.le_refl _) new
    refine ⟨.ref s.heap.objs.size, _, I1, rfl, ⟨_, x, rfl, I.hok.fresh (Nat.le_refl _), rfl, fun ys hy => by rw [I.tuple_inj hy hq]; exact hx⟩, ⟨⟨v, ?_⟩, hst'.1.at fun o q => (sb.2 it (Ne.symm hne)).trans q, hne, hai, hea⟩, fun b hb => ?_⟩
    · have e1 : ((i + 1 : Nat) : Int) = (i : Int) + 1 := by omega
      rw [e1]; exact he'
    · have hb' : b < s.heap.objs.size := by
        have e' : b = e ∨ b = it := by simpa using hb
        rcases e' with z | z
        · rw [z]; exact hel
        · rw [z]; exact hil
      rw [upd_ne (Nat.ne_of_lt hb')]
      exact (hf b hb).1
  done := by
    intro X hP hw hK hc i pins s σ H E I hf st hg
    subst hP hw hK
    obtain ⟨⟨old, he⟩, hit, hne, hai, hea⟩ := st
    obtain ⟨xs, hq, hx⟩ := hg
    obtain ⟨its, rv, p, hz⟩ := I.tuple hq
    obtain ⟨f0, f1, f2, f3, f4, f5⟩ := hf it (by simp)
    have hl := rv.length
    have hh : X.A.handled = none := I.ok.hd hc
    have D : Draws X.prog X.w X.A.in1 it [it, a] i (fun _ _ => False) (fun j h => j = i ∧ h.IsTupleIter it a i ∧ h.IsTuple a its.toArray) :=
      { live := fun _ _ st => let ⟨_, ⟨o, ho, _⟩, _⟩ := st; ⟨o, ho⟩
        frame := fun _ _ _ st k => ⟨st.1, st.2.1.at fun o q => k it (by simp) o q, st.2.2.at fun o q => k a (by simp) o q⟩
        item := fun j s Q E hj st => absurd st.1 (Nat.ne_of_lt hj)
        done := fun s Q E st hE => wpAny_nextOf_tuple_end hh st.2.1 st.2.2 (by simp; omega) hE }
    exact wpAny_pyNext_enum_endD D he ⟨rfl, hit, p⟩ fun h' eb => ⟨rfl, I.turned (t' := s.toks) (fun b o hb q => eb b o hb q) f0 f1 f3 f4 f5⟩
  self := fun A i s Q E st h => let ⟨⟨_, he⟩, _⟩ := st; wpAny_pyIter_enum he h
theorem pi_enumT {X : Cx} {e : Expr} {ta : TA} {p pos tpos : Pos} {elts : List Expr} {kk : Nat} (hg : Gl X "enumerate") (hm : X.mg "enumerate" = none) (ha : PA X [e] ta) (hs : starEach [e] X.env = [(false, eval e X.env)]) :
    PI X (.Tuple elts kk tpos) (.Call (.Name "enumerate" p) [e] [] pos) (fun σ H R => ta σ H fun vs H1 => ∃ a xs, vs = [.ref a] ∧ SqT X.K H1 a xs ∧ R (IteT X.K a) H1) := by
  refine ⟨fun pins s σ H R I h => ?_⟩
  refine Call_ (ld_blt I hg hm boot_enumerate (PyProof.Rows.callWith_type1 (thn (ha.run pos pins s σ H _ I h) fun us s1 ⟨vs, H1, I1, r1, q1⟩ => ?_) hs rfl))
  obtain ⟨a, xs, ex, hq, q⟩ := q1
  subst ex
  cases r1 with
  | cons r rr =>
    cases rr
    cases r
    obtain ⟨its, rv, p', hz⟩ := I1.tuple hq
    have ha' : a < s1.heap.objs.size := by obtain ⟨o, ho, _⟩ := p'; exact Heap.lt_size ho
    refine call_enumT p' fun h' he hit hk => wpAny_pyIter_enum he ?_
    have I2 : Inv X pins σ H1 { s1 with heap := h' } := I1.kept (t' := s1.toks) hk
    refine ⟨s1.heap.objs.size + 1, [s1.heap.objs.size + 1, s1.heap.objs.size], _, _, H1, rfl, I2, turn_enumT a (s1.heap.objs.size + 1) s1.heap.objs.size, ⟨⟨.none, he⟩, hit, Nat.succ_ne_self _, Nat.ne_of_lt ha', Nat.ne_of_gt (Nat.lt_succ_of_lt ha')⟩, fun b hb => ?_, q⟩
    have hle : s1.heap.objs.size ≤ b := by
      have e' : b = s1.heap.objs.size + 1 ∨ b = s1.heap.objs.size := by simpa using hb
      rcases e' with z | z
      · rw [z]; exact Nat.le_add_right _ _
      · rw [z]; exact Nat.le_refl _
    exact I1.fpOk hle (I1.hok.fresh hle)
section
variable {P : Program} {w : World} {K : PySem.W.Frag} {mg : Str → Option Value} {base : Heap} {lv : Nat} {N : List Str} {sc : Scope} {fn : Str → Bool}
variable {α β γ δ ρ ι : Type}
variable {c : Ctx P w K mg base lv N sc fn} {Γ : Gm} {e a b : Expr} {es : List Expr} {pos pos' p : Pos} {T : Ty K α} {A : Ty K α} {B' : Ty K β} {R : Ty K ρ}
/-- the places, with what stands there -/
def enumL {α : Type} (xs : List α) : List (Int × α) := ((List.range xs.length).zip xs).map fun z => ((z.1 : Nat), z.2)
theorem enumL_len {α : Type} (xs : List α) : (enumL xs).length = xs.length := by simp [enumL]
theorem enumL_get {α : Type} {xs : List α} {i : Nat} {z : Int × α} (h : (enumL xs)[i]? = some z) : z.1 = (i : Int) ∧ xs[i]? = some z.2 := by
  unfold enumL at h
  rw [List.getElem?_map, Option.map_eq_some_iff] at h
  obtain ⟨⟨n, x⟩, h1, rfl⟩ := h
  obtain ⟨h2, h3⟩ := zip_get h1
  obtain ⟨h4, h5⟩ := List.getElem?_eq_some_iff.mp h2
  rw [List.getElem_range] at h5
  exact ⟨by rw [h5], h3⟩
theorem it_enumT {F : Hp} {p : Addr} {vs : List V} {xs : List α} (hp : SqT K F p vs) (hv : All2 (A.r F) vs xs) : ItOk (K := K) (IteT K p) (tT2 tInt A) F (enumL xs) := by
  have l1 := All2.length hv
  refine ⟨fun i F1 H s1 s2 hi => ?_, fun i F1 H s1 s2 hi => ?_, fun i F1 H x H' s1 s2 ⟨T, a, e1, e2, e3, e4⟩ z hz => ?_⟩
  · rw [enumL_len] at hi
    have i1 : i < vs.length := by omega
    exact ⟨vs, vs[i], sqT_mono (s1.trans s2) hp, List.getElem?_eq_getElem i1⟩
  · rw [enumL_len] at hi
    exact ⟨vs, sqT_mono (s1.trans s2) hp, by omega⟩
  · obtain ⟨h1, h2⟩ := enumL_get hz
    obtain ⟨x1, g1, r1⟩ := All2.getR hv h2
    have f1 := e4 vs (sqT_mono (s1.trans s2) hp)
    rw [g1] at f1
    have y1 := Option.some.inj f1
    subst y1
    subst e1
    subst e3
    have st := Step.frozen (o := .tup [.int (i : Nat), x1]) s2 e2
    exact ⟨_, st, T, [.int (i : Nat), x1], rfl, .inl (.inl upd_same), .int (i : Nat), x1, rfl, by show V.int _ = V.int _; rw [h1], A.mono (s1.trans st.ff) r1⟩
/-- for .. in enumerate(tuple) -/
theorem iw_enumT (bi : Bi mg) {k : Gm → List (Int × α) → Prop} {tpos : Pos} {elts : List Expr} {kk : Nat} (hg : glB sc "enumerate" = true) (h : EW c Γ a (tTup A) fun Γ1 xs => k Γ1 (enumL xs))
    (hs : ∀ env, starEach [a] env = (false, eval a env) :: starEach [] env := by intro _; rfl) (hs2 : ∀ env, starEach [a] env = [(false, eval a env)] := by intro _; rfl) :
    IW c Γ (.Tuple elts kk tpos) (.Call (.Name "enumerate" p) [a] [] pos) (tT2 tInt A) k := fun B σ F H S R q => by
  obtain ⟨X, rfl, rfl, rfl, rfl, rfl, rfl, nd, rfl, rfl, calm, room, pas⟩ := c
  refine of_pi (pi_enumT (glB_gl hg) bi.enumerate (pa_cons peW pa_nil (hs _)) (hs2 _)) (h B σ F H S _ fun v xs Γ1 F1 H1 S1 e1 r1 h1 => ?_)
  obtain ⟨p1, vs, rfl, hp, hv⟩ := r1
  exact ⟨p1, vs, rfl, sqT_mono S1.sub hp, q _ _ Γ1 F1 H1 S1 e1 (it_enumT hp hv) h1⟩
end
end Px
/-! Px, twenty-third part: own dicts whose keys are pairs of ints. -/
namespace Px
open PySem PySem.Spec PyProof.Rows L2
section
variable {K : PySem.W.Frag} {α : Type}
/-- a pair of ints, made in the run -/
def tPr : Ty K (Int × Int) := ⟨fun F v a => ∃ p, v = .ref p ∧ F p = some (.tup [.int a.1, .int a.2]), fun e ⟨p, h1, h2⟩ => ⟨p, h1, e _ _ h2⟩⟩
theorem pr_T2 : ∀ F v (a : Int × Int), (tPr (K := K)).r F v a → (tT2 (tInt (K := K)) tInt).r F v a := fun F v a ⟨p, h1, h2⟩ => ⟨p, _, h1, .inl (.inl h2), _, _, rfl, rfl, rfl⟩
def OptR (T : Ty K α) (F : Hp) : Option V → Option α → Prop
  | some v, some a => T.r F v a
  | none, none => True
  | _, _ => False
theorem OptR.mono {T : Ty K α} {F F' : Hp} (e : Same F F') : ∀ {o : Option V} {a : Option α}, OptR T F o a → OptR T F' o a
  | some _, some _, h => T.mono e h
  | none, none, h => h
  | some _, none, h => h
  | none, some _, h => h
abbrev pk (r c : Int) : List Key := [.inl r, .inl c]
def GAt (T : Ty K α) (n : Nat) (g : Int → Int → Option α) (F H : Hp) (p : Addr) : Prop := ∃ kvs : List (List Key × V), H p = some (.dT kvs) ∧ kvs.length ≤ n ∧ ∀ r c, OptR T F (valV kvs (pk r c)) (g r c)
/-- an own dict of at most n pairs: what stands at each -/
def ownG (T : Ty K α) (n : Nat) (g : Int → Int → Option α) : Ent :=
  ⟨fun v ps F H => ∃ p, v = .ref p ∧ (∀ q, ps q ↔ q = p) ∧ GAt T n g F H p, false, false, fun ⟨p, h1, h2, kvs, h3, h4, h5⟩ e k => ⟨p, h1, h2, kvs, by rw [k p ((h2 p).mpr rfl)]; exact h3, h4, fun r c => (h5 r c).mono e⟩, fun h => nomatch h⟩
def updG (g : Int → Int → Option α) (z : Int × Int) (u : α) : Int → Int → Option α := fun r c => if r = z.1 ∧ c = z.2 then some u else g r c
theorem pk_inj {r c r' c' : Int} (h : pk r c = pk r' c') : r = r' ∧ c = c' := by
  have h1 := List.cons.inj h
  have h2 := List.cons.inj h1.2
  exact ⟨Sum.inl.inj h1.1, Sum.inl.inj h2.1⟩
theorem putK_len {κ : Type} [DecidableEq κ] (kvs : List (κ × V)) (k : κ) (v : V) : (putK kvs k v).length ≤ kvs.length + 1 := by
  unfold putK
  split
  · rw [List.length_map]; omega
  · rw [List.length_append]; simp
theorem GAt.put {T : Ty K α} {n : Nat} {g : Int → Int → Option α} {F H' : Hp} {p : Addr} {kvs : List (List Key × V)} {z : Int × Int} {v : V} {u : α} (h2 : kvs.length ≤ n) (h3 : ∀ r c, OptR T F (valV kvs (pk r c)) (g r c)) (hr : T.r F v u) (hp : H' p = some (.dT (putK kvs (pk z.1 z.2) v))) : GAt T (n + 1) (updG g z u) F H' p := by
  refine ⟨_, hp, Nat.le_trans (putK_len _ _ _) (by omega), fun r c => ?_⟩
  rw [valV_put]
  unfold updG
  by_cases h : r = z.1 ∧ c = z.2
  · rw [if_pos (by rw [h.1, h.2]), if_pos h]; exact hr
  · rw [if_neg (fun e => h (pk_inj e)), if_neg h]; exact h3 r c
end
section
variable {P : Program} {w : World} {K : PySem.W.Frag} {mg : Str → Option Value} {base : Heap} {lv : Nat} {N : List Str} {sc : Scope} {fn : Str → Bool}
variable {α β γ δ ρ ι : Type}
variable {c : Ctx P w K mg base lv N sc fn} {Γ : Gm} {e f a b ix : Expr} {es : List Expr} {pos pos' p px py pz pt : Pos} {T : Ty K α} {A : Ty K α} {B' : Ty K β}
theorem ew_pr {x1} {k : Gm → Int × Int → Prop} (h : EW c Γ a tInt fun Γ1 i => EW c Γ1 b tInt fun Γ2 j => k Γ2 (i, j)) (hs : ∀ env, starEach [a, b] env = (false, eval a env) :: starEach [b] env := by intro _; rfl) (hs2 : ∀ env, starEach [b] env = (false, eval b env) :: starEach [] env := by intro _; rfl) : EW c Γ (.Tuple [a, b] x1 pos) tPr k := fun B σ F H S Q q => by
  have h' : EWs c Γ [a, b] fun Γ2 ts => ∃ i j, ts = [tv (tInt (K := K)) i, tv (tInt (K := K)) j] ∧ k Γ2 (i, j) := ews_cons (h.imp fun _ i hi => ews_cons (hi.imp fun _ j hj => ews_nil ⟨i, j, rfl, hj⟩) hs2) hs
  refine of_pe (pe_tup paW) (h' B σ F H S _ fun vs ts Γ1 F1 H1 S1 e1 r1 ⟨i, j, et, hk⟩ => ?_)
  subst et
  match vs, r1 with
  | [u, v], ⟨ru, rv, _⟩ =>
    obtain rfl : u = .int i := ru
    obtain rfl : v = .int j := rv
    refine ⟨by show 2 ≤ sizeLine; decide, fun p hp => ?_⟩
    have st := Step.frozen (o := .tup [.int i, .int j]) S1.sub hp
    exact q _ (i, j) Γ1 _ _ (S1.step st) (e1.trans st.ff) ⟨p, rfl, upd_same⟩ hk
/-- x.get(pair, e), x an own dict -/
theorem ew_getG {x : Str} {i n : Nat} {g : Int → Int → Option α} {k : Gm → α → Prop} {apos : Pos} (hs : slotOf N x 0 = some i) (hv : visB sc x = true) (hx : Γ[i]? = some (some (ownG T n g))) (h : EW c Γ e tPr fun Γ1 z => EW c Γ1 f T fun Γ2 d => Γ2[i]? = some (some (ownG T n g)) ∧ k Γ2 ((g z.1 z.2).getD d))
    (hd : (x == ("__debug__" : Str)) = false := by decide +kernel) (hcd : (x == ("__classdict__" : Str)) = false := by decide +kernel) (m1 : ∀ env, attributeBase (.Name x px) "get" env (eval (.Name x px) env) = eval (.Name x px) env := by intro _; rfl)
    (m2 : ∀ env, ((backTo pos (starEach [e, f] env)).all (fun x => !x.1) && (backToKw pos (keywordEach [] env)).all (fun x => x.1.isSome) && decide (([e, f] : List Expr).length + ([] : List Keyword).length + (if ([] : List Keyword).isEmpty then 0 else 1) < 30)) = true := by intro _; rfl)
    (m3 : (apos.endLine == pos.line) = true := by rfl) (m4 : ∀ env, backTo pos (starEach [e, f] env) = [(false, eval e env), (false, eval f env)] := by intro _; rfl) : EW c Γ (.Call (.Attribute (.Name x px) "get" apos) [e, f] [] pos) T k := by
  intro B σ F H S Q q
  obtain ⟨X, rfl, rfl, rfl, rfl, rfl, rfl, nd, rfl, rfl, calm, room, pas⟩ := c
  refine of_pe (pe_dget2 (hu_of room) (pe_var (slotOf_at hs) (visB_vis hv) hd hcd) peW peW ⟨m1 _, m2 _, m3, m4 _⟩) ?_
  obtain ⟨v, ps0, hv1, ⟨p, rfl, hq1, kvs, h3, h4, h5⟩, own⟩ := S.get hx
  refine ⟨_, hv1, p, rfl, .inr ⟨kvs, .inl h3⟩, h B σ F H S _ fun y z Γ1 F1 H1 S1 e1 r1 h1 => h1 B σ F1 H1 S1 _ fun u d Γ2 F2 H2 S2 e2 r2 ⟨hx2, hk⟩ => ?_⟩
  obtain ⟨v', ps2, hv2, ⟨p', ev, hq2, kvs', g3, g4, g5⟩, own2⟩ := S2.get hx2
  have epp : p' = p := by
    rw [hv1] at hv2
    have := Option.some.inj (Option.some.inj hv2)
    rw [ev] at this
    cases this; rfl
  subst epp
  obtain ⟨b, rfl, hb⟩ := tPr.mono e2 r1
  refine ⟨_, DGet.t (k := pk z.1 z.2) g3 (S2.sub _ _ hb), ?_⟩
  have g6 := g5 z.1 z.2
  have hr : T.r F2 ((valV kvs' (pk z.1 z.2)).getD u) ((g z.1 z.2).getD d) := by
    cases h1 : valV kvs' (pk z.1 z.2) with
    | none =>
      cases h2 : g z.1 z.2 with
      | none => exact r2
      | some a => rw [h1, h2] at g6; exact g6.elim
    | some v =>
      cases h2 : g z.1 z.2 with
      | none => rw [h1, h2] at g6; exact g6.elim
      | some a => rw [h1, h2] at g6; exact g6
  exact q _ _ Γ2 F2 H2 S2 (e1.trans e2) hr hk
end
section
variable {P : Program} {w : World} {K : PySem.W.Frag} {mg : Str → Option Value} {base : Heap} {lv : Nat} {N : List Str} {sc : Scope} {fn : Str → Bool}
variable {α β γ δ ρ ι : Type}
variable {c : Ctx P w K mg base lv N sc fn} {Γ : Gm} {e f a b ix : Expr} {es : List Expr} {pos pos' p px py pz pt : Pos} {T : Ty K α} {A : Ty K α} {B' : Ty K β} {R : Rs ρ} {rt : Gm → ρ → Prop} {nx bk ct : Gm → Prop}
/-- x[pair] = e, x an own dict -/
theorem w_putG {x : Str} {i n : Nat} {g : Int → Int → Option α} (hs : slotOf N x 0 = some i) (hv : visB sc x = true) (h : EW c Γ e T fun Γ1 u => EW c Γ1 ix tPr fun Γ2 z => Γ2[i]? = some (some (ownG T n g)) ∧ n < 10000 ∧ nx (Γ2.set i (some (ownG T (n + 1) (updG g z u)))))
    (hx : ∃ n g, Γ[i]? = some (some (ownG (K := K) T n g))) (hd : (x == ("__debug__" : Str)) = false := by decide +kernel) (hcd : (x == ("__classdict__" : Str)) = false := by decide +kernel) (hsw : ∀ env, swapsWith e (some (.Subscript (.Name x px) ix pos')) pos.line env = pure false := by intro _; rfl) :
    S1 c Γ (.Assign [.Subscript (.Name x px) ix pos'] e pos) (⟨R, rt, nx, bk, ct⟩ : En ρ) := fun B σ F H hB S => by
  obtain ⟨X, rfl, rfl, rfl, rfl, rfl, rfl, nd, rfl, rfl, calm, room, pas⟩ := c
  obtain ⟨n0, g0, hx⟩ := hx
  obtain ⟨v0, ps0, hv1, ⟨p, rfl, _⟩, _⟩ := S.get hx
  refine of_ps (ps_dput (hu_of room) (pe_var (slotOf_at hs) (visB_vis hv) hd hcd) peW peW (hsw _)) (h B σ F H S _ fun v u Γ1 F1 H1 S1 e1 r1 h1 => ⟨_, hv1, h1 B σ F1 H1 S1 _ fun y z Γ2 F2 H2 S2 e2 r2 ⟨hx2, hn, hk⟩ => ?_⟩)
  obtain ⟨v', ps2, hv2, ⟨p', ev, hq2, kvs', g3, g4, g5⟩, own2⟩ := S2.get hx2
  have epp : p' = p := by
    rw [hv1] at hv2
    have := Option.some.inj (Option.some.inj hv2)
    rw [ev] at this
    cases this; rfl
  subst epp
  obtain ⟨b, rfl, hb⟩ := r2
  have hsz : 10000 < sizeLine := by decide
  refine ⟨p', _, rfl, DPut.t (k := pk z.1 z.2) g3 (S2.sub _ _ hb) (by omega), _, F2, S2.own_upd (F' := F2) (H' := upd H2 p' (.dT (putK kvs' (pk z.1 z.2) v))) (e' := ownG T (n + 1) (updG g z u)) hx2 rfl fun v3 ps3 hv3 ⟨p3, e3, hq3, kvs3, d3, d4, d5⟩ own3 => ?_, hk⟩
  have e33 : p3 = p' := by
    rw [hv1] at hv3
    have := Option.some.inj (Option.some.inj hv3)
    rw [e3] at this
    cases this; rfl
  subst e33
  have o3 := own3 p3 ((hq3 p3).mpr rfl)
  refine ⟨ps3, fun d o q => by rw [upd_ne (ne_of_none q o3.1)]; exact S2.sub d o q, Same.refl _, fun d o q nd => by rw [upd_ne fun y => nd ((hq3 d).mpr y)]; exact q, fun d n1 => ?_, fun _ _ n2 => n2, fun d hd => ?_, p3, e3, hq3, GAt.put g4 g5 (T.mono e2 r1) upd_same⟩
  · by_cases y : d = p3
    · rw [y, upd_same]; exact fun y => nomatch y
    · rw [upd_ne y]; exact n1
  · obtain rfl : d = p3 := (hq3 d).mp hd
    exact ⟨.inl hd, o3.1, (by rw [upd_same]; exact fun y => nomatch y), o3.2.2.2⟩
/-- x += e, on texts -/
theorem w_addS {i : Nat} {x : Str} {z : Str} (hs : slotOf N x 0 = some i) (hv : locB sc fn x = true) (hg : Γ[i]? = some (some (val (K := K) tStr z))) (h : EW c Γ e tStr fun Γ1 u => i < Γ1.length ∧ z.length + u.length ≤ sizeLine ∧ nx (Γ1.set i (some (val (K := K) tStr (z ++ u))))) : S1 c Γ (.AugAssign (.Name x pos') .Add e pos) (⟨R, rt, nx, bk, ct⟩ : En ρ) := fun B σ F H hB S => by
  have hN := c.hN
  have hsc := c.hsc
  have hfn := c.hfn
  have hl := locB_loc hv
  have ho : PIp c.X .Add rAddS := fun pins s σ H x y v u Q I r1 r2 h => in_addS pins s σ H x y v u Q I r1 r2 h
  refine of_ps (ps_aug (i := i) (by rw [hN]; exact c.nd) (by rw [hN]; exact slotOf_at hs) (by rw [hsc]; exact hl.1) peW ho (by rw [hsc, hfn]; exact hl.2)) ?_
  obtain ⟨v, ps, h1, h2, _⟩ := S.get hg
  refine ⟨v, h1, h B σ F H S _ fun u a Γ1 F1 H1 S1 e1 r1 ⟨h3, h4, h5⟩ => ⟨z, a, h2.2, r1, h4, ?_⟩⟩
  exact ⟨Γ1.set i (some (val (K := K) tStr (z ++ a))), F1, S1.set h3 ⟨fun _ y => y, rfl⟩, h5⟩
theorem Sta.swapPin {B : Base} {σ : L2.St} {F H : Hp} {p q : Addr} (S : Sta { B with pin := fun y => y = q ∨ (y = p ∨ B.pin y) } Γ σ F H) : Sta { B with pin := fun y => y = p ∨ (y = q ∨ B.pin y) } Γ σ F H := by
  have e : (fun y => y = q ∨ (y = p ∨ B.pin y)) = fun y => y = p ∨ (y = q ∨ B.pin y) := by
    funext y
    exact propext ⟨fun h => h.elim (fun h => .inr (.inl h)) (fun h => h.elim .inl fun h => .inr (.inr h)), fun h => h.elim (fun h => .inr (.inl h)) (fun h => h.elim .inl fun h => .inr (.inr h))⟩
  rw [e] at S
  exact S
/-- x, y, z = {}, name, [] -/
theorem w_parDVL {i j l m : Nat} {x y z o : Str} {kt k2} {pt2 pd pl po : Pos} {TL : Ty K γ} {u : β} (hi : slotOf N x 0 = some i) (hj : slotOf N y 0 = some j) (hl : slotOf N z 0 = some l) (hij : i ≠ j) (hil : i ≠ l) (hjl : j ≠ l) (hx : sc.names.lookup x = some .local) (hy : sc.names.lookup y = some .local) (hz : sc.names.lookup z = some .local) (hk : sc.kind = .function)
    (hm : slotOf N o 0 = some m) (hv : visB sc o = true) (hg : Γ[m]? = some (some (val B' u))) (h : (i < Γ.length ∧ j < Γ.length ∧ l < Γ.length) ∧ nx (((Γ.set i (some (ownG T 0 fun _ _ => none))).set j (some (val B' u))).set l (some (ownL TL []))))
    (hd : (o == ("__debug__" : Str)) = false := by decide +kernel) (hcd : (o == ("__classdict__" : Str)) = false := by decide +kernel)
    (hw : ∀ env : Env, env.blockKind = .function → env.kindOf x = some .local → env.kindOf y = some .local → env.kindOf z = some .local → swappedStores [.Tuple [.Name x px, .Name y py, .Name z pz] kt pt] (.Tuple [.Dict [] [] pd, .Name o po, .List [] pl] k2 pt2) env = pure (some [x, y, z]) := by intro env h1 h2 h3 h4; unfold swappedStores; simp only [List.filterMap, h1, h2, h3, h4]; rfl)
    (hs : ∀ env, swapsWithSole [.Tuple [.Name x px, .Name y py, .Name z pz] kt pt] (.Tuple [.Dict [] [] pd, .Name o po, .List [] pl] k2 pt2) pos.line env = pure false := by intro _; rfl) (he : ∀ env, starEach [.Dict [] [] pd, .Name o po, .List [] pl] env = (false, eval (.Dict [] [] pd) env) :: starEach [.Name o po, .List [] pl] env := by intro _; rfl) (he2 : ∀ env, starEach [.Name o po, .List [] pl] env = (false, eval (.Name o po) env) :: starEach [.List [] pl] env := by intro _; rfl) (he3 : ∀ env, starEach [.List [] pl] env = (false, eval (.List [] pl) env) :: starEach [] env := by intro _; rfl) :
    S1 c Γ (.Assign [.Tuple [.Name x px, .Name y py, .Name z pz] kt pt] (.Tuple [.Dict [] [] pd, .Name o po, .List [] pl] k2 pt2) pos) (⟨R, rt, nx, bk, ct⟩ : En ρ) := fun B σ F H hB S => by
  obtain ⟨X, rfl, rfl, rfl, rfl, rfl, rfl, nd, rfl, rfl, calm, room, pas⟩ := c
  have hb : X.env.blockKind = .function := by unfold Env.blockKind; rw [hk]; rfl
  refine of_ps (ps_par3 calm nd (slotOf_at hi) (slotOf_at hj) (slotOf_at hl) hij hil hjl hx hy hz (pa_cons pe_dnewT (pa_cons (pe_var (slotOf_at hm) (visB_vis hv) hd hcd) (pa_cons (pe_lst pa_nil) pa_nil (he3 _)) (he2 _)) (he _)) (hw _ hb hx hy hz) (hs _)) ?_
  obtain ⟨v, ps, hv1, ⟨hn1, rv⟩, _⟩ := S.get hg
  obtain ⟨⟨l1, l2, l3⟩, h⟩ := h
  intro p hp
  obtain ⟨S1, b1, b2, b3⟩ := S.make (o := .dT []) hp
  refine ⟨v, hv1, ⟨by show 0 ≤ sizeLine; omega, fun q hq => ⟨.ref p, v, .ref q, rfl, ?_⟩⟩⟩
  obtain ⟨S2, c1, c2, c3⟩ := S1.make (o := .lst []) hq
  have hpq : p ≠ q := fun z => by rw [← z, upd_same] at hq; cases hq
  have hpH : upd (upd H p (.dT [])) q (.lst []) p = some (.dT []) := by rw [upd_ne hpq, upd_same]
  have S2' := Sta.swapPin (B := B) (p := p) (q := q) S2
  have S3 := Sta.take (B := { B with pin := fun y => y = q ∨ B.pin y }) (e := ownG T 0 fun _ _ => none) S2' l1 ⟨p, rfl, fun _ => Iff.rfl, [], hpH, Nat.le_refl _, fun r c => trivial⟩ b3 (by rw [hpH]; exact fun z => nomatch z) b1 (fun z => (show p = q ∨ B.pin p from z).elim (fun z => hpq z) b2)
  have S4 := S3.set (i := j) (v := v) (e := val B' u) (by rw [List.length_set]; exact l2) ⟨fun _ z => z, rv⟩
  have S5 := S4.take (i := l) (p := q) (e := ownL TL []) (by rw [List.length_set, List.length_set]; exact l3) ⟨q, [], rfl, fun _ => Iff.rfl, upd_same, trivial⟩ c3 (by rw [upd_same]; exact fun z => nomatch z) c1 (fun z => c2 (.inr z))
  exact ⟨_, F, S5, h⟩
end
end Px
/-! Px, twenty-fourth part: dict(pairs) with text keys, that stays as it is; a head put ahead of a tuple; len(set(tuples of ints)). -/
namespace Px
open PySem PySem.Spec PyProof.Rows L2
section
variable {K : PySem.W.Frag} {α : Type}
/-- a dict of texts that nobody changes -/
def tDk (T : Ty K α) : Ty K (Str → Option α) := ⟨fun F v g => ∃ p kvs, v = .ref p ∧ F p = some (.dK kvs) ∧ ∀ s : Str, OptR T F (valV kvs (.inr s)) (g s), fun e ⟨p, kvs, h1, h2, h3⟩ => ⟨p, kvs, h1, e _ _ h2, fun s => (h3 s).mono e⟩⟩
/-- the last pair that has the key -/
def lastV (ps : List (Str × α)) (s : Str) : Option α := ps.foldl (fun o p => if s = p.1 then some p.2 else o) none
theorem merge_last {T : Ty K α} {F : Hp} : ∀ {kvs : List (Str × V)} {ps : List (Str × α)}, All2 (fun (kv : Str × V) (p : Str × α) => kv.1 = p.1 ∧ T.r F kv.2 p.2) kvs ps → ∀ (acc : List (Key × V)) (o : Option α) (s : Str), OptR T F (valV acc (.inr s)) o →
    OptR T F (valV (mergeK acc (kvs.map fun kv => ((.inr kv.1 : Key), kv.2))) (.inr s)) (ps.foldl (fun o p => if s = p.1 then some p.2 else o) o)
  | [], [], _, acc, o, s, h => h
  | kv :: kvs, p :: ps, ⟨⟨h1, h2⟩, h3⟩, acc, o, s, h => by
    show OptR T F (valV (mergeK (putK acc (.inr kv.1) kv.2) (kvs.map fun kv => ((.inr kv.1 : Key), kv.2))) (.inr s)) _
    rw [List.foldl_cons]
    refine merge_last h3 _ _ s ?_
    rw [valV_put]
    by_cases e : s = p.1
    · rw [if_pos e, if_pos (by rw [e, h1])]; exact h2
    · rw [if_neg e, if_neg (fun z => e (by rw [← h1]; exact Sum.inr.inj z))]; exact h
theorem pairs_at {T : Ty K α} {F H : Hp} (S : Same F H) : ∀ {vs : List V} {ps : List (Str × α)}, All2 ((tT2 tStr T).r F) vs ps → ∃ (as : List Addr) (kvs : List (Str × V)), vs = as.map V.ref ∧ Paired (fun p (kv : Key × V) => SqT K H p [kV kv.1, kv.2]) as (kvs.map fun kv => ((.inr kv.1 : Key), kv.2)) ∧ All2 (fun (kv : Str × V) (p : Str × α) => kv.1 = p.1 ∧ T.r F kv.2 p.2) kvs ps
  | [], [], _ => ⟨[], [], rfl, .nil, trivial⟩
  | v :: vs, p :: ps, hh => by
    obtain ⟨⟨a, xs, rfl, h1, x, y, rfl, hx, hy⟩, h⟩ := hh
    obtain ⟨as, kvs, rfl, i2, i3⟩ := pairs_at S h
    obtain rfl : x = .str p.1 := hx
    exact ⟨a :: as, (p.1, y) :: kvs, rfl, .cons (sqT_mono S h1) i2, ⟨rfl, hy⟩, i3⟩
theorem lastV_mem {ps : List (Str × α)} {s : Str} {x : α} (hn : (ps.map (·.1)).Nodup) (h : (s, x) ∈ ps) : lastV ps s = some x := by
  have key : ∀ (ps : List (Str × α)) (o : Option α), (ps.map (·.1)).Nodup → (((s, x) ∈ ps) ∨ (o = some x ∧ s ∉ ps.map (·.1))) → ps.foldl (fun o p => if s = p.1 then some p.2 else o) o = some x := by
    intro ps
    induction ps with
    | nil =>
      intro o _ h
      rcases h with h | h
      · exact nomatch h
      · exact h.1
    | cons p ps ih =>
      intro o hn h
      rw [List.map_cons, List.nodup_cons] at hn
      rw [List.foldl_cons]
      refine ih _ hn.2 ?_
      rcases h with h | ⟨h, h'⟩
      · rcases List.mem_cons.mp h with e | h
        · right
          rw [← e] at hn ⊢
          exact ⟨if_pos rfl, hn.1⟩
        · exact .inl h
      · right
        rw [List.map_cons, List.mem_cons, not_or] at h'
        exact ⟨by rw [if_neg h'.1]; exact h, h'.2⟩
  exact key ps none hn (.inl h)
end
section
variable {X : Cx}
def tLenSetT (K : PySem.W.Frag) (ta : TE) : TE := fun σ H Q => ta σ H fun x H1 => ∃ (l : Addr) (ks : List (Addr × List Int)), x = .ref l ∧ SqL K H1 l (ks.map fun p => V.ref p.1) ∧ (∀ p ∈ ks, SqT K H1 p.1 (p.2.map V.int)) ∧ ks.length < 64 ∧
  ∀ L : List (Addr × List Int), (L.map (·.2)).Nodup → (∀ p ∈ L, p ∈ ks) → (∀ p ∈ ks, p.2 ∈ L.map (·.2)) → Q (.int (L.length : Nat)) H1
theorem pe_lenSetT {a : Expr} {ta : TE} {p p2 q pos : Pos} (hu : X.A.units + 3 < cLine) (hg : Gl X "len") (hm : X.mg "len" = none) (hg2 : Gl X "set") (hm2 : X.mg "set" = none) (ha : PE X a ta) (hc : X.calm = true)
    (na : starEach [a] X.env = (false, eval a X.env) :: starEach [] X.env) : PE X (.Call (.Name "len" p) [.Call (.Name "set" p2) [a] [] q] [] pos) (tLenSetT X.K ta) := by
  refine ⟨fun pins s σ H Q I h => ?_⟩
  refine Call_ (ld_blt I hg hm PySem.boot_len ?_)
  refine PyProof.Rows.callWith_builtin1 (PyProof.Rows.args_cons ?_ rfl) rfl rfl
  refine Call_ (ld_blt I hg2 hm2 PyProof.Rows.boot_set ?_)
  refine PyProof.Rows.callWith_type1 (PyProof.Rows.args_cons (thn (ha.run pins s σ H _ I h) fun v s1 ⟨x, H1, I1, r1, q1⟩ => PyProof.Rows.args_nil ?_) na) na rfl
  obtain ⟨l, ks, rfl, hq, hk, hl, q1⟩ := q1
  cases r1
  obtain ⟨its, r, pl, hz⟩ := I1.list hq
  have ei : its = ks.map fun p => Value.ref p.1 := by
    have := refs_at (ps := ks.map (·.1)) (us := its) (by rw [List.map_map]; exact r)
    rw [this, List.map_map]; rfl
  refine call_set_tups ks (I1.ok.hd hc) pl.isList (by rw [ei]) (fun p hp => I1.isT (hk p hp)) hl hu fun h' tk L es ep t hS g hkp => ?_
  refine PyProof.Rows.args_nil ?_
  have I2 : Inv X pins σ H1 { s1 with heap := h', toks := tk } := I1.kept hkp
  obtain ⟨o, ho, hex, hd⟩ := hS.ob
  have hsz := SetTR.size (s := { s1 with heap := h' }) hS
  have g1 : ∀ p ∈ L, p ∈ ks := fun p hp => by have := g.sub p hp; rw [List.take_length] at this; exact this
  have g2 : ∀ p ∈ ks, p.2 ∈ L.map (·.2) := fun p hp => g.all p (by rw [List.take_length]; exact hp)
  have hlen : L.length ≤ ks.length := g.len
  have hll : (64 : Int) < sizeLine := by decide
  exact call_len_set ho hex hd (SetTR.fits (s := { s1 with heap := h' }) hS) (by rw [hsz]; omega) ⟨.int L.length, H1, I2.tok _, ⟨_, by rw [hsz]⟩, q1 L hS.nd g1 g2⟩
end
theorem nd_len {α : Type} [DecidableEq α] : ∀ {D xs : List α}, D.Nodup → (∀ x, x ∈ D → x ∈ xs) → D.length ≤ xs.length
  | [], xs, _, _ => Nat.zero_le _
  | d :: D, xs, hn, hs => by
    rw [List.nodup_cons] at hn
    have h1 : d ∈ xs := hs d List.mem_cons_self
    have h2 := nd_len (D := D) (xs := xs.erase d) hn.2 fun x hx => (List.mem_erase_of_ne (by intro e; subst e; exact hn.1 hx)).mpr (hs x (List.mem_cons_of_mem _ hx))
    rw [List.length_erase_of_mem h1] at h2
    have h3 := List.length_pos_of_mem h1
    rw [List.length_cons]
    omega
theorem nd_of_len {α : Type} [DecidableEq α] : ∀ {xs D : List α}, D.Nodup → (∀ x, x ∈ D → x ∈ xs) → (∀ x, x ∈ xs → x ∈ D) → D.length = xs.length → xs.Nodup
  | [], _, _, _, _, _ => List.nodup_nil
  | x :: t, D, hn, h1, h2, hl => by
    have hx : x ∉ t := fun hx => by
      have := nd_len (D := D) (xs := t) hn fun y hy => (List.mem_cons.mp (h1 y hy)).elim (fun e => e ▸ hx) id
      rw [hl, List.length_cons] at this
      omega
    have hD : x ∈ D := h2 x List.mem_cons_self
    rw [List.nodup_cons]
    refine ⟨hx, nd_of_len (D := D.erase x) (hn.erase x) (fun y hy => ?_) (fun y hy => ?_) ?_⟩
    · have := (List.Nodup.mem_erase_iff hn).mp hy
      exact (List.mem_cons.mp (h1 y this.2)).resolve_left this.1
    · exact (List.Nodup.mem_erase_iff hn).mpr ⟨fun e => hx (e ▸ hy), h2 y (List.mem_cons_of_mem _ hy)⟩
    · rw [List.length_erase_of_mem hD, hl]; rfl
section
variable {P : Program} {w : World} {K : PySem.W.Frag} {mg : Str → Option Value} {base : Heap} {lv : Nat} {N : List Str} {sc : Scope} {fn : Str → Bool}
variable {α β γ δ ρ ι : Type}
variable {c : Ctx P w K mg base lv N sc fn} {Γ : Gm} {e f a b ix : Expr} {es : List Expr} {pos pos' p px py pz pt : Pos} {T : Ty K α} {A : Ty K α} {B' : Ty K β}
/-- dict(list of pairs), text keys -/
theorem ew_dict (bi : Bi mg) {k : Gm → (Str → Option α) → Prop} (hg : glB sc "dict" = true) (h : EW c Γ a (tLst (tT2 tStr T)) fun Γ1 ps => k Γ1 (lastV ps)) (he : ∀ env, starEach [a] env = (false, eval a env) :: starEach [] env := by intro _; rfl) : EW c Γ (.Call (.Name "dict" p) [a] [] pos) (tDk T) k := fun B σ F H S Q q => by
  obtain ⟨X, rfl, rfl, rfl, rfl, rfl, rfl, nd, rfl, rfl, calm, room, pas⟩ := c
  refine of_pe (pe_callTy (T := "dict") (call_dictP calm) (glB_gl hg) bi.dict (by decide +kernel) (pa_cons peW pa_nil (he _)) (by decide +kernel) (by decide +kernel) (he _) rfl) (h B σ F H S _ fun v ps Γ1 F1 H1 S1 e1 r1 h1 => ?_)
  obtain ⟨l, vs, rfl, hl, hv⟩ := r1
  obtain ⟨as, kvs, rfl, i2, i3⟩ := pairs_at S1.sub hv
  refine ⟨l, as, _, rfl, .inl (.inl (S1.sub _ _ hl)), i2, fun d hd => ?_⟩
  have st := Step.frozen (o := .dK (mergeK [] (kvs.map fun kv => ((.inr kv.1 : Key), kv.2)))) S1.sub hd
  exact q _ _ Γ1 _ _ (S1.step st) (e1.trans st.ff) ⟨d, _, rfl, upd_same, fun s => (merge_last i3 [] none s trivial).mono st.ff⟩ h1
/-- table[key] -/
theorem ew_ixDk {k : Gm → α → Prop} (h : EW c Γ a (tDk T) fun Γ1 g => EW c Γ1 b tStr fun Γ2 s => ∃ x, g s = some x ∧ k Γ2 x) (hs : NoSl b := by intro _ _; rfl) : EW c Γ (.Subscript a b pos) T k := fun B σ F H S Q q => by
  obtain ⟨X, rfl, rfl, rfl, rfl, rfl, rfl, nd, rfl, rfl, calm, room, pas⟩ := c
  refine of_pe (pe_dget (hu_of room) peW peW hs) (h B σ F H S _ fun v g Γ1 F1 H1 S1 e1 r1 h1 => h1 B σ F1 H1 S1 _ fun u s Γ2 F2 H2 S2 e2 r2 ⟨x, hx, hk⟩ => ?_)
  obtain ⟨d, kvs, rfl, hd, ho⟩ := (tDk T).mono e2 r1
  obtain rfl : u = .str s := r2
  have := ho s
  rw [hx] at this
  cases z : valV kvs (.inr s) with
  | none => rw [z] at this; exact this.elim
  | some y =>
    rw [z] at this
    have g1 : DGet H2 d (kV (.inr s)) (valV kvs (.inr s)) := DGet.k (S2.sub _ _ hd)
    rw [z] at g1
    exact ⟨d, y, rfl, g1, q y x Γ2 F2 H2 S2 (e1.trans e2) this hk⟩
/-- (x,) + tuple -/
theorem ew_catH {k : Gm → α × List β → Prop} (h : EW c Γ a (tT1 A) fun Γ1 x => EW c Γ1 b (tTup B') fun Γ2 ys => ys.length + 1 ≤ sizeLine ∧ k Γ2 (x, ys)) : EW c Γ (.BinOp a .Add b pos) (tTail A B') k :=
  ew_bin (r := rCatT K) (fun hK => by rw [← hK]; exact op_catT) (h.imp fun _ x h => h.imp fun _ ys ⟨h1, h2⟩ => fun F H u v S hu hv Q q => by
    obtain ⟨p1, xs1, rfl, q1, x1, rfl, r1⟩ := hu
    obtain ⟨p2, xs2, rfl, q2, r2⟩ := hv
    have hl := All2.length r2
    refine ⟨p1, p2, [x1], xs2, rfl, rfl, sqT_mono S q1, sqT_mono S q2, by simp, by rw [List.length_cons, List.length_nil, hl]; omega, fun e => ?_, fun e d hd => ?_⟩
    · subst e
      exact q (.ref p1) F H (x, ys) (Step.refl S) ⟨p1, [x1], rfl, q1, x1, [], rfl, r1, r2⟩ h2
    · have st := Step.frozen (o := .tup ([x1] ++ xs2)) S hd
      exact q (.ref d) _ _ (x, ys) st ⟨d, _, rfl, .inl (.inl upd_same), x1, xs2, rfl, A.mono st.ff r1, All2.imp (fun _ _ => B'.mono st.ff) r2⟩ h2)
/-- a head and three of one kind are four -/
theorem as_tail4 {k : Gm → α × β × β × β → Prop} (h : EW c Γ e (tTail A B') fun Γ1 z => ∃ u v w, z.2 = [u, v, w] ∧ k Γ1 (z.1, u, v, w)) : EW c Γ e (tT4 A B' B' B') k := fun B σ F H S Q q =>
  h B σ F H S Q fun v z Γ1 F1 H1 S1 e1 r1 ⟨u, v', w, e, hk⟩ => by
    obtain ⟨p1, xs, rfl, hp, x, ys, rfl, r2, r3⟩ := r1
    rw [e] at r3
    match ys, r3 with
    | [y1, y2, y3], ⟨r4, r5, r6, _⟩ => exact q _ _ Γ1 F1 H1 S1 e1 ⟨p1, _, rfl, hp, x, y1, y2, y3, rfl, r2, r4, r5, r6⟩ hk
theorem tups_at {F H : Hp} (S : Same F H) : ∀ {vs : List V} {ns : List (List Int)}, All2 ((tTup (tInt (K := K))).r F) vs ns → ∃ ks : List (Addr × List Int), vs = ks.map (fun p => V.ref p.1) ∧ ks.map (·.2) = ns ∧ ∀ p ∈ ks, SqT K H p.1 (p.2.map V.int)
  | [], [], _ => ⟨[], rfl, rfl, fun p h => nomatch h⟩
  | v :: vs, n :: ns, hh => by
    obtain ⟨⟨a, xs, rfl, h1, hx⟩, h⟩ := hh
    obtain ⟨ks, rfl, i2, i3⟩ := tups_at S h
    have ex : xs = n.map V.int := All2.eq_map (fun _ _ r => r) hx
    refine ⟨(a, n) :: ks, rfl, by rw [List.map_cons, i2], fun p hp => ?_⟩
    rcases List.mem_cons.mp hp with rfl | hp
    · rw [← ex]; exact sqT_mono S h1
    · exact i3 p hp
/-- len(set(tuples of ints)) -/
theorem ew_lenSetT (bi : Bi mg) {p2 q2 : Pos} {k : Gm → Int → Prop} (hg : glB sc "len" = true) (hg2 : glB sc "set" = true) (h : EW c Γ a (tLst (tTup tInt)) fun Γ1 ns => ns.length < 64 ∧ ∀ n : Nat, (n = ns.length → ns.Nodup) → k Γ1 n) (he : ∀ env, starEach [a] env = (false, eval a env) :: starEach [] env := by intro _; rfl) : EW c Γ (.Call (.Name "len" p) [.Call (.Name "set" p2) [a] [] q2] [] pos) tInt k := fun B σ F H S Q q => by
  have hu : c.X.A.units + 3 < cLine := by have := c.room.un; omega
  obtain ⟨X, rfl, rfl, rfl, rfl, rfl, rfl, nd, rfl, rfl, calm, room, pas⟩ := c
  refine of_pe (pe_lenSetT hu (glB_gl hg) bi.len (glB_gl hg2) bi.set peW calm (he _)) (h B σ F H S _ fun v ns Γ1 F1 H1 S1 e1 ⟨l, vs, ev, hl, hr⟩ h1 => ?_)
  obtain ⟨ks, rfl, i2, i3⟩ := tups_at S1.sub hr
  have hkl : ks.length = ns.length := by rw [← i2, List.length_map]
  refine ⟨l, ks, ev, .inl (.inl (S1.sub _ _ hl)), i3, by rw [hkl]; exact h1.1, fun L l1 l2 l3 => ?_⟩
  refine q _ _ Γ1 F1 H1 S1 e1 rfl (h1.2 L.length fun hn => ?_)
  refine nd_of_len l1 (fun x hx => ?_) (fun x hx => ?_) (by rw [List.length_map]; exact hn)
  · obtain ⟨p, hp, rfl⟩ := List.mem_map.mp hx
    rw [← i2]; exact List.mem_map_of_mem (l2 p hp)
  · rw [← i2] at hx
    obtain ⟨p, hp, rfl⟩ := List.mem_map.mp hx
    exact l3 p hp
end
end Px
/-! Px, twenty-sixth part: an own dict of pairs whose values are own lists of ints; its walk; a law's own statements, at which all tuples may be frozen. -/
namespace Px
open PySem PySem.Spec PyProof.Rows L2
/-! ### freezing all tuples -/
def fzT (F H : Hp) : Hp := fun b => match H b with
  | some (.tup xs) => some (.tup xs)
  | _ => F b
theorem fzT_tup {F H : Hp} {b : Addr} {xs : List V} (h : H b = some (.tup xs)) : fzT F H b = some (.tup xs) := by
  unfold fzT
  rw [h]
theorem fzT_no {F H : Hp} {b : Addr} (h : ∀ xs, H b ≠ some (.tup xs)) : fzT F H b = F b := by
  unfold fzT
  split
  · rename_i xs e
    exact absurd e (h xs)
  · rfl
theorem fzT_ext {F H : Hp} (S : Same F H) : Same F (fzT F H) := fun b o e => by
  by_cases h : ∃ xs, H b = some (.tup xs)
  · obtain ⟨xs, h⟩ := h
    rw [fzT_tup h]
    have := S b o e
    rw [h] at this
    exact this
  · rw [fzT_no fun xs y => h ⟨xs, y⟩]; exact e
theorem fzT_sub {F H : Hp} (S : Same F H) : Same (fzT F H) H := fun b o e => by
  by_cases h : ∃ xs, H b = some (.tup xs)
  · obtain ⟨xs, h⟩ := h
    rw [fzT_tup h] at e
    rw [h]; exact e
  · rw [fzT_no fun xs y => h ⟨xs, y⟩] at e; exact S b o e
/-- what a slot owns is no tuple -/
def NT (e : Ent) : Prop := ∀ v ps F H, e.ok v ps F H → ∀ p, ps p → ∀ xs, H p ≠ some (.tup xs)
def NTs (Γ : Gm) : Prop := ∀ (i : Nat) (e : Ent), Γ[i]? = some (some e) → NT e
theorem nts_nil : NTs [] := fun i e h => by simp at h
theorem nts_none {Γ : Gm} (h : NTs Γ) : NTs (none :: Γ) := fun i e z => by
  cases i with
  | zero => cases z
  | succ i => exact h i e z
theorem nts_some {x : Ent} {Γ : Gm} (hx : NT x) (h : NTs Γ) : NTs (some x :: Γ) := fun i e z => by
  cases i with
  | zero => cases z; exact hx
  | succ i => exact h i e z
section
variable {K : PySem.W.Frag} {α : Type}
theorem nt_val {T : Ty K α} {a : α} : NT (val T a) := fun v ps F H h p hp => absurd hp (h.1 p)
theorem nt_ownL {T : Ty K α} {as : List α} : NT (ownL T as) := fun v ps F H ⟨p, vs, h1, h2, h3, h4⟩ q hq xs e => by
  obtain rfl := (h2 q).mp hq
  rw [h3] at e; cases e
theorem nt_drw {p : Addr} : NT (drw p) := fun v ps F H ⟨h1, h2, a, b, h3, _⟩ q hq xs e => by
  obtain rfl := (h2 q).mp hq
  rw [h3] at e; cases e
theorem nt_entT {t : TV K} {W : Addr} {q : Str} : NT (entT t W q) := fun v ps F H ⟨h1, h2, ps', h3, _⟩ p hp xs e => by
  obtain rfl := (h1 p).mp hp
  rw [h3] at e; cases e
end
def TupB (W : Addr) (B : Base) : Prop := (∀ p, ¬ B.pin p) ∧ (∀ b, B.vol b → b = W) ∧ ∀ b xs, B.H b = some (.tup xs) → B.F b = some (.tup xs)
theorem sta_fzT {K : PySem.W.Frag} {B : Base} {Γ : Gm} {σ : L2.St} {F H : Hp} {W : Addr} (S : Sta B Γ σ F H) (tB : TupB W B) (hn : NTs Γ) (hW : ∃ (j : Nat) (t : TV K) (q : Str), Γ[j]? = some (some (entT t W q))) : Sta B Γ σ (fzT F H) H := by
  have hWt : ∀ xs, H W ≠ some (.tup xs) := by
    obtain ⟨j, t, q, hj⟩ := hW
    obtain ⟨v, ps, hv, ho, _⟩ := S.get hj
    exact nt_entT v ps F H ho W ((ho.1 W).mpr rfl)
  obtain ⟨O, h1, h2, h3⟩ := S.own
  refine ⟨S.len, fzT_sub S.sub, S.ext.trans (fzT_ext S.sub), S.keep, S.dom, fun b n1 n2 => ?_, fun b z => absurd z (tB.1 b), fun i p => O i p ∧ ∃ e, Γ[i]? = some (some e), fun i p ⟨hp, e, he⟩ => ?_, fun i j p hp hq => h2 i j p hp.1 hq.1, fun i e he => ?_⟩
  · by_cases hv : B.vol b
    · rw [tB.2.1 b hv] at n1 n2 ⊢
      rw [fzT_no hWt]
      exact S.new W n1 n2
    · cases q : B.H b with
      | none => exact absurd q n1
      | some o =>
        have hb := S.keep b o q hv
        rw [fzT_no fun xs y => ?_]
        · exact S.new b n1 n2
        · rw [hb] at y
          cases y
          rw [tB.2.2 b xs q] at n2
          cases n2
  · obtain ⟨a1, a2, a3, a4⟩ := h1 i p hp
    obtain ⟨v, hv, ho, _⟩ := h3 i e he
    exact ⟨by rw [fzT_no (hn i e he v _ F H ho p hp)]; exact a1, a2, a3, a4⟩
  · obtain ⟨v, hv, ho, hz⟩ := h3 i e he
    refine ⟨v, hv, ?_, fun b p hp => hz b p hp.1⟩
    have e0 : (fun p => O i p ∧ ∃ e, Γ[i]? = some (some e)) = O i := by
      funext p
      exact propext ⟨fun h => h.1, fun h => ⟨h, e, he⟩⟩
    show e.ok v (fun p => O i p ∧ ∃ e, Γ[i]? = some (some e)) (fzT F H) H
    rw [e0]
    exact e.st ho (fzT_ext S.sub) fun _ _ => rfl
/-! ### the entries -/
def kvM (ad : Int × Int → Addr) (ks : List (Int × Int)) : List (List Key × V) := ks.map fun z => (pk z.1 z.2, V.ref (ad z))
theorem pk_pair {z y : Int × Int} (h : pk z.1 z.2 = pk y.1 y.2) : z = y := by
  obtain ⟨h1, h2⟩ := pk_inj h
  exact Prod.ext h1 h2
theorem kvM_get {ad : Int × Int → Addr} {z : Int × Int} : ∀ {ks : List (Int × Int)}, z ∈ ks → valV (kvM ad ks) (pk z.1 z.2) = some (.ref (ad z))
  | y :: ks, h => by
    show valV ((pk y.1 y.2, V.ref (ad y)) :: kvM ad ks) _ = _
    by_cases e : pk y.1 y.2 = pk z.1 z.2
    · rw [valV_pos (p := (pk y.1 y.2, V.ref (ad y))) e, pk_pair e]
    · rw [valV_neg (p := (pk y.1 y.2, V.ref (ad y))) e]
      refine kvM_get ((List.mem_cons.mp h).resolve_left fun y' => e (by rw [y']))
theorem kvM_put {ad : Int × Int → Addr} {z : Int × Int} {q : Addr} {ks : List (Int × Int)} (h : z ∉ ks) : putK (kvM ad ks) (pk z.1 z.2) (.ref q) = kvM (fun y => if y = z then q else ad y) (ks ++ [z]) := by
  unfold putK
  have hn : ((kvM ad ks).any fun kv => decide (kv.1 = pk z.1 z.2)) = false := by
    rw [List.any_eq_false]
    intro kv hkv
    obtain ⟨y, hy, rfl⟩ := List.mem_map.mp hkv
    intro e
    exact h (by rw [← pk_pair (of_decide_eq_true e)]; exact hy)
  rw [hn]
  show kvM ad ks ++ _ = kvM _ (ks ++ [z])
  unfold kvM
  rw [List.map_append]
  congr 1
  · refine List.map_congr_left fun y hy => ?_
    show (pk y.1 y.2, V.ref (ad y)) = (pk y.1 y.2, V.ref (if y = z then q else ad y))
    rw [if_neg (show ¬ y = z from by intro e; subst e; exact h hy)]
  · show _ = [(pk z.1 z.2, V.ref (if z = z then q else ad z))]
    rw [if_pos rfl]
structure Lsts (ks : List (Int × Int)) (s : Int → Int → List Int) (ad : Int × Int → Addr) (p : Addr) (H : Hp) : Prop where
  at' : ∀ z, z ∈ ks → H (ad z) = some (.lst ((s z.1 z.2).map V.int))
  ne : ∀ z, z ∈ ks → ad z ≠ p
  inj : ∀ z, z ∈ ks → ∀ y, y ∈ ks → ad z = ad y → z = y
def ownM (ks : List (Int × Int)) (s : Int → Int → List Int) : Ent :=
  ⟨fun v ps F H => ∃ (p : Addr) (ad : Int × Int → Addr), v = .ref p ∧ (∀ q, ps q ↔ q = p ∨ ∃ z, z ∈ ks ∧ q = ad z) ∧ H p = some (.dT (kvM ad ks)) ∧ Lsts ks s ad p H, false, false,
   fun ⟨p, ad, h1, h2, h3, h4⟩ e k => ⟨p, ad, h1, h2, by rw [k p ((h2 p).mpr (.inl rfl))]; exact h3, ⟨fun z hz => by rw [k _ ((h2 _).mpr (.inr ⟨z, hz, rfl⟩))]; exact h4.at' z hz, h4.ne, h4.inj⟩⟩, fun h => nomatch h⟩
theorem nt_ownM {ks : List (Int × Int)} {s : Int → Int → List Int} : NT (ownM ks s) := fun v ps F H ⟨p, ad, h1, h2, h3, h4⟩ q hq xs e => by
  rcases (h2 q).mp hq with rfl | ⟨z, hz, rfl⟩
  · rw [h3] at e; cases e
  · rw [h4.at' z hz] at e; cases e
/-- the dict itself locked and frozen, its keys frozen -/
def lokM (ks : List (Int × Int)) (s : Int → Int → List Int) : Ent :=
  ⟨fun v ps F H => ∃ (p : Addr) (ad : Int × Int → Addr) (od : Obj) (es : Array DictEntry) (ep : Nat), v = .ref p ∧ (∀ q, ps q ↔ ∃ z, z ∈ ks ∧ q = ad z) ∧ F p = some (.frz od (.dT (kvM ad ks))) ∧ od.data = .dict es ep ∧
     (∀ (i : Nat) (z : Int × Int), ks[i]? = some z → ∃ (en : DictEntry) (q : Addr), es[i]? = some en ∧ en.key = .ref q ∧ F q = some (.tup [.int z.1, .int z.2])) ∧ Lsts ks s ad p H, false, false,
   fun ⟨p, ad, od, es, ep, h1, h2, h3, h5, h6, h4⟩ e k => ⟨p, ad, od, es, ep, h1, h2, e _ _ h3, h5, fun i z hz => let ⟨en, q, a, b, c⟩ := h6 i z hz; ⟨en, q, a, b, e _ _ c⟩, ⟨fun z hz => by rw [k _ ((h2 _).mpr ⟨z, hz, rfl⟩)]; exact h4.at' z hz, h4.ne, h4.inj⟩⟩, fun h => nomatch h⟩
theorem sta_lock {B : Base} {Γ : Gm} {σ : L2.St} {F H : Hp} {i : Nat} {ks : List (Int × Int)} {s : Int → Int → List Int} {p : Addr} {od : Obj} {es : Array DictEntry} {ep : Nat} {kvs : List (List Key × V)} (S : Sta B Γ σ F H) (hx : Γ[i]? = some (some (ownM ks s))) (hB : ∀ p, ¬ B.loc p) (hpin : ∀ p, ¬ B.pin p)
    (hv : σ[i]? = some (some (.ref p))) (hp : H p = some (.dT kvs)) (hod : od.data = .dict es ep) (hk : ∀ (i : Nat) (k : List Key) (v : V), kvs[i]? = some (k, v) → ∃ (en : DictEntry) (q : Addr), es[i]? = some en ∧ en.key = .ref q ∧ F q = some (.tup (k.map kV))) :
    Sta B (Γ.set i (some (lokM ks s))) σ (upd F p (.frz od (.dT kvs))) (upd H p (.frz od (.dT kvs))) := by
  obtain ⟨O, h1, h2, h3⟩ := S.own
  obtain ⟨v, hv', ⟨p', ad, ev, hq, hp', hl⟩, hz⟩ := h3 i _ hx
  rw [hv] at hv'
  cases hv'
  obtain rfl : p = p' := V.ref.inj ev
  rw [hp] at hp'
  have ek : kvs = kvM ad ks := HO.dT.inj (Option.some.inj hp')
  subst ek
  have hil : i < Γ.length := (List.getElem?_eq_some_iff.mp hx).1
  have hO : O i p := (hq p).mpr (.inl rfl)
  have hF : F p = none := (h1 i p hO).1
  have hBp : B.H p = none := (hz rfl p hO).resolve_right (hB p)
  have ff : Same F (upd F p (.frz od (.dT (kvM ad ks)))) := same_new hF
  have ow : ∀ {j q}, O j q → j ≠ i → q ≠ p := fun {j q} hj hne e => hne (h2 j i q hj (e ▸ hO))
  refine ⟨by rw [List.length_set]; exact S.len, fun b o e => ?_, S.ext.trans ff, fun b o e n => ?_, fun b n => ?_, fun b n1 n2 => ?_, fun b z => absurd z (hpin b), fun j q => if j = i then ∃ z, z ∈ ks ∧ q = ad z else O j q, fun j q hj => ?_, fun j l q hj hl' => ?_, fun j x hj => ?_⟩
  · by_cases hb : b = p
    · rw [hb, upd_same] at e ⊢; exact e
    · rw [upd_ne hb] at e ⊢; exact S.sub b o e
  · rw [upd_ne (ne_of_none e hBp)]; exact S.keep b o e n
  · by_cases hb : b = p
    · rw [hb, upd_same]; exact fun y => nomatch y
    · rw [upd_ne hb]; exact S.dom b n
  · have hb : b ≠ p := fun z => n1 (by rw [z]; exact hBp)
    rw [upd_ne hb]; exact S.new b n1 n2
  · by_cases hji : j = i
    · simp only [hji, if_true] at hj
      obtain ⟨z, hz', rfl⟩ := hj
      obtain ⟨a1, a2, a3, a4⟩ := h1 i (ad z) ((hq _).mpr (.inr ⟨z, hz', rfl⟩))
      exact ⟨by rw [upd_ne (hl.ne z hz')]; exact a1, by rw [upd_ne (hl.ne z hz')]; exact a2, a3, a4⟩
    · simp only [hji, if_false] at hj
      obtain ⟨a1, a2, a3, a4⟩ := h1 j q hj
      exact ⟨by rw [upd_ne (ow hj hji)]; exact a1, by rw [upd_ne (ow hj hji)]; exact a2, a3, a4⟩
  · by_cases hji : j = i
    · by_cases hli : l = i
      · rw [hji, hli]
      · simp only [hji, if_true] at hj
        simp only [hli, if_false] at hl'
        obtain ⟨z, hz', rfl⟩ := hj
        exact absurd (h2 l i _ hl' ((hq _).mpr (.inr ⟨z, hz', rfl⟩))) hli
    · by_cases hli : l = i
      · simp only [hji, if_false] at hj
        simp only [hli, if_true] at hl'
        obtain ⟨z, hz', rfl⟩ := hl'
        exact absurd (h2 j i _ hj ((hq _).mpr (.inr ⟨z, hz', rfl⟩))) hji
      · simp only [hji, if_false] at hj
        simp only [hli, if_false] at hl'
        exact h2 j l q hj hl'
  · by_cases hji : j = i
    · subst hji
      rw [List.getElem?_set_self hil] at hj
      cases hj
      refine ⟨.ref p, hv, ?_, fun _ q hq' => ?_⟩
      · simp only [if_true]
        refine ⟨p, ad, od, es, ep, rfl, fun q => Iff.rfl, upd_same, hod, fun n z hn => ?_, fun z hz' => by rw [upd_ne (hl.ne z hz')]; exact hl.at' z hz', hl.ne, hl.inj⟩
        obtain ⟨en, q, e1, e2, e3⟩ := hk n (pk z.1 z.2) (.ref (ad z)) (by unfold kvM; rw [List.getElem?_map, hn]; rfl)
        exact ⟨en, q, e1, e2, ff _ _ e3⟩
      · simp only [if_true] at hq'
        obtain ⟨z, hz', rfl⟩ := hq'
        exact hz rfl _ ((hq _).mpr (.inr ⟨z, hz', rfl⟩))
    · rw [List.getElem?_set_ne (Ne.symm hji)] at hj
      obtain ⟨u, hu, ho, hw⟩ := h3 j x hj
      refine ⟨u, hu, ?_, fun b q hq' => ?_⟩
      · simp only [hji, if_false]
        exact x.st ho ff fun q hq' => upd_ne (ow hq' hji)
      · simp only [hji, if_false] at hq'
        exact hw b q hq'
/-! ### the walk of the locked dict -/
def ItK (d : Addr) (o : Obj) (kvs : List (List Key × V)) (es : Array DictEntry) : It :=
  ⟨fun i H => H d = some (.frz o (.dT kvs)) ∧ i < kvs.length, fun i H x H' => H' = H ∧ ∃ (en : DictEntry) (q : Addr), es[i]? = some en ∧ en.key = .ref q ∧ x = .ref q, fun i H => H d = some (.frz o (.dT kvs)) ∧ kvs.length ≤ i⟩
theorem turn_keysK {P : Program} {w : World} {K : PySem.W.Frag} {tg : Expr} {d : Addr} {o : Obj} {es : Array DictEntry} {ep : Nat} {kvs : List (List Key × V)} (it : Addr) (hod : o.data = .dict es ep) : Turn P w K tg (ItK d o kvs es) [it] it (fun i h => h.IsKeyIter it d i kvs.length ep) where
  mem := by simp
  obj := fun i h st b hb => by
    have e : b = it := by simpa using hb
    subst e
    obtain ⟨oi, e, c, dd⟩ := st
    exact ⟨oi, e, fun v z => by rw [dd] at z; cases z⟩
  keep := fun i h h' st k => st.at fun oi e => k it (by simp) oi e
  item := by
    intro X hP hw hK hc i pins s σ H E I hf st hg
    subst hP hw hK
    obtain ⟨hd, hi⟩ := hg
    obtain ⟨f0, f1, f2, f3, f4, f5⟩ := hf it (by simp)
    obtain ⟨hs, hgd, hx, es', ep', hdt, hsz, ent⟩ := I.frzT hd
    obtain ⟨rfl, rfl⟩ := dict_ep hod hdt
    obtain ⟨⟨k, v⟩, hkv⟩ : ∃ p, kvs[i]? = some p := ⟨kvs[i], List.getElem?_eq_getElem hi⟩
    obtain ⟨en, q, hen, hkey, hq⟩ := ent i k v hkv
    refine next_key_item st hgd hdt hsz hen fun h' st' sb => ?_
    have I1 : Inv X pins σ H { s with heap := h' } := I.turned (t' := s.toks) (fun b ob hb e => (sb.2 b hb).trans e) f0 f1 f3 f4 f5
    obtain ⟨oi, e, c, dd⟩ := id st'
    exact ⟨en.key, rfl, go_of (s := { s with heap := h' }) e c dd (by decide) ⟨.ref q, H, I1, hkey, ⟨rfl, en, q, hen, hkey, rfl⟩, st', fun b hb => (hf b hb).1⟩⟩
  done := by
    intro X hP hw hK hc i pins s σ H E I hf st hg
    subst hP hw hK
    obtain ⟨hd, hi⟩ := hg
    obtain ⟨f0, f1, f2, f3, f4, f5⟩ := hf it (by simp)
    obtain ⟨hs, hgd, hx, es', ep', hdt, hsz, ent⟩ := I.frzT hd
    obtain ⟨rfl, rfl⟩ := dict_ep hod hdt
    exact next_key_end (I.ok.hd hc) st hgd hdt hsz hi fun h' eb => ⟨rfl, I.turned (t' := s.toks) (fun b ob hb e => eb b ob hb e) f0 f1 f3 f4 f5⟩
  self := fun A i s Q E st h => (turn_keysT (P := P) (w := w) (K := K) (tg := tg) it hod).self A i s Q E st h
theorem pi_keysK {X : Cx} {tg e : Expr} {td : TE} (he : PE X e td) : PI X tg e (fun σ H R => td σ H fun x H1 => ∃ (d : Addr) (o : Obj) (kvs : List (List Key × V)) (es : Array DictEntry) (ep : Nat), x = .ref d ∧ H1 d = some (.frz o (.dT kvs)) ∧ o.data = .dict es ep ∧ R (ItK d o kvs es) H1) := by
  refine ⟨fun pins s σ H R I h => ?_⟩
  refine thn (he.run pins s σ H _ I h) fun u s1 ⟨x, H1, I1, rx, d, o, kvs, es, ep, ex, hd, hod, q⟩ => ?_
  subst ex
  obtain rfl : u = Value.ref d := rx
  obtain ⟨hs, hgd, hx, es', ep', hdt, hsz, ent⟩ := I1.frzT hd
  obtain ⟨rfl, rfl⟩ := dict_ep hod hdt
  refine iter_keys hs hgd hx hdt (pi_one (tk := s1.toks) I1 _ (turn_keysK _ hdt) ⟨_, Heap.get?_push_size _ rfl, rfl, ?_⟩ q)
  rw [hsz] <;> rfl
/-! ### rules -/
section
variable {P : Program} {w : World} {K : PySem.W.Frag} {mg : Str → Option Value} {base : Heap} {lv : Nat} {N : List Str} {sc : Scope} {fn : Str → Bool}
variable {α ρ : Type} {c : Ctx P w K mg base lv N sc fn} {Γ : Gm} {e ix tg : Expr} {pos pos' px py pz pt pl : Pos} {R : Rs ρ} {rt : Gm → ρ → Prop} {nx bk ct : Gm → Prop} {ks : List (Int × Int)} {s : Int → Int → List Int}
/-- x = {} -/
theorem w_newM {i : Nat} {x : Str} {pd : Pos} (hs : slotOf N x 0 = some i) (hv : locB sc fn x = true) (h : i < Γ.length ∧ nx (Γ.set i (some (ownM [] s)))) (hsw : ∀ env, swapsWith (.Dict [] [] pd) (some (.Name x pos')) pos.line env = pure false := by intro _; rfl) :
    S1 c Γ (.Assign [.Name x pos'] (.Dict [] [] pd) pos) (⟨R, rt, nx, bk, ct⟩ : En ρ) := fun B σ F H hB S => by
  have hN := c.hN
  have hsc := c.hsc
  have hfn := c.hfn
  have hl := locB_loc hv
  refine of_ps (ps_set (i := i) (by rw [hN]; exact c.nd) (by rw [hN]; exact slotOf_at hs) (by rw [hsc]; exact hl.1) pe_dnewT (hsw _) (by rw [hsc, hfn]; exact hl.2)) ?_
  intro p hp
  obtain ⟨S1, b1, b2, b3⟩ := S.make (o := .dT []) hp
  exact ⟨Γ.set i (some (ownM [] s)), F, S1.take h.1 ⟨p, fun _ => 0, rfl, fun q => by simp, upd_same, ⟨(fun z hz => nomatch hz), (fun z hz => nomatch hz), (fun z hz => nomatch hz)⟩⟩ b3 (by rw [upd_same]; exact fun z => nomatch z) b1 b2, h.2⟩
/-- x[a, b] = [0, 0, 0] -/
theorem w_put0 {i j l : Nat} {x a b : Str} {r d : Int} {kt j1 j2 j3} {pa pb p1 p2 p3 : Pos} (hs : slotOf N x 0 = some i) (hv : visB sc x = true) (hx : Γ[i]? = some (some (ownM ks s))) (hsa : slotOf N a 0 = some j) (hva : visB sc a = true) (hga : Γ[j]? = some (some (val (K := K) tInt r)))
    (hsb : slotOf N b 0 = some l) (hvb : visB sc b = true) (hgb : Γ[l]? = some (some (val (K := K) tInt d))) (hnew : (r, d) ∉ ks) (hlen : ks.length < 10000) (hs0 : s r d = [0, 0, 0]) (h : nx (Γ.set i (some (ownM (ks ++ [(r, d)]) s))))
    (hd : (x == ("__debug__" : Str)) = false := by decide +kernel) (hcd : (x == ("__classdict__" : Str)) = false := by decide +kernel) (hda : (a == ("__debug__" : Str)) = false := by decide +kernel) (hca : (a == ("__classdict__" : Str)) = false := by decide +kernel) (hdb : (b == ("__debug__" : Str)) = false := by decide +kernel) (hcb : (b == ("__classdict__" : Str)) = false := by decide +kernel)
    (hsw : ∀ env, swapsWith (.List [.Constant (.int 0) j1 p1, .Constant (.int 0) j2 p2, .Constant (.int 0) j3 p3] pl) (some (.Subscript (.Name x px) (.Tuple [.Name a pa, .Name b pb] kt pt) pos')) pos.line env = pure false := by intro _; rfl)
    (he1 : ∀ env, starEach [.Constant (.int 0) j1 p1, .Constant (.int 0) j2 p2, .Constant (.int 0) j3 p3] env = (false, eval (.Constant (.int 0) j1 p1) env) :: starEach [.Constant (.int 0) j2 p2, .Constant (.int 0) j3 p3] env := by intro _; rfl) (he2 : ∀ env, starEach [.Constant (.int 0) j2 p2, .Constant (.int 0) j3 p3] env = (false, eval (.Constant (.int 0) j2 p2) env) :: starEach [.Constant (.int 0) j3 p3] env := by intro _; rfl) (he3 : ∀ env, starEach [.Constant (.int 0) j3 p3] env = (false, eval (.Constant (.int 0) j3 p3) env) :: starEach [] env := by intro _; rfl)
    (hf1 : ∀ env, starEach [.Name a pa, .Name b pb] env = (false, eval (.Name a pa) env) :: starEach [.Name b pb] env := by intro _; rfl) (hf2 : ∀ env, starEach [.Name b pb] env = (false, eval (.Name b pb) env) :: starEach [] env := by intro _; rfl) :
    S1 c Γ (.Assign [.Subscript (.Name x px) (.Tuple [.Name a pa, .Name b pb] kt pt) pos'] (.List [.Constant (.int 0) j1 p1, .Constant (.int 0) j2 p2, .Constant (.int 0) j3 p3] pl) pos) (⟨R, rt, nx, bk, ct⟩ : En ρ) := fun B σ F H hB S => by
  obtain ⟨X, rfl, rfl, rfl, rfl, rfl, rfl, nd, rfl, rfl, calm, room, pas⟩ := c
  refine of_ps (ps_dput (hu_of room) (pe_var (slotOf_at hs) (visB_vis hv) hd hcd) (pe_tup (pa_cons (pe_var (slotOf_at hsa) (visB_vis hva) hda hca) (pa_cons (pe_var (slotOf_at hsb) (visB_vis hvb) hdb hcb) pa_nil (hf2 _)) (hf1 _))) (pe_lst (pa_cons pe_int (pa_cons pe_int (pa_cons pe_int pa_nil (he3 _)) (he2 _)) (he1 _))) (hsw _)) ?_
  obtain ⟨v0, ps0, hv0, ⟨p, ad, rfl, hq, hp, hl⟩, own0⟩ := S.get hx
  obtain ⟨va, _, hva1, ⟨_, rfl⟩, _⟩ := S.get hga
  obtain ⟨vb, _, hvb1, ⟨_, rfl⟩, _⟩ := S.get hgb
  refine ⟨by show 3 ≤ sizeLine; decide, fun q hqn => ⟨_, hv0, _, hva1, _, hvb1, (by show 2 ≤ sizeLine; decide), fun t ht => ?_⟩⟩
  have hpq : p ≠ q := fun z => by rw [z, hqn] at hp; cases hp
  have hqt : t ≠ q := fun z => by rw [z, upd_same] at ht; cases ht
  have htH : H t = none := by rw [upd_ne hqt] at ht; exact ht
  have hpt : p ≠ t := fun z => by rw [z, htH] at hp; cases hp
  have hFt : F t = none := S.sub.free htH
  have hFq : F q = none := S.sub.free hqn
  have hsz : 10000 < sizeLine := by decide
  have hp3 : upd (upd H q (.lst [.int 0, .int 0, .int 0])) t (.tup [.int r, .int d]) p = some (.dT (kvM ad ks)) := by rw [upd_ne hpt, upd_ne hpq]; exact hp
  refine ⟨p, _, rfl, DPut.t (k := pk r d) hp3 upd_same (by unfold kvM; rw [List.length_map]; omega), _, upd F t (.tup [.int r, .int d]), S.own_upd (e' := ownM (ks ++ [(r, d)]) s) (F' := upd F t (.tup [.int r, .int d])) hx rfl fun v3 ps3 hv3 ⟨p3, ad3, e3, hq3, hp3', hl3⟩ own3 => ?_, h⟩
  rw [hv0] at hv3
  have ev := Option.some.inj (Option.some.inj hv3)
  rw [e3] at ev
  obtain rfl : p = p3 := V.ref.inj ev
  have ek : kvM ad ks = kvM ad3 ks := HO.dT.inj (Option.some.inj (hp.symm.trans hp3'))
  rw [ek]
  have hput := kvM_put (ad := ad3) (q := q) hnew
  show ∃ ps', _
  have hne : ∀ z, z ∈ ks → ad3 z ≠ q := fun z hz e => by have := hl3.at' z hz; rw [e, hqn] at this; cases this
  have hnt : ∀ z, z ∈ ks → ad3 z ≠ t := fun z hz e => by have := hl3.at' z hz; rw [e, htH] at this; cases this
  have hin : ∀ z, z ∈ ks → (if z = (r, d) then q else ad3 z) = ad3 z := fun z hz => if_neg (by intro e; subst e; exact hnew hz)
  refine ⟨fun u => ps3 u ∨ u = q, fun b o y => ?_, same_new hFt, fun b o hb nb => ?_, fun b nb => ?_, fun b n1 n2 => ?_, fun u hu => ?_, p, fun z => if z = (r, d) then q else ad3 z, e3, fun u => ?_, by rw [upd_same]; exact congrArg (fun k => some (HO.dT k)) hput, ⟨fun z hz => ?_, fun z hz => ?_, fun z hz y hy e => ?_⟩⟩
  · by_cases hb : b = t
    · rw [hb, upd_same] at y
      rw [hb, upd_ne hpt.symm, upd_same]; exact y
    · rw [upd_ne hb] at y
      have hbp : b ≠ p := fun z => by rw [z, (own3 p ((hq3 p).mpr (.inl rfl))).1] at y; cases y
      rw [upd_ne hbp, upd_ne hb, upd_ne (ne_of_none y hFq)]; exact S.sub b o y
  · have hbp : b ≠ p := fun z => nb ((hq3 b).mpr (.inl z))
    rw [upd_ne hbp, upd_ne (ne_of_none hb htH), upd_ne (ne_of_none hb hqn)]; exact hb
  · by_cases hbp : b = p
    · rw [hbp, upd_same]; exact fun z => nomatch z
    · have h1 : b ≠ t := fun z => nb (by rw [z]; exact htH)
      have h2 : b ≠ q := fun z => nb (by rw [z]; exact hqn)
      rw [upd_ne hbp, upd_ne h1, upd_ne h2]; exact nb
  · rw [upd_ne fun z => n1 (by rw [z]; exact htH)]; exact n2
  · rcases hu with hu | rfl
    · obtain ⟨a1, a2, a3, a4⟩ := own3 u hu
      refine ⟨.inl hu, by rw [upd_ne fun z => a2 (by rw [z]; exact htH)]; exact a1, ?_, a4⟩
      by_cases hbp : u = p
      · rw [hbp, upd_same]; exact fun z => nomatch z
      · have h1 : u ≠ t := fun z => a2 (by rw [z]; exact htH)
        have h2 : u ≠ q := fun z => a2 (by rw [z]; exact hqn)
        rw [upd_ne hbp, upd_ne h1, upd_ne h2]; exact a2
    · refine ⟨.inr hqn, by rw [upd_ne hqt.symm]; exact hFq, by rw [upd_ne hpq.symm, upd_ne hqt.symm, upd_same]; (exact fun z => nomatch z), fun z => (S.pnd _ z).1 hqn⟩
  · constructor
    · rintro (hu | rfl)
      · rcases (hq3 u).mp hu with rfl | ⟨z, hz, rfl⟩
        · exact .inl rfl
        · exact .inr ⟨z, List.mem_append_left _ hz, (hin z hz).symm⟩
      · exact .inr ⟨(r, d), List.mem_append_right _ List.mem_cons_self, (if_pos rfl).symm⟩
    · rintro (rfl | ⟨z, hz, rfl⟩)
      · exact .inl ((hq3 u).mpr (.inl rfl))
      · rcases List.mem_append.mp hz with hz | hz
        · exact .inl ((hq3 _).mpr (.inr ⟨z, hz, hin z hz⟩))
        · obtain rfl := List.mem_singleton.mp hz
          exact .inr (if_pos rfl)
  · rcases List.mem_append.mp hz with hz | hz
    · rw [hin z hz, upd_ne (hl3.ne z hz), upd_ne (hnt z hz), upd_ne (hne z hz)]
      exact hl3.at' z hz
    · obtain rfl := List.mem_singleton.mp hz
      rw [if_pos rfl, upd_ne hpq.symm, upd_ne hqt.symm, upd_same, hs0]
      rfl
  · rcases List.mem_append.mp hz with hz | hz
    · rw [hin z hz]; exact hl3.ne z hz
    · obtain rfl := List.mem_singleton.mp hz
      rw [if_pos rfl]; exact hpq.symm
  · rcases List.mem_append.mp hz with hz | hz
    · rw [hin z hz] at e
      rcases List.mem_append.mp hy with hy | hy
      · rw [hin y hy] at e; exact hl3.inj z hz y hy e
      · obtain rfl := List.mem_singleton.mp hy
        rw [if_pos rfl] at e
        exact absurd e (hne z hz)
    · obtain rfl := List.mem_singleton.mp hz
      rw [if_pos rfl] at e
      rcases List.mem_append.mp hy with hy | hy
      · rw [hin y hy] at e
        exact absurd e.symm (hne y hy)
      · exact (List.mem_singleton.mp hy).symm
/-- for .. in x, x locked -/
theorem iw_lokM {i : Nat} {x : Str} {k : Gm → List (Int × Int) → Prop} (hs : slotOf N x 0 = some i) (hv : visB sc x = true) (hx : Γ[i]? = some (some (lokM ks s))) (h : k Γ ks) (hd : (x == ("__debug__" : Str)) = false := by decide +kernel) (hcd : (x == ("__classdict__" : Str)) = false := by decide +kernel) : IW c Γ tg (.Name x px) tPr k := fun B σ F H S Q q => by
  obtain ⟨X, rfl, rfl, rfl, rfl, rfl, rfl, nd, rfl, rfl, calm, room, pas⟩ := c
  obtain ⟨v, ps, hv1, ⟨p, ad, od, es, ep, rfl, hq, hp, hod, hk, hl⟩, own⟩ := S.get hx
  refine of_pi (pi_keysK (pe_var (slotOf_at hs) (visB_vis hv) hd hcd)) ⟨_, hv1, p, od, _, es, ep, rfl, S.sub _ _ hp, hod, q _ ks Γ F H S (Same.refl _) ⟨fun i F1 H1 s1 s2 hi => ⟨s2 _ _ (s1 _ _ hp), by unfold kvM; rw [List.length_map]; exact hi⟩, fun i F1 H1 s1 s2 hi => ⟨s2 _ _ (s1 _ _ hp), by unfold kvM; rw [List.length_map]; exact hi⟩, fun i F1 H1 y H2 s1 s2 ⟨e2, en, u, h1, h2, h3⟩ z hz => ?_⟩ h⟩
  subst e2
  obtain ⟨en', u', g1, g2, g3⟩ := hk i z hz
  rw [h1] at g1
  obtain rfl : en = en' := Option.some.inj g1
  rw [h2] at g2
  obtain rfl : u = u' := Value.ref.inj g2
  exact ⟨F1, Step.refl s2, u, h3, s1 _ _ g3⟩
/-- x[pair][y] -/
theorem ew_getLk {i l : Nat} {x y : Str} {k : Gm → Int → Prop} (hs : slotOf N x 0 = some i) (hv : visB sc x = true) (hx0 : ∃ ks s, Γ[i]? = some (some (lokM ks s))) (hsy : slotOf N y 0 = some l) (hvy : visB sc y = true)
    (h : EW c Γ ix (tPr (K := K)) fun Γ1 z => Γ1[i]? = some (some (lokM ks s)) ∧ z ∈ ks ∧ ∃ n u, Γ1[l]? = some (some (val (K := K) tInt n)) ∧ atI (s z.1 z.2) n = some u ∧ k Γ1 u) (hns : NoSl ix := by intro _ _; rfl) (hp : PlainIx (.Name y py) := by intro _ _; rfl)
    (hd : (x == ("__debug__" : Str)) = false := by decide +kernel) (hcd : (x == ("__classdict__" : Str)) = false := by decide +kernel) (hdy : (y == ("__debug__" : Str)) = false := by decide +kernel) (hcy : (y == ("__classdict__" : Str)) = false := by decide +kernel) : EW c Γ (.Subscript (.Subscript (.Name x px) ix pt) (.Name y py) pos) tInt k := fun B σ F H S Q q => by
  obtain ⟨X, rfl, rfl, rfl, rfl, rfl, rfl, nd, rfl, rfl, calm, room, pas⟩ := c
  refine of_pe (pe_ix ix_list (pe_dget (hu_of room) (pe_var (slotOf_at hs) (visB_vis hv) hd hcd) peW hns) (pe_var (slotOf_at hsy) (visB_vis hvy) hdy hcy) hp) ?_
  obtain ⟨ks0, s0, hx0⟩ := hx0
  obtain ⟨v0, ps0, hv0, ⟨p0, _, _, _, _, rfl, _⟩, _⟩ := S.get hx0
  refine ⟨_, hv0, h B σ F H S _ fun v z Γ1 F1 H1 S1 e1 r1 ⟨hx, hz, n, u, hn, hu, hk⟩ => ?_⟩
  obtain ⟨v1, ps, hv1, ⟨p, ad, od, es, ep, ev, hq, hp1, hod, hky, hl⟩, own⟩ := S1.get hx
  rw [hv0] at hv1
  have ev' := Option.some.inj (Option.some.inj hv1)
  rw [ev] at ev'
  obtain rfl : p0 = p := V.ref.inj ev'
  obtain ⟨b, rfl, hb⟩ := r1
  obtain ⟨vn, _, hvn, ⟨_, rfl⟩, _⟩ := S1.get hn
  obtain ⟨t, ht, rt'⟩ := all2_at (all2_ints (K := X.K) F1 (s z.1 z.2)) hu
  obtain rfl : t = .int u := rt'
  refine ⟨p0, .ref (ad z), rfl, .inr ⟨_, pk z.1 z.2, b, .inr ⟨od, S1.sub _ _ hp1⟩, rfl, S1.sub _ _ hb, (kvM_get hz).symm⟩, _, hvn, ad z, _, n, _, rfl, rfl, .inl (.inl (hl.at' z hz)), ht, q _ u Γ1 F1 H1 S1 e1 rfl hk⟩
/-- x[pair][y] = e -/
theorem w_setLk {i l : Nat} {x y : Str} (hs : slotOf N x 0 = some i) (hv : visB sc x = true) (hx0 : ∃ ks s, Γ[i]? = some (some (lokM ks s))) (hsy : slotOf N y 0 = some l) (hvy : visB sc y = true)
    (h : EW c Γ e (tInt (K := K)) fun Γ0 u => EW c Γ0 ix (tPr (K := K)) fun Γ1 z => Γ1[i]? = some (some (lokM ks s)) ∧ z ∈ ks ∧ ∃ n j, Γ1[l]? = some (some (val (K := K) tInt n)) ∧ ixN (s z.1 z.2).length n = some j ∧ nx (Γ1.set i (some (lokM ks (fun r d => if r = z.1 ∧ d = z.2 then (s r d).set j u else s r d)))))
    (hns : NoSl ix := by intro _ _; rfl) (hd : (x == ("__debug__" : Str)) = false := by decide +kernel) (hcd : (x == ("__classdict__" : Str)) = false := by decide +kernel) (hdy : (y == ("__debug__" : Str)) = false := by decide +kernel) (hcy : (y == ("__classdict__" : Str)) = false := by decide +kernel)
    (hs1 : ∀ env, swapsWithSole [.Subscript (.Subscript (.Name x px) ix pz) (.Name y py) pt] e pos.line env = pure false := by intro _; rfl) (hw : ∀ env, swappedStores [.Subscript (.Subscript (.Name x px) ix pz) (.Name y py) pt] e env = pure none := by intro _; rfl)
    (ha : ∀ env v, assign (.Subscript (.Subscript (.Name x px) ix pz) (.Name y py) pt) env v = (do
      let ov ← holding [v] (eval (.Subscript (.Name x px) ix pz) env)
      let iv ← holding [v, ov] (eval (.Name y py) env)
      standAt pt
      holding [v, ov, iv] (setItem ov iv v)
      release [v, ov, iv] []) := by intro _ _; rfl) :
    S1 c Γ (.Assign [.Subscript (.Subscript (.Name x px) ix pz) (.Name y py) pt] e pos) (⟨R, rt, nx, bk, ct⟩ : En ρ) := fun B σ F H hB S => by
  obtain ⟨X, rfl, rfl, rfl, rfl, rfl, rfl, nd, rfl, rfl, calm, room, pas⟩ := c
  refine of_ps (ps_asg peW (pg_sub (pe_dget (hu_of room) (pe_var (slotOf_at hs) (visB_vis hv) hd hcd) peW hns) (pe_var (slotOf_at hsy) (visB_vis hvy) hdy hcy) set_list (ha _)) (hs1 _) (hw _)) ?_
  obtain ⟨ks0, s0, hx0⟩ := hx0
  obtain ⟨v0, ps0, hv0, ⟨p0, _, _, _, _, rfl, _⟩, _⟩ := S.get hx0
  refine h B σ F H S _ fun ve u Γ0 F0 H0 S0 e0 r0 h1 => ⟨_, hv0, h1 B σ F0 H0 S0 _ fun v z Γ1 F1 H1 S1 e1 r1 ⟨hx, hz, n, j, hn, hj, hk⟩ => ?_⟩
  obtain rfl : ve = .int u := r0
  obtain ⟨v1, ps, hv1, ⟨p, ad, od, es, ep, ev, hq, hp1, hod, hky, hl⟩, own⟩ := S1.get hx
  have hv1' := hv1
  rw [hv0] at hv1'
  have ev' := Option.some.inj (Option.some.inj hv1')
  rw [ev] at ev'
  obtain rfl : p0 = p := V.ref.inj ev'
  obtain ⟨b, rfl, hb⟩ := r1
  obtain ⟨vn, _, hvn, ⟨_, rfl⟩, _⟩ := S1.get hn
  have hat := hl.at' z hz
  refine ⟨p0, .ref (ad z), rfl, .inr ⟨_, pk z.1 z.2, b, .inr ⟨od, S1.sub _ _ hp1⟩, rfl, S1.sub _ _ hb, (kvM_get hz).symm⟩, _, hvn, ad z, _, n, j, rfl, rfl, hat, by rw [List.length_map]; exact hj, _, F1, S1.own_upd (F' := F1) (e' := lokM ks (fun r d => if r = z.1 ∧ d = z.2 then (s r d).set j u else s r d)) hx rfl fun v3 ps3 hv3 ⟨p3, ad3, od3, es3, ep3, e3, hq3, hp3, hod3, hky3, hl3⟩ own3 => ?_, hk⟩
  rw [hv0] at hv3
  have ev3 := Option.some.inj (Option.some.inj hv3)
  rw [e3] at ev3
  obtain rfl : p0 = p3 := V.ref.inj ev3
  have ek : kvM ad ks = kvM ad3 ks := by
    rw [hp1] at hp3
    have h9 := HO.frz.inj (Option.some.inj hp3)
    exact HO.dT.inj h9.2
  have eaz : ad z = ad3 z := by
    have h1 := kvM_get (ad := ad) hz
    rw [ek, kvM_get hz] at h1
    exact (V.ref.inj (Option.some.inj h1)).symm
  rw [eaz]
  have o3 := own3 (ad3 z) ((hq3 _).mpr ⟨z, hz, rfl⟩)
  refine ⟨ps3, fun b o q => by rw [upd_ne (ne_of_none q o3.1)]; exact S1.sub b o q, Same.refl _, fun b o q nb => by rw [upd_ne fun y => nb ((hq3 b).mpr ⟨z, hz, y⟩)]; exact q, fun b nb => ?_, fun _ _ n2 => n2, fun b hb' => ?_, p0, ad3, od3, es3, ep3, e3, hq3, hp3, hod3, hky3, ⟨fun y hy => ?_, hl3.ne, hl3.inj⟩⟩
  · by_cases y : b = ad3 z
    · rw [y, upd_same]; exact fun y => nomatch y
    · rw [upd_ne y]; exact nb
  · obtain ⟨a1, a2, a3, a4⟩ := own3 b hb'
    refine ⟨.inl hb', a1, ?_, a4⟩
    by_cases y : b = ad3 z
    · rw [y, upd_same]; exact fun y => nomatch y
    · rw [upd_ne y]; exact a2
  · by_cases yz : y = z
    · subst yz
      rw [upd_same]
      show some (HO.lst (((s y.1 y.2).map V.int).set j (V.int u))) = some (HO.lst ((if y.1 = y.1 ∧ y.2 = y.2 then (s y.1 y.2).set j u else s y.1 y.2).map V.int))
      rw [if_pos ⟨rfl, rfl⟩, List.map_set]
    · rw [upd_ne fun e => yz (hl3.inj y hy z hz e)]
      show _ = some (HO.lst ((if y.1 = z.1 ∧ y.2 = z.2 then (s y.1 y.2).set j u else s y.1 y.2).map V.int))
      rw [if_neg fun e => yz (Prod.ext e.1 e.2)]
      exact hl3.at' y hy
end
/-! ### a law's own statements -/
section
variable {P : Program} {w : World} {K : PySem.W.Frag} {mg : Str → Option Value} {base : Heap} {lv : Nat} {N : List Str} {sc : Scope} {fn : Str → Bool}
variable {α ρ : Type} {c : Ctx P w K mg base lv N sc fn} {Γ : Gm} {e iter tg : Expr} {st : Stmt} {ss rest body : List Stmt} {pos : Pos} {A : Ty K α} {R : Rs ρ} {rt : Gm → ρ → Prop} {nx bk ct : Gm → Prop} {W : Addr}
def SWt (W : Addr) (c : Ctx P w K mg base lv N sc fn) (Γ : Gm) (ss : List Stmt) (D : En ρ) : Prop := ∀ B σ F H, (∀ p, ¬ B.loc p) → TupB W B → Sta B Γ σ F H → wSs c.X ss (cD B D) σ H
def S1t (W : Addr) (c : Ctx P w K mg base lv N sc fn) (Γ : Gm) (st : Stmt) (D : En ρ) : Prop := ∀ B σ F H, (∀ p, ¬ B.loc p) → TupB W B → Sta B Γ σ F H → wS c.X st (cD B D) σ H
theorem wt_of (h : SW c Γ ss (⟨R, rt, nx, bk, ct⟩ : En ρ)) : SWt W c Γ ss (⟨R, rt, nx, bk, ct⟩ : En ρ) := fun B σ F H hB _ S => h B σ F H hB S
theorem wt_consT (h : S1t W c Γ st (⟨R, rt, fun Γ1 => SWt W c Γ1 rest ⟨R, rt, nx, bk, ct⟩, bk, ct⟩ : En ρ)) : SWt W c Γ (st :: rest) (⟨R, rt, nx, bk, ct⟩ : En ρ) := fun B σ F H hB tB S => by
  refine of_pss (pss_cons psW pssW) ?_
  refine wS_mono (h B σ F H hB tB S) (fun σ1 H1 ⟨Γ1, F1, S1, h1⟩ => ?_) (fun _ _ h => h) (fun _ _ h => h) (fun _ _ h => h)
  exact h1 B σ1 F1 H1 hB tB S1
theorem wt_cons (h : S1 c Γ st (⟨R, rt, fun Γ1 => SWt W c Γ1 rest ⟨R, rt, nx, bk, ct⟩, bk, ct⟩ : En ρ)) : SWt W c Γ (st :: rest) (⟨R, rt, nx, bk, ct⟩ : En ρ) := wt_consT fun B σ F H hB _ S => h B σ F H hB S
theorem wt_weak (Γ' : Gm) (hw : Wk Γ' Γ) (h : SWt W c Γ' ss (⟨R, rt, nx, bk, ct⟩ : En ρ)) : SWt W c Γ ss (⟨R, rt, nx, bk, ct⟩ : En ρ) := fun B σ F H hB tB S => h B σ F H hB tB (S.wk hw)
theorem wt_frz {T : Ty K α} (i : Nat) {as : List α} (hg : Γ[i]? = some (some (ownL T as))) (h : SWt W c (Γ.set i (some (val (tLst T) as))) ss (⟨R, rt, nx, bk, ct⟩ : En ρ)) : SWt W c Γ ss (⟨R, rt, nx, bk, ct⟩ : En ρ) := fun B σ F H hB tB S => by
  obtain ⟨v, F', hv, ff, r, S2⟩ := S.ownFrz hg hB
  exact h B σ F' H hB tB S2
theorem w_forT (h : IW c Γ tg iter A fun Γ1 as => ∃ I : Nat → Gm → Prop, I 0 Γ1 ∧ (∀ i a, as[i]? = some a → ∀ Γ2, I i Γ2 → GW c (fun _ => True) Γ2 tg A a fun Γ3 => SWt W c Γ3 body (⟨R, rt, I (i + 1), nx, I (i + 1)⟩ : En ρ)) ∧ ∀ Γ2, I as.length Γ2 → nx Γ2)
    (hs : ∀ env x, foldedSetIterable iter env x = pure x := by intro _ _; rfl) : S1t W c Γ (.For tg iter body [] pos) (⟨R, rt, nx, bk, ct⟩ : En ρ) := fun B σ F H hB tB S => by
  refine of_ps (ps_for c.pas c.calm piW pgW pssW (hs _)) (h B σ F H S _ fun J as Γ1 F1 H1 S1 e1 it ⟨I, i0, step, fin⟩ => ?_)
  have tB1 : TupB W { B with F := F1 } := ⟨tB.1, tB.2.1, fun b xs q => S1.ext _ _ (tB.2.2 b xs q)⟩
  refine ⟨fun i m σ' H' => m = as.length - i ∧ i ≤ as.length ∧ ∃ Γ2 F2, Sta { B with F := F1 } Γ2 σ' F2 H' ∧ I i Γ2, ⟨as.length, by simp, Nat.zero_le _, Γ1, F1, sta_reF S1, i0⟩, ?_⟩
  rintro i m σ' H' ⟨rfl, hi, Γ2, F2, S2, hI⟩
  by_cases hlt : i < as.length
  · refine .inr ⟨it.go i F2 H' S2.ext S2.sub hlt, fun σ3 H3 => ∃ Γ3 F3, Sta { B with F := F1 } Γ3 σ3 F3 H3 ∧ I (i + 1) Γ3, fun σ3 H3 q => ⟨as.length - (i + 1), by omega, rfl, hlt, q⟩, fun x H3 hy => ?_⟩
    obtain ⟨F3, st, rx⟩ := it.yld i F2 H' x H3 S2.ext S2.sub hy as[i] (List.getElem?_eq_getElem hlt)
    refine step i as[i] (List.getElem?_eq_getElem hlt) Γ2 hI _ σ' F3 H3 (S2.step st) x rx _ fun Γ4 σ4 S4 _ hb => ?_
    exact wSs_mono (hb { B with F := F1 } σ4 F3 H3 hB tB1 S4) (fun _ _ h => h) (fun _ _ ⟨G, s, F, a, S', r, q⟩ => ⟨G, s, F, a, sta_unF S1 S', r, q⟩) (fun _ _ ⟨G, F, S', q⟩ => ⟨G, F, sta_unF S1 S', q⟩) (fun _ _ h => h)
  · have e : i = as.length := by omega
    subst e
    exact .inl ⟨it.stop _ F2 H' S2.ext S2.sub (Nat.le_refl _), Γ2, F2, sta_unF S1 S2, fin Γ2 hI⟩
/-- from here on x is locked -/
theorem wt_lock {i : Nat} {ks : List (Int × Int)} {s : Int → Int → List Int} (hx : Γ[i]? = some (some (ownM ks s))) (hn : NTs Γ) (hW : ∃ (j : Nat) (t : TV K) (q : Str), Γ[j]? = some (some (entT t W q))) (h : SWt W c (Γ.set i (some (lokM ks s))) ss (⟨R, rt, nx, bk, ct⟩ : En ρ)) : SWt W c Γ ss (⟨R, rt, nx, bk, ct⟩ : En ρ) := fun B σ F H hB tB S pins st I => by
  have S2 := sta_fzT S tB hn hW
  obtain ⟨v, ps, hv, ⟨p, ad, rfl, hq, hp, hl⟩, own⟩ := S2.get hx
  obtain ⟨od, I'⟩ := I.lock hp trivial
  obtain ⟨hs, hgd, hxd, es, ep, hdt, hsz, ent⟩ := I'.frzT upd_same
  have S3 := sta_lock (od := od) S2 hx hB tB.1 hv hp hdt fun n k y hk => by
    obtain ⟨en, q, g1, g2, g3⟩ := ent n k y hk
    refine ⟨en, q, g1, g2, ?_⟩
    by_cases hqp : q = p
    · rw [hqp, upd_same] at g3; cases g3
    · rw [upd_ne hqp] at g3; exact fzT_tup g3
  exact h B σ _ _ hB tB S3 pins st I'
end
section
variable {P : Program} {w : World} {K : PySem.W.Frag} {mg : Str → Option Value} {base : Heap} {lv : Nat} {N : List Str} {sc : Scope} {fn : Str → Bool} {ρ : Type}
variable {c : Ctx P w K mg base lv N sc fn} {Γ : Gm}
theorem w_turnsTt {W : Addr} {q : Str} {R : Rs ρ} {rt : Gm → ρ → Prop} {nx bk ct : Gm → Prop} {body : List Stmt} {tg : Expr} {x : Str} {i : Nat} {ns : List Int} {m : Int} {j1 j2} {p p1 p2 p3 p4 p5 p6 p7 p8 p9 pos pos' : Pos} (bi : Bi mg) (hm : 0 ≤ m) (hm2 : m < 64) (g1 : glB sc "range" = true) (g2 : glB sc "max" = true) (g3 : glB sc "min" = true) (g4 : glB sc "len" = true)
    (hs : slotOf N x 0 = some i) (hv : visB sc x = true) (hg : Γ[i]? = some (some (valT (tSeq (K := K) tInt) ns W q))) (hn : ns.length ≤ 63)
    (step : ∀ a : Int, 0 ≤ a → a < 64 → GW c (fun _ => True) Γ tg (tInt (K := K)) a fun Γ3 => SWt W c Γ3 body (⟨R, rt, fun G => G = Γ, nx, fun G => G = Γ⟩ : En ρ)) (fin : nx Γ) (hd : (x == ("__debug__" : Str)) = false := by decide +kernel) (hcd : (x == ("__classdict__" : Str)) = false := by decide +kernel) :
    S1t W c Γ (.For tg (.Call (.Name "range" p1) [.Call (.Name "max" p2) [.Constant (.int 1) j1 p3, .Call (.Name "min" p4) [.Constant (.int m) j2 p5, .Call (.Name "len" p6) [.Name x p7] [] p8] [] p9] [] pos'] [] p) body [] pos) (⟨R, rt, nx, bk, ct⟩ : En ρ) := by
  refine w_forT (A := tInt) (iw_range1 bi g1 (ew_max2 bi g2 (ew_int (ew_min2 bi g3 (ew_int (ew_lenQ (A := tInt) bi g4 (ew_nameT hs hv hg ?_ hd hcd)))))))
  refine ⟨by split <;> split <;> omega, by split <;> split <;> omega, fun _ G => G = Γ, rfl, fun i a ha G e => ?_, fun G e => by rw [e]; exact fin⟩
  subst e
  obtain ⟨a1, a2⟩ := ups_get ha
  refine step a (by omega) ?_
  rw [a1]
  split at a2 <;> split at a2 <;> omega
theorem fn_lawTt {x qual : Str} {st : Stmt} {f : Addr} {fd : FuncData} {W : Addr} {q : Str} (F : Fun K x qual st f fd) (S : FnScope N ["script"] (defScope st))
    (h : ∀ ns : List Int, ns.length ≤ 63 → ∀ c : Ctx P w K mg base lv N (defScope st) (fun _ => true), SWt W c (gmT N.length W q [tv (tSeq (K := K) tInt) ns]) (defBody st) (⟨rTy (K := K) tBool, fun _ r => r = true, fun _ => False, fun _ => False, fun _ => False⟩ : En Bool)) : FnOk P w K mg base CX0 (lv + 1) f fd ["script"] (spLawT K W) := by
  have hpl : 1 ≤ N.length := by have := congrArg List.length S.pre; rw [List.length_take] at this; simp at this; omega
  obtain ⟨oc, od, kV, doc, pm, an, cdv, ct, osl, rfl, lk, hcd⟩ := F.ex
  refine fn_of lk hcd S (fun vs H Q E ⟨_, a, ns, e, _⟩ => by rw [e]; rfl) fun A outer s H vs Q E hr ⟨hW, a, ns, e, hS, hl, k2⟩ => ?_
  subst e
  have key : ∃ F0 : Hp, Same F0 H ∧ F0 W = none ∧ SqL K F0 a (ns.map V.int) := by
    rcases hS with hS | hS
    · have hk : ∃ o, H a = some o ∧ SqL K (upd (fun _ => none) a o) a (ns.map V.int) ∧ W ≠ a := by
        rcases hS with h | ⟨o, h⟩
        · exact ⟨_, h, .inl (.inl upd_same), fun z => by rw [z, h] at hW; cases hW⟩
        · exact ⟨_, h, .inl (.inr ⟨o, upd_same⟩), fun z => by rw [z, h] at hW; cases hW⟩
      obtain ⟨o, ho, hq, hne⟩ := hk
      refine ⟨upd (fun _ => none) a o, fun b x z => ?_, by rw [upd_ne hne], hq⟩
      by_cases hb : b = a
      · rw [hb, upd_same] at z; rw [hb, ho]; exact z
      · rw [upd_ne hb] at z; cases z
    · exact ⟨fun _ => none, (fun _ _ z => nomatch z), rfl, .inr hS⟩
  obtain ⟨F1, hs1, hf1, hq1⟩ := key
  have hs : Same (fzT F1 H) H := fzT_sub hs1
  have hf : fzT F1 H W = none := by rw [fzT_no fun xs y => by rw [hW] at y; cases y]; exact hf1
  have hq : SqL K (fzT F1 H) a (ns.map V.int) := sqL_mono (fzT_ext hs1) hq1
  have S0 := sta_startT (N := N) (W := W) (q := q) hs hf (TabOk.nil hW) (ts := [tv (tSeq (K := K) tInt) ns]) (vs := [.ref a]) ⟨⟨a, ns.map V.int, rfl, hq, all2_ints _ ns⟩, trivial⟩ (by simp) hpl
  have tB : TupB W ⟨fzT F1 H, H, fun y => y = W, fun _ => False, fun _ => False⟩ := ⟨fun _ z => z, fun _ z => z, fun b xs z => fzT_tup z⟩
  refine ⟨_, (pssW (X := (cxOf CX0 P w K mg base N qual (defScope st) f cdv A outer s H E).nox)).nox, ?_⟩
  refine wSs_mono (h ns hl ⟨(cxOf CX0 P w K mg base N qual (defScope st) f cdv A outer s H E).nox, rfl, rfl, rfl, rfl, rfl, rfl, S.nd, rfl, rfl, rfl, hr, PassesOwn.never⟩ _ (start N [.ref a]) (fzT F1 H) H (fun _ h => h) tB S0) (fun σ1 H1 ⟨Γ1, F1, S1, z⟩ => z.elim) (fun v H1 ⟨Γ1, σ1, F1, z, S1, ra, ha⟩ => ?_) (fun σ1 H1 ⟨Γ1, F1, S1, z⟩ => z.elim) fun σ1 H1 ⟨Γ1, F1, S1, z⟩ => z.elim
  obtain rfl : v = .bl z := ra
  rw [ha]; exact k2 H1
end
end Px
namespace LawPf
open PySem PySem.Spec PyProof.Rows L2 Px
def topS (i : Nat) : Stmt := PySem.Challenge.pw_panelead_k63_pictures_laid.main.body.getD i (.Pass ⟨0, 0, 0, 0⟩)
abbrev s_nearest_one : Stmt := topS 1
abbrev N_nearest_one : List Str := ["glasses", "wish", "one", "part", "other"]
theorem sc_nearest_one : FnScope N_nearest_one ["glasses", "wish"] (defScope s_nearest_one) := ⟨rfl, rfl, rfl, by decide +kernel, rfl, by decide +kernel, by decide +kernel⟩
abbrev s_plus : Stmt := topS 2
abbrev N_plus : List Str := ["one", "other", "part", "more"]
theorem sc_plus : FnScope N_plus ["one", "other"] (defScope s_plus) := ⟨rfl, rfl, rfl, by decide +kernel, rfl, by decide +kernel, by decide +kernel⟩
abbrev s_laid : Stmt := topS 3
abbrev N_laid : List Str := ["glasses", "picture", "nought", "carried", "left", "rows", "row", "line", "letters", "column", "wish", "wished", "found", "error", "half", "rest", "cell", "more", "part", "other"]
theorem sc_laid : FnScope N_laid ["glasses", "picture"] (defScope s_laid) := ⟨rfl, rfl, rfl, by decide +kernel, rfl, by decide +kernel, by decide +kernel⟩
abbrev s__law_draws : Stmt := topS 5
abbrev N__law_draws : List Str := ["script", "k", "cell"]
theorem sc__law_draws : FnScope N__law_draws ["script", "k"] (defScope s__law_draws) := ⟨rfl, rfl, rfl, by decide +kernel, rfl, by decide +kernel, by decide +kernel⟩
abbrev s__law_draw : Stmt := topS 6
abbrev N__law_draw : List Str := ["draws", "many", "found", "wide"]
theorem sc__law_draw : FnScope N__law_draw ["draws", "many"] (defScope s__law_draw) := ⟨rfl, rfl, rfl, by decide +kernel, rfl, by decide +kernel, by decide +kernel⟩
abbrev s__law_of : Stmt := topS 7
abbrev N__law_of : List Str := ["draws", "some"]
theorem sc__law_of : FnScope N__law_of ["draws", "some"] (defScope s__law_of) := ⟨rfl, rfl, rfl, by decide +kernel, rfl, by decide +kernel, by decide +kernel⟩
abbrev s__law_glasses : Stmt := topS 8
abbrev N__law_glasses : List Str := ["draws", "far", "letters", "k", "letter"]
theorem sc__law_glasses : FnScope N__law_glasses ["draws"] (defScope s__law_glasses) := ⟨rfl, rfl, rfl, by decide +kernel, rfl, by decide +kernel, by decide +kernel⟩
abbrev s__law_picture : Stmt := topS 9
abbrev N__law_picture : List Str := ["draws", "most", "far", "high", "wide", "rows", "row", "cell"]
theorem sc__law_picture : FnScope N__law_picture ["draws", "most"] (defScope s__law_picture) := ⟨rfl, rfl, rfl, by decide +kernel, rfl, by decide +kernel, by decide +kernel⟩
abbrev s__law_far : Stmt := topS 10
abbrev N__law_far : List Str := ["one", "wish", "k"]
theorem sc__law_far : FnScope N__law_far ["one", "wish"] (defScope s__law_far) := ⟨rfl, rfl, rfl, by decide +kernel, rfl, by decide +kernel, by decide +kernel⟩
abbrev s__law_nearest : Stmt := topS 11
abbrev N__law_nearest : List Str := ["glasses_d", "wish", "least", "one"]
theorem sc__law_nearest : FnScope N__law_nearest ["glasses_d", "wish"] (defScope s__law_nearest) := ⟨rfl, rfl, rfl, by decide +kernel, rfl, by decide +kernel, by decide +kernel⟩
abbrev s_law : Stmt := topS 12
abbrev N_law : List Str := ["script", "k", "draws", "glasses_d", "picture_d", "high", "wide", "sums", "row", "column", "rows", "letters", "wished", "one", "error", "rim", "left", "cell"]
theorem sc_law : FnScope N_law ["script"] (defScope s_law) := ⟨rfl, rfl, rfl, by decide +kernel, rfl, by decide +kernel, by decide +kernel⟩
structure Top (K : PySem.W.Frag) (mg : Str → Option Value) : Prop where
  bi : Bi mg
  f_nearest_one : FnAt K mg "nearest_one" "nearest_one" s_nearest_one ["glasses", "wish"]
  f_plus : FnAt K mg "plus" "plus" s_plus ["one", "other"]
  f_laid : FnAt K mg "laid" "laid" s_laid ["glasses", "picture"]
  f__law_draws : FnAt K mg "_law_draws" "_law_draws" s__law_draws ["script", "k"]
  f__law_draw : FnAt K mg "_law_draw" "_law_draw" s__law_draw ["draws", "many"]
  f__law_of : FnAt K mg "_law_of" "_law_of" s__law_of ["draws", "some"]
  f__law_glasses : FnAt K mg "_law_glasses" "_law_glasses" s__law_glasses ["draws"]
  f__law_picture : FnAt K mg "_law_picture" "_law_picture" s__law_picture ["draws", "most"]
  f__law_far : FnAt K mg "_law_far" "_law_far" s__law_far ["one", "wish"]
  f__law_nearest : FnAt K mg "_law_nearest" "_law_nearest" s__law_nearest ["glasses_d", "wish"]
theorem dec_t {p : Prop} [Decidable p] (h : decide p = true) : p := of_decide_eq_true h
theorem dec_f {p : Prop} [Decidable p] (h : decide p = false) : ¬ p := of_decide_eq_false h
local macro_rules | `(tactic| walk_at "sd") => `(tactic| first
  | exact of_decide_eq_true rfl
  | assumption
  | omega
  | exact cmul_of (by omega)
  | exact cdiv_of (by omega) (by omega)
  | exact cpow_of (by omega) (by omega) (by omega) (by omega)
  | rfl)
local macro_rules | `(tactic| walk_at "ewb") => `(tactic| first
  | ((with_reducible show EW _ _ (.BinOp _ .Add _ _) _ _); refine ew_add ?_)
  | ((with_reducible show EW _ _ (.BinOp _ .Sub _ _) _ _); refine ew_sub ?_)
  | ((with_reducible show EW _ _ (.BinOp _ .Mult _ _) _ _); refine ew_mul ?_)
  | ((with_reducible show EW _ _ (.BinOp _ .FloorDiv _ _) _ _); refine ew_div ?_)
  | ((with_reducible show EW _ _ (.BinOp _ .Mod _ _) _ _); refine ew_mod ?_)
  | ((with_reducible show EW _ _ (.BinOp _ .Pow _ _) _ _); refine ew_pow ?_)
  | ((with_reducible show EW _ _ (.BinOp _ .BitAnd _ _) _ _); refine ew_and ?_)
  | ((with_reducible show EW _ _ (.BinOp _ .LShift _ _) _ _); refine ew_shl ?_)
  | ((with_reducible show EW _ _ (.BinOp _ .RShift _ _) _ _); refine ew_shr ?_)
  )
local macro_rules | `(tactic| walk_at "ewc") => `(tactic| first
  | ((with_reducible show EW _ _ (.Compare _ [.Lt] [_] _) _ _); refine ew_lt ?_)
  | ((with_reducible show EW _ _ (.Compare _ [.LtE] [_] _) _ _); refine ew_le ?_)
  | ((with_reducible show EW _ _ (.Compare _ [.Gt] [_] _) _ _); refine ew_gt ?_)
  | ((with_reducible show EW _ _ (.Compare _ [.GtE] [_] _) _ _); refine ew_ge ?_)
  )
local macro_rules | `(tactic| walk_at "wk") => `(tactic| first
  | exact wk_nil
  | (refine wk_keep ?_; walk_at "wk")
  | (refine wk_drop ?_; walk_at "wk"))
local macro_rules | `(tactic| walk_at "tw") => `(tactic| first
  | ((with_reducible show TW _ _ (.Compare _ [.Lt] [_] _) _); refine tw_lt ?_)
  | ((with_reducible show TW _ _ (.Compare _ [.LtE] [_] _) _); refine tw_le ?_)
  | ((with_reducible show TW _ _ (.Compare _ [.Gt] [_] _) _); refine tw_gt ?_)
  | ((with_reducible show TW _ _ (.Compare _ [.GtE] [_] _) _); refine tw_ge ?_)
  | ((with_reducible show TW _ _ (.BoolOp _ _ _) _); refine tw_w ?_)
  | ((with_reducible show TW _ _ (.UnaryOp .Not _ _) _); refine tw_not ?_)
  | ((with_reducible show TW _ _ (.Call _ _ _ _) _); refine tw_val ?_)
  | ((with_reducible show TW _ _ (.Name _ _) _); refine tw_val ?_)
  )
local macro_rules | `(tactic| walk_at "ew") => `(tactic| first
  | ((with_reducible show EW _ _ (.Name _ _) _ _); first | refine ew_name rfl rfl rfl ?_ | refine ew_nameT rfl rfl rfl ?_)
  | ((with_reducible show EW _ _ (.Constant (.int _) _ _) _ _); refine ew_int ?_)
  | ((with_reducible show EW _ _ (.Constant (.bool _) _ _) _ _); refine ew_bl ?_)
  | ((with_reducible show EW _ _ (.Constant (.str _) _ _) _ _); refine ew_str ?_)
  | ((with_reducible show EW _ _ (.BinOp _ _ _ _) _ _); walk_at "ewb")
  | ((with_reducible show EW _ _ (.Compare _ _ _ _) _ _); walk_at "ewc")
  | ((with_reducible show EW _ _ (.UnaryOp .USub _ _) _ _); refine ew_neg ?_)
  | ((with_reducible show EW _ _ (.UnaryOp .Not _ _) _ _); refine ew_not ?_)
  | ((with_reducible show EW _ _ (.IfExp _ _ _ _) _ _); refine ew_ifx ?_)
  | ((with_reducible show EW _ _ (.Call (.Name "_law_draw" _) _ _ _) _ _); refine ew_draw (by assumption) (by decide) rfl rfl rfl rfl ?_)
  | ((with_reducible show EW _ _ (.Subscript (.List _ _) _ _) _ _); refine ew_menu ?_)
  )
local macro_rules | `(tactic| walk_at "s1") => `(tactic| first
  | ((with_reducible show S1 _ _ (.Return (some _) _) ⟨rTy _, _, _, _, _⟩); refine w_ret ?_)
  | ((with_reducible show S1 _ _ (.Assign [.Name _ _] (.BinOp _ _ _ _) _) _); refine w_set (T := tInt) rfl rfl ?_)
  | ((with_reducible show S1 _ _ (.Assign [.Name _ _] (.Constant (.int _) _ _) _) _); refine w_set (T := tInt) rfl rfl ?_)
  | ((with_reducible show S1 _ _ (.AugAssign _ .Add _ _) _); refine w_addTo rfl rfl rfl ?_)
  )
local macro_rules | `(tactic| walk_at "tww") => `(tactic| first
  | ((with_reducible show TWW _ _ (.BoolOp .And (_ :: _ :: _) _) _); refine tww_and ?_)
  | ((with_reducible show TWW _ _ (.BoolOp .And [_] _) _); refine tww_and1 ?_)
  | ((with_reducible show TWW _ _ (.BoolOp .Or (_ :: _ :: _) _) _); refine tww_or ?_)
  | ((with_reducible show TWW _ _ (.BoolOp .Or [_] _) _); refine tww_or1 ?_)
  )
local macro_rules | `(tactic| walk_at "ev") => `(tactic| first
  | ((with_reducible show EW _ _ _ _ _); walk_at "ew")
  | ((with_reducible show TW _ _ _ _); walk_at "tw")
  | ((with_reducible show SW _ _ _ _); first | refine w_cons ?_ | refine w_nil ?_)
  | ((with_reducible show S1 _ _ _ _); walk_at "s1")
  | ((with_reducible show TWW _ _ _ _); walk_at "tww")
  | ((with_reducible show EWL _ _ _ _ _); first | refine ewl_cons ?_ | refine ewl_nil ?_)
  | ((with_reducible show EWs _ _ _ _); first | refine' ews_cons ?_ | refine ews_nil ?_)
  | ((with_reducible show (_ = true → _) ∧ (_ = false → _)); fail)
  | ((with_reducible show _ ∧ _); refine And.intro (by walk_at "sd") ?_))
local macro_rules | `(tactic| walk_at "go") => `(tactic| repeat walk_at "ev")
section
variable {P : Program} {w : World} {K : PySem.W.Frag} {mg : Str → Option Value} {base : Heap}
theorem p_draws (T : Top K mg) : Prom P w K mg base "_law_draws" 1 ["script", "k"] (spDraws K) :=
  T.f__law_draws.prom fun f fd F => fn_news F sc__law_draws (fun _ => rfl) fun ⟨ns, k⟩ hp c => by
    obtain ⟨h1, h2, h3⟩ : ns.length ≤ 63 ∧ 0 ≤ k ∧ k < 64 := hp
    have hl : ∀ k : Gm → Int → Prop, ∀ Γ p p' q, Γ[0]? = some (some (val (tSeq (K := K) tInt) ns)) → k Γ ns.length → EW c Γ (.Call (.Name "len" p) [.Name "script" p'] [] q) tInt k := fun k Γ p p' q hg hk => ew_len T.bi rfl List.length lenQ (ew_name rfl rfl hg hk)
    walk_at "go"
    refine w_cut (fun Γ => ∃ cell : Int, 0 ≤ cell ∧ cell < 2 ^ 999 ∧ Γ = [some (val (tSeq (K := K) tInt) ns), some (val (tInt (K := K)) k), some (val (tInt (K := K)) cell)]) ?_ ?_
    · refine w_if ?_
      walk_at "go"
      refine hl _ _ _ _ _ rfl ?_
      refine ⟨fun c1 => ?_, fun c1 => ?_⟩
      · have c2 : k < ns.length := dec_t c1
        walk_at "go"
        refine ew_ixQ ?_
        walk_at "go"
        obtain ⟨x, hx⟩ := atI_lt h2 c2
        refine ⟨x, hx, ?_⟩
        refine ew_mulW ?_
        refine ew_mulW ?_
        refine ew_mulW ?_
        refine ew_mulW ?_
        walk_at "go"
        refine ⟨by first | decide +kernel | (unfold CMulW; decide +kernel), ?_⟩
        walk_at "go"
        refine ⟨by first | decide +kernel | (unfold CMulW; decide +kernel), ?_⟩
        walk_at "go"
        refine ⟨by first | decide +kernel | (unfold CMulW; decide +kernel), ?_⟩
        walk_at "go"
        refine ⟨by first | decide +kernel | (unfold CMulW; decide +kernel), ?_⟩
        refine ⟨by first | decide +kernel | (unfold CMulW; decide +kernel), ?_⟩
        walk_at "go"
        exact ⟨_, Int.emod_nonneg _ (by decide +kernel), Int.lt_trans (Int.emod_lt_of_pos _ (by decide +kernel)) (by decide +kernel), rfl⟩
      · walk_at "go"
        refine w_if ?_
        walk_at "go"
        refine hl _ _ _ _ _ rfl ?_
        walk_at "go"
        refine ⟨fun c3 => ?_, fun c3 => ?_⟩
        · have c4 : (0 : Int) < ns.length := dec_t c3
          walk_at "go"
          refine ew_ixQ ?_
          walk_at "go"
          refine hl _ _ _ _ _ rfl ?_
          refine ⟨c4, ?_⟩
          obtain ⟨x, hx⟩ := atI_lt (xs := ns) (Int.emod_nonneg k (show (ns.length : Int) ≠ 0 by omega)) (Int.emod_lt_of_pos k c4)
          refine ⟨x, hx, ?_⟩
          walk_at "go"
          have m1 := Int.emod_nonneg x (show (10 : Int) ^ Int.toNat 15 ≠ 0 by decide +kernel)
          have m2 := Int.emod_lt_of_pos x (show (0 : Int) < 10 ^ Int.toNat 15 by decide +kernel)
          have m3 : (10 : Int) ^ Int.toNat 15 = 1000000000000000 := by decide +kernel
          rw [m3] at m1 m2
          exact ⟨x % 10 ^ Int.toNat 15 + 15485863 * k, by rw [m3]; omega, by rw [m3]; omega, rfl⟩
        · walk_at "go"
          exact ⟨15485863 * k, by omega, by omega, rfl⟩
    · rintro Γ ⟨cell, q1, q2, rfl⟩
      refine w_cons ?_
      refine w_retD ?_
      walk_at "go"
      refine ew_intOf T.bi rfl ?_
      walk_at "go"
      have m3 : (10 : Int) ^ Int.toNat 18 = 1000000000000000000 := by decide +kernel
      have fin : CMul cell (if decide (10 ^ Int.toNat 18 ≤ cell) = true then 1 else 0) ∧ 0 ≤ cell * (if decide (10 ^ Int.toNat 18 ≤ cell) = true then 1 else 0) ∧ cell * (if decide (10 ^ Int.toNat 18 ≤ cell) = true then 1 else 0) < 2 ^ 1000 := by
        split
        · exact ⟨cmul_of (by omega), by omega, by omega⟩
        · exact ⟨cmul_of (by omega), by omega, by omega⟩
      have e1 := Int.emod_nonneg (cell * 69621 + 86028121 * (k + 1)) (show (2147483646 : Int) ≠ 0 by decide)
      have e2 := Int.emod_lt_of_pos (cell * 69621 + 86028121 * (k + 1)) (show (0 : Int) < 2147483646 by decide)
      exact ⟨fin.2.1, fin.2.2, by omega, by omega, trivial⟩
theorem p_draw (T : Top K mg) : Prom P w K mg base "_law_draw" 1 ["draws", "many"] (spDraw K) :=
  T.f__law_draw.prom fun f fd F => fn_draws F sc__law_draw (fun _ => rfl) fun n hp dr c => by
    obtain ⟨h1, h2⟩ : 0 < n ∧ n < 2 ^ 62 := hp
    refine w_cons ?_
    refine w_cut (fun Γ => Γ = [some (drw dr), some (val (tInt (K := K)) n), none, none]) ?_ ?_
    · refine w_if ?_
      walk_at "go"
      refine ew_drw rfl rfl rfl (.inl ⟨rfl, fun a a1 a2 => ?_⟩)
      walk_at "go"
      refine ⟨fun b1 => ?_, fun b1 => ?_⟩
      · walk_at "go"
        refine ew_drw rfl rfl rfl (.inl ⟨rfl, fun b b1 b2 => ?_⟩)
        walk_at "go"
        refine w_drw (i := 0) (dr := dr) rfl rfl ?_
        walk_at "go"
        refine ew_drw rfl rfl rfl (.inl ⟨rfl, fun d d1 d2 => ?_⟩)
        walk_at "go"
        refine ⟨.inl ⟨rfl, Int.ediv_nonneg d1 (by omega), Int.lt_of_le_of_lt (Int.ediv_le_self _ d1) d2⟩, ?_⟩
        walk_at "go"
        exact ⟨Int.emod_nonneg b (by omega), Int.emod_lt_of_pos b h1⟩
      · walk_at "go"
        rfl
    · rintro Γ rfl
      walk_at "go"
      refine w_while (fun m Γ => ∃ fo wi : Int, Γ = [some (drw dr), some (val (tInt (K := K)) n), some (val (tInt (K := K)) fo), some (val (tInt (K := K)) wi)] ∧ 0 ≤ fo ∧ fo < wi ∧ 1 ≤ wi ∧ m = (n - wi).toNat) ⟨_, 0, 1, rfl, by omega, by omega, by omega, rfl⟩ ?_
      rintro m Γ ⟨fo, wi, rfl, q1, q2, q3, rfl⟩
      walk_at "go"
      refine ⟨fun b1 => ?_, fun b1 => ?_⟩
      · have b2 : wi < n := dec_t b1
        walk_at "go"
        refine w_drw (i := 0) (dr := dr) rfl rfl ?_
        walk_at "go"
        refine ew_drw rfl rfl rfl (.inr ⟨rfl, fun a a1 a2 => ?_⟩)
        walk_at "go"
        have e1 := Int.emod_nonneg (a * 69621) (show (2147483647 : Int) ≠ 0 by decide)
        have e2 := Int.emod_lt_of_pos (a * 69621) (show (0 : Int) < 2147483647 by decide)
        refine ew_drw rfl rfl rfl (.inr ⟨rfl, fun b d1 d2 => ?_⟩)
        refine ew_add ?_
        refine ew_div ?_
        refine ew_drw rfl rfl rfl (.inr ⟨rfl, fun d d3 d4 => ?_⟩)
        walk_at "go"
        generalize hx : b * (d / 128 + 3) = x
        have e3 := Int.emod_nonneg x (show (2147483629 : Int) ≠ 0 by decide)
        have e4 := Int.emod_lt_of_pos x (show (0 : Int) < 2147483629 by decide)
        exact ⟨(n - wi * 268435456).toNat, by omega, fo * 268435456 + x % 2147483629 / 8, wi * 268435456, rfl, by omega, by omega, by omega, rfl⟩
      · walk_at "go"
        exact ⟨Int.emod_nonneg fo (by omega), Int.emod_lt_of_pos fo h1⟩
end
section
variable {P : Program} {w : World} {K : PySem.W.Frag} {mg : Str → Option Value} {base : Heap}
theorem p_ofS (T : Top K mg) : Prom P w K mg base "_law_of" 2 ["draws", "some"] (spOfS K) :=
  T.f__law_of.prom fun f fd F => fn_draws F sc__law_of (fun _ => rfl) fun s hp dr c => by
    obtain ⟨h1, h2⟩ : 0 < s.length ∧ s.length < 100000 := hp
    have hD : Prom P w K mg base "_law_draw" 1 ["draws", "many"] (spDraw K) := p_draw T
    have hsz : 100000 < sizeLine := by decide +kernel
    refine w_cons (w_ret (ew_ixS (ew_name rfl rfl rfl (ew_draw hD (by decide) rfl rfl rfl rfl (ew_lenS T.bi rfl (ew_name rfl rfl rfl ⟨by omega, ?_⟩))))))
    walk_at "go"
    intro r r1 r2
    obtain ⟨x, hx⟩ := atI_lt (xs := s.cps.toList) r1 (by simp; exact r2)
    exact ⟨by omega, x, hx, rfl, x, rfl, atI_in hx⟩
end
section
variable {P : Program} {w : World} {K : PySem.W.Frag} {mg : Str → Option Value} {base : Heap}
abbrev abcS : Str := "abcdefghijklmnopqrstuvwxyz"
def isAbc (z : Nat) : Bool := decide (z ∈ abcS.cps.toList)
def nameD : PyData → Bool
  | .str s => decide (1 ≤ s.length) && decide (s.length ≤ 8) && s.cps.toList.all isAbc
  | _ => false
abbrev Okd (d : PyData) : Prop := Sm (2 ^ 500) 10000 50 d
theorem okd_str {s : Str} (h : Okd (.str s)) : s.length ≤ 10000 ∧ asc s = true := by
  cases h with
  | str h1 h2 => exact ⟨h1, h2⟩
theorem sm_tup {b : Int} {n k : Nat} {ds : List PyData} (h : Sm b n (k + 1) (.tuple ds)) : ds.length ≤ n ∧ ∀ d, d ∈ ds → Sm b n k d := by
  cases h with
  | tuple h1 h2 => exact ⟨h1, h2⟩
theorem okd_tup {ds : List PyData} (h : Okd (.tuple ds)) : ds.length ≤ 10000 ∧ ∀ d, d ∈ ds → Okd d := by
  obtain ⟨h1, h2⟩ := sm_tup (k := 49) h
  exact ⟨h1, fun d hd => (h2 d hd).mono (Int.le_refl _) (Nat.le_refl _) (by omega)⟩
abbrev spNm (K : PySem.W.Frag) (f : PyData → Bool) : Sp := spP (fun d : PyData => [tv (tAny (K := K)) d]) (tBool (K := K)) Okd (fun d r => r = f d)
theorem atI_zero {α : Type} {x : α} {xs : List α} : atI (x :: xs) 0 = some x := by
  unfold atI ixN
  rw [if_pos (by omega), if_pos (by simp only [List.length_cons]; omega)]
  rfl
theorem sg_inj {x y : Nat} (h : sg x = sg y) : x = y := by
  have := congrArg (fun s : Str => s.cps.toList) h
  simpa [sg] using this
theorem sign_map {β : Type} {f : Nat → β} : ∀ {zs : List Nat} {os : List (Option β)}, All2 (fun x o => ∃ z, x = sg z ∧ o = some (f z)) (zs.map sg) os → os.filterMap id = zs.map f
  | [], [], _ => rfl
  | x :: as, o :: os, h => by
    obtain ⟨⟨z, e, rfl⟩, h⟩ := h
    rw [List.map_cons, List.filterMap_cons_some (f := id) (b := f z) rfl, sign_map h, sg_inj e]
theorem sign_at {s x : Str} {j : Nat} (h : (Px.signs s)[j]? = some x) : ∃ z, x = sg z ∧ z ∈ s.cps.toList := by
  unfold Px.signs at h
  rw [List.getElem?_map] at h
  cases q : s.cps.toList[j]? with
  | none => rw [q] at h; cases h
  | some z => rw [q] at h; exact ⟨z, (Option.some.inj h).symm, List.mem_of_getElem? q⟩
theorem nameD_str {s : Str} (h : nameD (.str s) = true) : 1 ≤ s.length ∧ s.length ≤ 8 := by
  have h' : (decide (1 ≤ s.length) && decide (s.length ≤ 8) && s.cps.toList.all isAbc) = true := h
  simp only [Bool.and_eq_true, decide_eq_true_eq] at h'
  exact h'.1
theorem nameD_is {d : PyData} (h : nameD d = true) : ∃ s, d = .str s := by
  cases d <;> first | exact ⟨_, rfl⟩ | exact absurd (show false = true from h) (by decide)
theorem is_str {d : PyData} (h : dStr d = true) : ∃ s, d = .str s := by
  cases d <;> first | exact ⟨_, rfl⟩ | exact absurd (show false = true from h) (by decide)
theorem is_tup {d : PyData} (h : dTup d = true) : ∃ s, d = .tuple s := by
  cases d <;> first | exact ⟨_, rfl⟩ | exact absurd (show false = true from h) (by decide)
theorem nameD_no {d : PyData} (h : dStr d = false) : nameD d = false := by
  cases d <;> first | rfl | exact absurd (show true = false from h) (by decide)
theorem nameD_no2 {s : Str} (h : ¬ (1 ≤ s.length ∧ s.length ≤ 8)) : nameD (.str s) = false := by
  show (decide (1 ≤ s.length) && decide (s.length ≤ 8) && s.cps.toList.all isAbc) = false
  rw [← Bool.decide_and, decide_eq_false h]; rfl
theorem nameD_yes {s : Str} (h1 : 1 ≤ s.length) (h2 : s.length ≤ 8) : nameD (.str s) = s.cps.toList.all isAbc := by
  show (decide (1 ≤ s.length) && decide (s.length ≤ 8) && s.cps.toList.all isAbc) = _
  rw [decide_eq_true h1, decide_eq_true h2]; rfl
end
section
variable {P : Program} {w : World} {K : PySem.W.Frag} {mg : Str → Option Value} {base : Heap}
abbrev Gl : Type := Str × Int × Int × Int
abbrev tGl (K : PySem.W.Frag) : Ty K Gl := tT4 tStr tInt tInt tInt
def gD (g : Gl) : PyData := .tuple [.str g.1, .int g.2.1, .int g.2.2.1, .int g.2.2.2]
structure IsGl (gs : List Gl) : Prop where
  h1 : 1 ≤ gs.length
  h2 : gs.length ≤ 12
  nm : ∀ g, g ∈ gs → ∃ z, g.1 = sg z ∧ isAbc z = true
  up : (gs.map (·.1)).Nodup ∧ sortedS (gs.map (·.1)) = true
  nb : ∀ g, g ∈ gs → (0 ≤ g.2.1 ∧ g.2.1 ≤ 255) ∧ (0 ≤ g.2.2.1 ∧ g.2.2.1 ≤ 255) ∧ (0 ≤ g.2.2.2 ∧ g.2.2.2 ≤ 255)
abbrev spGls (K : PySem.W.Frag) : Sp := spD (fun _ : Unit => ([] : List (TV K))) (tTup (tGl K)) (fun _ => True) (fun _ r => IsGl r)
theorem p_glasses (T : Top K mg) : Prom P w K mg base "_law_glasses" 3 ["draws"] (spGls K) :=
  T.f__law_glasses.prom fun f fd F => fn_draws F sc__law_glasses (fun _ => rfl) fun _ hp dr c => by
    have hD : Prom P w K mg base "_law_draw" 1 ["draws", "many"] (spDraw K) := p_draw T
    have hO : Prom P w K mg base "_law_of" 2 ["draws", "some"] (spOfS K) := p_ofS T
    have hsz : 100000 < sizeLine := by decide +kernel
    refine w_cons (w_set (T := tInt) rfl rfl (ew_menu ?_))
    walk_at "go"
    intro r r1 r2
    refine ⟨r1, r2, fun far hf => ⟨of_decide_eq_true rfl, ?_⟩⟩
    have hf2 : 1 ≤ far ∧ far ≤ 256 := by
      simp only [List.mem_cons, List.not_mem_nil, or_false] at hf
      omega
    clear hf
    refine w_cons (w_setL (T := tStr) rfl rfl (el_sortedSet T.bi rfl rfl (ew_el (el_comp (A := tInt) (B' := tStr) [("k", 3)] rfl (fun _ o => ∃ d, o = some d ∧ ∃ z, d = sg z ∧ isAbc z = true) ?_))))
    refine iw_range1 T.bi rfl ?_
    walk_at "go"
    intro m m1 m2
    walk_at "go"
    refine ⟨by rw [ups_len]; omega, ?_, ?_⟩
    · intro c' j x hj
      refine gw_name rfl rfl (by decide) (of_decide_eq_true rfl) ?_
      intro c''
      refine ts_nil ⟨fun _ c3 => ?_, fun e => nomatch e⟩
      refine ew_callD hO (Nat.le_refl _) rfl rfl rfl rfl (ews_cons (T := tStr) (ew_str (ews_nil ⟨rfl, abcS, rfl, by decide +kernel, ?_⟩)))
      rintro r ⟨z, rfl, hz⟩
      exact ⟨rfl, _, rfl, z, rfl, decide_eq_true hz⟩
    · intro os ho
      obtain ⟨o1, o2⟩ := all2_ex ho
      rw [ups_len] at o1
      refine ⟨by omega, fun ys g1 g2 g3 g4 => ⟨of_decide_eq_true rfl, ?_⟩⟩
      have y1 : 1 ≤ ys.length := by
        cases ys with
        | nil =>
          obtain ⟨d, hd⟩ : ∃ d, d ∈ os.filterMap id := by
            cases q : os.filterMap id with
            | nil => rw [q] at o1; simp at o1; omega
            | cons d r => exact ⟨d, List.mem_cons_self⟩
          exact nomatch (g3 d).mpr hd
        | cons _ _ => simp
      have y2 : ys.length ≤ 12 := by omega
      have y3 : ∀ y, y ∈ ys → ∃ z, y = sg z ∧ isAbc z = true := fun y hy => o2 y ((g3 y).mp hy)
      refine w_frz 2 rfl ?_
      refine w_cons (w_ret (ew_tupleL T.bi rfl (ew_el (el_comp (A := tStr) (B' := tGl K) [("letter", 4)] rfl (fun x o => ∃ d, o = some d ∧ (d.1 = x ∧ (0 ≤ d.2.1 ∧ d.2.1 ≤ 255) ∧ (0 ≤ d.2.2.1 ∧ d.2.2.1 ≤ 255) ∧ (0 ≤ d.2.2.2 ∧ d.2.2.2 ≤ 255))) ?_))))
      refine iw_list (ew_name rfl rfl rfl ⟨rfl, by omega, ?_, ?_⟩)
      · intro c' j x hj
        refine gw_name rfl rfl (by decide) (of_decide_eq_true rfl) ?_
        intro c''
        refine ts_nil ⟨fun _ c3 => ew_tup4 (ew_name rfl rfl rfl ?_), fun e => nomatch e⟩
        walk_at "go"
        intro a a1 a2
        walk_at "go"
        intro b b1 b2
        walk_at "go"
        intro d d1 d2
        exact ⟨rfl, _, rfl, rfl, ⟨by show 0 ≤ a; omega, by show a ≤ 255; omega⟩, ⟨by show 0 ≤ b; omega, by show b ≤ 255; omega⟩, by show 0 ≤ d; omega, by show d ≤ 255; omega⟩
      · intro os ho
        have e : ∀ {xs : List Str} {os : List (Option Gl)}, All2 (fun x o => ∃ d, o = some d ∧ (d.1 = x ∧ (0 ≤ d.2.1 ∧ d.2.1 ≤ 255) ∧ (0 ≤ d.2.2.1 ∧ d.2.2.1 ≤ 255) ∧ (0 ≤ d.2.2.2 ∧ d.2.2.2 ≤ 255))) xs os → (os.filterMap id).map (·.1) = xs ∧ ∀ g, g ∈ os.filterMap id → (0 ≤ g.2.1 ∧ g.2.1 ≤ 255) ∧ (0 ≤ g.2.2.1 ∧ g.2.2.1 ≤ 255) ∧ (0 ≤ g.2.2.2 ∧ g.2.2.2 ≤ 255) := by
          intro xs
          induction xs with
          | nil =>
            intro os h
            cases os with
            | nil => exact ⟨rfl, fun g h => nomatch h⟩
            | cons _ _ => exact h.elim
          | cons x xs ih =>
            intro os h
            cases os with
            | nil => exact h.elim
            | cons o os =>
              obtain ⟨⟨d, rfl, q1, q2⟩, h⟩ := h
              obtain ⟨i1, i2⟩ := ih h
              rw [List.filterMap_cons_some (f := id) (b := d) rfl]
              refine ⟨by rw [List.map_cons, i1, q1], fun g hg => ?_⟩
              rcases List.mem_cons.mp hg with rfl | hg
              · exact q2
              · exact i2 g hg
        obtain ⟨e1, e2⟩ := e ho
        have el : (os.filterMap id).length = ys.length := by rw [← e1, List.length_map]
        refine ⟨rfl, by omega, by omega, fun g hg => y3 _ (by rw [← e1]; exact List.mem_map.mpr ⟨g, hg, rfl⟩), by rw [e1]; exact ⟨g2, g1⟩, e2⟩
end
section
variable {P : Program} {w : World} {K : PySem.W.Frag} {mg : Str → Option Value} {base : Heap}
abbrev qL : Str := "nearest_one.<locals>.<lambda>"
def sq2 (q : Int × Int) : Int := (q.1 - q.2) * (q.1 - q.2)
/-- the sum of squares -/
def farI (g : Gl) (ws : List Int) : Int := (([g.2.1, g.2.2.1, g.2.2.2].zip ws).map sq2).sum
structure NearOk (gs : List Gl) (ws : List Int) : Prop where
  ne : gs ≠ []
  l12 : gs.length ≤ 12
  l3 : ws.length = 3
  gb : ∀ g, g ∈ gs → (0 ≤ g.2.1 ∧ g.2.1 ≤ 255) ∧ (0 ≤ g.2.2.1 ∧ g.2.2.1 ≤ 255) ∧ (0 ≤ g.2.2.2 ∧ g.2.2.2 ≤ 255)
  wb : ∀ z, z ∈ ws → -(2 ^ 100 : Int) ≤ z ∧ z ≤ 2 ^ 100
theorem far_mul {x y : Int} (hx : 0 ≤ x ∧ x ≤ 255) (hy : -(2 ^ 100 : Int) ≤ y ∧ y ≤ 2 ^ 100) : CMulW (x - y) (x - y) := by
  have h : (x - y).natAbs < 2 ^ 110 := by omega
  exact wide_mul h h (by decide) (by decide) (by decide)
abbrev nearA (K : PySem.W.Frag) (q : List Gl × List Int) : List (TV K) := [tv (tTup (tGl K)) q.1, tv (tTup (tInt (K := K))) q.2]
abbrev spNear (K : PySem.W.Frag) (W : Addr) : Sp := spT W qL (nearA K) (tGl K) (fun q => NearOk q.1 q.2) (fun q r => FirstMin (fun g => farI g q.2) q.1 r)
theorem p_near1 {cT W : Addr} (T : Top K mg) (M : MakerAt K mg base "nearest_one" "nearest_one" s_nearest_one ["glasses", "wish"] cT W) : Prom P w K mg base "nearest_one" 3 ["glasses", "wish"] (spNear K W) :=
  M.prom fun f fd F hc => fn_mk F hc sc_nearest_one (fun _ => rfl) (by simp) fun ⟨gs, ws⟩ hp c hcode hqual => by
    have hp' : NearOk gs ws := hp
    have hsz : 100000 < sizeLine := by decide +kernel
    refine w_cons (w_ret ?_)
    refine ew_minKey (x := "one") (T := tGl K) (lvl := 0) (i := 2) (q := qL) T.bi (by decide) rfl (by rw [hqual]; rfl) rfl rfl (ew_nameT rfl rfl (x0 := gs) (W := W) (q := qL) rfl (ew_lam (x := "one") (t := tv (tTup (tGl K)) gs) (j := 0) M.tb hcode (by rw [hqual]; rfl) rfl rfl ?_))
    refine ⟨hp'.ne, [none, some (val (tTup (tInt (K := K))) ws), none, none, none], fun g => farI g ws, frz_none (frz_val rfl (frz_none (frz_none (frz_none frz_nil)))), ?_, fun x0 hx => ⟨⟨0, _, rfl⟩, hx⟩⟩
    intro g hg cl
    have hgb := hp'.gb g hg
    refine ew_sumL T.bi rfl (ew_el (el_comp (A := tT2 (tInt (K := K)) (tInt (K := K))) (B' := tInt) [("part", 3), ("other", 4)] rfl (fun x o => o = some (sq2 x)) ?_))
    refine iw_zipT T.bi rfl (ew_slTail (A := tStr) (EW.as (fun z : Gl => (z.1, [z.2.1, z.2.2.1, z.2.2.2])) (ew_name rfl rfl rfl (ew_name rfl rfl rfl ?_)) tail4))
    refine ⟨rfl, ?_, ?_, ?_⟩
    · rw [List.length_zip]
      show min 3 ws.length < _
      omega
    · rintro c' j ⟨x, y⟩ hj
      obtain ⟨g1, g2⟩ := Px.zip_get hj
      have hx : 0 ≤ x ∧ x ≤ 255 := by
        have h1 := List.mem_of_getElem? g1
        simp only [List.mem_cons, List.not_mem_nil, or_false] at h1
        rcases h1 with rfl | rfl | rfl
        · exact hgb.1
        · exact hgb.2.1
        · exact hgb.2.2
      have hy := hp'.wb y (List.mem_of_getElem? g2)
      refine gw_T2 (gw_name rfl rfl (by decide) (of_decide_eq_true rfl) (gw_name rfl rfl (by decide) (of_decide_eq_true rfl) ?_))
      intro c''
      refine ts_nil ⟨fun _ c3 => ?_, fun e => nomatch e⟩
      exact ew_mulW (ew_sub (ew_name rfl rfl rfl (ew_name rfl rfl rfl (ew_sub (ew_name rfl rfl rfl (ew_name rfl rfl rfl ⟨far_mul hx hy, rfl, rfl⟩))))))
    · intro os ho
      show (os.filterMap id).sum = farI g ws
      rw [all2_some ho]
      rfl
end
section
variable {P : Program} {w : World} {K : PySem.W.Frag} {mg : Str → Option Value} {base : Heap}
def okG (g : Gl) : Prop := (0 ≤ g.2.1 ∧ g.2.1 ≤ 255) ∧ (0 ≤ g.2.2.1 ∧ g.2.2.1 ≤ 255) ∧ (0 ≤ g.2.2.2 ∧ g.2.2.2 ≤ 255)
abbrev spFar (K : PySem.W.Frag) : Sp := spP (fun q : Gl × List Int => [tv (tGl K) q.1, tv (tTup (tInt (K := K))) q.2]) (tInt (K := K)) (fun q => okG q.1 ∧ q.2.length = 3 ∧ ∀ z, z ∈ q.2 → -(2 ^ 100 : Int) ≤ z ∧ z ≤ 2 ^ 100) (fun q r => r = farI q.1 q.2)
theorem p_far (T : Top K mg) : Prom P w K mg base "_law_far" 1 ["one", "wish"] (spFar K) :=
  T.f__law_far.prom fun f fd F => fn_pure F sc__law_far (fun _ => rfl) fun ⟨g, ws⟩ hp c => by
    obtain ⟨hg, h3, hw⟩ : okG g ∧ ws.length = 3 ∧ ∀ z, z ∈ ws → -(2 ^ 100 : Int) ≤ z ∧ z ≤ 2 ^ 100 := hp
    have hsz : 100000 < sizeLine := by decide +kernel
    obtain ⟨w0, w1, w2, rfl⟩ : ∃ a b c, ws = [a, b, c] := by
      match ws, h3 with
      | [a, b, c], _ => exact ⟨a, b, c, rfl⟩
    refine w_cons (w_ret (ew_sumL T.bi rfl (ew_el (el_comp (A := tInt) (B' := tInt) [("k", 2)] rfl (fun x o => o = some ((([g.2.1, g.2.2.1, g.2.2.2][x.toNat]?).getD 0 - ([w0, w1, w2][x.toNat]?).getD 0) * (([g.2.1, g.2.2.1, g.2.2.2][x.toNat]?).getD 0 - ([w0, w1, w2][x.toNat]?).getD 0))) ?_))))
    refine iw_range1 T.bi rfl (ew_int ⟨by omega, by omega, rfl, by rw [ups_len]; omega, ?_, ?_⟩)
    · intro c' j x hj
      obtain ⟨e1, e2⟩ := ups_get hj
      refine gw_name rfl rfl (by decide) (of_decide_eq_true rfl) ?_
      intro c''
      have key : ∃ (n : Nat) (y z : Int), x = (n : Int) ∧ [g.2.1, g.2.2.1, g.2.2.2][n]? = some y ∧ [w0, w1, w2][n]? = some z ∧ (0 ≤ y ∧ y ≤ 255) ∧ (-(2 ^ 100 : Int) ≤ z ∧ z ≤ 2 ^ 100) := by
        have hj3 : j = 0 ∨ j = 1 ∨ j = 2 := by omega
        rcases hj3 with rfl | rfl | rfl
        · exact ⟨0, _, _, by omega, rfl, rfl, hg.1, hw _ (by simp)⟩
        · exact ⟨1, _, _, by omega, rfl, rfl, hg.2.1, hw _ (by simp)⟩
        · exact ⟨2, _, _, by omega, rfl, rfl, hg.2.2, hw _ (by simp)⟩
      obtain ⟨n, y, z, rfl, hy, hz, by', bz⟩ := key
      refine ts_nil ⟨fun _ c3 => ?_, fun e => nomatch e⟩
      have hw3 : atI [w0, w1, w2] (n : Int) = some z := atI_nat hz
      refine ew_mulW (ew_sub (ew_ixTail (A := tStr) (EW.as (fun z : Gl => (z.1, [z.2.1, z.2.2.1, z.2.2.2])) (ew_name rfl rfl rfl ?_) tail4)))
      refine ew_add (ew_int (ew_name rfl rfl rfl ⟨n, y, rfl, hy, ?_⟩))
      refine ew_ixT (ew_name rfl rfl rfl (ew_name rfl rfl rfl ⟨z, hw3, ?_⟩))
      refine (ew_sub (ew_ixTail (A := tStr) (EW.as (fun z : Gl => (z.1, [z.2.1, z.2.2.1, z.2.2.2])) (ew_name rfl rfl rfl ?_) tail4)))
      refine ew_add (ew_int (ew_name rfl rfl rfl ⟨n, y, rfl, hy, ?_⟩))
      refine ew_ixT (ew_name rfl rfl rfl (ew_name rfl rfl rfl ⟨z, hw3, ?_⟩))
      refine ⟨far_mul by' bz, rfl, ?_⟩
      · show some ((y - z) * (y - z)) = some ((([g.2.1, g.2.2.1, g.2.2.2][((n : Nat) : Int).toNat]?).getD 0 - ([w0, w1, w2][((n : Nat) : Int).toNat]?).getD 0) * (([g.2.1, g.2.2.1, g.2.2.2][((n : Nat) : Int).toNat]?).getD 0 - ([w0, w1, w2][((n : Nat) : Int).toNat]?).getD 0))
        rw [Int.toNat_natCast, hy, hz]
        rfl
    · intro os ho
      show (os.filterMap id).sum = farI g [w0, w1, w2]
      rw [all2_some ho]
      rfl
theorem filt_first {α : Type} {f : α → Int} {m : Int} : ∀ {gs : List α} {os : List (Option α)}, All2 (fun x o => o = if f x = m then some x else none) gs os → (∃ g, g ∈ gs ∧ f g = m) → (∀ g, g ∈ gs → m ≤ f g) → ∃ x r, os.filterMap id = x :: r ∧ FirstMin f gs x
  | [], [], _, ⟨g, hg, _⟩, _ => nomatch hg
  | g :: gs, o :: os, ⟨h1, h2⟩, he, hm => by
    have h1 : o = if f g = m then some g else none := h1
    by_cases e : f g = m
    · rw [if_pos e] at h1
      refine ⟨g, os.filterMap id, by rw [h1]; rfl, 0, rfl, fun j y hj => absurd hj (Nat.not_lt_zero _), fun j y hy => ?_⟩
      rw [e]
      exact hm y (List.mem_of_getElem? hy)
    · rw [if_neg e] at h1
      have he' : ∃ g, g ∈ gs ∧ f g = m := by
        obtain ⟨g', hg', e'⟩ := he
        rcases List.mem_cons.mp hg' with rfl | hg'
        · exact absurd e' e
        · exact ⟨g', hg', e'⟩
      obtain ⟨x, r, er, i, i1, i2, i3⟩ := filt_first h2 he' fun g hg => hm g (List.mem_cons_of_mem _ hg)
      have hxm : f x = m := by
        obtain ⟨g', hg', e'⟩ := he'
        obtain ⟨j, hj⟩ := List.getElem?_of_mem hg'
        have a := i3 j g' hj
        have b := hm x (List.mem_cons_of_mem _ (List.mem_of_getElem? i1))
        omega
      have hgm := hm g List.mem_cons_self
      refine ⟨x, r, by rw [h1]; exact er, i + 1, i1, fun j y hj hy => ?_, fun j y hy => ?_⟩
      · cases j with
        | zero => cases hy; omega
        | succ j => exact i2 j y (by omega) hy
      · cases j with
        | zero => cases hy; omega
        | succ j => exact i3 j y hy
abbrev spLnear (K : PySem.W.Frag) : Sp := spP (nearA K) (tGl K) (fun q => NearOk q.1 q.2) (fun q r => FirstMin (fun g => farI g q.2) q.1 r)
theorem p_lnear (T : Top K mg) : Prom P w K mg base "_law_nearest" 2 ["glasses_d", "wish"] (spLnear K) :=
  T.f__law_nearest.prom fun f fd F => fn_pure F sc__law_nearest (fun _ => rfl) fun ⟨gs, ws⟩ hp c => by
    have hp' : NearOk gs ws := hp
    have hF : Prom P w K mg base "_law_far" 1 ["one", "wish"] (spFar K) := p_far T
    have hsz : 100000 < sizeLine := by decide +kernel
    have l12 := hp'.l12
    refine w_cons (w_set (T := tInt) rfl rfl (ew_minL T.bi rfl (ew_el (el_comp (A := tGl K) (B' := tInt) [("one", 3)] rfl (fun x o => o = some (farI x ws)) ?_))))
    refine iw_tup (ew_name rfl rfl rfl ⟨rfl, by show gs.length < _; omega, ?_, ?_⟩)
    · intro c' j x hj
      refine gw_name rfl rfl (by decide) (of_decide_eq_true rfl) ?_
      intro c''
      refine ts_nil ⟨fun _ c3 => ?_, fun e => nomatch e⟩
      refine ew_call hF (by decide) rfl (ews_cons (T := tGl K) (ew_name rfl rfl rfl (ews_cons (T := tTup tInt) (ew_name rfl rfl rfl (ews_nil ⟨(x, ws), rfl, ⟨hp'.gb x (List.mem_of_getElem? hj), hp'.l3, hp'.wb⟩, fun r hr => ?_⟩)))))
      have hr' : r = farI x ws := hr
      subst hr'
      exact ⟨rfl, rfl⟩
    intro os ho
    rw [all2_some ho]
    refine ⟨by rw [List.length_map]; exact List.length_pos_iff.mpr hp'.ne, fun m m1 m2 => ⟨of_decide_eq_true rfl, ?_⟩⟩
    obtain ⟨g0, hg0, e0⟩ := List.mem_map.mp m1
    have mle : ∀ g, g ∈ gs → m ≤ farI g ws := fun g hg => m2 _ (List.mem_map_of_mem hg)
    refine w_cons (w_ret (ew_ixL (ew_el (el_comp (A := tGl K) (B' := tGl K) [("one", 3)] rfl (fun x o => o = if farI x ws = m then some x else none) ?_))))
    refine iw_tup (ew_name rfl rfl rfl ⟨rfl, by show gs.length < _; omega, ?_, ?_⟩)
    · intro c' j x hj
      refine gw_name rfl rfl (by decide) (of_decide_eq_true rfl) ?_
      intro c''
      refine ts_one (tw_eq fInt (ew_call hF (by decide) rfl (ews_cons (T := tGl K) (ew_name rfl rfl rfl (ews_cons (T := tTup tInt) (ew_name rfl rfl rfl (ews_nil ⟨(x, ws), rfl, ⟨hp'.gb x (List.mem_of_getElem? hj), hp'.l3, hp'.wb⟩, fun r hr => ?_⟩)))))))
      have hr' : r = farI x ws := hr
      subst hr'
      refine ew_name rfl rfl rfl ⟨fun e1 c3 => ew_name rfl rfl rfl ⟨rfl, ?_⟩, fun e1 => ⟨rfl, ?_⟩⟩
      · show some x = if farI x ws = m then some x else none
        rw [if_pos (of_decide_eq_true e1)]
      · show none = if farI x ws = m then some x else none
        rw [if_neg (of_decide_eq_false e1)]
    intro os ho
    obtain ⟨x, r, er, hx⟩ := filt_first ho ⟨g0, hg0, e0⟩ mle
    show EW _ _ _ _ _
    refine ew_int ⟨x, ?_, hx⟩
    rw [er]
    exact atI_zero
end
section
open Classical in
noncomputable def near (gs : List Gl) (ws : List Int) : Gl := if h : ∃ x, FirstMin (fun g => farI g ws) gs x then h.choose else ("", 0, 0, 0)
theorem near_eq {gs : List Gl} {ws : List Int} {x : Gl} (h : FirstMin (fun g => farI g ws) gs x) : x = near gs ws := by
  unfold near
  have he : ∃ x, FirstMin (fun g => farI g ws) gs x := ⟨x, h⟩
  rw [dif_pos he]
  exact h.uniq he.choose_spec
def colL (g : Gl) : List Int := [g.2.1, g.2.2.1, g.2.2.2]
def plusL (a b : List Int) : List Int := (a.zip b).map fun q => q.1 + q.2
def minusL (a b : List Int) : List Int := (a.zip b).map fun q => q.1 - q.2
def halfL (e : List Int) : List Int := e.map (· / 2)
noncomputable def errL (gs : List Gl) (ws : List Int) : List Int := minusL ws (colL (near gs ws))
def addS (s : Int → Int → List Int) (z : Int × Int) (m : List Int) : Int → Int → List Int := fun r c => if r = z.1 ∧ c = z.2 then plusL (s r c) m else s r c
structure S2 where
  s : Int → Int → List Int
  left : List Int
def putS (h w : Nat) (z : Int × Int) (m : List Int) (st : S2) : S2 := ⟨addS st.s z m, if z.1 = h ∨ z.2 = w then plusL st.left m else st.left⟩
def nouS : S2 := ⟨fun _ _ => [0, 0, 0], [0, 0, 0]⟩
section
variable (gs : List Gl) (pic : List (List (List Int))) (h w : Nat)
def wishAt (st : S2) (r c : Nat) : List Int := plusL ((pic.getD r []).getD c []) (st.s r c)
noncomputable def stepS (r c : Nat) (st : S2) : S2 :=
  putS h w ((r : Int) + 1, (c : Int)) (minusL (errL gs (wishAt pic st r c)) (halfL (errL gs (wishAt pic st r c)))) (putS h w ((r : Int), (c : Int) + 1) (halfL (errL gs (wishAt pic st r c))) st)
noncomputable def rowS (r : Nat) (st : S2) : Nat → S2
  | 0 => st
  | c + 1 => stepS gs pic h w r c (rowS r st c)
noncomputable def rowT (r : Nat) (st : S2) : Nat → Str
  | 0 => ""
  | c + 1 => rowT r st c ++ (near gs (wishAt pic (rowS gs pic h w r st c) r c)).1
noncomputable def allS : Nat → S2
  | 0 => nouS
  | r + 1 => rowS gs pic h w r (allS r) w
noncomputable def allT : Nat → List Str
  | 0 => []
  | r + 1 => allT r ++ [rowT gs pic h w r (allS gs pic h w r) w]
end
/-- a colour, its numbers within b -/
def Col (b : Int) (m : List Int) : Prop := m.length = 3 ∧ ∀ z, z ∈ m → -b ≤ z ∧ z ≤ b
theorem Col.mono {b b' : Int} {m : List Int} (h : Col b m) (hb : b ≤ b') : Col b' m := ⟨h.1, fun z hz => by have := h.2 z hz; omega⟩
theorem Col.three {b : Int} {m : List Int} (h : Col b m) : ∃ x y z, m = [x, y, z] ∧ (-b ≤ x ∧ x ≤ b) ∧ (-b ≤ y ∧ y ≤ b) ∧ (-b ≤ z ∧ z ≤ b) := by
  obtain ⟨h1, h2⟩ := h
  match m, h1, h2 with
  | [x, y, z], _, h2 => exact ⟨x, y, z, rfl, h2 x (by simp), h2 y (by simp), h2 z (by simp)⟩
theorem Col.mk3 {b x y z : Int} (hx : -b ≤ x ∧ x ≤ b) (hy : -b ≤ y ∧ y ≤ b) (hz : -b ≤ z ∧ z ≤ b) : Col b [x, y, z] := ⟨rfl, fun u hu => by
  simp only [List.mem_cons, List.not_mem_nil, or_false] at hu
  rcases hu with rfl | rfl | rfl <;> assumption⟩
theorem Col.plus {a b c : Int} {m n : List Int} (h : Col a m) (h' : Col b n) (hc : a + b ≤ c) : Col c (plusL m n) := by
  obtain ⟨x, y, z, rfl, hx, hy, hz⟩ := h.three
  obtain ⟨x', y', z', rfl, hx', hy', hz'⟩ := h'.three
  exact Col.mk3 (by show _ ≤ x + x' ∧ x + x' ≤ _; omega) (by show _ ≤ y + y' ∧ y + y' ≤ _; omega) (by show _ ≤ z + z' ∧ z + z' ≤ _; omega)
theorem Col.minus {a b c : Int} {m n : List Int} (h : Col a m) (h' : Col b n) (hc : a + b ≤ c) : Col c (minusL m n) := by
  obtain ⟨x, y, z, rfl, hx, hy, hz⟩ := h.three
  obtain ⟨x', y', z', rfl, hx', hy', hz'⟩ := h'.three
  exact Col.mk3 (by show _ ≤ x - x' ∧ x - x' ≤ _; omega) (by show _ ≤ y - y' ∧ y - y' ≤ _; omega) (by show _ ≤ z - z' ∧ z - z' ≤ _; omega)
theorem Col.half {a c : Int} {m : List Int} (h : Col a m) (hc : a + 1 ≤ 2 * c) : Col c (halfL m) := by
  obtain ⟨x, y, z, rfl, hx, hy, hz⟩ := h.three
  exact Col.mk3 (by show _ ≤ x / 2 ∧ x / 2 ≤ _; omega) (by show _ ≤ y / 2 ∧ y / 2 ≤ _; omega) (by show _ ≤ z / 2 ∧ z / 2 ≤ _; omega)
theorem Col.rest {a c : Int} {m : List Int} (h : Col a m) (hc : a + 1 ≤ 2 * c) : Col c (minusL m (halfL m)) := by
  obtain ⟨x, y, z, rfl, hx, hy, hz⟩ := h.three
  exact Col.mk3 (by show _ ≤ x - x / 2 ∧ x - x / 2 ≤ _; omega) (by show _ ≤ y - y / 2 ∧ y - y / 2 ≤ _; omega) (by show _ ≤ z - z / 2 ∧ z - z / 2 ≤ _; omega)
/-- what is kept from cell to cell -/
structure SOk (b : Int) (st : S2) : Prop where
  s : ∀ r c, Col b (st.s r c)
  l : Col b st.left
theorem SOk.put {a b c : Int} {h w : Nat} {z : Int × Int} {m : List Int} {st : S2} (k : SOk a st) (hm : Col b m) (hb : 0 ≤ b) (hc : a + b ≤ c) : SOk c (putS h w z m st) := by
  refine ⟨fun r q => ?_, ?_⟩
  · show Col c (addS st.s z m r q)
    unfold addS
    split
    · exact (k.s r q).plus hm hc
    · exact (k.s r q).mono (by omega)
  · show Col c (if z.1 = h ∨ z.2 = w then plusL st.left m else st.left)
    split
    · exact k.l.plus hm hc
    · exact k.l.mono (by omega)
theorem nou_ok : SOk 0 nouS := ⟨fun _ _ => Col.mk3 (by omega) (by omega) (by omega), Col.mk3 (by omega) (by omega) (by omega)⟩
structure PicOk (pic : List (List (List Int))) (h w : Nat) : Prop where
  hl : pic.length = h
  hw : ∀ row, row ∈ pic → row.length = w
  h8 : 1 ≤ h ∧ h ≤ 8
  w8 : 1 ≤ w ∧ w ≤ 8
  c : ∀ row, row ∈ pic → ∀ m, m ∈ row → m.length = 3 ∧ ∀ z, z ∈ m → 0 ≤ z ∧ z ≤ 255
structure GlsOk (gs : List Gl) : Prop where
  ne : gs ≠ []
  l12 : gs.length ≤ 12
  gb : ∀ g, g ∈ gs → (0 ≤ g.2.1 ∧ g.2.1 ≤ 255) ∧ (0 ≤ g.2.2.1 ∧ g.2.2.1 ≤ 255) ∧ (0 ≤ g.2.2.2 ∧ g.2.2.2 ≤ 255)
  nm : ∀ g, g ∈ gs → g.1.length = 1
def bd : Nat → Int
  | 0 => 0
  | t + 1 => 2 * bd t + 600
theorem bd_pos : ∀ t, 0 ≤ bd t
  | 0 => Int.le_refl _
  | t + 1 => by have := bd_pos t; show 0 ≤ 2 * bd t + 600; omega
theorem bd_mono {t : Nat} : bd t ≤ bd (t + 1) := by have := bd_pos t; show bd t ≤ 2 * bd t + 600; omega
theorem bd_le : ∀ t, bd t ≤ 600 * 2 ^ t - 600
  | 0 => by decide
  | t + 1 => by
    have := bd_le t
    show 2 * bd t + 600 ≤ _
    rw [Int.pow_succ]
    omega
theorem bd_top {t : Nat} (h : t ≤ 64) : bd t ≤ 2 ^ 90 := by
  have h1 := bd_le t
  have h2 : (2 : Int) ^ t ≤ 2 ^ 64 := by
    have : (2 : Nat) ^ t ≤ 2 ^ 64 := Nat.pow_le_pow_right (by decide) h
    exact_mod_cast this
  have h3 : (600 : Int) * 2 ^ 64 ≤ 2 ^ 90 := by decide +kernel
  omega
section
variable {gs : List Gl} {pic : List (List (List Int))} {h w r c t : Nat} {st : S2}
theorem pic_at (hp : PicOk pic h w) (hr : r < h) (hc : c < w) : Col 255 ((pic.getD r []).getD c []) ∧ pic[r]? = some (pic.getD r []) ∧ (pic.getD r [])[c]? = some ((pic.getD r []).getD c []) := by
  have hr' : r < pic.length := by rw [hp.hl]; exact hr
  have e1 : pic.getD r [] = pic[r] := by simp [List.getD_eq_getElem?_getD, hr']
  have hm : pic.getD r [] ∈ pic := by rw [e1]; exact List.getElem_mem hr'
  have hc' : c < (pic.getD r []).length := by rw [hp.hw _ hm]; exact hc
  have e2 : (pic.getD r []).getD c [] = (pic.getD r [])[c] := by rw [List.getD_eq_getElem?_getD, List.getElem?_eq_getElem hc']; rfl
  have hm2 : (pic.getD r []).getD c [] ∈ pic.getD r [] := by rw [e2]; exact List.getElem_mem hc'
  obtain ⟨h1, h2⟩ := hp.c _ hm _ hm2
  refine ⟨⟨h1, fun z hz => by have := h2 z hz; omega⟩, by rw [e1]; exact List.getElem?_eq_getElem hr', by rw [e2]; exact List.getElem?_eq_getElem hc'⟩
theorem wish_ok (hp : PicOk pic h w) (hr : r < h) (hc : c < w) (k : SOk (bd t) st) : Col (255 + bd t) (wishAt pic st r c) := (pic_at hp hr hc).1.plus (k.s r c) (Int.le_refl _)
theorem err_ok (hg : GlsOk gs) {ws : List Int} (hw : Col (255 + bd t) ws) (hn : near gs ws ∈ gs) : Col (510 + bd t) (errL gs ws) := by
  have h1 := hg.gb _ hn
  have hc : Col 255 (colL (near gs ws)) := Col.mk3 (by omega) (by omega) (by omega)
  exact hw.minus hc (by omega)
theorem step1_ok (hg : GlsOk gs) (hp : PicOk pic h w) (hr : r < h) (hc : c < w) (k : SOk (bd t) st) (hn : near gs (wishAt pic st r c) ∈ gs) :
    Col (bd t + 300) (halfL (errL gs (wishAt pic st r c))) ∧ Col (bd t + 300) (minusL (errL gs (wishAt pic st r c)) (halfL (errL gs (wishAt pic st r c)))) := by
  have he := err_ok hg (wish_ok hp hr hc k) hn
  have hb := bd_pos t
  exact ⟨he.half (by omega), he.rest (by omega)⟩
theorem half_b {b : Int} {e : List Int} (he : Col (510 + b) e) (hb : 0 ≤ b) : Col (b / 2 + 256) (halfL e) ∧ Col (b / 2 + 256) (minusL e (halfL e)) := ⟨he.half (by omega), he.rest (by omega)⟩
theorem step_ok (hg : GlsOk gs) (hp : PicOk pic h w) (hr : r < h) (hc : c < w) (k : SOk (bd t) st) (hn : near gs (wishAt pic st r c) ∈ gs) : SOk (bd (t + 1)) (stepS gs pic h w r c st) := by
  have hb := bd_pos t
  obtain ⟨h1, h2⟩ := half_b (err_ok hg (wish_ok hp hr hc k) hn) hb
  exact (k.put (c := bd t + (bd t / 2 + 256)) h1 (by omega) (Int.le_refl _)).put h2 (by omega) (by show _ ≤ 2 * bd t + 600; omega)
end
/-- the program's dict tells the sums within the picture -/
def RelG (h w : Nat) (g : Int → Int → Option (List Int)) (s : Int → Int → List Int) : Prop := ∀ r c : Int, r < h → c < w → (g r c).getD [0, 0, 0] = s r c
theorem relG_nou {h w : Nat} : RelG h w (fun _ _ => none) nouS.s := fun _ _ _ _ => rfl
theorem relG_out {h w : Nat} {g : Int → Int → Option (List Int)} {st : S2} {z : Int × Int} {m : List Int} (k : RelG h w g st.s) (hz : z.1 = h ∨ z.2 = w) : RelG h w g (putS h w z m st).s := fun r c hr hc => by
  show _ = addS st.s z m r c
  unfold addS
  rw [if_neg (by omega)]
  exact k r c hr hc
theorem relG_in {h w : Nat} {g : Int → Int → Option (List Int)} {st : S2} {z : Int × Int} {m : List Int} (k : RelG h w g st.s) (hz1 : z.1 < h) (hz2 : z.2 < w) : RelG h w (updG g z (plusL ((g z.1 z.2).getD [0, 0, 0]) m)) (putS h w z m st).s := fun r c hr hc => by
  show (updG g z _ r c).getD [0, 0, 0] = addS st.s z m r c
  unfold addS updG
  by_cases e : r = z.1 ∧ c = z.2
  · rw [if_pos e, if_pos e, e.1, e.2, k z.1 z.2 hz1 hz2]; rfl
  · rw [if_neg e, if_neg e]; exact k r c hr hc
end
section
theorem firstMin_ex {α : Type} (g : α → Int) : ∀ as : List α, as ≠ [] → ∃ x, FirstMin g as x
  | [], h => absurd rfl h
  | [a], _ => ⟨a, 0, rfl, fun j y hj => absurd hj (Nat.not_lt_zero _), fun j y hy => by
    cases j with
    | zero => cases hy; exact Int.le_refl _
    | succ j => cases hy⟩
  | a :: b :: t, _ => by
    obtain ⟨x, i, h1, h2, h3⟩ := firstMin_ex g (b :: t) (by simp)
    by_cases h : g a ≤ g x
    · refine ⟨a, 0, rfl, fun j y hj => absurd hj (Nat.not_lt_zero _), fun j y hy => ?_⟩
      cases j with
      | zero => cases hy; exact Int.le_refl _
      | succ j => exact Int.le_trans h (h3 j y hy)
    · refine ⟨x, i + 1, h1, fun j y hj hy => ?_, fun j y hy => ?_⟩
      · cases j with
        | zero => cases hy; omega
        | succ j => exact h2 j y (by omega) hy
      · cases j with
        | zero => cases hy; omega
        | succ j => exact h3 j y hy
theorem near_spec {gs : List Gl} {ws : List Int} (h : gs ≠ []) : FirstMin (fun g => farI g ws) gs (near gs ws) := by
  obtain ⟨x, hx⟩ := firstMin_ex (fun g => farI g ws) gs h
  rw [← near_eq hx]
  exact hx
theorem near_in {gs : List Gl} {ws : List Int} (h : gs ≠ []) : near gs ws ∈ gs := by
  obtain ⟨i, h1, _⟩ := near_spec (ws := ws) h
  exact List.mem_of_getElem? h1
theorem sq_nn (x : Int) : 0 ≤ x * x := by
  rcases Int.le_total 0 x with h | h
  · exact Int.mul_nonneg h h
  · exact Int.mul_nonneg_of_nonpos_of_nonpos h h
theorem far_col (y g : Gl) : farI y (colL g) = (y.2.1 - g.2.1) * (y.2.1 - g.2.1) + ((y.2.2.1 - g.2.2.1) * (y.2.2.1 - g.2.2.1) + ((y.2.2.2 - g.2.2.2) * (y.2.2.2 - g.2.2.2) + 0)) := rfl
theorem far_nn (y g : Gl) : 0 ≤ farI y (colL g) := by
  rw [far_col]
  have h1 := sq_nn (y.2.1 - g.2.1)
  have h2 := sq_nn (y.2.2.1 - g.2.2.1)
  have h3 := sq_nn (y.2.2.2 - g.2.2.2)
  omega
theorem sq_pos {x : Int} (h : x * x ≤ 0) : x = 0 := by
  have := sq_nn x
  have h0 : x * x = 0 := by omega
  rcases Int.mul_eq_zero.mp h0 with h | h <;> exact h
theorem far_pos {y g : Gl} (h : colL y ≠ colL g) : 0 < farI y (colL g) := by
  have h0 := far_nn y g
  rcases Int.lt_or_le 0 (farI y (colL g)) with h' | h'
  · exact h'
  · exfalso
    rw [far_col] at h'
    have h1 := sq_nn (y.2.1 - g.2.1)
    have h2 := sq_nn (y.2.2.1 - g.2.2.1)
    have h3 := sq_nn (y.2.2.2 - g.2.2.2)
    have e1 := sq_pos (x := y.2.1 - g.2.1) (by omega)
    have e2 := sq_pos (x := y.2.2.1 - g.2.2.1) (by omega)
    have e3 := sq_pos (x := y.2.2.2 - g.2.2.2) (by omega)
    apply h
    unfold colL
    rw [show y.2.1 = g.2.1 by omega, show y.2.2.1 = g.2.2.1 by omega, show y.2.2.2 = g.2.2.2 by omega]
theorem far_self (g : Gl) : farI g (colL g) = 0 := by
  rw [far_col, Int.sub_self, Int.sub_self, Int.sub_self]
  rfl
theorem near_self {gs : List Gl} {g : Gl} {i : Nat} (hi : gs[i]? = some g) (hu : ∀ (j : Nat) y, gs[j]? = some y → colL y = colL g → i ≤ j) : near gs (colL g) = g := by
  refine (near_eq (gs := gs) (ws := colL g) (x := g) ⟨i, hi, fun j y hj hy => ?_, fun j y hy => ?_⟩).symm
  · show farI g (colL g) < farI y (colL g)
    rw [far_self]
    refine far_pos fun e => ?_
    have := hu j y hy e
    omega
  · show farI g (colL g) ≤ farI y (colL g)
    rw [far_self]
    exact far_nn y g
end
section
variable (gs : List Gl) (pic : List (List (List Int))) (h w : Nat)
/-- the glass at a place -/
noncomputable def glAt (r c : Nat) : Gl := near gs (wishAt pic (rowS gs pic h w r (allS gs pic h w r) c) r c)
end
section
variable {gs gs' : List Gl} {pic pic' : List (List (List Int))} {h w : Nat}
theorem allT_eq : ∀ n, allT gs pic h w n = (List.range n).map fun r => rowT gs pic h w r (allS gs pic h w r) w
  | 0 => rfl
  | n + 1 => by
    rw [List.range_succ, List.map_append, ← allT_eq n]
    rfl
theorem signs_app (a b : Str) : Px.signs (a ++ b) = Px.signs a ++ Px.signs b := by
  unfold Px.signs
  show ((a.cps ++ b.cps).toList).map sg = _
  rw [Array.toList_append, List.map_append]
theorem str_one {s : Str} (h : s.length = 1) : ∃ z, s = sg z := by
  obtain ⟨a⟩ := s
  have h : a.size = 1 := h
  obtain ⟨l⟩ := a
  match l, h with
  | [z], _ => exact ⟨z, rfl⟩
theorem signs_one {s : Str} (h : s.length = 1) : Px.signs s = [s] := by
  obtain ⟨z, rfl⟩ := str_one h
  rfl
theorem rowT_signs (hn : ∀ ws, (near gs ws).1.length = 1) {r : Nat} {st : S2} : ∀ n, Px.signs (rowT gs pic h w r st n) = (List.range n).map fun c => (near gs (wishAt pic (rowS gs pic h w r st c) r c)).1
  | 0 => rfl
  | n + 1 => by
    rw [List.range_succ, List.map_append, ← rowT_signs hn n]
    show Px.signs (rowT gs pic h w r st n ++ _) = _
    rw [signs_app, signs_one (hn _)]
    rfl
theorem rowT_len (hn : ∀ ws, (near gs ws).1.length = 1) {r : Nat} {st : S2} (n : Nat) : (rowT gs pic h w r st n).length = n := by
  rw [← signs_len, rowT_signs hn, List.length_map, List.length_range]
theorem rowT_congr {r : Nat} {st st' : S2} {pic' : List (List (List Int))} : ∀ n, (∀ c, c < n → (near gs (wishAt pic (rowS gs pic h w r st c) r c)).1 = (near gs' (wishAt pic' (rowS gs' pic' h w r st' c) r c)).1) → rowT gs pic h w r st n = rowT gs' pic' h w r st' n
  | 0, _ => rfl
  | n + 1, hc => by
    show rowT gs pic h w r st n ++ _ = rowT gs' pic' h w r st' n ++ _
    rw [rowT_congr n fun c hc' => hc c (by omega), hc n (by omega)]
theorem repS_succ (s : Str) (n : Nat) : repS s (n + 1) = repS s n ++ s := by
  unfold repS
  rw [List.replicate_succ', List.foldl_append]
  rfl
theorem rowT_rep {r : Nat} {st : S2} {s : Str} : ∀ n, (∀ c, c < n → (near gs (wishAt pic (rowS gs pic h w r st c) r c)).1 = s) → rowT gs pic h w r st n = repS s n
  | 0, _ => rfl
  | n + 1, hc => by
    show rowT gs pic h w r st n ++ _ = _
    rw [repS_succ, rowT_rep n fun c hc' => hc c (by omega), hc n (by omega)]
/-! ### only what is nearest counts -/
theorem step_congr (hn : ∀ ws, near gs' ws = near gs ws) (r c : Nat) (st : S2) : stepS gs' pic h w r c st = stepS gs pic h w r c st := by
  have e : ∀ ws, errL gs' ws = errL gs ws := fun ws => by unfold errL; rw [hn]
  unfold stepS
  rw [e]
theorem row_congr (hn : ∀ ws, near gs' ws = near gs ws) (r : Nat) (st : S2) : ∀ n, rowS gs' pic h w r st n = rowS gs pic h w r st n
  | 0 => rfl
  | n + 1 => by
    show stepS gs' pic h w r n (rowS gs' pic h w r st n) = stepS gs pic h w r n (rowS gs pic h w r st n)
    rw [row_congr hn r st n, step_congr hn]
theorem rowT_same (hn : ∀ ws, near gs' ws = near gs ws) (r : Nat) (st : S2) (n : Nat) : rowT gs' pic h w r st n = rowT gs pic h w r st n :=
  rowT_congr n fun c _ => by rw [row_congr hn, hn]
theorem all_congr (hn : ∀ ws, near gs' ws = near gs ws) : ∀ n, allS gs' pic h w n = allS gs pic h w n
  | 0 => rfl
  | n + 1 => by
    show rowS gs' pic h w n (allS gs' pic h w n) w = rowS gs pic h w n (allS gs pic h w n) w
    rw [all_congr hn n, row_congr hn]
theorem allT_congr (hn : ∀ ws, near gs' ws = near gs ws) (n : Nat) : allT gs' pic h w n = allT gs pic h w n := by
  rw [allT_eq, allT_eq]
  refine List.map_congr_left fun r _ => ?_
  rw [all_congr hn, rowT_same hn]
theorem near_more {f z : Gl} {t : List Gl} (hz : colL z = colL f) (ws : List Int) : near ((f :: t) ++ [z]) ws = near (f :: t) ws := by
  obtain ⟨i, h1, h2, h3⟩ := near_spec (gs := f :: t) (ws := ws) (by simp)
  have hi : i < (f :: t).length := (List.getElem?_eq_some_iff.mp h1).1
  have hz1 : z.2.1 = f.2.1 := by have := congrArg (fun l => l.getD 0 0) hz; exact this
  have hz2 : z.2.2.1 = f.2.2.1 := by have := congrArg (fun l => l.getD 1 0) hz; exact this
  have hz3 : z.2.2.2 = f.2.2.2 := by have := congrArg (fun l => l.getD 2 0) hz; exact this
  have hf : farI z ws = farI f ws := by unfold farI; rw [hz1, hz2, hz3]
  refine (near_eq (gs := (f :: t) ++ [z]) (ws := ws) (x := near (f :: t) ws) ⟨i, ?_, fun j y hj hy => ?_, fun j y hy => ?_⟩).symm
  · rw [List.getElem?_append_left hi]; exact h1
  · rw [List.getElem?_append_left (by omega)] at hy
    exact h2 j y hj hy
  · by_cases hj : j < (f :: t).length
    · rw [List.getElem?_append_left hj] at hy
      exact h3 j y hy
    · have : y = z := by
        have := List.mem_of_getElem? hy
        rw [List.getElem?_append_right (by omega)] at hy
        have h5 := List.mem_of_getElem? hy
        simpa using h5
      subst this
      show farI (near (f :: t) ws) ws ≤ farI y ws
      rw [hf]
      exact h3 0 f rfl
/-! ### a picture of glasses themselves -/
def Zer (st : S2) : Prop := (∀ r c, st.s r c = [0, 0, 0]) ∧ st.left = [0, 0, 0]
theorem zer_put {st : S2} (z : Int × Int) (k : Zer st) : Zer (putS h w z [0, 0, 0] st) := by
  refine ⟨fun r c => ?_, ?_⟩
  · show addS st.s z [0, 0, 0] r c = _
    unfold addS
    rw [k.1]
    split <;> rfl
  · show (if z.1 = h ∨ z.2 = w then plusL st.left [0, 0, 0] else st.left) = _
    rw [k.2]
    split <;> rfl
structure Ex (gs : List Gl) (pic : List (List (List Int))) (h w : Nat) (gr : Nat → Nat → Gl) : Prop where
  p : ∀ r c, r < h → c < w → (pic.getD r []).getD c [] = colL (gr r c)
  n : ∀ r c, r < h → c < w → near gs (colL (gr r c)) = gr r c
section
variable {gr : Nat → Nat → Gl}
theorem ex_wish (e : Ex gs pic h w gr) {r c : Nat} (hr : r < h) (hc : c < w) {st : S2} (k : Zer st) : wishAt pic st r c = colL (gr r c) := by
  unfold wishAt
  rw [k.1, e.p r c hr hc]
  show [_ + 0, _ + 0, _ + 0] = _
  rw [Int.add_zero, Int.add_zero, Int.add_zero]
  rfl
theorem ex_step (e : Ex gs pic h w gr) {r c : Nat} (hr : r < h) (hc : c < w) {st : S2} (k : Zer st) : Zer (stepS gs pic h w r c st) := by
  have he : errL gs (wishAt pic st r c) = [0, 0, 0] := by
    unfold errL
    rw [ex_wish e hr hc k, e.n r c hr hc]
    show [_ - _, _ - _, _ - _] = _
    rw [Int.sub_self, Int.sub_self, Int.sub_self]
  unfold stepS
  rw [he]
  exact zer_put _ (zer_put _ k)
theorem ex_row (e : Ex gs pic h w gr) {r : Nat} (hr : r < h) {st : S2} (k : Zer st) : ∀ c, c ≤ w → Zer (rowS gs pic h w r st c)
  | 0, _ => k
  | c + 1, hc => ex_step e hr (by omega) (ex_row e hr k c (by omega))
theorem ex_all (e : Ex gs pic h w gr) : ∀ r, r ≤ h → Zer (allS gs pic h w r)
  | 0, _ => ⟨fun _ _ => rfl, rfl⟩
  | r + 1, hr => ex_row e (by omega) (ex_all e r (by omega)) w (Nat.le_refl _)
theorem ex_gl (e : Ex gs pic h w gr) {r c : Nat} (hr : r < h) (hc : c < w) : glAt gs pic h w r c = gr r c := by
  unfold glAt
  rw [ex_wish e hr hc (ex_row e hr (ex_all e r (by omega)) c (by omega)), e.n r c hr hc]
end
end
/-! ### all colour is there -/
section
def cm (k : Nat) (m : List Int) : Int := m.getD k 0
theorem cm_plus {k : Nat} {a b : List Int} (ha : a.length = 3) (hb : b.length = 3) (hk : k < 3) : cm k (plusL a b) = cm k a + cm k b := by
  match a, b, ha, hb, k, hk with
  | [_, _, _], [_, _, _], _, _, 0, _ => rfl
  | [_, _, _], [_, _, _], _, _, 1, _ => rfl
  | [_, _, _], [_, _, _], _, _, 2, _ => rfl
theorem cm_minus {k : Nat} {a b : List Int} (ha : a.length = 3) (hb : b.length = 3) (hk : k < 3) : cm k (minusL a b) = cm k a - cm k b := by
  match a, b, ha, hb, k, hk with
  | [_, _, _], [_, _, _], _, _, 0, _ => rfl
  | [_, _, _], [_, _, _], _, _, 1, _ => rfl
  | [_, _, _], [_, _, _], _, _, 2, _ => rfl
theorem len_plus {a b : List Int} (ha : a.length = 3) (hb : b.length = 3) : (plusL a b).length = 3 := by
  unfold plusL
  rw [List.length_map, List.length_zip, ha, hb]
  rfl
theorem len_minus {a b : List Int} (ha : a.length = 3) (hb : b.length = 3) : (minusL a b).length = 3 := by
  unfold minusL
  rw [List.length_map, List.length_zip, ha, hb]
  rfl
theorem len_half {a : List Int} (ha : a.length = 3) : (halfL a).length = 3 := by
  unfold halfL
  rw [List.length_map, ha]
def sumN : Nat → (Nat → Int) → Int
  | 0, _ => 0
  | n + 1, f => sumN n f + f n
theorem sumN_congr {f g : Nat → Int} : ∀ {n : Nat}, (∀ i, i < n → f i = g i) → sumN n f = sumN n g
  | 0, _ => rfl
  | n + 1, h => by
    show sumN n f + f n = sumN n g + g n
    rw [sumN_congr fun i hi => h i (by omega), h n (by omega)]
theorem sumN_add (f g : Nat → Int) : ∀ n : Nat, sumN n (fun i => f i + g i) = sumN n f + sumN n g
  | 0 => rfl
  | n + 1 => by
    show sumN n _ + (f n + g n) = sumN n f + f n + (sumN n g + g n)
    rw [sumN_add f g n]
    omega
theorem sumN_sub (f g : Nat → Int) : ∀ n : Nat, sumN n (fun i => f i - g i) = sumN n f - sumN n g
  | 0 => rfl
  | n + 1 => by
    show sumN n _ + (f n - g n) = sumN n f + f n - (sumN n g + g n)
    rw [sumN_sub f g n]
    omega
theorem sumN_upd {f g : Nat → Int} {i : Nat} {d : Int} (hj : ∀ j, j ≠ i → g j = f j) (hi : g i = f i + d) : ∀ {n : Nat}, i < n → sumN n g = sumN n f + d
  | 0, h => absurd h (Nat.not_lt_zero _)
  | n + 1, h => by
    show sumN n g + g n = sumN n f + f n + d
    by_cases e : i = n
    · subst e
      rw [sumN_congr (n := i) (f := g) (g := f) fun j hj' => hj j (by omega), hi]
      omega
    · rw [sumN_upd hj hi (n := n) (by omega), hj n (fun z => e z.symm)]
      omega
def sumC (h w : Nat) (f : Nat → Nat → Int) : Int := sumN h fun r => sumN w fun c => f r c
theorem sumC_congr {h w : Nat} {f g : Nat → Nat → Int} (e : ∀ r c, r < h → c < w → f r c = g r c) : sumC h w f = sumC h w g := sumN_congr fun r hr => sumN_congr fun c hc => e r c hr hc
theorem sumC_add {h w : Nat} (f g : Nat → Nat → Int) : sumC h w (fun r c => f r c + g r c) = sumC h w f + sumC h w g := by
  unfold sumC
  rw [← sumN_add]
  exact sumN_congr fun r _ => sumN_add _ _ w
theorem sumC_sub {h w : Nat} (f g : Nat → Nat → Int) : sumC h w (fun r c => f r c - g r c) = sumC h w f - sumC h w g := by
  unfold sumC
  rw [← sumN_sub]
  exact sumN_congr fun r _ => sumN_sub _ _ w
structure L3 (st : S2) : Prop where
  s : ∀ r c, (st.s r c).length = 3
  l : st.left.length = 3
def tot (k h w : Nat) (st : S2) : Int := sumC h w (fun r c => cm k (st.s r c)) + cm k st.left
theorem L3.put {st : S2} {h w : Nat} {z : Int × Int} {m : List Int} (a : L3 st) (hm : m.length = 3) : L3 (putS h w z m st) := by
  refine ⟨fun r c => ?_, ?_⟩
  · show (addS st.s z m r c).length = 3
    unfold addS
    split
    · exact len_plus (a.s r c) hm
    · exact a.s r c
  · show (if z.1 = h ∨ z.2 = w then plusL st.left m else st.left).length = 3
    split
    · exact len_plus a.l hm
    · exact a.l
theorem put_at {st : S2} {h w : Nat} {z : Int × Int} {m : List Int} {r c : Int} (hn : ¬ (r = z.1 ∧ c = z.2)) : (putS h w z m st).s r c = st.s r c := if_neg hn
theorem tot_put {k : Nat} (hk : k < 3) {st : S2} {h w a b : Nat} {m : List Int} (l : L3 st) (hm : m.length = 3) (ha : a ≤ h) (hb : b ≤ w) : tot k h w (putS h w ((a : Int), (b : Int)) m st) = tot k h w st + cm k m := by
  by_cases hz : a = h ∨ b = w
  · have e1 : (putS h w ((a : Int), (b : Int)) m st).left = plusL st.left m := if_pos (by show (a : Int) = h ∨ (b : Int) = w; omega)
    have e2 : sumC h w (fun r c => cm k ((putS h w ((a : Int), (b : Int)) m st).s r c)) = sumC h w (fun r c => cm k (st.s r c)) := sumC_congr fun r c hr hc => by rw [put_at (by show ¬ ((r : Int) = a ∧ (c : Int) = b); omega)]
    unfold tot
    rw [e1, e2, cm_plus l.l hm hk]
    omega
  · have e1 : (putS h w ((a : Int), (b : Int)) m st).left = st.left := if_neg (by show ¬ ((a : Int) = h ∨ (b : Int) = w); omega)
    have e2 : sumC h w (fun r c => cm k ((putS h w ((a : Int), (b : Int)) m st).s r c)) = sumC h w (fun r c => cm k (st.s r c)) + cm k m := by
      unfold sumC
      refine sumN_upd (i := a) (fun j hj => sumN_congr fun c _ => by show cm k _ = cm k _; rw [put_at (by show ¬ ((j : Int) = a ∧ (c : Int) = b); omega)]) ?_ (by omega)
      refine sumN_upd (i := b) (fun j hj => by show cm k _ = cm k _; rw [put_at (by show ¬ ((a : Int) = a ∧ (j : Int) = b); omega)]) ?_ (by omega)
      have : (putS h w ((a : Int), (b : Int)) m st).s a b = plusL (st.s a b) m := if_pos ⟨rfl, rfl⟩
      show cm k ((putS h w ((a : Int), (b : Int)) m st).s a b) = cm k (st.s a b) + cm k m
      rw [this, cm_plus (l.s _ _) hm hk]
    unfold tot
    rw [e1, e2]
    omega
section
variable {gs : List Gl} {pic : List (List (List Int))} {h w : Nat}
theorem wish_l (hp : PicOk pic h w) {r c : Nat} (hr : r < h) (hc : c < w) {st : S2} (l : L3 st) : (wishAt pic st r c).length = 3 := len_plus (pic_at hp hr hc).1.1 (l.s _ _)
theorem err_l {ws : List Int} (hw : ws.length = 3) : (errL gs ws).length = 3 := len_minus hw rfl
theorem L3.step (hp : PicOk pic h w) {r c : Nat} (hr : r < h) (hc : c < w) {st : S2} (l : L3 st) : L3 (stepS gs pic h w r c st) := by
  have he := err_l (gs := gs) (wish_l hp hr hc l)
  exact (l.put (len_half he)).put (len_minus he (len_half he))
theorem tot_step (hp : PicOk pic h w) {k r c : Nat} (hk : k < 3) (hr : r < h) (hc : c < w) {st : S2} (l : L3 st) : tot k h w (stepS gs pic h w r c st) = tot k h w st + cm k (errL gs (wishAt pic st r c)) := by
  have he := err_l (gs := gs) (wish_l hp hr hc l)
  have h1 := tot_put (h := h) (w := w) (a := r) (b := c + 1) hk l (len_half he) (by omega) (by omega)
  have h2 := tot_put (h := h) (w := w) (a := r + 1) (b := c) hk (l.put (h := h) (w := w) (z := ((r : Int), ((c + 1 : Nat) : Int))) (len_half he)) (len_minus he (len_half he)) (by omega) (by omega)
  have h3 := cm_minus (k := k) he (len_half he) hk
  have e : stepS gs pic h w r c st = putS h w (((r + 1 : Nat) : Int), (c : Int)) (minusL (errL gs (wishAt pic st r c)) (halfL (errL gs (wishAt pic st r c)))) (putS h w ((r : Int), ((c + 1 : Nat) : Int)) (halfL (errL gs (wishAt pic st r c))) st) := rfl
  rw [e, h2, h1]
  omega
theorem L3.row (hp : PicOk pic h w) {r : Nat} (hr : r < h) {st : S2} (l : L3 st) : ∀ c, c ≤ w → L3 (rowS gs pic h w r st c)
  | 0, _ => l
  | c + 1, hc => L3.step hp hr (by omega) (L3.row hp hr l c (by omega))
theorem L3.all (hp : PicOk pic h w) : ∀ r, r ≤ h → L3 (allS gs pic h w r)
  | 0, _ => ⟨fun _ _ => rfl, rfl⟩
  | r + 1, hr => L3.row hp (by omega) (L3.all hp r (by omega)) w (Nat.le_refl _)
theorem tot_row (hp : PicOk pic h w) {k r : Nat} (hk : k < 3) (hr : r < h) {st : S2} (l : L3 st) : ∀ c, c ≤ w → tot k h w (rowS gs pic h w r st c) = tot k h w st + sumN c fun c => cm k (errL gs (wishAt pic (rowS gs pic h w r st c) r c))
  | 0, _ => (Int.add_zero _).symm
  | c + 1, hc => by
    have := tot_row hp hk hr l c (by omega)
    show tot k h w (stepS gs pic h w r c (rowS gs pic h w r st c)) = tot k h w st + (sumN c _ + cm k (errL gs (wishAt pic (rowS gs pic h w r st c) r c)))
    rw [tot_step hp hk hr (by omega) (L3.row hp hr l c (by omega)), this]
    omega
theorem sumN_zero : ∀ n, sumN n (fun _ => 0) = 0
  | 0 => rfl
  | n + 1 => by show sumN n _ + 0 = 0; rw [sumN_zero n]; rfl
theorem tot_all (hp : PicOk pic h w) {k : Nat} (hk : k < 3) : ∀ r, r ≤ h → tot k h w (allS gs pic h w r) = sumN r fun r => sumN w fun c => cm k (errL gs (wishAt pic (rowS gs pic h w r (allS gs pic h w r) c) r c))
  | 0, _ => by
    have e : ∀ r c : Nat, cm k (nouS.s r c) = 0 := fun r c => by
      match k, hk with
      | 0, _ => rfl
      | 1, _ => rfl
      | 2, _ => rfl
    have e2 : cm k nouS.left = 0 := e 0 0
    show sumC h w (fun r c => cm k (nouS.s r c)) + cm k nouS.left = 0
    rw [e2, sumC_congr (g := fun _ _ => 0) fun r c _ _ => e r c]
    unfold sumC
    rw [sumN_congr (g := fun _ => 0) fun r _ => sumN_zero w, sumN_zero]
    rfl
  | r + 1, hr => by
    show tot k h w (rowS gs pic h w r (allS gs pic h w r) w) = sumN r _ + _
    rw [tot_row hp hk (by omega) (L3.all hp r (by omega)) w (Nat.le_refl _), tot_all hp hk r (by omega)]
theorem step_at {r c : Nat} {st : S2} {a b : Int} (h1 : ¬ (a = r ∧ b = c + 1)) (h2 : ¬ (a = r + 1 ∧ b = c)) : (stepS gs pic h w r c st).s a b = st.s a b := by
  unfold stepS
  rw [put_at h2, put_at h1]
theorem row_up {r : Nat} {st : S2} {a b : Int} (ha : a < r) : ∀ n, (rowS gs pic h w r st n).s a b = st.s a b
  | 0 => rfl
  | n + 1 => by
    show (stepS gs pic h w r n (rowS gs pic h w r st n)).s a b = _
    rw [step_at (by omega) (by omega), row_up ha n]
theorem row_stay {r c : Nat} {st : S2} : ∀ d, (rowS gs pic h w r st (c + d)).s r c = (rowS gs pic h w r st c).s r c
  | 0 => rfl
  | d + 1 => by
    show (stepS gs pic h w r (c + d) (rowS gs pic h w r st (c + d))).s r c = _
    rw [step_at (by omega) (by omega), row_stay d]
theorem all_stay {r c : Nat} (hc : c ≤ w) : ∀ d, (allS gs pic h w (r + 1 + d)).s r c = (rowS gs pic h w r (allS gs pic h w r) c).s r c
  | 0 => by
    show (rowS gs pic h w r (allS gs pic h w r) w).s r c = _
    have := row_stay (gs := gs) (pic := pic) (h := h) (w := w) (r := r) (c := c) (st := allS gs pic h w r) (w - c)
    rw [show c + (w - c) = w by omega] at this
    exact this
  | d + 1 => by
    show (rowS gs pic h w (r + 1 + d) (allS gs pic h w (r + 1 + d)) w).s r c = _
    rw [row_up (by omega), all_stay hc d]
/-- what is wished is what is laid and what is left -/
theorem all_there (hp : PicOk pic h w) {k : Nat} (hk : k < 3) : sumC h w (fun r c => cm k ((pic.getD r []).getD c [])) = sumC h w (fun r c => cm k (colL (glAt gs pic h w r c))) + cm k (allS gs pic h w h).left := by
  have h1 := tot_all (gs := gs) hp hk h (Nat.le_refl _)
  have h2 : ∀ r c, r < h → c < w → (allS gs pic h w h).s r c = (rowS gs pic h w r (allS gs pic h w r) c).s r c := fun r c hr hc => by
    have := all_stay (gs := gs) (pic := pic) (h := h) (w := w) (r := r) (c := c) (by omega) (h - (r + 1))
    rw [show r + 1 + (h - (r + 1)) = h by omega] at this
    exact this
  have h3 : sumC h w (fun r c => cm k (errL gs (wishAt pic (rowS gs pic h w r (allS gs pic h w r) c) r c))) = sumC h w (fun r c => cm k ((pic.getD r []).getD c []) + cm k ((allS gs pic h w h).s r c) - cm k (colL (glAt gs pic h w r c))) := sumC_congr fun r c hr hc => by
    have l := L3.row (gs := gs) hp hr (L3.all (gs := gs) hp r (by omega)) c (by omega)
    rw [h2 r c hr hc]
    unfold errL
    rw [cm_minus (wish_l hp hr hc l) rfl hk]
    unfold wishAt
    rw [cm_plus (pic_at hp hr hc).1.1 (l.s _ _) hk]
    rfl
  rw [sumC_sub, sumC_add] at h3
  have h4 : tot k h w (allS gs pic h w h) = sumC h w (fun r c => cm k (errL gs (wishAt pic (rowS gs pic h w r (allS gs pic h w r) c) r c))) := h1
  unfold tot at h4
  rw [h3] at h4
  omega
theorem sumN_range (f : Nat → Int) : ∀ n : Nat, ((List.range n).map f).sum = sumN n f
  | 0 => rfl
  | n + 1 => by
    rw [List.range_succ, List.map_append, List.sum_append, sumN_range f n]
    show _ + (f n + 0) = sumN n f + f n
    omega
theorem list_sumN {α : Type} (f : α → Int) (d : α) (l : List α) : (l.map f).sum = sumN l.length fun i => f (l.getD i d) := by
  rw [← sumN_range]
  congr 1
  refine List.ext_getElem (by rw [List.length_map, List.length_map, List.length_range]) fun i h1 h2 => ?_
  rw [List.length_map] at h1
  rw [List.getElem_map, List.getElem_map, List.getElem_range, List.getD_eq_getElem?_getD, List.getElem?_eq_getElem h1]
  rfl
end
end
section
variable {P : Program} {w : World} {K : PySem.W.Frag} {mg : Str → Option Value} {base : Heap}
abbrev tCol (K : PySem.W.Frag) : Ty K (List Int) := tTup tInt
abbrev tPic (K : PySem.W.Frag) : Ty K (List (List (List Int))) := tTup (tTup (tCol K))
abbrev spPlus (K : PySem.W.Frag) : Sp := spP (fun q : List Int × List Int => [tv (tCol K) q.1, tv (tCol K) q.2]) (tCol K) (fun q => q.1.length ≤ 1000) (fun q r => r = plusL q.1 q.2)
theorem p_plus (T : Top K mg) : Prom P w K mg base "plus" 1 ["one", "other"] (spPlus K) :=
  T.f_plus.prom fun f fd F => fn_pure F sc_plus (fun _ => rfl) fun ⟨xs, ys⟩ hp c => by
    have hp' : xs.length ≤ 1000 := hp
    have hsz : 100000 < sizeLine := by decide +kernel
    refine w_cons (w_ret (ew_tupleL T.bi rfl (ew_el (el_comp (A := tT2 (tInt (K := K)) (tInt (K := K))) (B' := tInt) [("part", 2), ("more", 3)] rfl (fun x o => o = some (x.1 + x.2)) ?_))))
    refine iw_zipT T.bi rfl (ew_name rfl rfl rfl (ew_name rfl rfl rfl ⟨rfl, ?_, ?_, ?_⟩))
    · rw [List.length_zip]
      show min xs.length ys.length < _
      omega
    · rintro c' j ⟨x, y⟩ hj
      refine gw_T2 (gw_name rfl rfl (by decide) (of_decide_eq_true rfl) (gw_name rfl rfl (by decide) (of_decide_eq_true rfl) ?_))
      intro c''
      refine ts_nil ⟨fun _ c3 => ?_, fun e => nomatch e⟩
      exact ew_add (ew_name rfl rfl rfl (ew_name rfl rfl rfl ⟨rfl, rfl⟩))
    · intro os ho
      show os.filterMap id = plusL xs ys
      rw [all2_some ho]
      rfl
abbrev LdI : Type := (List Gl × List (List (List Int))) × Nat × Nat
abbrev laidA (K : PySem.W.Frag) (q : LdI) : List (TV K) := [tv (tTup (tGl K)) q.1.1, tv (tPic K) q.1.2]
noncomputable abbrev LdR (q : LdI) : List Str × List Int := (allT q.1.1 q.1.2 q.2.1 q.2.2 q.2.1, (allS q.1.1 q.1.2 q.2.1 q.2.2 q.2.1).left)
abbrev LdP (q : LdI) : Prop := GlsOk q.1.1 ∧ PicOk q.1.2 q.2.1 q.2.2
abbrev spLaid (K : PySem.W.Frag) (W : Addr) : Sp := spT W qL (laidA K) (tT2 (tTup tStr) (tCol K)) LdP (fun q r => r = LdR q)
/-- the slots while a picture is laid -/
abbrev gmL (K : PySem.W.Frag) (W : Addr) (gs : List Gl) (pic : List (List (List Int))) (n : Nat) (g : Int → Int → Option (List Int)) (left : List Int) (rows : List Str) (rest : Gm) : Gm :=
  some (valT (tTup (tGl K)) gs W qL) :: some (val (tPic K) pic) :: some (val (tCol K) [0, 0, 0]) :: some (ownG (tCol K) n g) :: some (val (tCol K) left) :: some (ownL (tStr (K := K)) rows) :: rest
theorem near_mem {gs : List Gl} {ws : List Int} (h : FirstMin (fun g => farI g ws) gs (near gs ws)) : near gs ws ∈ gs := by
  obtain ⟨i, h1, _⟩ := h
  exact List.mem_of_getElem? h1
theorem Col.near {gs : List Gl} {ws : List Int} {t : Nat} (hg : GlsOk gs) (ht : t ≤ 64) (h : Col (255 + bd t) ws) : NearOk gs ws := by
  have hb := bd_top ht
  have hp := bd_pos t
  have h2 : (2 : Int) ^ 90 + 255 ≤ 2 ^ 100 := by decide +kernel
  exact ⟨hg.ne, hg.l12, h.1, hg.gb, fun z hz => by have := h.2 z hz; omega⟩
theorem ok_laid {cT W : Addr} (T : Top K mg) (M : MakerAt K mg base "nearest_one" "nearest_one" s_nearest_one ["glasses", "wish"] cT W) (f : Addr) (fd : FuncData) (F : Fun K "laid" "laid" s_laid f fd) : FnOk P w K mg base CX0 4 f fd ["glasses", "picture"] (spLaid K W) :=
  fn_tab F sc_laid (fun _ => rfl) (by simp) fun ⟨⟨gs, pic⟩, h, wd⟩ hp c => by
    obtain ⟨hg, hpic⟩ : GlsOk gs ∧ PicOk pic h wd := hp
    have hN : Prom P w K mg base "nearest_one" 3 ["glasses", "wish"] (spNear K W) := p_near1 T M
    have hP : Prom P w K mg base "plus" 1 ["one", "other"] (spPlus K) := p_plus T
    have hsz : 100000 < sizeLine := by decide +kernel
    have hh8 := hpic.h8
    have hw8 := hpic.w8
    have hhl := hpic.hl
    refine w_cons (w_set (T := tCol K) rfl rfl (ew_tupL ?_))
    refine ewl_cons (ew_int ?_)
    refine ewl_cons (ew_int ?_)
    refine ewl_cons (ew_int ?_)
    refine ewl_nil ⟨by show 3 ≤ sizeLine; omega, of_decide_eq_true rfl, ?_⟩
    refine w_cons (w_parDVL (T := tCol K) (B' := tCol K) (TL := tStr) rfl rfl rfl (by decide) (by decide) (by decide) rfl rfl rfl rfl rfl rfl rfl ⟨⟨of_decide_eq_true rfl, of_decide_eq_true rfl, of_decide_eq_true rfl⟩, ?_⟩)
    refine w_weak (gmL K W gs pic 0 (fun _ _ => none) [0, 0, 0] [] [none, none, none, none, none, none, none, none, none, none, none, none, none, none]) (by walk_at "wk") ?_
    refine w_cons (w_for (A := tT2 tInt (tTup (tCol K))) (iw_enumT T.bi rfl (ew_name rfl rfl rfl ?_)))
    refine ⟨fun i G => ∃ n g, n ≤ 16 * i ∧ (∃ t, t ≤ 8 * i ∧ SOk (bd t) (allS gs pic h wd i)) ∧ RelG h wd g (allS gs pic h wd i).s ∧ (allT gs pic h wd i).length = i ∧ G = gmL K W gs pic n g (allS gs pic h wd i).left (allT gs pic h wd i) [none, none, none, none, none, none, none, none, none, none, none, none, none, none], ⟨0, _, Nat.le_refl _, ⟨0, Nat.le_refl _, nou_ok⟩, relG_nou, rfl, rfl⟩, ?_, ?_⟩
    · rintro r ⟨ri, line⟩ hr G ⟨n, g, hn, ⟨t, ht, hS⟩, hR, hT, rfl⟩
      obtain ⟨er, hline⟩ := enumL_get hr
      have er : ri = (r : Int) := er
      have hline : pic[r]? = some line := hline
      subst er
      have hrh : r < h := by rw [← hhl]; exact (List.getElem?_eq_some_iff.mp hline).1
      have el : pic.getD r [] = line := by rw [List.getD_eq_getElem?_getD, hline]; rfl
      have hlw : line.length = wd := hpic.hw _ (List.mem_of_getElem? hline)
      refine gw_T2 (gw_name rfl rfl trivial (of_decide_eq_true rfl) (gw_name rfl rfl trivial (of_decide_eq_true rfl) ?_))
      refine w_cons (w_set (T := tStr) rfl rfl (ew_str ⟨of_decide_eq_true rfl, ?_⟩))
      generalize hst0 : allS gs pic h wd r = st0 at hS hR
      refine w_weak (gmL K W gs pic n g st0.left (allT gs pic h wd r) [some (val (tInt (K := K)) (r : Int)), some (val (tTup (tCol K)) line), some (val (tStr (K := K)) ""), none, none, none, none, none, none, none, none, none, none, none]) (by walk_at "wk") ?_
      refine w_cons (w_for (A := tT2 tInt (tCol K)) (iw_enumT T.bi rfl (ew_name rfl rfl rfl ?_)))
      refine ⟨fun j G => ∃ n g, n ≤ 16 * r + 2 * j ∧ (∃ t, t ≤ 8 * r + j ∧ SOk (bd t) (rowS gs pic h wd r st0 j)) ∧ RelG h wd g (rowS gs pic h wd r st0 j).s ∧ (rowT gs pic h wd r st0 j).length = j ∧ G = gmL K W gs pic n g (rowS gs pic h wd r st0 j).left (allT gs pic h wd r) [some (val (tInt (K := K)) (r : Int)), some (val (tTup (tCol K)) line), some (val (tStr (K := K)) (rowT gs pic h wd r st0 j)), none, none, none, none, none, none, none, none, none, none, none], ⟨n, g, hn, ⟨t, ht, hS⟩, hR, rfl, rfl⟩, ?_, ?_⟩
      · clear hn ht hS hR n g t hst0
        rintro j ⟨ji, wish⟩ hj G ⟨n, g, hn, ⟨t, ht, hS⟩, hR, hL, rfl⟩
        obtain ⟨ej, hwish⟩ := enumL_get hj
        have ej : ji = (j : Int) := ej
        have hwish : line[j]? = some wish := hwish
        subst ej
        have hjw : j < wd := by rw [← hlw]; exact (List.getElem?_eq_some_iff.mp hwish).1
        generalize hst : rowS gs pic h wd r st0 j = st at hS hR
        generalize hlt : rowT gs pic h wd r st0 j = lt at hL
        have ew : (pic.getD r []).getD j [] = wish := by rw [el, List.getD_eq_getElem?_getD, hwish]; rfl
        have wl : wish.length = 3 := by have := (pic_at hpic hrh hjw).1.1; rw [ew] at this; exact this
        have eG : (g (r : Int) (j : Int)).getD [0, 0, 0] = st.s r j := hR _ _ (by omega) (by omega)
        have eW : plusL wish (st.s r j) = wishAt pic st r j := by unfold wishAt; rw [ew]
        refine gw_T2 (gw_name rfl rfl trivial (of_decide_eq_true rfl) (gw_name rfl rfl trivial (of_decide_eq_true rfl) ?_))
        -- wished
        refine w_cons (w_set (T := tCol K) rfl rfl (ew_call hP (by decide) rfl ?_))
        refine ews_cons (T := tCol K) (ew_name rfl rfl rfl ?_)
        refine ews_cons (T := tCol K) (ew_getG (n := n) (g := g) rfl rfl rfl (ew_pr (ew_name rfl rfl rfl (ew_name rfl rfl rfl (ew_name rfl rfl rfl ⟨rfl, ?_⟩)))))
        rw [eG]
        refine ews_nil ⟨(wish, st.s r j), rfl, by show wish.length ≤ 1000; omega, fun q hq => ⟨of_decide_eq_true rfl, ?_⟩⟩
        have hq : q = plusL wish (st.s r j) := hq
        rw [eW] at hq
        subst hq
        have hWc := wish_ok hpic hrh hjw hS
        have hNe := Col.near hg (by omega) hWc
        -- found
        refine w_cons (w_set (T := tGl K) rfl rfl (ew_callT hN (by decide) rfl (ews_cons (T := tTup (tGl K)) (ew_nameT rfl rfl rfl (ews_cons (T := tCol K) (ew_name rfl rfl rfl (ews_nil ⟨⟨0, _, rfl⟩, (gs, wishAt pic st r j), rfl, hNe, fun q hq => ⟨of_decide_eq_true rfl, ?_⟩⟩)))))))
        have hq : FirstMin (fun g => farI g (wishAt pic st r j)) gs q := hq
        obtain rfl := near_eq hq
        have hm := near_mem hq
        have hh := step1_ok hg hpic hrh hjw hS hm
        have hSt := step_ok hg hpic hrh hjw hS hm
        have hE := err_ok hg hWc hm
        have hnm := hg.nm _ hm
        -- letters
        refine w_cons (w_addS rfl rfl rfl (ew_T4_0 (A := tStr) (B' := tInt) (C := tInt) (D' := tInt) (ew_name rfl rfl rfl ⟨of_decide_eq_true rfl, by omega, ?_⟩)))
        -- error
        refine w_cons (w_set (T := tCol K) rfl rfl (ew_tupleL T.bi rfl (ew_el (el_comp (A := tT2 (tInt (K := K)) (tInt (K := K))) (B' := tInt) [("part", 18), ("other", 19)] rfl (fun x o => o = some (x.1 - x.2)) ?_))))
        refine iw_zipT T.bi rfl (ew_name rfl rfl rfl (ew_slTail (A := tStr) (EW.as (fun z : Gl => (z.1, [z.2.1, z.2.2.1, z.2.2.2])) (ew_name rfl rfl rfl ?_) tail4)))
        refine ⟨rfl, by rw [List.length_zip, hWc.1]; show min 3 3 < _; omega, ?_, ?_⟩
        · rintro c' j ⟨x, y⟩ hj
          refine gw_T2 (gw_name rfl rfl (by decide) (of_decide_eq_true rfl) (gw_name rfl rfl (by decide) (of_decide_eq_true rfl) ?_))
          intro c''
          refine ts_nil ⟨fun _ c3 => ?_, fun e => nomatch e⟩
          exact ew_sub (ew_name rfl rfl rfl (ew_name rfl rfl rfl ⟨rfl, rfl⟩))
        intro os ho
        have eE : os.filterMap id = errL gs (wishAt pic st r j) := by rw [all2_some ho]; rfl
        rw [eE]
        clear ho eE os
        refine ⟨of_decide_eq_true rfl, ?_⟩
        -- half
        refine w_cons (w_set (T := tCol K) rfl rfl (ew_tupleL T.bi rfl (ew_el (el_comp (A := tInt (K := K)) (B' := tInt) [("part", 18)] rfl (fun x o => o = some (x / 2)) ?_))))
        refine iw_tup (ew_name rfl rfl rfl ⟨rfl, by rw [hE.1]; omega, ?_, ?_⟩)
        · intro c' j x hj
          refine gw_name rfl rfl (by decide) (of_decide_eq_true rfl) ?_
          intro c''
          refine ts_nil ⟨fun _ c3 => ?_, fun e => nomatch e⟩
          refine ew_div (ew_name rfl rfl rfl (ew_int ⟨?_, rfl, rfl⟩))
          exact cdiv_of (by omega) (by omega)
        intro os ho
        have eE : os.filterMap id = halfL (errL gs (wishAt pic st r j)) := by rw [all2_some ho]; rfl
        rw [eE]
        clear ho eE os
        refine ⟨of_decide_eq_true rfl, ?_⟩
        -- rest
        refine w_cons (w_set (T := tCol K) rfl rfl (ew_tupleL T.bi rfl (ew_el (el_comp (A := tT2 (tInt (K := K)) (tInt (K := K))) (B' := tInt) [("part", 18), ("other", 19)] rfl (fun x o => o = some (x.1 - x.2)) ?_))))
        refine iw_zipT T.bi rfl (ew_name rfl rfl rfl (ew_name rfl rfl rfl ⟨rfl, by rw [List.length_zip, hE.1]; omega, ?_, ?_⟩))
        · rintro c' j ⟨x, y⟩ hj
          refine gw_T2 (gw_name rfl rfl (by decide) (of_decide_eq_true rfl) (gw_name rfl rfl (by decide) (of_decide_eq_true rfl) ?_))
          intro c''
          refine ts_nil ⟨fun _ c3 => ?_, fun e => nomatch e⟩
          exact ew_sub (ew_name rfl rfl rfl (ew_name rfl rfl rfl ⟨rfl, rfl⟩))
        intro os ho
        have eE : os.filterMap id = minusL (errL gs (wishAt pic st r j)) (halfL (errL gs (wishAt pic st r j))) := by rw [all2_some ho]; rfl
        rw [eE]
        clear ho eE os
        refine ⟨of_decide_eq_true rfl, ?_⟩
        have eT : rowT gs pic h wd r st0 (j + 1) = lt ++ (near gs (wishAt pic st r j)).1 := by show rowT gs pic h wd r st0 j ++ _ = _; rw [hlt, hst]
        have eS : rowS gs pic h wd r st0 (j + 1) = putS h wd ((r : Int) + 1, (j : Int)) (minusL (errL gs (wishAt pic st r j)) (halfL (errL gs (wishAt pic st r j)))) (putS h wd ((r : Int), (j : Int) + 1) (halfL (errL gs (wishAt pic st r j))) st) := by show stepS gs pic h wd r j (rowS gs pic h wd r st0 j) = _; rw [hst]; rfl
        have eS2 : stepS gs pic h wd r j st = putS h wd ((r : Int) + 1, (j : Int)) (minusL (errL gs (wishAt pic st r j)) (halfL (errL gs (wishAt pic st r j)))) (putS h wd ((r : Int), (j : Int) + 1) (halfL (errL gs (wishAt pic st r j))) st) := rfl
        rw [eS2] at hSt
        obtain ⟨hh1, hh2⟩ := hh
        generalize halfL (errL gs (wishAt pic st r j)) = hf at hh1 hh2 hSt eS
        generalize minusL (errL gs (wishAt pic st r j)) hf = rs at hh2 hSt eS
        generalize near gs (wishAt pic st r j) = nr at hnm eT
        refine w_weak (gmL K W gs pic n g st.left (allT gs pic h wd r) [some (val (tInt (K := K)) (r : Int)), some (val (tTup (tCol K)) line), some (val (tStr (K := K)) (lt ++ nr.1)), some (val (tInt (K := K)) (j : Int)), none, none, none, none, some (val (tCol K) hf), some (val (tCol K) rs), none, none, none, none]) (by walk_at "wk") ?_
        obtain ⟨stA, e0, e1, e2⟩ : ∃ stA : Nat → S2, stA 0 = st ∧ stA 1 = putS h wd ((r : Int), (j : Int) + 1) hf st ∧ stA 2 = putS h wd ((r : Int) + 1, (j : Int)) rs (putS h wd ((r : Int), (j : Int) + 1) hf st) := ⟨fun k => match k with | 0 => st | 1 => putS h wd ((r : Int), (j : Int) + 1) hf st | _ => putS h wd ((r : Int) + 1, (j : Int)) rs (putS h wd ((r : Int), (j : Int) + 1) hf st), rfl, rfl, rfl⟩
        have hb0 := bd_pos t
        have ok1 : SOk (bd t + (bd t + 300)) (stA 1) := by rw [e1]; exact hS.put hh1 (by omega) (Int.le_refl _)
        refine w_cons (w_for (A := tT2 (tPr (K := K)) (tCol K)) (iw_tup (ew_tupL ?_)))
        refine ewl_cons (ew_tup2 (A := tPr) (B' := tCol K) (ew_pr (ew_name rfl rfl rfl (ew_add (ew_name rfl rfl rfl (ew_int (ew_name rfl rfl rfl ?_)))))))
        refine ewl_cons (ew_tup2 (A := tPr) (B' := tCol K) (ew_pr (ew_add (ew_name rfl rfl rfl (ew_int (ew_name rfl rfl rfl (ew_name rfl rfl rfl ?_)))))))
        refine ewl_nil ⟨by show 2 ≤ sizeLine; omega, ?_⟩
        refine ⟨fun i G => ∃ n' g', n' ≤ n + i ∧ RelG h wd g' (stA i).s ∧ G = gmL K W gs pic n' g' (stA i).left (allT gs pic h wd r) [some (val (tInt (K := K)) (r : Int)), some (val (tTup (tCol K)) line), some (val (tStr (K := K)) (lt ++ nr.1)), some (val (tInt (K := K)) (j : Int)), none, none, none, none, some (val (tCol K) hf), some (val (tCol K) rs), none, none, none, none], ⟨n, g, Nat.le_refl _, by rw [e0]; exact hR, by rw [e0]⟩, ?_, ?_⟩
        · rintro i ⟨z, m⟩ hx G ⟨n', g', hn', hR', rfl⟩
          have key : i < 2 ∧ stA (i + 1) = putS h wd z m (stA i) ∧ z.1 ≤ h ∧ z.2 ≤ wd ∧ m.length = 3 ∧ ∃ b, SOk b (stA i) := by
            match i, hx with
            | 0, hx =>
              cases hx
              exact ⟨by omega, by rw [e0]; exact e1, by show (r : Int) ≤ h; omega, by show (j : Int) + 1 ≤ wd; omega, hh1.1, _, by rw [e0]; exact hS⟩
            | 1, hx =>
              cases hx
              exact ⟨by omega, by rw [e1]; exact e2, by show (r : Int) + 1 ≤ h; omega, by show (j : Int) ≤ wd; omega, hh2.1, _, ok1⟩
            | i + 2, hx => cases hx
          obtain ⟨hi2, key, hz1, hz2, hm3, b, hb⟩ := key
          refine gw_T2 (gw_name rfl rfl trivial (of_decide_eq_true rfl) (gw_name rfl rfl trivial (of_decide_eq_true rfl) ?_))
          refine w_cons (w_if (TW.imp (k := fun G x => G = gmL K W gs pic n' g' (stA i).left (allT gs pic h wd r) [some (val (tInt (K := K)) (r : Int)), some (val (tTup (tCol K)) line), some (val (tStr (K := K)) (lt ++ nr.1)), some (val (tInt (K := K)) (j : Int)), none, none, none, none, some (val (tCol K) hf), some (val (tCol K) rs), some (val (tPr (K := K)) z), some (val (tCol K) m), none, none] ∧ (x = true ↔ z.1 = h ∨ z.2 = wd)) ?_ ?_))
          · refine tw_w (tww_or (tw_eq fInt (ew_T2_0 (A := tInt) (B' := tInt) (EW.as (fun z : Int × Int => z) (ew_name rfl rfl rfl (ew_lenT (A := tTup (tCol K)) T.bi rfl (ew_name rfl rfl rfl ?_))) pr_T2))))
            rw [hhl]
            refine ⟨fun b1 => tww_or1 (tw_eq fInt (ew_T2_1 (A := tInt) (B' := tInt) (EW.as (fun z : Int × Int => z) (ew_name rfl rfl rfl (ew_lenT (A := tCol K) T.bi rfl (ew_name rfl rfl rfl ⟨rfl, ?_⟩))) pr_T2))), fun b1 => ⟨rfl, ?_⟩⟩
            · have b1 := of_decide_eq_false b1
              rw [hlw, decide_eq_true_iff]
              exact ⟨.inr, fun q => q.resolve_left b1⟩
            · exact ⟨fun _ => .inl (of_decide_eq_true b1), fun _ => rfl⟩
          · rintro G x ⟨rfl, hx2⟩
            refine ⟨fun b1 => ?_, fun b1 => ?_⟩
            · have hz := hx2.mp b1
              have eL : (stA (i + 1)).left = plusL (stA i).left m := by rw [key]; exact if_pos hz
              refine w_cons (w_set (T := tCol K) rfl rfl (ew_call hP (by decide) rfl (ews_cons (T := tCol K) (ew_name rfl rfl rfl (ews_cons (T := tCol K) (ew_name rfl rfl rfl (ews_nil ⟨((stA i).left, m), rfl, by show (stA i).left.length ≤ 1000; rw [hb.l.1]; omega, fun q hq => ⟨of_decide_eq_true rfl, ?_⟩⟩)))))))
              have hq : q = plusL (stA i).left m := hq
              subst hq
              exact w_nilW (gmL K W gs pic n' g' (plusL (stA i).left m) (allT gs pic h wd r) [some (val (tInt (K := K)) (r : Int)), some (val (tTup (tCol K)) line), some (val (tStr (K := K)) (lt ++ nr.1)), some (val (tInt (K := K)) (j : Int)), none, none, none, none, some (val (tCol K) hf), some (val (tCol K) rs), none, none, none, none]) (by walk_at "wk") (w_nil ⟨n', g', by omega, by rw [key]; exact relG_out hR' hz, by rw [eL]⟩)
            · have hz : ¬ (z.1 = h ∨ z.2 = wd) := fun q => by rw [hx2.mpr q] at b1; cases b1
              have hza : z.1 < h := by omega
              have hzb : z.2 < wd := by omega
              have eL : (stA (i + 1)).left = (stA i).left := by rw [key]; exact if_neg hz
              have eg : (g' z.1 z.2).getD [0, 0, 0] = (stA i).s z.1 z.2 := hR' _ _ hza hzb
              refine w_cons (w_putG (T := tCol K) (n := n') (g := g') rfl rfl (ew_call hP (by decide) rfl ?_) ⟨_, _, rfl⟩)
              refine ews_cons (T := tCol K) (ew_getG (n := n') (g := g') rfl rfl rfl (ew_name rfl rfl rfl (ew_name rfl rfl rfl ⟨rfl, ?_⟩)))
              refine ews_cons (T := tCol K) (ew_name rfl rfl rfl (ews_nil ⟨(_, m), rfl, by show ((g' z.1 z.2).getD [0, 0, 0]).length ≤ 1000; rw [eg, (hb.s _ _).1]; omega, fun q hq => ?_⟩))
              have hq : q = plusL ((g' z.1 z.2).getD [0, 0, 0]) m := hq
              subst hq
              refine ew_name rfl rfl rfl ⟨rfl, by omega, ?_⟩
              exact w_nilW (gmL K W gs pic (n' + 1) (updG g' z (plusL ((g' z.1 z.2).getD [0, 0, 0]) m)) (stA i).left (allT gs pic h wd r) [some (val (tInt (K := K)) (r : Int)), some (val (tTup (tCol K)) line), some (val (tStr (K := K)) (lt ++ nr.1)), some (val (tInt (K := K)) (j : Int)), none, none, none, none, some (val (tCol K) hf), some (val (tCol K) rs), none, none, none, none]) (by walk_at "wk") (w_nil ⟨n' + 1, _, by omega, by rw [key]; exact relG_in hR' hza hzb, by rw [eL]⟩)
        · rintro G ⟨n', g', hn', hR', rfl⟩
          have hn' : n' ≤ n + 2 := hn'
          have hR' : RelG h wd g' (stA 2).s := hR'
          refine w_nilW (gmL K W gs pic n' g' (stA 2).left (allT gs pic h wd r) [some (val (tInt (K := K)) (r : Int)), some (val (tTup (tCol K)) line), some (val (tStr (K := K)) (lt ++ nr.1)), none, none, none, none, none, none, none, none, none, none, none]) (by walk_at "wk") ⟨n', g', by omega, ⟨t + 1, by omega, by rw [eS]; exact hSt⟩, by rw [eS, ← e2]; exact hR', by rw [eT, len_app, hL, hnm], by rw [eS, eT, e2]⟩
      · rintro G ⟨n', g', hn', ⟨t', ht', hS'⟩, hR', hL', rfl⟩
        rw [enumL_len, hlw] at hn' ht' hS' hR' hL' ⊢
        have eA : allS gs pic h wd (r + 1) = rowS gs pic h wd r st0 wd := by show rowS gs pic h wd r (allS gs pic h wd r) wd = _; rw [hst0]
        have eB : allT gs pic h wd (r + 1) = allT gs pic h wd r ++ [rowT gs pic h wd r st0 wd] := by show allT gs pic h wd r ++ [rowT gs pic h wd r (allS gs pic h wd r) wd] = _; rw [hst0]
        refine w_cons (w_append (T := tStr) rfl rfl ⟨_, rfl⟩ (ew_name rfl rfl rfl ⟨_, rfl, by omega, ?_⟩))
        exact w_nilW (gmL K W gs pic n' g' (rowS gs pic h wd r st0 wd).left (allT gs pic h wd r ++ [rowT gs pic h wd r st0 wd]) [none, none, none, none, none, none, none, none, none, none, none, none, none, none]) (by walk_at "wk") ⟨n', g', by omega, ⟨t', by omega, by rw [eA]; exact hS'⟩, by rw [eA]; exact hR', by rw [eB, List.length_append, hT]; rfl, by rw [eA, eB]⟩
    · rintro G ⟨n, g, hn, ht, hR, hT, rfl⟩
      rw [enumL_len, hhl]
      refine w_frz 5 rfl (w_cons (w_ret (ew_tup2 (A := tTup tStr) (B' := tCol K) (ew_tupleL T.bi rfl (ew_name rfl rfl rfl (ew_name rfl rfl rfl ⟨⟨0, _, rfl⟩, rfl⟩))))))
end
section
variable {P : Program} {w : World} {K : PySem.W.Frag} {mg : Str → Option Value} {base : Heap}
abbrev spFpic (K : PySem.W.Frag) : Sp := spD (fun n : Int => [tv (tInt (K := K)) n]) (tPic K) (fun n => n = 8) (fun _ r => ∃ h wd, PicOk r h wd)
theorem p_fpic (T : Top K mg) : Prom P w K mg base "_law_picture" 2 ["draws", "most"] (spFpic K) :=
  T.f__law_picture.prom fun f fd F => fn_draws F sc__law_picture (fun _ => rfl) fun n hp dr c => by
    obtain rfl : n = 8 := hp
    have hD : Prom P w K mg base "_law_draw" 1 ["draws", "many"] (spDraw K) := p_draw T
    have hsz : 100000 < sizeLine := by decide +kernel
    refine w_cons (w_set (T := tInt) rfl rfl (ew_menu ?_))
    walk_at "go"
    intro r r1 r2
    refine ⟨r1, r2, fun far hf => ⟨of_decide_eq_true rfl, ?_⟩⟩
    have hf2 : 1 ≤ far ∧ far ≤ 256 := by
      simp only [List.mem_cons, List.not_mem_nil, or_false] at hf
      omega
    clear hf
    refine w_cons (w_par2 (A := tInt) (B' := tInt) rfl rfl (by decide) rfl rfl rfl ?_)
    walk_at "go"
    intro high h1 h2
    walk_at "go"
    intro wide w1 w2
    refine ⟨⟨of_decide_eq_true rfl, of_decide_eq_true rfl⟩, ?_⟩
    refine w_cons (w_setL (T := tTup (tCol K)) rfl rfl (el_lst (ewl_nil ⟨by show 0 ≤ sizeLine; omega, of_decide_eq_true rfl, ?_⟩)))
    refine w_weak [some (drw dr), none, some (val (tInt (K := K)) far), some (val (tInt (K := K)) (1 + high)), some (val (tInt (K := K)) (1 + wide)), some (ownL (tTup (tCol K)) []), none, none] (by walk_at "wk") ?_
    refine w_cons (w_for (A := tInt) (iw_range1 T.bi rfl ?_))
    walk_at "go"
    refine ⟨fun i G => ∃ xs : List (List (List Int)), xs.length = i ∧ (∀ l, l ∈ xs → l.length = (1 + wide).toNat ∧ ∀ g, g ∈ l → g.length = 3 ∧ ∀ z, z ∈ g → 0 ≤ z ∧ z ≤ 255) ∧ G = [some (drw dr), none, some (val (tInt (K := K)) far), some (val (tInt (K := K)) (1 + high)), some (val (tInt (K := K)) (1 + wide)), some (ownL (tTup (tCol K)) xs), none, none], ⟨[], rfl, (fun l h => nomatch h), rfl⟩, ?_, ?_⟩
    · rintro i row hrow G ⟨xs, hx1, hx2, rfl⟩
      obtain ⟨e1, e2⟩ := ups_get hrow
      refine gw_name rfl rfl trivial (of_decide_eq_true rfl) ?_
      refine w_cons (w_append (T := tTup (tCol K)) rfl rfl ⟨_, rfl⟩ (ew_tupleL T.bi rfl (ew_el (el_comp (A := tInt) (B' := tCol K) [("cell", 7)] rfl (fun _ o => ∃ d, o = some d ∧ (d.length = 3 ∧ ∀ z, z ∈ d → 0 ≤ z ∧ z ≤ 255)) ?_))))
      refine iw_range1 T.bi rfl ?_
      walk_at "go"
      refine ⟨by rw [ups_len]; omega, ?_, ?_⟩
      · intro c' j x hj
        refine gw_name rfl rfl (by decide) (of_decide_eq_true rfl) ?_
        intro c''
        refine ts_nil ⟨fun _ c3 => ew_tupL ?_, fun e => nomatch e⟩
        refine ewl_cons ?_
        walk_at "go"
        intro a a1 a2
        refine ewl_cons ?_
        walk_at "go"
        intro b b1 b2
        refine ewl_cons ?_
        walk_at "go"
        intro d d1 d2
        refine ewl_nil ⟨by show 3 ≤ sizeLine; omega, rfl, [a, b, d], rfl, rfl, fun z hz => ?_⟩
        simp only [List.mem_cons, List.not_mem_nil, or_false] at hz
        omega
      · intro os ho
        obtain ⟨o1, o2⟩ := all2_ex ho
        rw [ups_len] at o1
        refine ⟨xs, rfl, by omega, ?_⟩
        refine w_nilW [some (drw dr), none, some (val (tInt (K := K)) far), some (val (tInt (K := K)) (1 + high)), some (val (tInt (K := K)) (1 + wide)), some (ownL (tTup (tCol K)) (xs ++ [os.filterMap id])), none, none] (by walk_at "wk") ⟨_, by rw [List.length_append, hx1]; rfl, fun l hl => ?_, rfl⟩
        rcases List.mem_append.mp hl with q | q
        · exact hx2 l q
        · obtain rfl : l = os.filterMap id := by simpa using q
          exact ⟨by omega, o2⟩
    · rintro G ⟨xs, hx1, hx2, rfl⟩
      rw [ups_len] at hx1
      refine w_frz 5 rfl (w_cons (w_ret (ew_tupleL T.bi rfl (ew_name rfl rfl rfl ⟨rfl, xs.length, (1 + wide).toNat, ?_⟩))))
      exact ⟨rfl, fun r hr => (hx2 r hr).1, by omega, by omega, fun r hr m hm => (hx2 r hr).2 m hm⟩
end
section
/-! ### the cells of the law's sheet -/
def rowK (r : Nat) : Nat → List (Int × Int)
  | 0 => []
  | c + 1 => rowK r c ++ [((r : Int), (c : Int))]
def allK (w : Nat) : Nat → List (Int × Int)
  | 0 => []
  | r + 1 => allK w r ++ rowK r w
theorem rowK_mem {r : Nat} {z : Int × Int} : ∀ {n : Nat}, z ∈ rowK r n ↔ ∃ c : Nat, c < n ∧ z = ((r : Int), (c : Int))
  | 0 => ⟨(fun h => nomatch h), fun ⟨c, h, _⟩ => absurd h (Nat.not_lt_zero _)⟩
  | n + 1 => by
    show z ∈ rowK r n ++ _ ↔ _
    rw [List.mem_append, rowK_mem, List.mem_singleton]
    constructor
    · rintro (⟨c, h1, h2⟩ | h)
      · exact ⟨c, by omega, h2⟩
      · exact ⟨n, by omega, h⟩
    · rintro ⟨c, h1, h2⟩
      by_cases e : c = n
      · exact .inr (by rw [h2, e])
      · exact .inl ⟨c, by omega, h2⟩
theorem allK_mem {w : Nat} {z : Int × Int} : ∀ {n : Nat}, z ∈ allK w n ↔ ∃ r c : Nat, r < n ∧ c < w ∧ z = ((r : Int), (c : Int))
  | 0 => ⟨(fun h => nomatch h), fun ⟨r, c, h, _⟩ => absurd h (Nat.not_lt_zero _)⟩
  | n + 1 => by
    show z ∈ allK w n ++ _ ↔ _
    rw [List.mem_append, allK_mem, rowK_mem]
    constructor
    · rintro (⟨r, c, h1, h2, h3⟩ | ⟨c, h1, h2⟩)
      · exact ⟨r, c, by omega, h2, h3⟩
      · exact ⟨n, c, by omega, h1, h2⟩
    · rintro ⟨r, c, h1, h2, h3⟩
      by_cases e : r = n
      · exact .inr ⟨c, h2, by rw [h3, e]⟩
      · exact .inl ⟨r, c, by omega, h2, h3⟩
theorem rowK_len {r : Nat} : ∀ n, (rowK r n).length = n
  | 0 => rfl
  | n + 1 => by
    show (rowK r n ++ _).length = _
    rw [List.length_append, rowK_len n]
    rfl
theorem allK_len {w : Nat} : ∀ n, (allK w n).length = n * w
  | 0 => (Nat.zero_mul w).symm
  | n + 1 => by
    show (allK w n ++ _).length = _
    rw [List.length_append, allK_len n, rowK_len, Nat.succ_mul]
theorem pr_eq {a b c d : Int} (h : (a, b) = (c, d)) : a = c ∧ b = d := Prod.mk.inj h
theorem rowK_nd {r : Nat} : ∀ n, (rowK r n).Nodup
  | 0 => List.nodup_nil
  | n + 1 => by
    show (rowK r n ++ _).Nodup
    rw [List.nodup_append]
    refine ⟨rowK_nd n, by simp, fun a ha b hb e => ?_⟩
    obtain rfl := List.mem_singleton.mp hb
    subst e
    obtain ⟨c, h1, h2⟩ := rowK_mem.mp ha
    have := (pr_eq h2).2
    omega
theorem allK_nd {w : Nat} : ∀ n, (allK w n).Nodup
  | 0 => List.nodup_nil
  | n + 1 => by
    show (allK w n ++ _).Nodup
    rw [List.nodup_append]
    refine ⟨allK_nd n, rowK_nd w, fun a ha b hb e => ?_⟩
    subst e
    obtain ⟨r, c, h1, h2, h3⟩ := allK_mem.mp ha
    obtain ⟨c', h4, h5⟩ := rowK_mem.mp hb
    rw [h3] at h5
    have := (pr_eq h5).1
    omega
/-! ### what is left is what stands at the rim -/
structure Rim (h w : Nat) (rim : List (Int × Int)) : Prop where
  nd : rim.Nodup
  on : ∀ z, z ∈ rim → z.1 = h ∨ z.2 = w
  all : ∀ r c : Nat, r ≤ h → c ≤ w → (r = h ∨ c = w) → ((r : Int), (c : Int)) ∈ rim
theorem rim_of {h w : Nat} : Rim h w ((allK (w + 1) (h + 1)).filter fun z => decide (z.1 = (h : Int) ∨ z.2 = (w : Int))) := by
  refine ⟨(allK_nd _).filter _, fun z hz => ?_, fun r c hr hc hz => ?_⟩
  · exact of_decide_eq_true (List.mem_filter.mp hz).2
  · refine List.mem_filter.mpr ⟨allK_mem.mpr ⟨r, c, by omega, by omega, rfl⟩, decide_eq_true ?_⟩
    show (r : Int) = h ∨ (c : Int) = w
    omega
theorem sum_same {α : Type} {f g : α → Int} : ∀ {l : List α}, (∀ x, x ∈ l → f x = g x) → (l.map f).sum = (l.map g).sum
  | [], _ => rfl
  | x :: l, h => by
    rw [List.map_cons, List.map_cons, List.sum_cons, List.sum_cons, h x List.mem_cons_self, sum_same fun y hy => h y (List.mem_cons_of_mem _ hy)]
theorem sum_one {α : Type} {f g : α → Int} {z : α} {d : Int} : ∀ {l : List α}, l.Nodup → z ∈ l → (∀ x, x ∈ l → x ≠ z → g x = f x) → g z = f z + d → (l.map g).sum = (l.map f).sum + d
  | [], _, hz, _, _ => nomatch hz
  | x :: l, hn, hz, h, hd => by
    rw [List.nodup_cons] at hn
    rw [List.map_cons, List.map_cons, List.sum_cons, List.sum_cons]
    rcases List.mem_cons.mp hz with rfl | hz
    · rw [hd, sum_same (f := g) (g := f) fun y hy => h y (List.mem_cons_of_mem _ hy) (by intro e; subst e; exact hn.1 hy)]
      omega
    · rw [h x List.mem_cons_self (by intro e; subst e; exact hn.1 hz), sum_one hn.2 hz (fun y hy => h y (List.mem_cons_of_mem _ hy)) hd]
      omega
theorem sum_zero {α : Type} : ∀ l : List α, (l.map fun _ => (0 : Int)).sum = 0
  | [] => rfl
  | x :: l => by
    rw [List.map_cons, List.sum_cons, sum_zero l]
    rfl
def Lft (rim : List (Int × Int)) (st : S2) : Prop := ∀ k, k < 3 → (rim.map fun z => cm k (st.s z.1 z.2)).sum = cm k st.left
theorem lft_put {h w a b : Nat} {rim : List (Int × Int)} {m : List Int} {st : S2} (R : Rim h w rim) (l : L3 st) (hm : m.length = 3) (ha : a ≤ h) (hb : b ≤ w) (k : Lft rim st) : Lft rim (putS h w ((a : Int), (b : Int)) m st) := fun q hq => by
  by_cases hz : a = h ∨ b = w
  · have e1 : (putS h w ((a : Int), (b : Int)) m st).left = plusL st.left m := if_pos (by show (a : Int) = h ∨ (b : Int) = w; omega)
    rw [e1, cm_plus l.l hm hq, ← k q hq]
    refine sum_one R.nd (R.all a b ha hb hz) (fun z hz' hne => ?_) ?_
    · rw [put_at fun e => hne (Prod.ext e.1 e.2)]
    · show cm q ((putS h w ((a : Int), (b : Int)) m st).s a b) = cm q (st.s a b) + cm q m
      have : (putS h w ((a : Int), (b : Int)) m st).s a b = plusL (st.s a b) m := if_pos ⟨rfl, rfl⟩
      rw [this, cm_plus (l.s _ _) hm hq]
  · have e1 : (putS h w ((a : Int), (b : Int)) m st).left = st.left := if_neg (by show ¬ ((a : Int) = h ∨ (b : Int) = w); omega)
    rw [e1, ← k q hq]
    refine sum_same fun z hz' => ?_
    have := R.on z hz'
    rw [put_at (by show ¬ (z.1 = (a : Int) ∧ z.2 = (b : Int)); omega)]
section
variable {gs : List Gl} {pic : List (List (List Int))} {h w : Nat} {rim : List (Int × Int)}
theorem lft_step (R : Rim h w rim) (hp : PicOk pic h w) {r c : Nat} (hr : r < h) (hc : c < w) {st : S2} (l : L3 st) (k : Lft rim st) : Lft rim (stepS gs pic h w r c st) := by
  have he := err_l (gs := gs) (wish_l hp hr hc l)
  exact lft_put (a := r + 1) (b := c) R (l.put (h := h) (w := w) (z := ((r : Int), ((c + 1 : Nat) : Int))) (len_half he)) (len_minus he (len_half he)) (by omega) (by omega) (lft_put (a := r) (b := c + 1) R l (len_half he) (by omega) (by omega) k)
theorem lft_row (R : Rim h w rim) (hp : PicOk pic h w) {r : Nat} (hr : r < h) {st : S2} (l : L3 st) (k : Lft rim st) : ∀ c, c ≤ w → Lft rim (rowS gs pic h w r st c)
  | 0, _ => k
  | c + 1, hc => lft_step R hp hr (by omega) (L3.row hp hr l c (by omega)) (lft_row R hp hr l k c (by omega))
theorem lft_all (R : Rim h w rim) (hp : PicOk pic h w) : ∀ r, r ≤ h → Lft rim (allS gs pic h w r)
  | 0, _ => fun q hq => by
    have e : ∀ z : Int × Int, cm q (nouS.s z.1 z.2) = 0 := fun z => by
      match q, hq with
      | 0, _ => rfl
      | 1, _ => rfl
      | 2, _ => rfl
    have e2 : cm q nouS.left = 0 := e (0, 0)
    show (rim.map fun z => cm q (nouS.s z.1 z.2)).sum = cm q nouS.left
    rw [e2, sum_same (g := fun _ => 0) fun z _ => e z]
    exact sum_zero rim
  | r + 1, hr => lft_row R hp (by omega) (L3.all hp r (by omega)) (lft_all R hp r (by omega)) w (Nat.le_refl _)
theorem rim_left (hp : PicOk pic h w) (R : Rim h w rim) : [(rim.map fun z => cm 0 ((allS gs pic h w h).s z.1 z.2)).sum, (rim.map fun z => cm 1 ((allS gs pic h w h).s z.1 z.2)).sum, (rim.map fun z => cm 2 ((allS gs pic h w h).s z.1 z.2)).sum] = (allS gs pic h w h).left := by
  have k := lft_all (gs := gs) R hp h (Nat.le_refl _)
  rw [k 0 (by omega), k 1 (by omega), k 2 (by omega)]
  have l := (L3.all (gs := gs) hp h (Nat.le_refl _)).l
  generalize (allS gs pic h w h).left = lf at l
  match lf, l with
  | [x, y, z], _ => rfl
end
/-! ### number by number -/
def mix (k : Nat) (a m : List Int) : List Int := (plusL a m).take k ++ a.drop k
theorem mix_0 {a m : List Int} : mix 0 a m = a := rfl
theorem mix_3 {a m : List Int} (ha : a.length = 3) (hm : m.length = 3) : mix 3 a m = plusL a m := by
  match a, m, ha, hm with
  | [_, _, _], [_, _, _], _, _ => rfl
theorem mix_set {a m : List Int} (ha : a.length = 3) (hm : m.length = 3) {k : Nat} (hk : k < 3) : (mix k a m).set k (cm k a + cm k m) = mix (k + 1) a m := by
  match a, m, ha, hm, k, hk with
  | [_, _, _], [_, _, _], _, _, 0, _ => rfl
  | [_, _, _], [_, _, _], _, _, 1, _ => rfl
  | [_, _, _], [_, _, _], _, _, 2, _ => rfl
theorem mix_len {a m : List Int} (ha : a.length = 3) (hm : m.length = 3) {k : Nat} (hk : k ≤ 3) : (mix k a m).length = 3 := by
  match a, m, ha, hm, k, hk with
  | [_, _, _], [_, _, _], _, _, 0, _ => rfl
  | [_, _, _], [_, _, _], _, _, 1, _ => rfl
  | [_, _, _], [_, _, _], _, _, 2, _ => rfl
  | [_, _, _], [_, _, _], _, _, 3, _ => rfl
theorem mix_at {a m : List Int} (ha : a.length = 3) (hm : m.length = 3) {k : Nat} (hk : k < 3) : (mix k a m)[k]? = some (cm k a) := by
  match a, m, ha, hm, k, hk with
  | [_, _, _], [_, _, _], _, _, 0, _ => rfl
  | [_, _, _], [_, _, _], _, _, 1, _ => rfl
  | [_, _, _], [_, _, _], _, _, 2, _ => rfl
theorem cm_half {k : Nat} {a : List Int} (ha : a.length = 3) (hk : k < 3) : cm k (halfL a) = cm k a / 2 := by
  match a, ha, k, hk with
  | [_, _, _], _, 0, _ => rfl
  | [_, _, _], _, 1, _ => rfl
  | [_, _, _], _, 2, _ => rfl
/-- the sheet within the numbers of a cell: i numbers put at the one, j at the other -/
def sMix (s : Int → Int → List Int) (z y : Int × Int) (i j : Nat) (m n : List Int) : Int → Int → List Int := fun r c =>
  if r = z.1 ∧ c = z.2 then mix i (s r c) m else if r = y.1 ∧ c = y.2 then mix j (s r c) n else s r c
theorem sMix_0 {s : Int → Int → List Int} {z y : Int × Int} {m n : List Int} : sMix s z y 0 0 m n = s := by
  funext r c
  unfold sMix
  rw [mix_0, mix_0]
  split <;> (try split) <;> rfl
theorem sMix_3 {h w : Nat} {st : S2} {z y : Int × Int} {m n : List Int} (l : ∀ r c, (st.s r c).length = 3) (hm : m.length = 3) (hn : n.length = 3) (hne : z ≠ y) : sMix st.s z y 3 3 m n = (putS h w y n (putS h w z m st)).s := by
  funext r c
  show _ = addS (addS st.s z m) y n r c
  unfold sMix addS
  rw [mix_3 (l r c) hm, mix_3 (l r c) hn]
  by_cases h1 : r = z.1 ∧ c = z.2
  · rw [if_pos h1, if_neg fun h2 => hne (Prod.ext (h1.1.symm.trans h2.1) (h1.2.symm.trans h2.2)), if_pos h1]
  · rw [if_neg h1]
    by_cases h2 : r = y.1 ∧ c = y.2
    · rw [if_pos h2, if_pos h2, if_neg h1]
    · rw [if_neg h2, if_neg h2, if_neg h1]
theorem sMix_z {s : Int → Int → List Int} {z y : Int × Int} {m n : List Int} {i j : Nat} (l : ∀ r c, (s r c).length = 3) (hm : m.length = 3) (hi : i < 3) : (fun r c => if r = z.1 ∧ c = z.2 then (sMix s z y i j m n r c).set i (cm i (s z.1 z.2) + cm i m) else sMix s z y i j m n r c) = sMix s z y (i + 1) j m n := by
  funext r c
  unfold sMix
  by_cases h1 : r = z.1 ∧ c = z.2
  · rw [if_pos h1, if_pos h1, if_pos h1, h1.1, h1.2, mix_set (l _ _) hm hi]
  · rw [if_neg h1, if_neg h1, if_neg h1]
theorem sMix_y {s : Int → Int → List Int} {z y : Int × Int} {m n : List Int} {i j : Nat} (l : ∀ r c, (s r c).length = 3) (hn : n.length = 3) (hj : j < 3) (hne : z ≠ y) : (fun r c => if r = y.1 ∧ c = y.2 then (sMix s z y i j m n r c).set j (cm j (s y.1 y.2) + cm j n) else sMix s z y i j m n r c) = sMix s z y i (j + 1) m n := by
  funext r c
  unfold sMix
  by_cases h2 : r = y.1 ∧ c = y.2
  · have h1 : ¬ (r = z.1 ∧ c = z.2) := fun h1 => hne (Prod.ext (h1.1.symm.trans h2.1) (h1.2.symm.trans h2.2))
    rw [if_pos h2, if_neg h1, if_pos h2, if_neg h1, if_pos h2, h2.1, h2.2, mix_set (l _ _) hn hj]
  · rw [if_neg h2, if_neg h2, if_neg h2]
theorem sMix_at1 {s : Int → Int → List Int} {z y : Int × Int} {m n : List Int} {i j : Nat} : sMix s z y i j m n z.1 z.2 = mix i (s z.1 z.2) m := if_pos ⟨rfl, rfl⟩
theorem sMix_at2 {s : Int → Int → List Int} {z y : Int × Int} {m n : List Int} {i j : Nat} (hne : z ≠ y) : sMix s z y i j m n y.1 y.2 = mix j (s y.1 y.2) n := by
  unfold sMix
  rw [if_neg fun h1 => hne (Prod.ext h1.1.symm h1.2.symm), if_pos ⟨rfl, rfl⟩]
end
section
theorem gl_ok {gs : List Gl} (h : IsGl gs) : GlsOk gs := ⟨fun z => by have := h.h1; rw [z] at this; exact absurd this (by decide), h.h2, h.nb, fun g hg => by
  obtain ⟨z, e, _⟩ := h.nm g hg
  rw [e]; rfl⟩
variable {gs : List Gl} {pic : List (List (List Int))} {h w : Nat}
theorem gl_near (hg : IsGl gs) (ws : List Int) : near gs ws ∈ gs := near_in (gl_ok hg).ne
theorem gl_len (hg : IsGl gs) (ws : List Int) : (near gs ws).1.length = 1 := (gl_ok hg).nm _ (gl_near hg ws)
theorem dr_len : (allT gs pic h w h).length = h := by rw [allT_eq, List.length_map, List.length_range]
theorem dr_row (hg : IsGl gs) {s : Str} (hs : s ∈ allT gs pic h w h) : s.length = w := by
  rw [allT_eq] at hs
  obtain ⟨r, _, rfl⟩ := List.mem_map.mp hs
  exact rowT_len (gl_len hg) w
theorem dr_let (hg : IsGl gs) {s l : Str} (hs : s ∈ allT gs pic h w h) (hl : l ∈ Px.signs s) : ∃ g, g ∈ gs ∧ g.1 = l := by
  rw [allT_eq] at hs
  obtain ⟨r, _, rfl⟩ := List.mem_map.mp hs
  rw [rowT_signs (gl_len hg)] at hl
  obtain ⟨c, _, rfl⟩ := List.mem_map.mp hl
  exact ⟨_, gl_near hg _, rfl⟩
theorem dr_abc (hg : IsGl gs) {s : Str} (hs : s ∈ allT gs pic h w h) : s.cps.toList.all isAbc = true := by
  rw [List.all_eq_true]
  intro z hz
  obtain ⟨g, hg1, hg2⟩ := dr_let hg hs (l := sg z) (by unfold Px.signs; exact List.mem_map_of_mem hz)
  obtain ⟨z', e, hz'⟩ := hg.nm g hg1
  rw [e] at hg2
  rw [← sg_inj hg2]
  exact hz'
theorem asc_abc {z : Nat} (h : isAbc z = true) : z < 128 := by
  have h1 : asc abcS = true := by decide +kernel
  unfold asc at h1
  rw [Array.all_eq_true_iff_forall_mem] at h1
  have h2 := h1 z (by simpa using of_decide_eq_true h)
  simpa using h2
theorem asc_all {s : Str} (h : s.cps.toList.all isAbc = true) : asc s = true := by
  unfold asc
  rw [Array.all_eq_true_iff_forall_mem]
  intro z hz
  have := List.all_eq_true.mp h z (by simpa using hz)
  simpa using asc_abc this
theorem dr_asc (hg : IsGl gs) {s : Str} (hs : s ∈ allT gs pic h w h) : asc s = true := asc_all (dr_abc hg hs)
/-- as data -/
def ldD (r : List Str × List Int) : PyData := .tuple [.tuple (r.1.map .str), .tuple (r.2.map .int)]
theorem eqv_strs : ∀ rows : List Str, PyData.eqv (.tuple (rows.map .str)) (.tuple (rows.map .str)) = true
  | [] => rfl
  | r :: rows => by
    have ih := eqv_strs rows
    show ((r == r) && PyData.eqv (.tuple (rows.map .str)) (.tuple (rows.map .str))) = true
    rw [ih]
    simp
theorem eqv_ints : ∀ ns : List Int, PyData.eqv (.tuple (ns.map .int)) (.tuple (ns.map .int)) = true
  | [] => rfl
  | n :: ns => by
    have ih := eqv_ints ns
    show ((n == n) && PyData.eqv (.tuple (ns.map .int)) (.tuple (ns.map .int))) = true
    rw [ih]
    simp
theorem ld_eqv (r : List Str × List Int) : PyData.eqv (ldD r) (ldD r) = true := by
  show (PyData.eqv _ _ && (PyData.eqv _ _ && true)) = true
  rw [eqv_strs, eqv_ints]
  rfl
theorem strs_sm {rows : List Str} (h : ∀ s, s ∈ rows → asc s = true) : (PyData.tuple (rows.map .str)).canLay0 = true ∧ (PyData.tuple (rows.map .str)).depth ≤ 1 := by
  refine ⟨?_, ?_⟩
  · rw [PyData.canLay0]
    refine layAll_of fun d hd => ?_
    obtain ⟨s, hs, rfl⟩ := List.mem_map.mp hd
    rw [PyData.canLay0]
    exact asc_ok (h s hs)
  · rw [PyData.depth]
    refine Nat.succ_le_succ (depthAll_of fun d hd => ?_)
    obtain ⟨s, hs, rfl⟩ := List.mem_map.mp hd
    exact Nat.zero_le _
theorem ints_sm (ns : List Int) : (PyData.tuple (ns.map .int)).canLay0 = true ∧ (PyData.tuple (ns.map .int)).depth ≤ 1 := by
  refine ⟨?_, ?_⟩
  · rw [PyData.canLay0]
    refine layAll_of fun d hd => ?_
    obtain ⟨s, hs, rfl⟩ := List.mem_map.mp hd
    rfl
  · rw [PyData.depth]
    refine Nat.succ_le_succ (depthAll_of fun d hd => ?_)
    obtain ⟨s, hs, rfl⟩ := List.mem_map.mp hd
    exact Nat.zero_le _
theorem strs_shaped {rows : List Str} (h : ∀ s, s ∈ rows → asc s = true) : SeqAt.shaped (.tuple (rows.map .str)) = true := by
  obtain ⟨a1, a2⟩ := strs_sm h
  unfold SeqAt.shaped
  rw [a1]
  simp
  omega
theorem ld_shaped {r : List Str × List Int} (h : ∀ s, s ∈ r.1 → asc s = true) : SeqAt.shaped (ldD r) = true := by
  obtain ⟨a1, a2⟩ := strs_sm h
  obtain ⟨b1, b2⟩ := ints_sm r.2
  unfold SeqAt.shaped ldD
  have e1 : (PyData.tuple [.tuple (r.1.map .str), .tuple (r.2.map .int)]).canLay0 = true := by
    rw [PyData.canLay0]
    refine layAll_of fun d hd => ?_
    simp only [List.mem_cons, List.not_mem_nil, or_false] at hd
    rcases hd with rfl | rfl
    · exact a1
    · exact b1
  have e2 : (PyData.tuple [.tuple (r.1.map .str), .tuple (r.2.map .int)]).depth ≤ 2 := by
    rw [PyData.depth]
    refine Nat.succ_le_succ (depthAll_of fun d hd => ?_)
    simp only [List.mem_cons, List.not_mem_nil, or_false] at hd
    rcases hd with rfl | rfl
    · exact a2
    · exact b2
  rw [e1]
  simp
  omega
theorem dr_shaped (hg : IsGl gs) (l : List Int) : SeqAt.shaped (ldD (allT gs pic h w h, l)) = true := ld_shaped fun s hs => dr_asc hg hs
/-! the sums -/
theorem wish_sum (hp : PicOk pic h w) (k : Nat) : (pic.map fun row => (row.map (cm k)).sum).sum = sumC h w fun r c => cm k ((pic.getD r []).getD c []) := by
  rw [list_sumN _ [], hp.hl]
  refine sumN_congr fun r hr => ?_
  have hm : pic.getD r [] ∈ pic := List.mem_of_getElem? (pic_at hp hr (show 0 < w by have := hp.w8; omega)).2.1
  rw [list_sumN _ [], hp.hw _ hm]
theorem put_sum (hg : IsGl gs) {tb : Str → Option (List Int)} (ht : ∀ g, g ∈ gs → tb g.1 = some (colL g)) (k : Nat) : ((allT gs pic h w h).map fun row => ((Px.signs row).map fun l => cm k ((tb l).getD [])).sum).sum = sumC h w fun r c => cm k (colL (glAt gs pic h w r c)) := by
  rw [allT_eq, List.map_map, sumN_range]
  refine sumN_congr fun r hr => ?_
  show ((Px.signs (rowT gs pic h w r (allS gs pic h w r) w)).map _).sum = _
  rw [rowT_signs (gl_len hg), List.map_map, sumN_range]
  refine sumN_congr fun c hc => ?_
  show cm k ((tb (near gs (wishAt pic (rowS gs pic h w r (allS gs pic h w r) c) r c)).1).getD []) = _
  rw [ht _ (gl_near hg _)]
  rfl
theorem left_sum (hg : IsGl gs) (hp : PicOk pic h w) {tb : Str → Option (List Int)} (ht : ∀ g, g ∈ gs → tb g.1 = some (colL g)) {k : Nat} (hk : k < 3) :
    (pic.map fun row => (row.map (cm k)).sum).sum = ((allT gs pic h w h).map fun row => ((Px.signs row).map fun l => cm k ((tb l).getD [])).sum).sum + cm k (allS gs pic h w h).left := by
  rw [wish_sum hp, put_sum hg ht, all_there hp hk]
theorem left_len (hp : PicOk pic h w) : (allS gs pic h w h).left.length = 3 := (L3.all hp h (Nat.le_refl _)).l
/-! pictures of glasses -/
theorem map_at {α β : Type} {f : α → β} {l : List α} {i : Nat} {d : β} {x : α} (hx : l[i]? = some x) : (l.map f).getD i d = f x := by
  rw [List.getD_eq_getElem?_getD, List.getElem?_map, hx]
  rfl
theorem same_ok (hp : PicOk pic h w) {g : Gl} (hb : (0 ≤ g.2.1 ∧ g.2.1 ≤ 255) ∧ (0 ≤ g.2.2.1 ∧ g.2.2.1 ≤ 255) ∧ (0 ≤ g.2.2.2 ∧ g.2.2.2 ≤ 255)) : PicOk (pic.map fun row => row.map fun _ => colL g) h w := by
  refine ⟨by rw [List.length_map, hp.hl], fun row hr => ?_, hp.h8, hp.w8, fun row hr m hm => ?_⟩
  · obtain ⟨r, hr', rfl⟩ := List.mem_map.mp hr
    rw [List.length_map, hp.hw r hr']
  · obtain ⟨r, hr, rfl⟩ := List.mem_map.mp hr
    obtain ⟨_, _, rfl⟩ := List.mem_map.mp hm
    refine ⟨rfl, fun z hz => ?_⟩
    have hz : z ∈ [g.2.1, g.2.2.1, g.2.2.2] := hz
    simp only [List.mem_cons, List.not_mem_nil, or_false] at hz
    omega
theorem same_ex (hp : PicOk pic h w) {f : Gl} {t : List Gl} : Ex (f :: t) (pic.map fun row => row.map fun _ => colL f) h w fun _ _ => f := by
  refine ⟨fun r c hr hc => ?_, fun r c hr hc => near_self (i := 0) rfl fun j y _ _ => Nat.zero_le _⟩
  obtain ⟨_, h1, h2⟩ := pic_at hp hr hc
  rw [map_at h1, map_at h2]
theorem ex_ld {gr : Nat → Nat → Gl} {pic' : List (List (List Int))} (e : Ex gs pic' h w gr) : (allS gs pic' h w h).left = [0, 0, 0] := (ex_all e h (Nat.le_refl _)).2
theorem rep_rows {s : Str} {gs : List Gl} {pic' : List (List (List Int))} (hp : PicOk pic h w) (hn : ∀ r c, r < h → c < w → (glAt gs pic' h w r c).1 = s) : allT gs pic' h w h = pic.map fun _ => repS s w := by
  rw [allT_eq, List.map_const', ← hp.hl]
  rw [show List.replicate pic.length (repS s w) = (List.range pic.length).map fun _ => repS s w by rw [List.map_const', List.length_range]]
  refine List.map_congr_left fun r hr => rowT_rep w fun c hc => ?_
  have := hn r c (by rw [← hp.hl]; exact List.mem_range.mp hr) hc
  unfold glAt at this
  rw [← hp.hl] at this
  exact this
theorem same_ld (hp : PicOk pic h w) {f : Gl} {t : List Gl} : LdR ((f :: t, pic.map fun row => row.map fun _ => colL f), h, w) = (pic.map (fun _ => repS f.1 w), [0, 0, 0]) := by
  have e := same_ex (f := f) (t := t) hp
  show (allT (f :: t) _ h w h, (allS (f :: t) _ h w h).left) = _
  rw [ex_ld e, rep_rows hp fun r c hr hc => by rw [ex_gl e hr hc]]
theorem one_ld (hp : PicOk pic h w) {f : Gl} : (LdR (([f], pic), h, w)).1 = pic.map fun _ => repS f.1 w := by
  refine rep_rows hp fun r c hr hc => ?_
  have := near_in (gs := [f]) (ws := wishAt pic (rowS [f] pic h w r (allS [f] pic h w r) c) r c) (by simp)
  have : near [f] (wishAt pic (rowS [f] pic h w r (allS [f] pic h w r) c) r c) = f := by simpa using this
  unfold glAt
  rw [this]
theorem more_ld {f z : Gl} {t : List Gl} (hz : colL z = colL f) : LdR (((f :: t) ++ [z], pic), h, w) = LdR ((f :: t, pic), h, w) := by
  show (_, _) = (_, _)
  rw [allT_congr fun ws => near_more hz ws, all_congr fun ws => near_more hz ws]
theorem again_eq (hg : IsGl gs) {tb : Str → Option (List Int)} (ht : ∀ g, g ∈ gs → tb g.1 = some (colL g)) : ((allT gs pic h w h).map fun row => (Px.signs row).map fun l => (tb l).getD []) = (List.range h).map fun r => (List.range w).map fun c => colL (glAt gs pic h w r c) := by
  rw [allT_eq, List.map_map]
  refine List.map_congr_left fun r hr => ?_
  show (Px.signs (rowT gs pic h w r (allS gs pic h w r) w)).map _ = _
  rw [rowT_signs (gl_len hg), List.map_map]
  refine List.map_congr_left fun c hc => ?_
  show (tb (near gs (wishAt pic (rowS gs pic h w r (allS gs pic h w r) c) r c)).1).getD [] = _
  rw [ht _ (gl_near hg _)]
  rfl
theorem again_ok (hg : IsGl gs) (hp : PicOk pic h w) : PicOk ((List.range h).map fun r => (List.range w).map fun c => colL (glAt gs pic h w r c)) h w := by
  refine ⟨by rw [List.length_map, List.length_range], fun row hr => ?_, hp.h8, hp.w8, fun row hr m hm => ?_⟩
  · obtain ⟨r, hr, rfl⟩ := List.mem_map.mp hr
    rw [List.length_map, List.length_range]
  · obtain ⟨r, hr, rfl⟩ := List.mem_map.mp hr
    obtain ⟨c, _, rfl⟩ := List.mem_map.mp hm
    refine ⟨rfl, fun z hz => ?_⟩
    have hb := hg.nb _ (gl_near hg (wishAt pic (rowS gs pic h w r (allS gs pic h w r) c) r c))
    have hz : z ∈ [(near gs (wishAt pic (rowS gs pic h w r (allS gs pic h w r) c) r c)).2.1, (near gs (wishAt pic (rowS gs pic h w r (allS gs pic h w r) c) r c)).2.2.1, (near gs (wishAt pic (rowS gs pic h w r (allS gs pic h w r) c) r c)).2.2.2] := hz
    simp only [List.mem_cons, List.not_mem_nil, or_false] at hz
    omega
theorem near_own (hn : (gs.map colL).Nodup) {g : Gl} (hg : g ∈ gs) : near gs (colL g) = g := by
  obtain ⟨i, hi⟩ := List.getElem?_of_mem hg
  refine near_self hi fun j y hj hc => ?_
  obtain ⟨i1, i2⟩ := List.getElem?_eq_some_iff.mp hi
  obtain ⟨j1, j2⟩ := List.getElem?_eq_some_iff.mp hj
  have : (gs.map colL)[i]'(by rw [List.length_map]; exact i1) = (gs.map colL)[j]'(by rw [List.length_map]; exact j1) := by
    rw [List.getElem_map, List.getElem_map, i2, j2, hc]
  have := (List.getElem_inj hn).mp this
  omega
theorem again_ld (hg : IsGl gs) (hn : (gs.map colL).Nodup) : LdR ((gs, (List.range h).map fun r => (List.range w).map fun c => colL (glAt gs pic h w r c)), h, w) = (allT gs pic h w h, [0, 0, 0]) := by
  have e : Ex gs ((List.range h).map fun r => (List.range w).map fun c => colL (glAt gs pic h w r c)) h w fun r c => glAt gs pic h w r c := by
    refine ⟨fun r c hr hc => ?_, fun r c hr hc => near_own hn (gl_near hg _)⟩
    rw [map_at (show (List.range h)[r]? = some r by rw [List.getElem?_range hr]), map_at (show (List.range w)[c]? = some c by rw [List.getElem?_range hc])]
  show (allT gs _ h w h, (allS gs _ h w h).left) = _
  rw [ex_ld e, allT_eq, allT_eq]
  congr 1
  refine List.map_congr_left fun r hr => rowT_congr w fun c hc => ?_
  exact congrArg (fun g : Gl => g.1) (ex_gl e (List.mem_range.mp hr) hc)
theorem glAt_zero (hp : PicOk pic h w) : glAt gs pic h w 0 0 = near gs ((pic.getD 0 []).getD 0 []) := by
  obtain ⟨hc, _, _⟩ := pic_at hp (r := 0) (c := 0) (by have := hp.h8; omega) (by have := hp.w8; omega)
  obtain ⟨x, y, z, e, _⟩ := hc.three
  unfold glAt
  congr 1
  show plusL ((pic.getD 0 []).getD 0 []) [0, 0, 0] = _
  rw [e]
  show [x + 0, y + 0, z + 0] = _
  rw [Int.add_zero, Int.add_zero, Int.add_zero]
theorem first_sign (hg : IsGl gs) (hp : PicOk pic h w) : ∃ row z, (allT gs pic h w h)[0]? = some row ∧ row.cps.toList[0]? = some z ∧ sg z = (near gs ((pic.getD 0 []).getD 0 [])).1 := by
  have h8 := hp.h8
  have w8 := hp.w8
  have e := rowT_signs (gl_len hg) (pic := pic) (h := h) (w := w) (r := 0) (st := allS gs pic h w 0) w
  have e1 : (allT gs pic h w h)[0]? = some (rowT gs pic h w 0 (allS gs pic h w 0) w) := by
    rw [allT_eq, List.getElem?_map, List.getElem?_range (by omega)]
    rfl
  have e2 : (Px.signs (rowT gs pic h w 0 (allS gs pic h w 0) w))[0]? = some (glAt gs pic h w 0 0).1 := by
    rw [e, List.getElem?_map, List.getElem?_range (by omega)]
    rfl
  rw [glAt_zero hp] at e2
  unfold Px.signs at e2
  rw [List.getElem?_map, Option.map_eq_some_iff] at e2
  obtain ⟨z, hz1, hz2⟩ := e2
  exact ⟨_, z, e1, hz1, hz2⟩
theorem atI_last {α : Type} {xs : List α} (h : xs ≠ []) : ∃ x, atI xs (-1) = some x ∧ x ∈ xs := by
  have hl : 0 < xs.length := List.length_pos_iff.mpr h
  have e : atI xs (-1) = xs[xs.length - 1]? := by
    unfold atI ixN
    rw [if_neg (by omega), if_pos (by omega)]
    show xs[_]? = _
    congr 1
    omega
  rw [e, List.getElem?_eq_getElem (by omega)]
  exact ⟨_, rfl, List.getElem_mem _⟩
end
section
variable {P : Program} {w : World} {K : PySem.W.Frag} {mg : Str → Option Value} {base : Heap} {lv : Nat} {N : List Str} {sc : Scope} {fn : Str → Bool}
variable {α ρ : Type} {c : Ctx P w K mg base lv N sc fn} {Γ : Gm} {a b : Expr} {pos pt pt2 px py : Pos} {T : Ty K α} {R : Rs ρ} {rt : Gm → ρ → Prop} {nx bk ct : Gm → Prop}
/-- x, y = a, b, where a comprehension reads y alone -/
theorem w_par2C {x y : Str} {kt k2} (hx : sc.names.lookup x = some .local) (hy : sc.names.lookup y = some .cell) (hk : sc.kind = .function)
    (h : EW c Γ (.Tuple [a, b] k2 pt2) T fun Γ1 z => GW c (fun _ => True) Γ1 (.Tuple [.Name x px, .Name y py] kt pt) T z fun Γ2 => nx Γ2)
    (hw : ∀ env : Env, env.blockKind = .function → env.kindOf x = some .local → env.kindOf y = some .cell → swappedStores [.Tuple [.Name x px, .Name y py] kt pt] (.Tuple [a, b] k2 pt2) env = pure none := by intro env h1 h2 h3; unfold swappedStores; simp only [List.filterMap, h1, h2, h3]; rfl)
    (hs : ∀ env, swapsWithSole [.Tuple [.Name x px, .Name y py] kt pt] (.Tuple [a, b] k2 pt2) pos.line env = pure false := by intro _; rfl) :
    S1 c Γ (.Assign [.Tuple [.Name x px, .Name y py] kt pt] (.Tuple [a, b] k2 pt2) pos) (⟨R, rt, nx, bk, ct⟩ : En ρ) := fun B σ F H hB S => by
  obtain ⟨X, rfl, rfl, rfl, rfl, rfl, rfl, nd, rfl, rfl, calm, room, pas⟩ := c
  have hb : X.env.blockKind = .function := by unfold Env.blockKind; rw [hk]; rfl
  refine of_ps (ps_asg peW pgW (hs _) (hw _ hb hx hy)) (h B σ F H S _ fun v x Γ1 F1 H1 S1 e1 r1 h1 => ?_)
  exact h1 B σ F1 H1 S1 v r1 _ fun Γ2 σ2 S2 o2 h2 => ⟨Γ2, F1, S2, h2⟩
end
section
variable {P : Program} {w : World} {K : PySem.W.Frag} {mg : Str → Option Value} {base : Heap} {lv : Nat} {N : List Str} {sc : Scope} {fn : Str → Bool}
variable {α ρ : Type} {c : Ctx P w K mg base lv N sc fn} {Γ : Gm} {a b : Expr} {pos pt pt2 px py : Pos} {T : Ty K α} {R : Rs ρ} {rt : Gm → ρ → Prop} {nx bk ct : Gm → Prop}
/-- x, y = a, b, where comprehensions read both -/
theorem w_par2CC {x y : Str} {kt k2} (hx : sc.names.lookup x = some .cell) (hy : sc.names.lookup y = some .cell) (hk : sc.kind = .function)
    (h : EW c Γ (.Tuple [a, b] k2 pt2) T fun Γ1 z => GW c (fun _ => True) Γ1 (.Tuple [.Name x px, .Name y py] kt pt) T z fun Γ2 => nx Γ2)
    (hw : ∀ env : Env, env.blockKind = .function → env.kindOf x = some .cell → env.kindOf y = some .cell → swappedStores [.Tuple [.Name x px, .Name y py] kt pt] (.Tuple [a, b] k2 pt2) env = pure none := by intro env h1 h2 h3; unfold swappedStores; simp only [List.filterMap, h1, h2, h3]; rfl)
    (hs : ∀ env, swapsWithSole [.Tuple [.Name x px, .Name y py] kt pt] (.Tuple [a, b] k2 pt2) pos.line env = pure false := by intro _; rfl) :
    S1 c Γ (.Assign [.Tuple [.Name x px, .Name y py] kt pt] (.Tuple [a, b] k2 pt2) pos) (⟨R, rt, nx, bk, ct⟩ : En ρ) := fun B σ F H hB S => by
  obtain ⟨X, rfl, rfl, rfl, rfl, rfl, rfl, nd, rfl, rfl, calm, room, pas⟩ := c
  have hb : X.env.blockKind = .function := by unfold Env.blockKind; rw [hk]; rfl
  refine of_ps (ps_asg peW pgW (hs _) (hw _ hb hx hy)) (h B σ F H S _ fun v x Γ1 F1 H1 S1 e1 r1 h1 => ?_)
  exact h1 B σ F1 H1 S1 v r1 _ fun Γ2 σ2 S2 o2 h2 => ⟨Γ2, F1, S2, h2⟩
theorem ixN_nat {n j : Nat} (h : j < n) : ixN n (j : Int) = some j := by
  unfold ixN
  rw [if_pos (by omega), if_pos (by omega)]
  rfl
theorem cm_at {k : Nat} {m : List Int} (hk : k < 3) (hm : m.length = 3) : m[k]? = some (cm k m) := by
  unfold cm
  rw [List.getD_eq_getElem?_getD, List.getElem?_eq_getElem (by omega)]
  rfl
end
section
variable {P : Program} {w : World} {K : PySem.W.Frag} {mg : Str → Option Value} {base : Heap}
abbrev LV := 6
theorem asD_ld : AsD (tT2 (tTup tStr) (tCol K)) ldD := asD_T2 (asD_tup asD_str) (asD_tup asD_int)
abbrev gm63 (K : PySem.W.Frag) (W : Addr) (ns : List Int) (kk : Option Ent) (dr : Addr) (gs : List Gl) (pic : List (List (List Int))) (h wd : Nat) (sm : Option Ent) (rest : Gm) : Gm :=
  some (valT (tSeq (K := K) tInt) ns W qL) :: kk :: some (drw dr) :: some (val (tTup (tGl K)) gs) :: some (val (tPic K) pic) :: some (val (tInt (K := K)) (h : Int)) :: some (val (tInt (K := K)) (wd : Int)) :: sm :: rest
theorem ld_one : LdR (([(("a", 0, 0, 0) : Gl)], [[[3, 0, 0]]]), 1, 1) = ((["a"] : List Str), ([3, 0, 0] : List Int)) := by
  have hp : PicOk [[[3, 0, 0]]] 1 1 := ⟨rfl, fun row hr => by rw [List.mem_singleton.mp hr]; rfl, by omega, by omega, fun row hr m hm => by
    rw [List.mem_singleton.mp hr] at hm
    rw [List.mem_singleton.mp hm]
    refine ⟨rfl, fun z hz => ?_⟩
    simp only [List.mem_cons, List.not_mem_nil, or_false] at hz
    omega⟩
  have hn : ∀ ws, near [(("a", 0, 0, 0) : Gl)] ws = (("a", 0, 0, 0) : Gl) := fun ws => by
    have := near_in (gs := [(("a", 0, 0, 0) : Gl)]) (ws := ws) (by simp)
    simpa using this
  have e1 : (LdR (([(("a", 0, 0, 0) : Gl)], [[[3, 0, 0]]]), 1, 1)).1 = (["a"] : List Str) := by
    rw [one_ld hp]
    decide +kernel
  have hl := left_len (gs := [(("a", 0, 0, 0) : Gl)]) hp
  have e2 : ∀ k, k < 3 → cm k (allS [(("a", 0, 0, 0) : Gl)] [[[3, 0, 0]]] 1 1 1).left = cm k [3, 0, 0] := fun k hk => by
    have := all_there (gs := [(("a", 0, 0, 0) : Gl)]) hp hk
    have e3 : sumC 1 1 (fun r c => cm k (colL (glAt [(("a", 0, 0, 0) : Gl)] [[[3, 0, 0]]] 1 1 r c))) = 0 := by
      show 0 + (0 + cm k (colL (near _ _))) = 0
      rw [hn]
      match k, hk with
      | 0, _ => rfl
      | 1, _ => rfl
      | 2, _ => rfl
    have e4 : sumC 1 1 (fun r c => cm k (([[[3, 0, 0]]] : List (List (List Int))).getD r [] |>.getD c [])) = cm k [3, 0, 0] := by
      show 0 + (0 + cm k [3, 0, 0]) = _
      omega
    omega
  have e3 : (allS [(("a", 0, 0, 0) : Gl)] [[[3, 0, 0]]] 1 1 1).left = [3, 0, 0] := by
    generalize (allS [(("a", 0, 0, 0) : Gl)] [[[3, 0, 0]]] 1 1 1).left = lf at hl e2
    match lf, hl with
    | [x, y, z], _ =>
      have h0 : x = 3 := e2 0 (by omega)
      have h1 : y = 0 := e2 1 (by omega)
      have h2 : z = 0 := e2 2 (by omega)
      rw [h0, h1, h2]
  exact Prod.ext e1 e3
theorem law_ok {cT W : Addr} (T : Top K mg) (M : MakerAt K mg base "nearest_one" "nearest_one" s_nearest_one ["glasses", "wish"] cT W) {f : Addr} {fd : FuncData} (F : Fun K "law" "law" s_law f fd) : FnOk P w K mg base CX0 LV f fd ["script"] (spLawT K W) :=
  fn_lawTt (q := qL) F sc_law fun ns hl c => by
    have hD : Prom P w K mg base "_law_draw" 1 ["draws", "many"] (spDraw K) := p_draw T
    have hS : Prom P w K mg base "_law_draws" 1 ["script", "k"] (spDraws K) := p_draws T
    have hGl : Prom P w K mg base "_law_glasses" 3 ["draws"] (spGls K) := p_glasses T
    have hPc : Prom P w K mg base "_law_picture" 2 ["draws", "most"] (spFpic K) := p_fpic T
    have hLd : Prom P w K mg base "laid" 4 ["glasses", "picture"] (spLaid K W) := T.f_laid.prom fun f fd F => ok_laid T M f fd F
    have hLn : Prom P w K mg base "_law_nearest" 2 ["glasses_d", "wish"] (spLnear K) := p_lnear T
    have hsz : 100000 < sizeLine := by decide +kernel
    refine wt_consT ?_
    refine w_turnsTt T.bi (by decide) (by decide) rfl rfl rfl rfl rfl rfl rfl hl ?_ ?_
    · intro a0 a1 a2
      refine gw_name rfl rfl trivial (of_decide_eq_true rfl) ?_
      refine wt_cons ?_
      refine w_draws hS (by decide) rfl rfl rfl ?_
      walk_at "go"
      intro dr
      refine wt_cons (w_par2C (T := tT2 (tTup (tGl K)) (tPic K)) rfl rfl rfl (ew_tup2 (A := tTup (tGl K)) (B' := tPic K) ?_))
      refine ew_callD hGl (by decide) rfl rfl rfl rfl (ews_nil ⟨rfl, (), rfl, trivial, fun gs hgs => ?_⟩)
      have hgl : IsGl gs := hgs
      refine ew_callD hPc (by decide) rfl rfl rfl rfl (ews_cons (T := tInt) (ew_int (ews_nil ⟨rfl, 8, rfl, rfl, fun pic hpc => ?_⟩)))
      refine gw_T2 (gw_name rfl rfl trivial (of_decide_eq_true rfl) (gw_name rfl rfl trivial (of_decide_eq_true rfl) ?_))
      obtain ⟨h, wd, hp⟩ : ∃ h wd, PicOk pic h wd := hpc
      have hok := gl_ok hgl
      have hh8 := hp.h8
      have hw8 := hp.w8
      have hpl := hp.hl
      have hgl2 := hok.l12
      obtain ⟨hc0, hp0, hp1⟩ := pic_at hp (r := 0) (c := 0) (by omega) (by omega)
      have hp0l := hp.hw _ (List.mem_of_getElem? hp0)
      refine wt_cons (w_par2CC (T := tT2 tInt tInt) rfl rfl rfl (ew_tup2 (A := tInt) (B' := tInt) (ew_lenT (A := tTup (tCol K)) T.bi rfl (ew_name rfl rfl rfl (ew_lenT (A := tCol K) T.bi rfl (ew_ixT (ew_name rfl rfl rfl (ew_int ⟨_, atI_nat (j := 0) hp0, ?_⟩))))))))
      rw [hpl, hp0l]
      refine gw_T2 (gw_name rfl rfl trivial (of_decide_eq_true rfl) (gw_name rfl rfl trivial (of_decide_eq_true rfl) ?_))
      -- the sheet
      refine wt_cons (w_newM (s := nouS.s) rfl rfl ⟨of_decide_eq_true rfl, ?_⟩)
      refine wt_weak (gm63 K W ns none dr gs pic h wd (some (ownM [] nouS.s)) [none, none, none, none, none, none, none, none, none, none]) (by walk_at "wk") ?_
      have en : ∀ n : Nat, (ups 0 ((n : Int) + 1)).length = n + 1 := fun n => by rw [ups_len]; omega
      have en0 : ∀ n : Nat, (ups 0 (n : Int)).length = n := fun n => by rw [ups_len]; omega
      refine wt_cons (w_for (A := tInt) (iw_range1 T.bi rfl (ew_add (ew_name rfl rfl rfl (ew_int ⟨by omega, by omega, fun i G => G = (gm63 K W ns none dr gs pic h wd (some (ownM (allK (wd + 1) i) nouS.s)) [none, none, none, none, none, none, none, none, none, none]), rfl, ?_, ?_⟩)))))
      · rintro r x hx G rfl
        obtain ⟨e1, e2⟩ := ups_get hx
        obtain rfl : x = (r : Int) := by omega
        refine gw_name rfl rfl trivial (of_decide_eq_true rfl) ?_
        refine w_cons (w_for (A := tInt) (iw_range1 T.bi rfl (ew_add (ew_name rfl rfl rfl (ew_int ⟨by omega, by omega, fun j G => G = (gm63 K W ns none dr gs pic h wd (some (ownM (allK (wd + 1) r ++ rowK r j) nouS.s)) [some (val (tInt (K := K)) (r : Int)), none, none, none, none, none, none, none, none, none]), ?_, ?_, ?_⟩)))))
        · show (_ : Gm) = _
          rw [show allK (wd + 1) r ++ rowK r 0 = allK (wd + 1) r from List.append_nil _]
          rfl
        · rintro j y hy G rfl
          obtain ⟨e3, e4⟩ := ups_get hy
          obtain rfl : y = (j : Int) := by omega
          refine gw_name rfl rfl trivial (of_decide_eq_true rfl) ?_
          refine w_cons (w_put0 rfl rfl rfl rfl rfl rfl rfl rfl rfl (fun hm => ?_) ?_ rfl ?_)
          · rcases List.mem_append.mp hm with q | q
            · obtain ⟨r', c', h1, h2, h3⟩ := allK_mem.mp q
              have := (pr_eq h3).1
              omega
            · obtain ⟨c', h1, h2⟩ := rowK_mem.mp q
              have := (pr_eq h2).2
              omega
          · rw [List.length_append, allK_len, rowK_len]
            have h1 : r * (wd + 1) ≤ 8 * 9 := Nat.mul_le_mul (by omega) (by omega)
            omega
          rw [show (allK (wd + 1) r ++ rowK r j) ++ [((r : Int), (j : Int))] = allK (wd + 1) r ++ rowK r (j + 1) from List.append_assoc _ _ _]
          exact w_nilW _ (by walk_at "wk") rfl
        · rintro G rfl
          rw [en wd]
          exact w_nilW _ (by walk_at "wk") rfl
      rintro G rfl
      rw [en h]
      refine wt_cons (w_setL (T := tStr) rfl rfl (el_lst (ewl_nil ⟨by show 0 ≤ sizeLine; omega, of_decide_eq_true rfl, ?_⟩)))
      refine wt_weak (gm63 K W ns none dr gs pic h wd (some (ownM (allK (wd + 1) (h + 1)) nouS.s)) [none, none, some (ownL (tStr (K := K)) ([])), none, none, none, none, none, none, none]) (by walk_at "wk") ?_
      refine wt_lock (i := 7) (ks := allK (wd + 1) (h + 1)) (s := nouS.s) rfl (nts_some nt_entT (nts_none (nts_some nt_drw (nts_some nt_val (nts_some nt_val (nts_some nt_val (nts_some nt_val (nts_some nt_ownM (nts_none (nts_none (nts_some nt_ownL (nts_none (nts_none (nts_none (nts_none (nts_none (nts_none (nts_none nts_nil)))))))))))))))))) ⟨0, _, _, rfl⟩ ?_
      refine wt_weak (gm63 K W ns none dr gs pic h wd (some (lokM (allK (wd + 1) (h + 1)) (nouS.s))) [none, none, some (ownL (tStr (K := K)) ([])), none, none, none, none, none, none, none]) (by walk_at "wk") ?_
      have hin : ∀ r c0 : Nat, r ≤ h → c0 ≤ wd → ((r : Int), (c0 : Int)) ∈ allK (wd + 1) (h + 1) := fun r c0 h1 h2 => allK_mem.mpr ⟨r, c0, by omega, by omega, rfl⟩
      -- cell by cell
      refine wt_cons (w_for (A := tInt) (iw_range1 T.bi rfl (ew_name rfl rfl rfl ⟨by omega, by omega, fun i G => (∃ t, t ≤ 8 * i ∧ SOk (bd t) (allS gs pic h wd i)) ∧ (allT gs pic h wd i).length = i ∧ G = (gm63 K W ns none dr gs pic h wd (some (lokM (allK (wd + 1) (h + 1)) ((allS gs pic h wd i).s))) [none, none, some (ownL (tStr (K := K)) (allT gs pic h wd i)), none, none, none, none, none, none, none]), ⟨⟨0, Nat.le_refl _, nou_ok⟩, rfl, rfl⟩, ?_, ?_⟩)))
      · rintro r x hx G ⟨⟨t, ht, hS⟩, hT, rfl⟩
        obtain ⟨e1, e2⟩ := ups_get hx
        obtain rfl : x = (r : Int) := by omega
        have hrh : r < h := by omega
        refine gw_name rfl rfl trivial (of_decide_eq_true rfl) ?_
        refine w_cons (w_set (T := tStr) rfl rfl (ew_str ⟨of_decide_eq_true rfl, ?_⟩))
        generalize hst0 : allS gs pic h wd r = st0 at hS ⊢
        refine w_weak (gm63 K W ns none dr gs pic h wd (some (lokM (allK (wd + 1) (h + 1)) (st0.s))) [some (val (tInt (K := K)) (r : Int)), none, some (ownL (tStr (K := K)) (allT gs pic h wd r)), some (val (tStr (K := K)) ("")), none, none, none, none, none, none]) (by walk_at "wk") ?_
        refine w_cons (w_for (A := tInt) (iw_range1 T.bi rfl (ew_name rfl rfl rfl ⟨by omega, by omega, fun j G => (∃ t, t ≤ 8 * r + j ∧ SOk (bd t) (rowS gs pic h wd r st0 j)) ∧ (rowT gs pic h wd r st0 j).length = j ∧ G = (gm63 K W ns none dr gs pic h wd (some (lokM (allK (wd + 1) (h + 1)) ((rowS gs pic h wd r st0 j).s))) [some (val (tInt (K := K)) (r : Int)), none, some (ownL (tStr (K := K)) (allT gs pic h wd r)), some (val (tStr (K := K)) (rowT gs pic h wd r st0 j)), none, none, none, none, none, none]), ⟨⟨t, ht, hS⟩, rfl, rfl⟩, ?_, ?_⟩)))
        · clear ht hS t
          rintro c0 x hx G ⟨⟨t, ht, hS⟩, hL, rfl⟩
          obtain ⟨e3, e4⟩ := ups_get hx
          obtain rfl : x = (c0 : Int) := by omega
          have hcw : c0 < wd := by omega
          generalize hst : rowS gs pic h wd r st0 c0 = st at hS ⊢
          generalize hlt : rowT gs pic h wd r st0 c0 = lt at hL ⊢
          obtain ⟨hpc3, hq1, hq2⟩ := pic_at hp hrh hcw
          have hWc := wish_ok hp hrh hcw hS
          have hNe := Col.near hok (by omega) hWc
          have hm := near_in (gs := gs) (ws := wishAt pic st r c0) hok.ne
          have hSt := step_ok hok hp hrh hcw hS hm
          refine gw_name rfl rfl trivial (of_decide_eq_true rfl) ?_
          refine w_cons (w_set (T := tCol K) rfl rfl (ew_tupleL T.bi rfl (ew_el (el_comp (A := tInt) (B' := tInt) [("k", 1)] rfl (fun x o => o = some (cm x.toNat (wishAt pic st r c0))) ?_))))
          refine iw_range1 T.bi rfl (ew_int ⟨by omega, by omega, rfl, by rw [ups_len]; omega, ?_, ?_⟩)
          · intro c' j x hj
            obtain ⟨e5, e6⟩ := ups_get hj
            obtain ⟨kk, rfl, hk3⟩ : ∃ kk : Nat, x = (kk : Int) ∧ kk < 3 := ⟨j, by omega, by omega⟩
            refine gw_name rfl rfl (by decide) (of_decide_eq_true rfl) ?_
            intro c''
            refine ts_nil ⟨fun _ c3 => ?_, fun e => nomatch e⟩
            refine ew_add (ew_ixT (ew_ixT (ew_ixT (ew_name rfl rfl rfl (ew_name rfl rfl rfl ⟨_, atI_nat hq1, ew_name rfl rfl rfl ⟨_, atI_nat hq2, ew_name rfl rfl rfl ⟨_, atI_nat (cm_at hk3 hpc3.1), ?_⟩⟩⟩)))))
            refine ew_getLk (ks := allK (wd + 1) (h + 1)) (s := st.s) rfl rfl ⟨_, _, rfl⟩ rfl rfl (ew_pr (ew_name rfl rfl rfl (ew_name rfl rfl rfl ⟨rfl, hin r c0 (by omega) (by omega), kk, cm kk (st.s r c0), rfl, atI_nat (cm_at hk3 (hS.s _ _).1), rfl, ?_⟩)))
            show some (cm kk ((pic.getD r []).getD c0 []) + cm kk (st.s r c0)) = some (cm kk (wishAt pic st r c0))
            unfold wishAt
            rw [cm_plus hpc3.1 (hS.s _ _).1 hk3]
          intro os ho
          have eW : os.filterMap id = wishAt pic st r c0 := by
            rw [all2_some ho]
            have hl3 := hWc.1
            generalize wishAt pic st r c0 = m at hl3
            match m, hl3 with
            | [_, _, _], _ => rfl
          rw [eW]
          clear ho eW os
          refine ⟨of_decide_eq_true rfl, ?_⟩
          refine w_cons (w_set (T := tGl K) rfl rfl (ew_call hLn (by decide) rfl (ews_cons (T := tTup (tGl K)) (ew_name rfl rfl rfl (ews_cons (T := tTup tInt) (ew_name rfl rfl rfl (ews_nil ⟨(gs, wishAt pic st r c0), rfl, hNe, fun q hq => ⟨of_decide_eq_true rfl, ?_⟩⟩)))))))
          have hq : FirstMin (fun g => farI g (wishAt pic st r c0)) gs q := hq
          obtain rfl := near_eq hq
          have hnm := hok.nm _ hm
          refine w_cons (w_set (T := tStr) rfl rfl (ew_catS (ew_name rfl rfl rfl (ew_T4_0 (A := tStr) (B' := tInt) (C := tInt) (D' := tInt) (ew_name rfl rfl rfl ⟨by omega, of_decide_eq_true rfl, ?_⟩)))))
          have eT : rowT gs pic h wd r st0 (c0 + 1) = lt ++ (near gs (wishAt pic st r c0)).1 := by show rowT gs pic h wd r st0 c0 ++ _ = _; rw [hlt, hst]
          have eS : rowS gs pic h wd r st0 (c0 + 1) = stepS gs pic h wd r c0 st := by show stepS gs pic h wd r c0 (rowS gs pic h wd r st0 c0) = _; rw [hst]
          have hW3 := hWc.1
          have hE : errL gs (wishAt pic st r c0) = minusL (wishAt pic st r c0) (colL (near gs (wishAt pic st r c0))) := rfl
          have eP : stepS gs pic h wd r c0 st = putS h wd ((r : Int) + 1, (c0 : Int)) (minusL (errL gs (wishAt pic st r c0)) (halfL (errL gs (wishAt pic st r c0)))) (putS h wd ((r : Int), (c0 : Int) + 1) (halfL (errL gs (wishAt pic st r c0))) st) := rfl
          generalize near gs (wishAt pic st r c0) = g at hnm eT hE ⊢
          generalize errL gs (wishAt pic st r c0) = ee at hE eP
          generalize wishAt pic st r c0 = ws at hW3 hE ⊢
          have hE3 : ee.length = 3 := by rw [hE]; exact len_minus hW3 rfl
          have hf3 := len_half hE3
          have hr3 := len_minus hE3 hf3
          have hcE : ∀ k, k < 3 → cm k ee = cm k ws - cm k (colL g) := fun k hk => by rw [hE, cm_minus hW3 rfl hk]
          have hcf : ∀ k, k < 3 → cm k (halfL ee) = (cm k ws - cm k (colL g)) / 2 := fun k hk => by rw [cm_half hE3 hk, hcE k hk]
          have hcr : ∀ k, k < 3 → cm k (minusL ee (halfL ee)) = (cm k ws - cm k (colL g)) - (cm k ws - cm k (colL g)) / 2 := fun k hk => by rw [cm_minus hE3 hf3 hk, hcf k hk, hcE k hk]
          generalize minusL ee (halfL ee) = rs at hr3 hcr eP
          generalize halfL ee = hf at hf3 hcf eP
          have hne : (((r : Int), (c0 : Int) + 1) : Int × Int) ≠ ((r : Int) + 1, (c0 : Int)) := fun e => by have := (pr_eq e).1; omega
          have hs3 : ∀ r c, (st.s r c).length = 3 := fun r c => (hS.s r c).1
          refine w_weak (gm63 K W ns none dr gs pic h wd (some (lokM (allK (wd + 1) (h + 1)) (st.s))) [some (val (tInt (K := K)) (r : Int)), some (val (tInt (K := K)) (c0 : Int)), some (ownL (tStr (K := K)) (allT gs pic h wd r)), some (val (tStr (K := K)) (lt ++ g.1)), some (val (tCol K) ws), some (val (tGl K) g), none, none, none, none]) (by walk_at "wk") ?_
          refine w_cons (w_for (A := tInt) (iw_range1 T.bi rfl (ew_int ⟨by omega, by omega, fun i G => G = (gm63 K W ns none dr gs pic h wd (some (lokM (allK (wd + 1) (h + 1)) (sMix st.s ((r : Int), (c0 : Int) + 1) ((r : Int) + 1, (c0 : Int)) i i hf rs))) [some (val (tInt (K := K)) (r : Int)), some (val (tInt (K := K)) (c0 : Int)), some (ownL (tStr (K := K)) (allT gs pic h wd r)), some (val (tStr (K := K)) (lt ++ g.1)), some (val (tCol K) ws), some (val (tGl K) g), none, none, none, none]), by show (_ : Gm) = _; rw [sMix_0], ?_, ?_⟩)))
          · rintro i x hx G rfl
            obtain ⟨e5, e6⟩ := ups_get hx
            obtain rfl : x = (i : Int) := by omega
            have hk3 : i < 3 := by omega
            refine gw_name rfl rfl trivial (of_decide_eq_true rfl) ?_
            refine w_cons (w_set (T := tInt) rfl rfl (ew_sub (ew_ixT (ew_name rfl rfl rfl (ew_name rfl rfl rfl ⟨_, atI_nat (cm_at hk3 hW3), ?_⟩)))))
            refine ew_ixTail (A := tStr) (EW.as (fun z : Gl => (z.1, colL z)) (ew_name rfl rfl rfl ?_) tail4)
            refine ew_add (ew_int (ew_name rfl rfl rfl ⟨i, _, rfl, cm_at (m := colL g) hk3 rfl, of_decide_eq_true rfl, ?_⟩))
            have f1 := hcf i hk3
            have f2 := hcr i hk3
            generalize cm i ws - cm i (colL g) = er at f1 f2 ⊢
            have hz1 : (((r : Int), (c0 : Int) + 1) : Int × Int) ∈ allK (wd + 1) (h + 1) := hin r (c0 + 1) (by omega) (by omega)
            have hz2 : (((r : Int) + 1, (c0 : Int)) : Int × Int) ∈ allK (wd + 1) (h + 1) := hin (r + 1) c0 (by omega) (by omega)
            have l1 : ∀ (i j : Nat), i ≤ 3 → (sMix st.s ((r : Int), (c0 : Int) + 1) ((r : Int) + 1, (c0 : Int)) i j hf rs (r : Int) ((c0 : Int) + 1)).length = 3 := fun i j hi => by
              rw [show sMix st.s ((r : Int), (c0 : Int) + 1) ((r : Int) + 1, (c0 : Int)) i j hf rs (r : Int) ((c0 : Int) + 1) = mix i (st.s (r : Int) ((c0 : Int) + 1)) hf from sMix_at1 (z := ((r : Int), (c0 : Int) + 1))]
              exact mix_len (hs3 _ _) hf3 hi
            have l2 : ∀ (i j : Nat), j ≤ 3 → (sMix st.s ((r : Int), (c0 : Int) + 1) ((r : Int) + 1, (c0 : Int)) i j hf rs ((r : Int) + 1) (c0 : Int)).length = 3 := fun i j hj => by
              rw [show sMix st.s ((r : Int), (c0 : Int) + 1) ((r : Int) + 1, (c0 : Int)) i j hf rs ((r : Int) + 1) (c0 : Int) = mix j (st.s ((r : Int) + 1) (c0 : Int)) rs from sMix_at2 (y := ((r : Int) + 1, (c0 : Int))) hne]
              exact mix_len (hs3 _ _) hr3 hj
            have g1 : atI (sMix st.s ((r : Int), (c0 : Int) + 1) ((r : Int) + 1, (c0 : Int)) i i hf rs (r : Int) ((c0 : Int) + 1)) (i : Int) = some (cm i (st.s (r : Int) ((c0 : Int) + 1))) := atI_nat (by
              rw [show sMix st.s ((r : Int), (c0 : Int) + 1) ((r : Int) + 1, (c0 : Int)) i i hf rs (r : Int) ((c0 : Int) + 1) = mix i (st.s (r : Int) ((c0 : Int) + 1)) hf from sMix_at1 (z := ((r : Int), (c0 : Int) + 1))]
              exact mix_at (hs3 _ _) hf3 hk3)
            have g2 : atI (sMix st.s ((r : Int), (c0 : Int) + 1) ((r : Int) + 1, (c0 : Int)) (i + 1) i hf rs ((r : Int) + 1) (c0 : Int)) (i : Int) = some (cm i (st.s ((r : Int) + 1) (c0 : Int))) := atI_nat (by
              rw [show sMix st.s ((r : Int), (c0 : Int) + 1) ((r : Int) + 1, (c0 : Int)) (i + 1) i hf rs ((r : Int) + 1) (c0 : Int) = mix i (st.s ((r : Int) + 1) (c0 : Int)) rs from sMix_at2 (y := ((r : Int) + 1, (c0 : Int))) hne]
              exact mix_at (hs3 _ _) hr3 hk3)
            refine w_weak (gm63 K W ns (some (val (tInt (K := K)) (i : Int))) dr gs pic h wd (some (lokM (allK (wd + 1) (h + 1)) (sMix st.s ((r : Int), (c0 : Int) + 1) ((r : Int) + 1, (c0 : Int)) i i hf rs))) [some (val (tInt (K := K)) (r : Int)), some (val (tInt (K := K)) (c0 : Int)), some (ownL (tStr (K := K)) (allT gs pic h wd r)), some (val (tStr (K := K)) (lt ++ g.1)), some (val (tCol K) ws), some (val (tGl K) g), some (val (tInt (K := K)) er), none, none, none]) (by walk_at "wk") ?_
            refine w_cons (w_setLk (ks := allK (wd + 1) (h + 1)) (s := sMix st.s ((r : Int), (c0 : Int) + 1) ((r : Int) + 1, (c0 : Int)) i i hf rs) rfl rfl ⟨_, _, rfl⟩ rfl rfl (ew_add ?_))
            refine ew_getLk (ks := allK (wd + 1) (h + 1)) (s := sMix st.s ((r : Int), (c0 : Int) + 1) ((r : Int) + 1, (c0 : Int)) i i hf rs) rfl rfl ⟨_, _, rfl⟩ rfl rfl (ew_pr (ew_name rfl rfl rfl (ew_add (ew_name rfl rfl rfl (ew_int ⟨rfl, hz1, i, _, rfl, g1, ?_⟩)))))
            refine ew_div (ew_name rfl rfl rfl (ew_int ⟨cdiv_of (by omega) (by omega), ?_⟩))
            refine ew_pr (ew_name rfl rfl rfl (ew_add (ew_name rfl rfl rfl (ew_int ⟨rfl, hz1, i, i, rfl, by rw [l1 i i (by omega)]; exact ixN_nat hk3, ?_⟩))))
            have es := sMix_z (s := st.s) (z := ((r : Int), (c0 : Int) + 1)) (y := ((r : Int) + 1, (c0 : Int))) (m := hf) (n := rs) (i := i) (j := i) hs3 hf3 hk3
            rw [f1] at es
            rw [es]
            refine w_weak (gm63 K W ns (some (val (tInt (K := K)) (i : Int))) dr gs pic h wd (some (lokM (allK (wd + 1) (h + 1)) (sMix st.s ((r : Int), (c0 : Int) + 1) ((r : Int) + 1, (c0 : Int)) (i + 1) i hf rs))) [some (val (tInt (K := K)) (r : Int)), some (val (tInt (K := K)) (c0 : Int)), some (ownL (tStr (K := K)) (allT gs pic h wd r)), some (val (tStr (K := K)) (lt ++ g.1)), some (val (tCol K) ws), some (val (tGl K) g), some (val (tInt (K := K)) er), none, none, none]) (by walk_at "wk") ?_
            refine w_cons (w_setLk (ks := allK (wd + 1) (h + 1)) (s := sMix st.s ((r : Int), (c0 : Int) + 1) ((r : Int) + 1, (c0 : Int)) (i + 1) i hf rs) rfl rfl ⟨_, _, rfl⟩ rfl rfl (ew_sub (ew_add ?_)))
            refine ew_getLk (ks := allK (wd + 1) (h + 1)) (s := sMix st.s ((r : Int), (c0 : Int) + 1) ((r : Int) + 1, (c0 : Int)) (i + 1) i hf rs) rfl rfl ⟨_, _, rfl⟩ rfl rfl (ew_pr (ew_add (ew_name rfl rfl rfl (ew_int (ew_name rfl rfl rfl ⟨rfl, hz2, i, _, rfl, g2, ?_⟩)))))
            refine ew_name rfl rfl rfl (ew_div (ew_name rfl rfl rfl (ew_int ⟨cdiv_of (by omega) (by omega), ?_⟩)))
            refine ew_pr (ew_add (ew_name rfl rfl rfl (ew_int (ew_name rfl rfl rfl ⟨rfl, hz2, i, i, rfl, by rw [l2 (i + 1) i (by omega)]; exact ixN_nat hk3, ?_⟩))))
            have es := sMix_y (s := st.s) (z := ((r : Int), (c0 : Int) + 1)) (y := ((r : Int) + 1, (c0 : Int))) (m := hf) (n := rs) (i := i + 1) (j := i) hs3 hr3 hk3 hne
            rw [f2, ← Int.add_sub_assoc] at es
            rw [es]
            exact w_nilW _ (by walk_at "wk") rfl
          · rintro G rfl
            have e7 : (ups 0 3).length = 3 := by rw [ups_len]; rfl
            rw [e7, sMix_3 (h := h) (w := wd) hs3 hf3 hr3 hne, ← eP]
            refine w_nilW (gm63 K W ns none dr gs pic h wd (some (lokM (allK (wd + 1) (h + 1)) ((stepS gs pic h wd r c0 st).s))) [some (val (tInt (K := K)) (r : Int)), none, some (ownL (tStr (K := K)) (allT gs pic h wd r)), some (val (tStr (K := K)) (lt ++ g.1)), none, none, none, none, none, none]) (by walk_at "wk") ⟨⟨t + 1, by omega, by rw [eS]; exact hSt⟩, by rw [eT, len_app, hL, hnm], by rw [eS, eT]⟩
        · rintro G ⟨⟨t', ht', hS'⟩, hL', rfl⟩
          rw [en0 wd] at ht' hS' hL' ⊢
          have eA : allS gs pic h wd (r + 1) = rowS gs pic h wd r st0 wd := by show rowS gs pic h wd r (allS gs pic h wd r) wd = _; rw [hst0]
          have eB : allT gs pic h wd (r + 1) = allT gs pic h wd r ++ [rowT gs pic h wd r st0 wd] := by show allT gs pic h wd r ++ [rowT gs pic h wd r (allS gs pic h wd r) wd] = _; rw [hst0]
          refine w_cons (w_append (T := tStr) rfl rfl ⟨_, rfl⟩ (ew_name rfl rfl rfl ⟨_, rfl, by omega, ?_⟩))
          exact w_nilW (gm63 K W ns none dr gs pic h wd (some (lokM (allK (wd + 1) (h + 1)) ((rowS gs pic h wd r st0 wd).s))) [none, none, some (ownL (tStr (K := K)) (allT gs pic h wd r ++ [rowT gs pic h wd r st0 wd])), none, none, none, none, none, none, none]) (by walk_at "wk") ⟨⟨t', by omega, by rw [eA]; exact hS'⟩, by rw [eB, List.length_append, hT]; rfl, by rw [eA, eB]⟩
      rintro G ⟨⟨t, ht, hS⟩, hT, rfl⟩
      rw [en0 h] at ht hS hT ⊢
      have hlf := rim_left (gs := gs) hp rim_of
      have hda := fun s => dr_asc (gs := gs) (pic := pic) (h := h) (w := wd) (s := s) hgl
      have hself : LdR ((gs, pic), h, wd) = (allT gs pic h wd h, (allS gs pic h wd h).left) := rfl
      generalize (allS gs pic h wd h).left = lf at hlf hself
      generalize hss : (allS gs pic h wd h).s = ss at hlf ⊢
      have hs3 : ∀ r c, (ss r c).length = 3 := fun r c => by rw [← hss]; exact (hS.s r c).1
      generalize allT gs pic h wd h = dw at hT hda hself ⊢
      refine wt_frz 10 rfl ?_
      refine wt_cons (w_setCell rfl rfl rfl (el_comp (A := tPr) (B' := tPr) [("cell", 17)] rfl (fun z o => o = if (fun z : Int × Int => decide (z.1 = (h : Int) ∨ z.2 = (wd : Int))) z then some ((fun z => z) z) else none) ?_))
      refine iw_lokM (ks := allK (wd + 1) (h + 1)) (s := ss) rfl rfl rfl ⟨rfl, ?_, ?_, ?_⟩
      · rw [allK_len]
        have h1 : (h + 1) * (wd + 1) ≤ 9 * 9 := Nat.mul_le_mul (by omega) (by omega)
        omega
      · intro c' j z hj
        refine gw_name rfl rfl (by decide) (of_decide_eq_true rfl) ?_
        intro c''
        refine ts_one (TW.imp (k := fun G x => x = decide (z.1 = (h : Int) ∨ z.2 = (wd : Int)) ∧ G = (gm63 K W ns none dr gs pic h wd (some (lokM (allK (wd + 1) (h + 1)) (ss))) [none, none, some (val (tLst (tStr (K := K))) dw), none, none, none, none, none, none, some (val (tPr (K := K)) z)])) ?_ ?_)
        · refine tw_weak (gm63 K W ns none dr gs pic h wd (some (lokM (allK (wd + 1) (h + 1)) (ss))) [none, none, some (val (tLst (tStr (K := K))) dw), none, none, none, none, none, none, some (val (tPr (K := K)) z)]) (by walk_at "wk") ?_
          refine tw_w (tww_or (tw_eq fInt (ew_T2_0 (A := tInt) (B' := tInt) (EW.as (fun z : Int × Int => z) (ew_name rfl rfl rfl (ew_name rfl rfl rfl ?_)) pr_T2))))
          refine ⟨fun b1 => tww_or1 (tw_eq fInt (ew_T2_1 (A := tInt) (B' := tInt) (EW.as (fun z : Int × Int => z) (ew_name rfl rfl rfl (ew_name rfl rfl rfl ⟨?_, rfl⟩)) pr_T2))), fun b1 => ⟨?_, rfl⟩⟩
          · have b1 := of_decide_eq_false b1
            exact decide_eq_decide.mpr ⟨.inr, fun q => q.resolve_left b1⟩
          · exact (decide_eq_true (.inl (of_decide_eq_true b1))).symm
        · rintro G x ⟨rfl, rfl⟩
          refine ⟨fun e1 c3 => ew_name rfl rfl rfl ⟨rfl, ?_⟩, fun e1 => ⟨rfl, ?_⟩⟩
          · show some z = if decide (z.1 = (h : Int) ∨ z.2 = (wd : Int)) = true then some z else none
            rw [if_pos e1]
          · show none = if decide (z.1 = (h : Int) ∨ z.2 = (wd : Int)) = true then some z else none
            rw [if_neg (by rw [e1]; exact fun y => nomatch y)]
      intro os ho
      have eo : os.filterMap id = (allK (wd + 1) (h + 1)).filter fun z => decide (z.1 = (h : Int) ∨ z.2 = (wd : Int)) := by rw [all2_ite ho, List.map_id']
      rw [eo]
      clear ho eo os
      have hrm : ∀ z, z ∈ (allK (wd + 1) (h + 1)).filter (fun z => decide (z.1 = (h : Int) ∨ z.2 = (wd : Int))) → z ∈ allK (wd + 1) (h + 1) := fun z hz => (List.mem_filter.mp hz).1
      have hrl : ((allK (wd + 1) (h + 1)).filter fun z => decide (z.1 = (h : Int) ∨ z.2 = (wd : Int))).length ≤ 81 := by
        refine Nat.le_trans (List.length_filter_le _ _) ?_
        rw [allK_len]
        exact (Nat.mul_le_mul (show h + 1 ≤ 9 by omega) (show wd + 1 ≤ 9 by omega) : _ ≤ 9 * 9)
      generalize ((allK (wd + 1) (h + 1)).filter fun z => decide (z.1 = (h : Int) ∨ z.2 = (wd : Int))) = rim at hlf hrm hrl ⊢
      refine ⟨of_decide_eq_true rfl, ?_⟩
      refine wt_frz 15 rfl ?_
      refine wt_weak (gm63 K W ns none dr gs pic h wd (some (lokM (allK (wd + 1) (h + 1)) (ss))) [none, none, some (val (tLst (tStr (K := K))) dw), none, none, none, none, some (val (tLst (tPr (K := K))) rim), none, none]) (by walk_at "wk") ?_
      refine wt_cons (w_set (T := tCol K) rfl rfl (ew_tupleL T.bi rfl (ew_el (el_comp (A := tInt) (B' := tInt) [("k", 1)] rfl (fun x o => o = some ((rim.map fun z => cm x.toNat (ss z.1 z.2)).sum)) ?_))))
      refine iw_range1 T.bi rfl (ew_int ⟨by omega, by omega, rfl, by rw [ups_len]; omega, ?_, ?_⟩)
      · intro c' j x hj
        obtain ⟨e5, e6⟩ := ups_get hj
        obtain ⟨kk, rfl, hk3⟩ : ∃ kk : Nat, x = (kk : Int) ∧ kk < 3 := ⟨j, by omega, by omega⟩
        refine gw_name rfl rfl (by decide) (of_decide_eq_true rfl) ?_
        intro c''
        refine ts_nil ⟨fun _ c3 => ?_, fun e => nomatch e⟩
        refine ew_sumL T.bi rfl (ew_el (el_comp (A := tPr (K := K)) (B' := tInt) [("cell", 17)] rfl (fun z o => o = some (cm kk (ss z.1 z.2))) ?_))
        refine iw_list (ew_name rfl rfl rfl ⟨rfl, by omega, ?_, ?_⟩)
        · intro c' j z hj
          refine gw_name rfl rfl (by decide) (of_decide_eq_true rfl) ?_
          intro c''
          refine ts_nil ⟨fun _ c3 => ?_, fun e => nomatch e⟩
          exact ew_getLk (ks := allK (wd + 1) (h + 1)) (s := ss) rfl rfl ⟨_, _, rfl⟩ rfl rfl (ew_name rfl rfl rfl ⟨rfl, hrm z (List.mem_of_getElem? hj), kk, cm kk (ss z.1 z.2), rfl, atI_nat (cm_at hk3 (hs3 _ _)), rfl, rfl⟩)
        intro os ho
        rw [all2_some ho]
        exact ⟨rfl, rfl⟩
      intro os ho
      have eo : os.filterMap id = lf := by rw [all2_some ho, ← hlf]; rfl
      rw [eo]
      clear ho eo os
      refine ⟨of_decide_eq_true rfl, ?_⟩
      refine wt_cons (w_if (tw_neD asD_ld (ew_callT hLd (by decide) rfl (ews_cons (T := tTup (tGl K)) (ew_name rfl rfl rfl (ews_cons (T := tPic K) (ew_name rfl rfl rfl (ews_nil ⟨⟨0, _, rfl⟩, ((gs, pic), h, wd), rfl, ⟨hok, hp⟩, fun r hr => ?_⟩))))))))
      have hr : r = LdR ((gs, pic), h, wd) := hr
      rw [hself] at hr
      subst hr
      refine ew_tup2 (A := tTup tStr) (B' := tCol K) (ew_tupleL T.bi rfl (ew_name rfl rfl rfl (ew_name rfl rfl rfl ⟨⟨ld_shaped hda, ld_shaped hda⟩, ?_⟩)))
      rw [ld_eqv]
      refine ⟨(fun e => nomatch e), fun _ => w_nil (wt_of ?_)⟩
      refine w_nilW _ ?_ rfl
      show Wk [some (valT (tSeq (K := K) tInt) ns W qL), none, none, none, none, none, none, none, none, none, none, none, none, none, none, none, none, none] _
      walk_at "wk"
    · refine wt_cons (w_ret (ew_eqD asD_ld ?_))
      have kb := kwB_of (K := K) (name := "laid") (st := s_laid) (ps := ["glasses", "picture"]) (perm := @swap2) swap2_rel (ks := ["picture", "glasses"]) fun _ _ _ _ _ _ us hl => match us, hl with | [_, _], _ => rfl
      have ok2 : ∀ f fd, Fun K "laid" "laid" s_laid f fd → FnOk P w K mg base CX0 4 f fd ["glasses", "picture"] (spLaid K W) := fun f fd F => ok_laid T M f fd F
      with_reducible show EW _ _ (.Call (.Name "laid" _) [] _ _) _ _
      refine ew_callKT (R := tT2 (tTup tStr) (tCol K)) (args := laidA K) (pre := LdP) (post := fun q r => r = LdR q) (W := W) (q := qL) (st := s_laid) (ps := ["glasses", "picture"]) (ks := ["picture", "glasses"]) (perm := @swap2) T.f_laid ok2 (by decide) kb rfl ?_ (fun F vs ts h => swap2_all h)
      have hp1 : PicOk [[[3, 0, 0]]] 1 1 := ⟨rfl, fun row hr => by rw [List.mem_singleton.mp hr]; rfl, by omega, by omega, fun row hr m hm => by
        rw [List.mem_singleton.mp hr] at hm
        rw [List.mem_singleton.mp hm]
        refine ⟨rfl, fun z hz => ?_⟩
        simp only [List.mem_cons, List.not_mem_nil, or_false] at hz
        omega⟩
      have hg1 : GlsOk [(("a", 0, 0, 0) : Gl)] := ⟨by simp, by simp, fun g hg => by rw [List.mem_singleton.mp hg]; refine ⟨⟨?_, ?_⟩, ⟨?_, ?_⟩, ?_, ?_⟩ <;> decide, fun g hg => by rw [List.mem_singleton.mp hg]; exact of_decide_eq_true rfl⟩
      have hsd : SeqAt.shaped (ldD ((["a"] : List Str), [3, 0, 0])) = true := ld_shaped fun s hs => by rw [List.mem_singleton.mp hs]; decide +kernel
      refine ewk_cons (T := tPic K) ?_
      refine ew_tupL ?_
      refine ewl_cons ?_
      refine ew_tupL ?_
      refine ewl_cons ?_
      refine ew_tupL ?_
      refine ewl_cons (ew_int ?_)
      refine ewl_cons (ew_int ?_)
      refine ewl_cons (ew_int ?_)
      refine ewl_nil ⟨by show 3 ≤ sizeLine; omega, ?_⟩
      refine ewl_nil ⟨by show 1 ≤ sizeLine; omega, ?_⟩
      refine ewl_nil ⟨by show 1 ≤ sizeLine; omega, ?_⟩
      refine ewk_cons (T := tTup (tGl K)) ?_
      refine ew_tupL ?_
      refine ewl_cons (ew_tup4 (ew_str (ew_int (ew_int (ew_int ?_)))))
      refine ewl_nil ⟨by show 1 ≤ sizeLine; omega, ?_⟩
      refine ewk_nil ⟨rfl, ⟨0, _, rfl⟩, (([(("a", 0, 0, 0) : Gl)], [[[3, 0, 0]]]), 1, 1), rfl, ⟨hg1, hp1⟩, fun r hr => ?_⟩
      have hr : r = LdR (([(("a", 0, 0, 0) : Gl)], [[[3, 0, 0]]]), 1, 1) := hr
      rw [ld_one] at hr
      subst hr
      refine ew_tup2 (A := tTup tStr) (B' := tCol K) (ew_tupL ?_)
      refine ewl_cons (ew_str ?_)
      refine ewl_nil ⟨by show 1 ≤ sizeLine; omega, ?_⟩
      refine ew_tupL ?_
      refine ewl_cons (ew_int ?_)
      refine ewl_cons (ew_int ?_)
      refine ewl_cons (ew_int ?_)
      refine ewl_nil ⟨by show 3 ≤ sizeLine; omega, ⟨hsd, hsd⟩, ?_⟩
      exact ld_eqv _
end
theorem all_mk {l : PySem.W.OpenLaw} {w : World} {K : PySem.W.Frag} {h : Heap} {mg : Str → Option Value} {fa : Addr} (X : K.In h) (G : h.Ns mainGlobals mg) (hfa : mg "law" = some (.ref fa))
    {f0 : Addr} {od0 an0 : Option Addr} {sl0 : Array (Option Value)} {oc0 kV0 dc0 pm0 cd0 ct0 : Value}
    (a0 : PySem.W.nsIn K mainGlobals "nearest_one" = some (some (.ref f0))) (l0 : K.lookup f0 = some ⟨oc0, od0, .func (PySem.W.fnOf "nearest_one" "nearest_one" (defArgs s_nearest_one) (defBody s_nearest_one) (defScope s_nearest_one) .none kV0 dc0 pm0 an0 cd0 ct0), sl0⟩) (c0 : PySem.W.codeIn K cd0 "nearest_one" = true) (k0 : PySem.W.keepIn K (.ref f0) = true)
    {f1 : Addr} {od1 an1 : Option Addr} {sl1 : Array (Option Value)} {oc1 kV1 dc1 pm1 cd1 ct1 : Value}
    (a1 : PySem.W.nsIn K mainGlobals "plus" = some (some (.ref f1))) (l1 : K.lookup f1 = some ⟨oc1, od1, .func (PySem.W.fnOf "plus" "plus" (defArgs s_plus) (defBody s_plus) (defScope s_plus) .none kV1 dc1 pm1 an1 cd1 ct1), sl1⟩) (c1 : PySem.W.codeIn K cd1 "plus" = true) (k1 : PySem.W.keepIn K (.ref f1) = true)
    {f2 : Addr} {od2 an2 : Option Addr} {sl2 : Array (Option Value)} {oc2 kV2 dc2 pm2 cd2 ct2 : Value}
    (a2 : PySem.W.nsIn K mainGlobals "laid" = some (some (.ref f2))) (l2 : K.lookup f2 = some ⟨oc2, od2, .func (PySem.W.fnOf "laid" "laid" (defArgs s_laid) (defBody s_laid) (defScope s_laid) .none kV2 dc2 pm2 an2 cd2 ct2), sl2⟩) (c2 : PySem.W.codeIn K cd2 "laid" = true) (k2 : PySem.W.keepIn K (.ref f2) = true)
    {f3 : Addr} {od3 an3 : Option Addr} {sl3 : Array (Option Value)} {oc3 kV3 dc3 pm3 cd3 ct3 : Value}
    (a3 : PySem.W.nsIn K mainGlobals "_law_draws" = some (some (.ref f3))) (l3 : K.lookup f3 = some ⟨oc3, od3, .func (PySem.W.fnOf "_law_draws" "_law_draws" (defArgs s__law_draws) (defBody s__law_draws) (defScope s__law_draws) .none kV3 dc3 pm3 an3 cd3 ct3), sl3⟩) (c3 : PySem.W.codeIn K cd3 "_law_draws" = true) (k3 : PySem.W.keepIn K (.ref f3) = true)
    {f4 : Addr} {od4 an4 : Option Addr} {sl4 : Array (Option Value)} {oc4 kV4 dc4 pm4 cd4 ct4 : Value}
    (a4 : PySem.W.nsIn K mainGlobals "_law_draw" = some (some (.ref f4))) (l4 : K.lookup f4 = some ⟨oc4, od4, .func (PySem.W.fnOf "_law_draw" "_law_draw" (defArgs s__law_draw) (defBody s__law_draw) (defScope s__law_draw) .none kV4 dc4 pm4 an4 cd4 ct4), sl4⟩) (c4 : PySem.W.codeIn K cd4 "_law_draw" = true) (k4 : PySem.W.keepIn K (.ref f4) = true)
    {f5 : Addr} {od5 an5 : Option Addr} {sl5 : Array (Option Value)} {oc5 kV5 dc5 pm5 cd5 ct5 : Value}
    (a5 : PySem.W.nsIn K mainGlobals "_law_of" = some (some (.ref f5))) (l5 : K.lookup f5 = some ⟨oc5, od5, .func (PySem.W.fnOf "_law_of" "_law_of" (defArgs s__law_of) (defBody s__law_of) (defScope s__law_of) .none kV5 dc5 pm5 an5 cd5 ct5), sl5⟩) (c5 : PySem.W.codeIn K cd5 "_law_of" = true) (k5 : PySem.W.keepIn K (.ref f5) = true)
    {f6 : Addr} {od6 an6 : Option Addr} {sl6 : Array (Option Value)} {oc6 kV6 dc6 pm6 cd6 ct6 : Value}
    (a6 : PySem.W.nsIn K mainGlobals "_law_glasses" = some (some (.ref f6))) (l6 : K.lookup f6 = some ⟨oc6, od6, .func (PySem.W.fnOf "_law_glasses" "_law_glasses" (defArgs s__law_glasses) (defBody s__law_glasses) (defScope s__law_glasses) .none kV6 dc6 pm6 an6 cd6 ct6), sl6⟩) (c6 : PySem.W.codeIn K cd6 "_law_glasses" = true) (k6 : PySem.W.keepIn K (.ref f6) = true)
    {f7 : Addr} {od7 an7 : Option Addr} {sl7 : Array (Option Value)} {oc7 kV7 dc7 pm7 cd7 ct7 : Value}
    (a7 : PySem.W.nsIn K mainGlobals "_law_picture" = some (some (.ref f7))) (l7 : K.lookup f7 = some ⟨oc7, od7, .func (PySem.W.fnOf "_law_picture" "_law_picture" (defArgs s__law_picture) (defBody s__law_picture) (defScope s__law_picture) .none kV7 dc7 pm7 an7 cd7 ct7), sl7⟩) (c7 : PySem.W.codeIn K cd7 "_law_picture" = true) (k7 : PySem.W.keepIn K (.ref f7) = true)
    {f8 : Addr} {od8 an8 : Option Addr} {sl8 : Array (Option Value)} {oc8 kV8 dc8 pm8 cd8 ct8 : Value}
    (a8 : PySem.W.nsIn K mainGlobals "_law_far" = some (some (.ref f8))) (l8 : K.lookup f8 = some ⟨oc8, od8, .func (PySem.W.fnOf "_law_far" "_law_far" (defArgs s__law_far) (defBody s__law_far) (defScope s__law_far) .none kV8 dc8 pm8 an8 cd8 ct8), sl8⟩) (c8 : PySem.W.codeIn K cd8 "_law_far" = true) (k8 : PySem.W.keepIn K (.ref f8) = true)
    {f9 : Addr} {od9 an9 : Option Addr} {sl9 : Array (Option Value)} {oc9 kV9 dc9 pm9 cd9 ct9 : Value}
    (a9 : PySem.W.nsIn K mainGlobals "_law_nearest" = some (some (.ref f9))) (l9 : K.lookup f9 = some ⟨oc9, od9, .func (PySem.W.fnOf "_law_nearest" "_law_nearest" (defArgs s__law_nearest) (defBody s__law_nearest) (defScope s__law_nearest) .none kV9 dc9 pm9 an9 cd9 ct9), sl9⟩) (c9 : PySem.W.codeIn K cd9 "_law_nearest" = true) (k9 : PySem.W.keepIn K (.ref f9) = true)
    {f10 : Addr} {od10 an10 : Option Addr} {sl10 : Array (Option Value)} {oc10 kV10 dc10 pm10 cd10 ct10 : Value}
    (a10 : PySem.W.nsIn K mainGlobals "law" = some (some (.ref f10))) (l10 : K.lookup f10 = some ⟨oc10, od10, .func (PySem.W.fnOf "law" "law" (defArgs s_law) (defBody s_law) (defScope s_law) .none kV10 dc10 pm10 an10 cd10 ct10), sl10⟩) (c10 : PySem.W.codeIn K cd10 "law" = true) (k10 : PySem.W.keepIn K (.ref f10) = true)
    (z_len : PySem.W.nsIn K mainGlobals "len" = some none)
    (z_range : PySem.W.nsIn K mainGlobals "range" = some none)
    (z_tuple : PySem.W.nsIn K mainGlobals "tuple" = some none)
    (z_list : PySem.W.nsIn K mainGlobals "list" = some none)
    (z_isinstance : PySem.W.nsIn K mainGlobals "isinstance" = some none)
    (z_int : PySem.W.nsIn K mainGlobals "int" = some none)
    (z_bool : PySem.W.nsIn K mainGlobals "bool" = some none)
    (z_str : PySem.W.nsIn K mainGlobals "str" = some none)
    (z_max : PySem.W.nsIn K mainGlobals "max" = some none)
    (z_min : PySem.W.nsIn K mainGlobals "min" = some none)
    (z_sum : PySem.W.nsIn K mainGlobals "sum" = some none)
    (z_all : PySem.W.nsIn K mainGlobals "all" = some none)
    (z_any : PySem.W.nsIn K mainGlobals "any" = some none)
    (z_zip : PySem.W.nsIn K mainGlobals "zip" = some none)
    (z_enumerate : PySem.W.nsIn K mainGlobals "enumerate" = some none)
    (z_sorted : PySem.W.nsIn K mainGlobals "sorted" = some none)
    (z_set : PySem.W.nsIn K mainGlobals "set" = some none)
    (z_dict : PySem.W.nsIn K mainGlobals "dict" = some none)
    {cT W : Addr} (eT : cd0 = .ref cT) (hT : PySem.W.codeHdIn K cT W = true) (nT : K.lookup W = none) (yT : h.get? W = some { cls := .none, data := .fields #[] })
    : LamX.LawAtS l w K L2.CX0 LV 63 "script" mg fa h := by
  have e := hfa.symm.trans (PySem.W.mg_of X G a10)
  cases e
  have bi : Bi mg := ⟨PySem.W.mg_none_of X G z_len, PySem.W.mg_none_of X G z_range, PySem.W.mg_none_of X G z_tuple, PySem.W.mg_none_of X G z_list, PySem.W.mg_none_of X G z_isinstance, PySem.W.mg_none_of X G z_int, PySem.W.mg_none_of X G z_bool, PySem.W.mg_none_of X G z_str, PySem.W.mg_none_of X G z_max, PySem.W.mg_none_of X G z_min, PySem.W.mg_none_of X G z_sum, PySem.W.mg_none_of X G z_all, PySem.W.mg_none_of X G z_any, PySem.W.mg_none_of X G z_zip, PySem.W.mg_none_of X G z_enumerate, PySem.W.mg_none_of X G z_sorted, PySem.W.mg_none_of X G z_set, PySem.W.mg_none_of X G z_dict⟩
  have F0 := fun_mk (st := s_nearest_one) l0 c0 k0
  have b0 := F0.binds (ps := ["glasses", "wish"]) fun _ _ _ _ _ _ us hl => match us, hl with | [_, _], _ => rfl
  have F1 := fun_mk (st := s_plus) l1 c1 k1
  have b1 := F1.binds (ps := ["one", "other"]) fun _ _ _ _ _ _ us hl => match us, hl with | [_, _], _ => rfl
  have F2 := fun_mk (st := s_laid) l2 c2 k2
  have b2 := F2.binds (ps := ["glasses", "picture"]) fun _ _ _ _ _ _ us hl => match us, hl with | [_, _], _ => rfl
  have F3 := fun_mk (st := s__law_draws) l3 c3 k3
  have b3 := F3.binds (ps := ["script", "k"]) fun _ _ _ _ _ _ us hl => match us, hl with | [_, _], _ => rfl
  have F4 := fun_mk (st := s__law_draw) l4 c4 k4
  have b4 := F4.binds (ps := ["draws", "many"]) fun _ _ _ _ _ _ us hl => match us, hl with | [_, _], _ => rfl
  have F5 := fun_mk (st := s__law_of) l5 c5 k5
  have b5 := F5.binds (ps := ["draws", "some"]) fun _ _ _ _ _ _ us hl => match us, hl with | [_, _], _ => rfl
  have F6 := fun_mk (st := s__law_glasses) l6 c6 k6
  have b6 := F6.binds (ps := ["draws"]) fun _ _ _ _ _ _ us hl => match us, hl with | [_], _ => rfl
  have F7 := fun_mk (st := s__law_picture) l7 c7 k7
  have b7 := F7.binds (ps := ["draws", "most"]) fun _ _ _ _ _ _ us hl => match us, hl with | [_, _], _ => rfl
  have F8 := fun_mk (st := s__law_far) l8 c8 k8
  have b8 := F8.binds (ps := ["one", "wish"]) fun _ _ _ _ _ _ us hl => match us, hl with | [_, _], _ => rfl
  have F9 := fun_mk (st := s__law_nearest) l9 c9 k9
  have b9 := F9.binds (ps := ["glasses_d", "wish"]) fun _ _ _ _ _ _ us hl => match us, hl with | [_, _], _ => rfl
  have T : Top K mg := ⟨bi, ⟨f0, _, F0, PySem.W.mg_of X G a0, b0⟩, ⟨f1, _, F1, PySem.W.mg_of X G a1, b1⟩, ⟨f2, _, F2, PySem.W.mg_of X G a2, b2⟩, ⟨f3, _, F3, PySem.W.mg_of X G a3, b3⟩, ⟨f4, _, F4, PySem.W.mg_of X G a4, b4⟩, ⟨f5, _, F5, PySem.W.mg_of X G a5, b5⟩, ⟨f6, _, F6, PySem.W.mg_of X G a6, b6⟩, ⟨f7, _, F7, PySem.W.mg_of X G a7, b7⟩, ⟨f8, _, F8, PySem.W.mg_of X G a8, b8⟩, ⟨f9, _, F9, PySem.W.mg_of X G a9, b9⟩⟩
  have M : ∀ base : Heap, LamX.TabB base mg cT W → MakerAt K mg base "nearest_one" "nearest_one" s_nearest_one ["glasses", "wish"] cT W := fun base tb => ⟨⟨f0, _, F0, PySem.W.mg_of X G a0, b0, eT⟩, tb⟩
  exact ⟨PySem.W.fnOf "law" "law" (defArgs s_law) (defBody s_law) (defScope s_law) .none kV10 dc10 pm10 an10 cd10 ct10, [(cT, W)], spLawT K W, List.forall_mem_singleton.mpr yT, List.forall_mem_singleton.mpr nT, List.forall_mem_singleton.mpr (PySem.W.codeHd_of_K X hT), fun s v => .of_eq rfl, fun H a ns hl _ hW hS => ⟨hW _ (List.mem_singleton.mpr rfl), a, ns, rfl, hS, hl, fun _ => rfl⟩, fun base _ _ TB => law_ok T (M base (TB _ (List.mem_singleton.mpr rfl))) (fun_mk (st := s_law) l10 c10 k10)⟩
end LawPf
open PySem PySem.W PyProof.Rows
set_option maxHeartbeats 0 in
theorem PySem.Challenge.cw_panelead_k63_pictures_laid_holds : PySem.Challenge.rw_panelead_k63_pictures_laid.Holds := by
  w_on; o_law; k_head; (case hw => w_witness2)
  k_fill
  refine LamX.walk_ofTs (l := PySem.Challenge.rw_panelead_k63_pictures_laid) (n := 63) (k := LawPf.LV) (x := "script") (CX := fun _ => L2.CX0) rfl (by decide) rfl ⟨rfl, by decide, by decide⟩ (fun w h Y => PySem.W.km_in_of Y) ?F (fun _ _ _ _ _ h => h)
  case F =>
    intro w mg fa h Y KX G hmg
    refine' LawPf.all_mk KX G hmg ?a0 ?l0 ?c0 ?k0 ?a1 ?l1 ?c1 ?k1 ?a2 ?l2 ?c2 ?k2 ?a3 ?l3 ?c3 ?k3 ?a4 ?l4 ?c4 ?k4 ?a5 ?l5 ?c5 ?k5 ?a6 ?l6 ?c6 ?k6 ?a7 ?l7 ?c7 ?k7 ?a8 ?l8 ?c8 ?k8 ?a9 ?l9 ?c9 ?k9 ?a10 ?l10 ?c10 ?k10 ?z_len ?z_range ?z_tuple ?z_list ?z_isinstance ?z_int ?z_bool ?z_str ?z_max ?z_min ?z_sum ?z_all ?z_any ?z_zip ?z_enumerate ?z_sorted ?z_set ?z_dict ?eT ?hT ?nT ?yT
    (case a0 => k_is)
    (case l0 => k_is)
    (case c0 => k_is)
    (case k0 => k_is)
    (case a1 => k_is)
    (case l1 => k_is)
    (case c1 => k_is)
    (case k1 => k_is)
    (case a2 => k_is)
    (case l2 => k_is)
    (case c2 => k_is)
    (case k2 => k_is)
    (case a3 => k_is)
    (case l3 => k_is)
    (case c3 => k_is)
    (case k3 => k_is)
    (case a4 => k_is)
    (case l4 => k_is)
    (case c4 => k_is)
    (case k4 => k_is)
    (case a5 => k_is)
    (case l5 => k_is)
    (case c5 => k_is)
    (case k5 => k_is)
    (case a6 => k_is)
    (case l6 => k_is)
    (case c6 => k_is)
    (case k6 => k_is)
    (case a7 => k_is)
    (case l7 => k_is)
    (case c7 => k_is)
    (case k7 => k_is)
    (case a8 => k_is)
    (case l8 => k_is)
    (case c8 => k_is)
    (case k8 => k_is)
    (case a9 => k_is)
    (case l9 => k_is)
    (case c9 => k_is)
    (case k9 => k_is)
    (case a10 => k_is)
    (case l10 => k_is)
    (case c10 => k_is)
    (case k10 => k_is)
    (case z_len => k_is)
    (case z_range => k_is)
    (case z_tuple => k_is)
    (case z_list => k_is)
    (case z_isinstance => k_is)
    (case z_int => k_is)
    (case z_bool => k_is)
    (case z_str => k_is)
    (case z_max => k_is)
    (case z_min => k_is)
    (case z_sum => k_is)
    (case z_all => k_is)
    (case z_any => k_is)
    (case z_zip => k_is)
    (case z_enumerate => k_is)
    (case z_sorted => k_is)
    (case z_set => k_is)
    (case z_dict => k_is)
    (case eT => exact rfl)
    (case yT => exact PySem.W.km_tabs_of Y _ (List.mem_singleton.mpr rfl))
    (case hT => kernel_rfl)
    (case nT => kernel_rfl)
