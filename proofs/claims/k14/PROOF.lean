import PyProof.Rows.All
import Wide.All
import OpenK.AllK
import Wide.FinOn
import HandS.ForMost
import HandS.IsInst
import HandS.Wide
import HandS.More
import HandS.Style
import HandS.TupAny
import HandS.TupMul
import HandS.Deep
import HandS.Text
import PyProof.Rows.IntBool
import HandS.Iter
import HandS.Zip
import HandS.Conv
import KE.KRevSl
import HandS.Strs
import HandS.Set
import HandS.SetFor
import HandS.TupSets
import HandS.StrMore
import HandS.FStr
import HandS.Codes
import HandS.EndTab
import HandS.HeadWalk
import KE.DataMinKey
import KE.KNestM
import KE.GoesMore
import KE.GoesEnum
import HandS.Steps
import PyProof.TupleCall
import PyProof.DictCompW
import HandS.Base
import HandS.Call
import HandS.List
import HandS.Comp
import HandS.Dict
import HandS.DictComp
import PyProof.P3In
import HandS.SortRule
import PySem.Challenge.RW_panelead_k14_whole_pieces_parted_and_joi
set_option Elab.async false
set_option linter.all false
set_option maxRecDepth 100000
set_option maxHeartbeats 4000000
set_option autoImplicit false
/-! Px: a logic of typed values over the layer: what an expression gives is said as plain data; the heap stays behind the scenes. -/
namespace Px
open PySem PySem.Spec PyProof.Rows L2

/-! ### semantic readings -/
def wE (X : Cx) (e : Expr) : TE := fun σ H Q => ∀ pins s, Inv X pins σ H s → wpAny (model X.prog X.w) X.A (eval e X.env) (EP X pins σ Q) X.xe s
def wT (X : Cx) (e : Expr) : TT := fun σ H Q => ∀ pins s, Inv X pins σ H s → wpAny (model X.prog X.w) X.A (isTrue e X.env (eval e X.env)) (TP X pins σ Q) X.xe s
def wA (X : Cx) (es : List Expr) : TA := fun σ H Q => ∀ pos pins s, Inv X pins σ H s → wpAny (model X.prog X.w) X.A (spliced (backTo pos (starEach es X.env))) (AP X pins σ Q) X.xe s
def wS (X : Cx) (st : Stmt) : TS := fun D σ H => ∀ pins s, Inv X pins σ H s → wpAny (model X.prog X.w) X.A (exec st X.env) (SP X pins D) X.xe s
def wSs (X : Cx) (st : List Stmt) : TS := fun D σ H => ∀ pins s, Inv X pins σ H s → wpAny (model X.prog X.w) X.A (execs st X.env) (SP X pins D) X.xe s
section
variable {X : Cx}
theorem peW {e : Expr} : PE X e (wE X e) := ⟨fun pins s σ H Q I h => h pins s I⟩
theorem ptW {e : Expr} : PT X e (wT X e) := ⟨fun pins s σ H Q I h => h pins s I⟩
theorem paW {es : List Expr} : PA X es (wA X es) := ⟨fun pos pins s σ H Q I h => h pos pins s I⟩
theorem psW {st : Stmt} : PS X st (wS X st) := ⟨fun pins s σ H D I h => h pins s I⟩
theorem pssW {st : List Stmt} : PSs X st (wSs X st) := ⟨fun pins s σ H D I h => h pins s I⟩
theorem of_pe {e : Expr} {t : TE} (h : PE X e t) {σ : L2.St} {H : Hp} {Q : VK} (q : t σ H Q) : wE X e σ H Q := fun pins s I => h.run pins s σ H Q I q
theorem of_pt {e : Expr} {t : TT} (h : PT X e t) {σ : L2.St} {H : Hp} {Q : Bool → Hp → Prop} (q : t σ H Q) : wT X e σ H Q := fun pins s I => h.run pins s σ H Q I q
theorem of_pa {es : List Expr} {t : TA} (h : PA X es t) {σ : L2.St} {H : Hp} {Q : List V → Hp → Prop} (q : t σ H Q) : wA X es σ H Q := fun pos pins s I => h.run pos pins s σ H Q I q
theorem of_ps {st : Stmt} {t : TS} (h : PS X st t) {σ : L2.St} {H : Hp} {D : L2.Ends} (q : t D σ H) : wS X st D σ H := fun pins s I => h.run pins s σ H D I q
theorem of_pss {st : List Stmt} {t : TS} (h : PSs X st t) {σ : L2.St} {H : Hp} {D : L2.Ends} (q : t D σ H) : wSs X st D σ H := fun pins s I => h.run pins s σ H D I q
theorem SP.imp {pins : List (Addr × Obj)} {D D' : L2.Ends} (h1 : ∀ σ H, D.nx σ H → D'.nx σ H) (h2 : ∀ v H, D.rt v H → D'.rt v H) (h3 : ∀ σ H, D.bk σ H → D'.bk σ H) (h4 : ∀ σ H, D.ct σ H → D'.ct σ H) :
    ∀ (f : Flow) (s : Shared), SP X pins D f s → SP X pins D' f s := fun f s h => by
  cases f with
  | next => obtain ⟨σ, H, I, q⟩ := h; exact ⟨σ, H, I, h1 _ _ q⟩
  | brk => obtain ⟨σ, H, I, q⟩ := h; exact ⟨σ, H, I, h3 _ _ q⟩
  | cont => obtain ⟨σ, H, I, q⟩ := h; exact ⟨σ, H, I, h4 _ _ q⟩
  | ret u => obtain ⟨v, σ, H, I, r, q⟩ := h; exact ⟨v, σ, H, I, r, h2 _ _ q⟩
theorem wS_mono {st : Stmt} {D D' : L2.Ends} {σ : L2.St} {H : Hp} (h : wS X st D σ H) (h1 : ∀ σ H, D.nx σ H → D'.nx σ H) (h2 : ∀ v H, D.rt v H → D'.rt v H) (h3 : ∀ σ H, D.bk σ H → D'.bk σ H) (h4 : ∀ σ H, D.ct σ H → D'.ct σ H) : wS X st D' σ H :=
  fun pins s I => thn (h pins s I) (SP.imp h1 h2 h3 h4)
theorem wSs_mono {st : List Stmt} {D D' : L2.Ends} {σ : L2.St} {H : Hp} (h : wSs X st D σ H) (h1 : ∀ σ H, D.nx σ H → D'.nx σ H) (h2 : ∀ v H, D.rt v H → D'.rt v H) (h3 : ∀ σ H, D.bk σ H → D'.bk σ H) (h4 : ∀ σ H, D.ct σ H → D'.ct σ H) : wSs X st D' σ H :=
  fun pins s I => thn (h pins s I) (SP.imp h1 h2 h3 h4)
end

/-! ### typed values -/
structure Ty (K : PySem.W.Frag) (α : Type) where
  r : Hp → V → α → Prop
  mono : ∀ {F F' : Hp} {v : V} {a : α}, Same F F' → r F v a → r F' v a
def All2 {α β : Type} (R : α → β → Prop) : List α → List β → Prop
  | [], [] => True
  | x :: xs, y :: ys => R x y ∧ All2 R xs ys
  | _, _ => False
theorem All2.length {α β : Type} {R : α → β → Prop} : ∀ {xs : List α} {ys : List β}, All2 R xs ys → xs.length = ys.length
  | [], [], _ => rfl
  | _ :: _, _ :: _, h => congrArg (· + 1) (All2.length h.2)
theorem All2.imp {α β : Type} {R S : α → β → Prop} (f : ∀ x y, R x y → S x y) : ∀ {xs : List α} {ys : List β}, All2 R xs ys → All2 S xs ys
  | [], [], _ => trivial
  | _ :: _, _ :: _, h => ⟨f _ _ h.1, All2.imp f h.2⟩
theorem All2.get {α β : Type} {R : α → β → Prop} : ∀ {xs : List α} {ys : List β} {i : Nat} {x : α}, All2 R xs ys → xs[i]? = some x → ∃ y, ys[i]? = some y ∧ R x y
  | [], _, _, _, _, e => by simp at e
  | _ :: _, _ :: _, 0, _, h, e => by simp at e; subst e; exact ⟨_, rfl, h.1⟩
  | _ :: _, _ :: _, i + 1, x, h, e => by
    obtain ⟨y, h1, h2⟩ := All2.get (i := i) (x := x) h.2 (by simpa using e)
    exact ⟨y, by simpa using h1, h2⟩
theorem All2.getR {α β : Type} {R : α → β → Prop} : ∀ {xs : List α} {ys : List β} {i : Nat} {y : β}, All2 R xs ys → ys[i]? = some y → ∃ x, xs[i]? = some x ∧ R x y
  | [], [], _, _, _, e => by simp at e
  | _ :: _, _ :: _, 0, _, h, e => by simp at e; subst e; exact ⟨_, rfl, h.1⟩
  | _ :: _, _ :: _, i + 1, x, h, e => by
    obtain ⟨y, h1, h2⟩ := All2.getR (i := i) (y := x) h.2 (by simpa using e)
    exact ⟨y, by simpa using h1, h2⟩
theorem All2.append {α β : Type} {R : α → β → Prop} : ∀ {xs xs' : List α} {ys ys' : List β}, All2 R xs ys → All2 R xs' ys' → All2 R (xs ++ xs') (ys ++ ys')
  | [], _, [], _, _, h => h
  | _ :: _, _, _ :: _, _, h, h' => ⟨h.1, All2.append h.2 h'⟩
theorem All2.take {α β : Type} {R : α → β → Prop} : ∀ {xs : List α} {ys : List β} (n : Nat), All2 R xs ys → All2 R (xs.take n) (ys.take n)
  | [], [], n, _ => by simp [All2]
  | _ :: _, _ :: _, 0, _ => trivial
  | _ :: _, _ :: _, n + 1, h => ⟨h.1, All2.take n h.2⟩
theorem All2.drop {α β : Type} {R : α → β → Prop} : ∀ {xs : List α} {ys : List β} (n : Nat), All2 R xs ys → All2 R (xs.drop n) (ys.drop n)
  | [], [], n, _ => by simp [All2]
  | _ :: _, _ :: _, 0, h => h
  | _ :: _, _ :: _, n + 1, h => All2.drop n h.2
theorem All2.reverse {α β : Type} {R : α → β → Prop} : ∀ {xs : List α} {ys : List β}, All2 R xs ys → All2 R xs.reverse ys.reverse
  | [], [], _ => trivial
  | x :: xs, y :: ys, h => by
    rw [List.reverse_cons, List.reverse_cons]
    exact All2.append (All2.reverse h.2) ⟨h.1, trivial⟩
theorem All2.map_left {α β γ : Type} {R : α → β → Prop} {f : γ → α} : ∀ {xs : List γ} {ys : List β}, All2 (fun x y => R (f x) y) xs ys → All2 R (xs.map f) ys
  | [], [], _ => trivial
  | _ :: _, _ :: _, h => ⟨h.1, All2.map_left h.2⟩
/-- what a list's values are if each is told by its datum -/
theorem All2.eq_map {α β : Type} {R : α → β → Prop} {f : β → α} (h : ∀ x y, R x y → x = f y) : ∀ {xs : List α} {ys : List β}, All2 R xs ys → xs = ys.map f
  | [], [], _ => rfl
  | _ :: _, _ :: _, q => by rw [List.map_cons, ← h _ _ q.1, ← All2.eq_map h q.2]
theorem All2.eqR_map {α β : Type} {R : α → β → Prop} {f : α → β} (h : ∀ x y, R x y → y = f x) : ∀ {xs : List α} {ys : List β}, All2 R xs ys → ys = xs.map f
  | [], [], _ => rfl
  | _ :: _, _ :: _, q => by rw [List.map_cons, ← h _ _ q.1, ← All2.eqR_map h q.2]
theorem All2.of_map {α β : Type} {R : α → β → Prop} {f : β → α} (h : ∀ y, R (f y) y) : ∀ (ys : List β), All2 R (ys.map f) ys
  | [] => trivial
  | _ :: r => ⟨h _, All2.of_map h r⟩

section
variable {K : PySem.W.Frag} {α β γ δ ε : Type}
def tInt : Ty K Int := ⟨fun _ v a => v = .int a, fun _ h => h⟩
def tBool : Ty K Bool := ⟨fun _ v a => v = .bl a, fun _ h => h⟩
def tStr : Ty K Str := ⟨fun _ v a => v = .str a, fun _ h => h⟩
def tNon : Ty K Unit := ⟨fun _ v _ => v = .non, fun _ h => h⟩
theorem sqT_mono {F F' : Hp} {p : Addr} {xs : List V} (e : Same F F') (h : SqT K F p xs) : SqT K F' p xs := by
  rcases h with (h | ⟨o, h⟩) | h
  · exact .inl (.inl (e _ _ h))
  · exact .inl (.inr ⟨o, e _ _ h⟩)
  · exact .inr h
/-- a tuple, what its items are -/
def tupTy (R : Hp → List V → α → Prop) (m : ∀ {F F' : Hp} {vs : List V} {a : α}, Same F F' → R F vs a → R F' vs a) : Ty K α :=
  ⟨fun F v a => ∃ p xs, v = .ref p ∧ SqT K F p xs ∧ R F xs a, fun e ⟨p, xs, h1, h2, h3⟩ => ⟨p, xs, h1, sqT_mono e h2, m e h3⟩⟩
def tTup (A : Ty K α) : Ty K (List α) := tupTy (fun F xs as => All2 (A.r F) xs as) fun e h => All2.imp (fun _ _ => A.mono e) h
def tT1 (A : Ty K α) : Ty K α := tupTy (fun F xs a => ∃ x, xs = [x] ∧ A.r F x a) fun e ⟨x, h, h1⟩ => ⟨x, h, A.mono e h1⟩
def tT2 (A : Ty K α) (B : Ty K β) : Ty K (α × β) := tupTy (fun F xs a => ∃ x y, xs = [x, y] ∧ A.r F x a.1 ∧ B.r F y a.2) fun e ⟨x, y, h, h1, h2⟩ => ⟨x, y, h, A.mono e h1, B.mono e h2⟩
def tT3 (A : Ty K α) (B : Ty K β) (C : Ty K γ) : Ty K (α × β × γ) := tupTy (fun F xs a => ∃ x y z, xs = [x, y, z] ∧ A.r F x a.1 ∧ B.r F y a.2.1 ∧ C.r F z a.2.2)
  fun e ⟨x, y, z, h, h1, h2, h3⟩ => ⟨x, y, z, h, A.mono e h1, B.mono e h2, C.mono e h3⟩
def tT4 (A : Ty K α) (B : Ty K β) (C : Ty K γ) (D : Ty K δ) : Ty K (α × β × γ × δ) := tupTy (fun F xs a => ∃ x y z u, xs = [x, y, z, u] ∧ A.r F x a.1 ∧ B.r F y a.2.1 ∧ C.r F z a.2.2.1 ∧ D.r F u a.2.2.2)
  fun e ⟨x, y, z, u, h, h1, h2, h3, h4⟩ => ⟨x, y, z, u, h, A.mono e h1, B.mono e h2, C.mono e h3, D.mono e h4⟩
theorem sqL_mono {F F' : Hp} {p : Addr} {xs : List V} (e : Same F F') (h : SqL K F p xs) : SqL K F' p xs := e.seq h
/-- a list, made in the run -/
def tLst (A : Ty K α) : Ty K (List α) := ⟨fun F v as => ∃ p xs, v = .ref p ∧ F p = some (.lst xs) ∧ All2 (A.r F) xs as, fun e ⟨p, xs, h1, h2, h3⟩ => ⟨p, xs, h1, e _ _ h2, All2.imp (fun _ _ => A.mono e) h3⟩⟩
/-- a list of any make (the script) -/
def tSeq (A : Ty K α) : Ty K (List α) := ⟨fun F v as => ∃ p xs, v = .ref p ∧ SqL K F p xs ∧ All2 (A.r F) xs as, fun e ⟨p, xs, h1, h2, h3⟩ => ⟨p, xs, h1, sqL_mono e h2, All2.imp (fun _ _ => A.mono e) h3⟩⟩
theorem seq_of_lst {A : Ty K α} {F : Hp} {v : V} {as : List α} (h : (tLst A).r F v as) : (tSeq A).r F v as := let ⟨p, xs, h1, h2, h3⟩ := h; ⟨p, xs, h1, .inl (.inl h2), h3⟩
def tOpt (A : Ty K α) : Ty K (Option α) := ⟨fun F v a => match a with | none => v = .non | some x => v ≠ .non ∧ A.r F v x, fun {_ _ _ a} e h => match a, h with | none, h => h | some _, h => ⟨h.1, A.mono e h.2⟩⟩
theorem SqT.up {F H : Hp} {p : Addr} {xs : List V} (e : Same F H) (h : SqT K F p xs) : SqT K H p xs := sqT_mono e h
end

/-! ### what a slot holds -/
structure Ent where
  ok : V → (Addr → Prop) → Hp → Hp → Prop
  frz : Bool
  vol : Bool
  st : ∀ {v ps F F' H H'}, ok v ps F H → Same F F' → (∀ p, ps p → H' p = H p) → ok v ps F' H'
  fz : frz = true → ∀ {v ps F H}, ok v ps F H → ∀ p, ¬ ps p
def val {K : PySem.W.Frag} {α : Type} (T : Ty K α) (a : α) : Ent :=
  ⟨fun v ps F _ => (∀ p, ¬ ps p) ∧ T.r F v a, true, false, fun h e _ => ⟨h.1, T.mono e h.2⟩, fun _ _ _ _ _ h => h.1⟩
/-- an own list of frozen things -/
def ownL {K : PySem.W.Frag} {α : Type} (T : Ty K α) (as : List α) : Ent :=
  ⟨fun v ps F H => ∃ p vs, v = .ref p ∧ (∀ q, ps q ↔ q = p) ∧ H p = some (.lst vs) ∧ All2 (T.r F) vs as, false, false,
   fun ⟨p, vs, h1, h2, h3, h4⟩ e k => ⟨p, vs, h1, h2, by rw [k p ((h2 p).mpr rfl)]; exact h3, All2.imp (fun _ _ => T.mono e) h4⟩, fun h => nomatch h⟩

abbrev Gm := List (Option Ent)
structure Base where
  F : Hp
  H : Hp
  vol : Addr → Prop
  pin : Addr → Prop
  loc : Addr → Prop := fun _ => False
structure Sta (B : Base) (Γ : Gm) (σ : L2.St) (F H : Hp) : Prop where
  len : Γ.length = σ.length
  sub : Same F H
  ext : Same B.F F
  keep : ∀ b o, B.H b = some o → ¬ B.vol b → H b = some o
  dom : ∀ b, B.H b ≠ none → H b ≠ none
  new : ∀ b, B.H b ≠ none → B.F b = none → F b = none
  pnd : ∀ b, B.pin b → H b ≠ none ∧ F b = none
  own : ∃ O : Nat → Addr → Prop, (∀ i p, O i p → F p = none ∧ H p ≠ none ∧ (B.H p = none ∨ B.vol p) ∧ ¬ B.pin p) ∧ (∀ i j p, O i p → O j p → i = j) ∧
    ∀ (i : Nat) (e : Ent), Γ[i]? = some (some e) → ∃ v, σ[i]? = some (some v) ∧ e.ok v (O i) F H ∧ (e.vol = false → ∀ p, O i p → B.H p = none ∨ B.loc p)
/-- things are made anew, none is changed -/
structure Step (F H F' H' : Hp) : Prop where
  ff : Same F F'
  hh : Same H H'
  sub : Same F' H'
  new : ∀ b, H b ≠ none → F b = none → F' b = none
theorem Step.refl {F H : Hp} (h : Same F H) : Step F H F H := ⟨Same.refl _, Same.refl _, h, fun _ _ h => h⟩
theorem Same.dom {H H' : Hp} (h : Same H H') {b : Addr} (n : H b ≠ none) : H' b ≠ none := by
  cases q : H b with
  | none => exact absurd q n
  | some o => rw [h b o q]; exact fun z => nomatch z
theorem Step.trans {F H F1 H1 F2 H2 : Hp} (a : Step F H F1 H1) (b : Step F1 H1 F2 H2) : Step F H F2 H2 :=
  ⟨a.ff.trans b.ff, a.hh.trans b.hh, b.sub, fun c h1 h2 => b.new c (Same.dom a.hh h1) (a.new c h1 h2)⟩
theorem same_new {H : Hp} {p : Addr} {o : HO} (h : H p = none) : Same H (upd H p o) := fun b x e => by
  rw [upd_ne (ne_of_none e h)]
  exact e
theorem same_none {F H : Hp} (h : Same F H) {p : Addr} (e : H p = none) : F p = none := h.free e
/-- a new frozen thing -/
theorem Step.frozen {F H : Hp} (h : Same F H) {p : Addr} {o : HO} (e : H p = none) : Step F H (upd F p o) (upd H p o) :=
  ⟨same_new (h.free e), same_new e, fun b x q => by
    by_cases hb : b = p
    · subst hb; rw [upd_same] at q ⊢; exact q
    · rw [upd_ne hb] at q ⊢; exact h _ _ q, fun b n1 n2 => by
    have hb : b ≠ p := fun z => n1 (by rw [z]; exact e)
    rw [upd_ne hb]; exact n2⟩
/-- a new thing, not frozen -/
theorem Step.made {F H : Hp} (h : Same F H) {p : Addr} {o : HO} (e : H p = none) : Step F H F (upd H p o) :=
  ⟨Same.refl _, same_new e, h.trans (same_new e), fun b _ n2 => n2⟩
section
variable {B : Base} {Γ : Gm} {σ : L2.St} {F H F' H' : Hp}
theorem Sta.step (S : Sta B Γ σ F H) (e : Step F H F' H') : Sta B Γ σ F' H' := by
  obtain ⟨O, h1, h2, h3⟩ := S.own
  refine ⟨S.len, e.sub, S.ext.trans e.ff, fun b o q n => e.hh _ _ (S.keep b o q n), fun b n => Same.dom e.hh (S.dom b n), fun b n1 n2 => e.new b (S.dom b n1) (S.new b n1 n2), fun b z => ⟨Same.dom e.hh (S.pnd b z).1, e.new b (S.pnd b z).1 (S.pnd b z).2⟩, O, fun i p hp => ?_, h2, fun i x hx => ?_⟩
  · obtain ⟨a, b, c, d⟩ := h1 i p hp
    exact ⟨e.new p b a, Same.dom e.hh b, c, d⟩
  · obtain ⟨v, hv, ho, hw⟩ := h3 i x hx
    refine ⟨v, hv, x.st ho e.ff fun p hp => ?_, hw⟩
    obtain ⟨a, b, c, d⟩ := h1 i p hp
    cases q : H p with
    | none => exact absurd q b
    | some o => exact e.hh _ _ q
/-- a slot's value known to be typed is set -/
theorem Sta.set {i : Nat} {v : V} {e : Ent} (S : Sta B Γ σ F H) (hi : i < Γ.length) (h : e.ok v (fun _ => False) F H) : Sta B (Γ.set i (some e)) (σ.set i (some v)) F H := by
  obtain ⟨O, h1, h2, h3⟩ := S.own
  refine ⟨by rw [List.length_set, List.length_set]; exact S.len, S.sub, S.ext, S.keep, S.dom, S.new, S.pnd, fun j p => j ≠ i ∧ O j p, fun j p hp => h1 j p hp.2, fun j k p hp hq => h2 j k p hp.2 hq.2, fun j x hx => ?_⟩
  by_cases hj : j = i
  · subst hj
    rw [List.getElem?_set_self hi] at hx
    cases hx
    refine ⟨v, List.getElem?_set_self (by rw [← S.len]; exact hi), ?_, fun _ p hp => absurd rfl hp.1⟩
    have e0 : (fun p => j ≠ j ∧ O j p) = (fun _ => False) := by funext p; simp
    show e.ok v (fun p => j ≠ j ∧ O j p) F H
    rw [e0]
    exact h
  · rw [List.getElem?_set_ne (Ne.symm hj)] at hx
    obtain ⟨w, hw, ho, hz⟩ := h3 j x hx
    refine ⟨w, by rw [List.getElem?_set_ne (Ne.symm hj)]; exact hw, ?_, fun b p hp => hz b p hp.2⟩
    have e0 : (fun p => j ≠ i ∧ O j p) = O j := by funext p; simp [hj]
    show x.ok w (fun p => j ≠ i ∧ O j p) F H
    rw [e0]
    exact ho
/-- a new thing, pinned -/
theorem Sta.make {p : Addr} {o : HO} (S : Sta B Γ σ F H) (e : H p = none) : Sta { B with pin := fun q => q = p ∨ B.pin q } Γ σ F (upd H p o) ∧ B.H p = none ∧ ¬ B.pin p ∧ F p = none := by
  have hb : B.H p = none := by
    cases z : B.H p with
    | none => rfl
    | some o => exact absurd e (S.dom p (by rw [z]; exact fun y => nomatch y))
  have hf : F p = none := S.sub.free e
  refine ⟨?_, hb, fun z => (S.pnd p z).1 e, hf⟩
  have st := Step.made (o := o) S.sub e
  obtain ⟨O, h1, h2, h3⟩ := S.own
  have S2 := S.step st
  refine ⟨S.len, S2.sub, S2.ext, S2.keep, S2.dom, S2.new, fun q z => ?_, O, fun i q hq => ?_, h2, fun i x hx => ?_⟩
  · rcases z with z | z
    · subst z; exact ⟨by rw [upd_same]; (exact fun y => nomatch y), hf⟩
    · exact ⟨Same.dom st.hh (S.pnd q z).1, (S.pnd q z).2⟩
  · obtain ⟨a, b, c, d⟩ := h1 i q hq
    refine ⟨a, Same.dom st.hh b, c, fun z => ?_⟩
    rcases z with z | z
    · rw [z] at b; exact b e
    · exact d z
  · obtain ⟨v, hv, ho, hw⟩ := h3 i x hx
    refine ⟨v, hv, x.st ho (Same.refl _) fun q hq => ?_, hw⟩
    obtain ⟨a, b, c, d⟩ := h1 i q hq
    exact upd_ne fun z => b (by rw [z]; exact e)
theorem Sta.unpin {p : Addr} (S : Sta { B with pin := fun q => q = p ∨ B.pin q } Γ σ F H) : Sta B Γ σ F H := by
  obtain ⟨O, h1, h2, h3⟩ := S.own
  refine ⟨S.len, S.sub, S.ext, S.keep, S.dom, S.new, fun q z => S.pnd q (.inr z), O, fun i q hq => ?_, h2, h3⟩
  obtain ⟨a, b, c, d⟩ := h1 i q hq
  exact ⟨a, b, c, fun z => d (.inr z)⟩
/-- the pinned thing is changed -/
theorem Sta.pinUpd {p : Addr} {o : HO} (S : Sta { B with pin := fun q => q = p ∨ B.pin q } Γ σ F H) (e : B.H p = none) (f : F p = none) : Sta { B with pin := fun q => q = p ∨ B.pin q } Γ σ F (upd H p o) := by
  obtain ⟨O, h1, h2, h3⟩ := S.own
  have nop : ∀ i, ¬ O i p := fun i hp => (h1 i p hp).2.2.2 (.inl rfl)
  refine ⟨S.len, fun b x q => by rw [upd_ne (ne_of_none q f)]; exact S.sub b x q, S.ext, fun b x q n => by rw [upd_ne (ne_of_none q e)]; exact S.keep b x q n, fun b n => ?_, S.new, fun q z => ⟨?_, (S.pnd q z).2⟩, O, fun i q hq => ?_, h2, fun i x hx => ?_⟩
  · have hb : b ≠ p := fun z => n (by rw [z]; exact e)
    rw [upd_ne hb]; exact S.dom b n
  · by_cases hb : q = p
    · rw [hb, upd_same]; exact fun y => nomatch y
    · rw [upd_ne hb]; exact (S.pnd q z).1
  · obtain ⟨a, b, c, d⟩ := h1 i q hq
    have hq' : q ≠ p := fun z => nop i (z ▸ hq)
    exact ⟨a, by rw [upd_ne hq']; exact b, c, d⟩
  · obtain ⟨v, hv, ho, hw⟩ := h3 i x hx
    refine ⟨v, hv, x.st ho (Same.refl _) fun q hq => ?_, hw⟩
    have hq' : q ≠ p := fun z => nop i (z ▸ hq)
    rw [upd_ne hq']
/-- what was pinned becomes a slot's own -/
theorem Sta.take {i : Nat} {p : Addr} {e : Ent} (S : Sta { B with pin := fun q => q = p ∨ B.pin q } Γ σ F H) (hi : i < Γ.length) (h : e.ok (.ref p) (fun q => q = p) F H) (h1' : F p = none) (h2' : H p ≠ none) (h3' : B.H p = none) (h4' : ¬ B.pin p) :
    Sta B (Γ.set i (some e)) (σ.set i (some (.ref p))) F H := by
  obtain ⟨O, h1, h2, h3⟩ := S.own
  have nop : ∀ i, ¬ O i p := fun i hp => (h1 i p hp).2.2.2 (.inl rfl)
  refine ⟨by rw [List.length_set, List.length_set]; exact S.len, S.sub, S.ext, S.keep, S.dom, S.new, fun q z => S.pnd q (.inr z), fun j q => if j = i then q = p else O j q, fun j q hq => ?_, fun j k q hp hq => ?_, fun j x hx => ?_⟩
  · by_cases hj : j = i
    · simp only [hj, if_true] at hq
      subst hq
      exact ⟨h1', h2', .inl h3', h4'⟩
    · simp only [hj, if_false] at hq
      obtain ⟨a, b, c, d⟩ := h1 j q hq
      exact ⟨a, b, c, fun z => d (.inr z)⟩
  · by_cases hj : j = i
    · by_cases hk : k = i
      · rw [hj, hk]
      · simp only [hj, if_true] at hp
        simp only [hk, if_false] at hq
        subst hp
        exact absurd hq (nop k)
    · by_cases hk : k = i
      · simp only [hj, if_false] at hp
        simp only [hk, if_true] at hq
        subst hq
        exact absurd hp (nop j)
      · simp only [hj, if_false] at hp
        simp only [hk, if_false] at hq
        exact h2 j k q hp hq
  · by_cases hj : j = i
    · subst hj
      rw [List.getElem?_set_self hi] at hx
      cases hx
      refine ⟨.ref p, List.getElem?_set_self (by rw [← S.len]; exact hi), ?_, fun _ q hq => ?_⟩
      · simp only [if_true]
        exact h
      · simp only [if_true] at hq
        rw [hq]; exact .inl h3'
    · rw [List.getElem?_set_ne (Ne.symm hj)] at hx
      obtain ⟨w, hw, ho, hz⟩ := h3 j x hx
      refine ⟨w, by rw [List.getElem?_set_ne (Ne.symm hj)]; exact hw, ?_, fun b q hq => ?_⟩
      · simp only [hj, if_false]
        exact ho
      · simp only [hj, if_false] at hq
        exact hz b q hq
/-- a slot that owns is changed, with its things -/
theorem Sta.own_upd {i : Nat} {e : Ent} {e' : Ent} (S : Sta B Γ σ F H) (hi : Γ[i]? = some (some e)) (hvol : e'.vol = e.vol)
    (k : ∀ v ps, σ[i]? = some (some v) → e.ok v ps F H → (∀ p, ps p → F p = none ∧ H p ≠ none ∧ (B.H p = none ∨ B.vol p) ∧ ¬ B.pin p) →
      ∃ ps', Same F' H' ∧ Same F F' ∧ (∀ b o, H b = some o → ¬ ps b → H' b = some o) ∧ (∀ b, H b ≠ none → H' b ≠ none) ∧ (∀ b, H b ≠ none → F b = none → F' b = none) ∧ (∀ p, ps' p → (ps p ∨ H p = none) ∧ F' p = none ∧ H' p ≠ none ∧ ¬ B.pin p) ∧ e'.ok v ps' F' H') :
    Sta B (Γ.set i (some e')) σ F' H' := by
  obtain ⟨O, h1, h2, h3⟩ := S.own
  obtain ⟨v, hv, ho, hz⟩ := h3 i e hi
  obtain ⟨ps', s1, s2, s3, s4, s5, s6, s7⟩ := k v (O i) hv ho (h1 i)
  have hil : i < Γ.length := (List.getElem?_eq_some_iff.mp hi).1
  refine ⟨by rw [List.length_set]; exact S.len, s1, S.ext.trans s2, fun b o q n => s3 b o (S.keep b o q n) fun hb => ?_, fun b n => s4 b (S.dom b n), fun b n1 n2 => s5 b (S.dom b n1) (S.new b n1 n2), fun q z => ⟨s4 q (S.pnd q z).1, s5 q (S.pnd q z).1 (S.pnd q z).2⟩, fun j p => if j = i then ps' p else O j p, fun j p hp => ?_, fun j l p hp hq => ?_, fun j x hx => ?_⟩
  · rcases (h1 i b hb).2.2.1 with z | z
    · rw [z] at q; cases q
    · exact n z
  · by_cases hj : j = i
    · simp only [hj, if_true] at hp
      obtain ⟨a, b, c, d⟩ := s6 p hp
      refine ⟨b, c, ?_, d⟩
      rcases a with a | a
      · exact (h1 i p a).2.2.1
      · left
        cases q : B.H p with
        | none => rfl
        | some o => exact absurd a (S.dom p (by rw [q]; exact fun z => nomatch z))
    · simp only [hj, if_false] at hp
      obtain ⟨a, b, c, d⟩ := h1 j p hp
      exact ⟨s5 p b a, s4 p b, c, d⟩
  · have key : ∀ a b, a = i → b ≠ i → ps' p → O b p → False := fun a b ha hb q1 q2 => by
      rcases (s6 p q1).1 with z | z
      · exact hb (h2 b i p q2 z)
      · exact (h1 b p q2).2.1 z
    by_cases hj : j = i
    · by_cases hl : l = i
      · rw [hj, hl]
      · simp only [hj, if_true] at hp
        simp only [hl, if_false] at hq
        exact (key j l hj hl hp hq).elim
    · by_cases hl : l = i
      · simp only [hj, if_false] at hp
        simp only [hl, if_true] at hq
        exact (key l j hl hj hq hp).elim
      · simp only [hj, if_false] at hp
        simp only [hl, if_false] at hq
        exact h2 j l p hp hq
  · by_cases hj : j = i
    · subst hj
      rw [List.getElem?_set_self hil] at hx
      cases hx
      refine ⟨v, hv, ?_, fun b p hp => ?_⟩
      · simp only [if_true]
        exact s7
      · simp only [if_true] at hp
        rcases (s6 p hp).1 with z | z
        · exact hz (hvol ▸ b) p z
        · left
          cases q : B.H p with
          | none => rfl
          | some o => exact absurd z (S.dom p (by rw [q]; exact fun z => nomatch z))
    · rw [List.getElem?_set_ne (Ne.symm hj)] at hx
      obtain ⟨w, hw, hok, hz'⟩ := h3 j x hx
      refine ⟨w, hw, ?_, fun b p hp => by simp only [hj, if_false] at hp; exact hz' b p hp⟩
      simp only [hj, if_false]
      refine x.st hok s2 fun p hp => ?_
      obtain ⟨a, b, c, d⟩ := h1 j p hp
      cases q : H p with
      | none => exact absurd q b
      | some o => exact s3 p o q fun z => hj (h2 j i p hp z)
theorem Sta.get {i : Nat} {e : Ent} (S : Sta B Γ σ F H) (hi : Γ[i]? = some (some e)) : ∃ v ps, σ[i]? = some (some v) ∧ e.ok v ps F H ∧ ∀ p, ps p → F p = none ∧ H p ≠ none ∧ (B.H p = none ∨ B.vol p) ∧ ¬ B.pin p := by
  obtain ⟨O, h1, h2, h3⟩ := S.own
  obtain ⟨v, hv, ho, _⟩ := h3 i e hi
  exact ⟨v, O i, hv, ho, h1 i⟩
/-- the pinned thing is frozen -/
theorem Sta.freeze {p : Addr} {o : HO} (S : Sta { B with pin := fun q => q = p ∨ B.pin q } Γ σ F H) (h : H p = some o) (e : B.H p = none) (nb : ¬ B.pin p) : Sta B Γ σ (upd F p o) H ∧ Same F (upd F p o) := by
  have hf : F p = none := (S.pnd p (.inl rfl)).2
  have ff : Same F (upd F p o) := same_new hf
  obtain ⟨O, h1, h2, h3⟩ := S.own
  refine ⟨⟨S.len, fun b x q => ?_, S.ext.trans ff, S.keep, S.dom, fun b n1 n2 => ?_, fun q z => ⟨(S.pnd q (.inr z)).1, ?_⟩, O, fun i q hq => ?_, h2, fun i x hx => ?_⟩, ff⟩
  · by_cases hb : b = p
    · subst hb; rw [upd_same] at q; rw [h]; exact q
    · rw [upd_ne hb] at q; exact S.sub b x q
  · rw [upd_ne fun z => n1 (by rw [z]; exact e)]; exact S.new b n1 n2
  · rw [upd_ne (show q ≠ p from fun y => nb (by rw [← y]; exact z))]; exact (S.pnd q (.inr z)).2
  · obtain ⟨a, b, c, d⟩ := h1 i q hq
    exact ⟨by rw [upd_ne fun y => d (.inl y)]; exact a, b, c, fun z => d (.inr z)⟩
  · obtain ⟨v, hv, ho, hw⟩ := h3 i x hx
    exact ⟨v, hv, x.st ho ff fun _ _ => rfl, hw⟩
/-- slots forgotten -/
theorem Sta.weak {Γ' : Gm} (S : Sta B Γ σ F H) (hl : Γ'.length = Γ.length) (h : ∀ (i : Nat) (e : Ent), Γ'[i]? = some (some e) → Γ[i]? = some (some e)) : Sta B Γ' σ F H := by
  obtain ⟨O, h1, h2, h3⟩ := S.own
  exact ⟨hl.trans S.len, S.sub, S.ext, S.keep, S.dom, S.new, S.pnd, O, h1, h2, fun i e q => h3 i e (h i e q)⟩
end
end Px
/-! Px, second part: the judgements over typed slots and their first rules. -/
namespace Px
open PySem PySem.Spec PyProof.Rows L2

/-! ### the context -/
structure Ctx (P : Program) (w : World) (K : PySem.W.Frag) (mg : Str → Option Value) (base : Heap) (lv : Nat) (N : List Str) (sc : Scope) (fn : Str → Bool) where
  X : Cx
  hP : X.prog = P
  hw : X.w = w
  hK : X.K = K
  hmg : X.mg = mg
  hbase : X.base = base
  hN : X.N = N
  nd : N.Nodup
  hsc : X.env.scope = sc
  hfn : X.fn = fn
  calm : X.calm = true
  room : Room lv X.A
  pas : PassesOwn (model X.prog X.w) X.A X.env X.xe

def slotOf : List Str → Str → Nat → Option Nat
  | [], _, _ => none
  | y :: r, x, i => if y = x then some i else slotOf r x (i + 1)
theorem slotOf_get {x : Str} : ∀ {N : List Str} {j i : Nat}, slotOf N x j = some i → j ≤ i ∧ N[i - j]? = some x
  | [], _, _, h => nomatch h
  | y :: r, j, i, h => by
    unfold slotOf at h
    by_cases e : y = x
    · rw [if_pos e] at h
      cases h
      rw [Nat.sub_self, e]
      exact ⟨Nat.le_refl _, rfl⟩
    · rw [if_neg e] at h
      obtain ⟨h1, h2⟩ := slotOf_get h
      refine ⟨by omega, ?_⟩
      have e2 : i - j = (i - (j + 1)) + 1 := by omega
      rw [e2, List.getElem?_cons_succ]
      exact h2
theorem slotOf_at {x : Str} {N : List Str} {i : Nat} (h : slotOf N x 0 = some i) : N[i]? = some x := (slotOf_get h).2
def visB (sc : Scope) (x : Str) : Bool := match sc.names.lookup x with
  | some .local => true
  | some .cell => true
  | some .free => true
  | _ => false
theorem visB_vis {sc : Scope} {x : Str} (h : visB sc x = true) : Vis sc x := by
  unfold visB at h
  unfold Vis
  split at h <;> simp_all
def locB (sc : Scope) (fn : Str → Bool) (x : Str) : Bool := match sc.names.lookup x with
  | some .local => true
  | some .cell => fn x
  | _ => false
theorem locB_loc {sc : Scope} {fn : Str → Bool} {x : Str} (h : locB sc fn x = true) : L2.Loc sc x ∧ (fn x = true ∨ sc.names.lookup x = some .local) := by
  unfold locB at h
  unfold L2.Loc
  split at h <;> simp_all
def glB (sc : Scope) (x : Str) : Bool := match sc.names.lookup x with
  | some .globalImplicit => true
  | _ => false
theorem glB_gl {sc : Scope} {x : Str} (h : glB sc x = true) : sc.names.lookup x = some .globalImplicit := by
  unfold glB at h
  split at h <;> simp_all

section
variable {P : Program} {w : World} {K : PySem.W.Frag} {mg : Str → Option Value} {base : Heap} {lv : Nat} {N : List Str} {sc : Scope} {fn : Str → Bool}
variable {α β γ δ ρ : Type}

/-! ### judgements -/
def EW (c : Ctx P w K mg base lv N sc fn) (Γ : Gm) (e : Expr) (T : Ty K α) (k : Gm → α → Prop) : Prop :=
  ∀ B σ F H, Sta B Γ σ F H → ∀ Q : VK, (∀ v a Γ' F' H', Sta B Γ' σ F' H' → Same F F' → T.r F' v a → k Γ' a → Q v H') → wE c.X e σ H Q
/-- a fresh thing, pinned: a list of frozen items -/
def EL (c : Ctx P w K mg base lv N sc fn) (Γ : Gm) (e : Expr) (T : Ty K α) (k : Gm → List α → Prop) : Prop :=
  ∀ B σ F H, Sta B Γ σ F H → ∀ Q : VK, (∀ p vs as Γ' F' H', Sta { B with pin := fun q => q = p ∨ B.pin q } Γ' σ F' H' → Same F F' → B.H p = none → F' p = none → ¬ B.pin p → H' p = some (.lst vs) → All2 (T.r F') vs as → k Γ' as → Q (.ref p) H') → wE c.X e σ H Q
def TW (c : Ctx P w K mg base lv N sc fn) (Γ : Gm) (e : Expr) (k : Gm → Bool → Prop) : Prop :=
  ∀ B σ F H, Sta B Γ σ F H → ∀ Q : Bool → Hp → Prop, (∀ b Γ' F' H', Sta B Γ' σ F' H' → Same F F' → k Γ' b → Q b H') → wT c.X e σ H Q
/-- typed arguments -/
structure TV (K : PySem.W.Frag) where
  r : Hp → V → Prop
  mono : ∀ {F F' : Hp} {v : V}, Same F F' → r F v → r F' v
def tv (T : Ty K α) (a : α) : TV K := ⟨fun F v => T.r F v a, fun e h => T.mono e h⟩
def EWs (c : Ctx P w K mg base lv N sc fn) (Γ : Gm) (es : List Expr) (k : Gm → List (TV K) → Prop) : Prop :=
  ∀ B σ F H, Sta B Γ σ F H → ∀ Q : List V → Hp → Prop, (∀ vs ts Γ' F' H', Sta B Γ' σ F' H' → Same F F' → All2 (fun v (t : TV K) => t.r F' v) vs ts → k Γ' ts → Q vs H') → wA c.X es σ H Q
/-- an operation on values -/
def RW (r : R2) (A : Ty K α) (B : Ty K β) (C : Ty K γ) (a : α) (b : β) (k : γ → Prop) : Prop :=
  ∀ F H x y, Same F H → A.r F x a → B.r F y b → ∀ Q : VK, (∀ v F' H' c, Step F H F' H' → C.r F' v c → k c → Q v H') → r x y H Q
def RU (r : V → Hp → VK → Prop) (A : Ty K α) (C : Ty K γ) (a : α) (k : γ → Prop) : Prop :=
  ∀ F H x, Same F H → A.r F x a → ∀ Q : VK, (∀ v F' H' c, Step F H F' H' → C.r F' v c → k c → Q v H') → r x H Q
/-- a call of a built-in on values -/
def RC (r : List V → Hp → VK → Prop) (ts : List (TV K)) (C : Ty K γ) (k : γ → Prop) : Prop :=
  ∀ F H xs, Same F H → All2 (fun v (t : TV K) => t.r F v) xs ts → ∀ Q : VK, (∀ v F' H' c, Step F H F' H' → C.r F' v c → k c → Q v H') → r xs H Q

variable {c : Ctx P w K mg base lv N sc fn} {Γ : Gm} {e a b d : Expr} {es : List Expr} {pos pos' : Pos} {T : Ty K α} {A : Ty K α} {B' : Ty K β} {C : Ty K γ}

theorem EW.imp {k k' : Gm → α → Prop} (h : EW c Γ e T k) (f : ∀ Γ a, k Γ a → k' Γ a) : EW c Γ e T k' := fun B σ F H S Q q => h B σ F H S Q fun v a Γ' F' H' S' e' r' k' => q v a Γ' F' H' S' e' r' (f _ _ k')
theorem TW.imp {k k' : Gm → Bool → Prop} (h : TW c Γ e k) (f : ∀ Γ a, k Γ a → k' Γ a) : TW c Γ e k' := fun B σ F H S Q q => h B σ F H S Q fun a Γ' F' H' S' e' k' => q a Γ' F' H' S' e' (f _ _ k')
/-- read with another type -/
theorem EW.as {T' : Ty K β} {k : Gm → β → Prop} (f : α → β) (h : EW c Γ e T fun Γ a => k Γ (f a)) (hf : ∀ F v a, T.r F v a → T'.r F v (f a)) : EW c Γ e T' k := fun B σ F H S Q q =>
  h B σ F H S Q fun v a Γ' F' H' S' e' r' k' => q v (f a) Γ' F' H' S' e' (hf _ _ _ r') k'

/-! ### names, constants -/
theorem ew_name {i : Nat} {x : Str} {x0 : α} {k : Gm → α → Prop} (hs : slotOf N x 0 = some i) (hv : visB sc x = true) (hg : Γ[i]? = some (some (val T x0))) (hk : k Γ x0)
    (hd : (x == ("__debug__" : Str)) = false := by decide +kernel) (hcd : (x == ("__classdict__" : Str)) = false := by decide +kernel) : EW c Γ (.Name x pos) T k := by
  intro B σ F H S Q q
  have hN := c.hN
  have hsc := c.hsc
  obtain ⟨v, ps, h1, h2, _⟩ := S.get hg
  exact of_pe (pe_var (by rw [hN]; exact slotOf_at hs) (by rw [hsc]; exact visB_vis hv) hd hcd) ⟨v, h1, q v x0 Γ F H S (Same.refl _) h2.2 hk⟩
theorem ew_int {i : Int} {j} {k : Gm → Int → Prop} (hk : k Γ i) : EW c Γ (.Constant (.int i) j pos) tInt k := fun B σ F H S Q q => of_pe pe_int (q _ i Γ F H S (Same.refl _) rfl hk)
theorem ew_bl {i : Bool} {j} {k : Gm → Bool → Prop} (hk : k Γ i) : EW c Γ (.Constant (.bool i) j pos) tBool k := fun B σ F H S Q q => of_pe pe_bl (q _ i Γ F H S (Same.refl _) rfl hk)
theorem ew_str {i : Str} {j} {k : Gm → Str → Prop} (hk : k Γ i) : EW c Γ (.Constant (.str i) j pos) tStr k := fun B σ F H S Q q => of_pe pe_str (q _ i Γ F H S (Same.refl _) rfl hk)
theorem ew_non {j} {k : Gm → Unit → Prop} (hk : k Γ ()) : EW c Γ (.Constant .none j pos) tNon k := fun B σ F H S Q q => of_pe pe_non (q _ () Γ F H S (Same.refl _) rfl hk)
theorem ew_none {j} {k : Gm → Option α → Prop} (hk : k Γ none) : EW c Γ (.Constant .none j pos) (tOpt T) k := fun B σ F H S Q q => of_pe pe_non (q _ none Γ F H S (Same.refl _) rfl hk)
/-- a module's constant -/
theorem ew_glob {x : Str} {v : V} {u : Value} {x0 : α} {k : Gm → α → Prop} (hg : glB sc x = true) (hm : mg x = some u) (r : RelV v u) (ht : ∀ F, T.r F v x0) (hk : k Γ x0) (hd : (x == ("__debug__" : Str)) = false := by decide +kernel) : EW c Γ (.Name x pos) T k := by
  intro B σ F H S Q q
  have hsc := c.hsc
  have hmg := c.hmg
  exact of_pe (pe_glob (v := v) (u := u) (by show c.X.env.scope.names.lookup x = _; rw [hsc]; exact glB_gl hg) (by rw [hmg]; exact hm) r hd) (q v x0 Γ F H S (Same.refl _) (ht F) hk)

/-! ### operators -/
theorem ew_bin {op : Operator} {r : R2} {k : Gm → γ → Prop} (ho : ∀ {X : Cx}, X.K = K → OpR X (binaryOp op) r) (h : EW c Γ a A fun Γ1 i => EW c Γ1 b B' fun Γ2 j => RW r A B' C i j fun z => k Γ2 z) : EW c Γ (.BinOp a op b pos) C k := by
  intro B σ F H S Q q
  refine of_pe (pe_op (ho c.hK) peW peW) ?_
  refine h B σ F H S _ fun v i Γ1 F1 H1 S1 e1 r1 h1 => ?_
  refine h1 B σ F1 H1 S1 _ fun u j Γ2 F2 H2 S2 e2 r2 h2 => ?_
  exact h2 F2 H2 v u S2.sub (A.mono e2 r1) r2 Q fun z F3 H3 y e3 r3 h3 => q z y Γ2 F3 H3 (S2.step e3) ((e1.trans e2).trans e3.ff) r3 h3
theorem ew_unop {op : UnaryOp} {r : V → Hp → VK → Prop} {k : Gm → γ → Prop} (ho : ∀ {X : Cx}, UnR X (unaryOp op) r) (h : EW c Γ a A fun Γ1 i => RU r A C i fun z => k Γ1 z) : EW c Γ (.UnaryOp op a pos) C k := by
  intro B σ F H S Q q
  refine of_pe (pe_un ho peW) ?_
  refine h B σ F H S _ fun v i Γ1 F1 H1 S1 e1 r1 h1 => ?_
  exact h1 F1 H1 v S1.sub r1 Q fun z F3 H3 y e3 r3 h3 => q z y Γ1 F3 H3 (S1.step e3) (e1.trans e3.ff) r3 h3
theorem rw_I0 {g : Int → Int → V} {f : Int → Int → γ} {i j : Int} {k : γ → Prop} (hg : ∀ F, C.r F (g i j) (f i j)) (hk : k (f i j)) : RW (rI0 g) tInt tInt C i j k :=
  fun F H x y S hx hy Q q => ⟨i, j, hx, hy, q _ F H _ (Step.refl S) (hg F) hk⟩
theorem rw_I {D : Int → Int → Prop} {g : Int → Int → V} {f : Int → Int → γ} {i j : Int} {k : γ → Prop} (hg : ∀ F, C.r F (g i j) (f i j)) (hk : D i j ∧ k (f i j)) : RW (rI D g) tInt tInt C i j k :=
  fun F H x y S hx hy Q q => ⟨i, j, hx, hy, hk.1, q _ F H _ (Step.refl S) (hg F) hk.2⟩
section
variable {k : Gm → Int → Prop}
theorem ew_add (h : EW c Γ a tInt fun Γ1 i => EW c Γ1 b tInt fun Γ2 j => k Γ2 (i + j)) : EW c Γ (.BinOp a .Add b pos) tInt k := ew_bin (fun _ => op_add) (h.imp fun _ i h => h.imp fun _ j h => rw_I0 (f := fun i j => i + j) (fun _ => rfl) h)
theorem ew_sub (h : EW c Γ a tInt fun Γ1 i => EW c Γ1 b tInt fun Γ2 j => k Γ2 (i - j)) : EW c Γ (.BinOp a .Sub b pos) tInt k := ew_bin (fun _ => op_sub) (h.imp fun _ i h => h.imp fun _ j h => rw_I0 (f := fun i j => i - j) (fun _ => rfl) h)
theorem ew_mul (h : EW c Γ a tInt fun Γ1 i => EW c Γ1 b tInt fun Γ2 j => CMul i j ∧ k Γ2 (i * j)) : EW c Γ (.BinOp a .Mult b pos) tInt k := ew_bin (fun _ => op_mul) (h.imp fun _ i h => h.imp fun _ j h => rw_I (f := fun i j => i * j) (fun _ => rfl) h)
theorem ew_mulW (h : EW c Γ a tInt fun Γ1 i => EW c Γ1 b tInt fun Γ2 j => CMulW i j ∧ k Γ2 (i * j)) : EW c Γ (.BinOp a .Mult b pos) tInt k := ew_bin (fun _ => op_mulW) (h.imp fun _ i h => h.imp fun _ j h => rw_I (f := fun i j => i * j) (fun _ => rfl) h)
theorem ew_div (h : EW c Γ a tInt fun Γ1 i => EW c Γ1 b tInt fun Γ2 j => CDivW i j ∧ k Γ2 (i / j)) : EW c Γ (.BinOp a .FloorDiv b pos) tInt k := ew_bin (fun _ => op_fdivW) (h.imp fun _ i h => h.imp fun _ j h => rw_I (f := fun i j => i / j) (fun _ => rfl) h)
theorem ew_mod (h : EW c Γ a tInt fun Γ1 i => EW c Γ1 b tInt fun Γ2 j => 0 < j ∧ k Γ2 (i % j)) : EW c Γ (.BinOp a .Mod b pos) tInt k := ew_bin (fun _ => op_mod) (h.imp fun _ i h => h.imp fun _ j h => rw_I (D := fun _ j => 0 < j) (f := fun i j => i % j) (fun _ => rfl) h)
theorem ew_pow (h : EW c Γ a tInt fun Γ1 i => EW c Γ1 b tInt fun Γ2 j => CPow i j ∧ k Γ2 (i ^ j.toNat)) : EW c Γ (.BinOp a .Pow b pos) tInt k := ew_bin (fun _ => op_pow) (h.imp fun _ i h => h.imp fun _ j h => rw_I (f := fun i j => i ^ j.toNat) (fun _ => rfl) h)
theorem ew_shl (h : EW c Γ a tInt fun Γ1 i => EW c Γ1 b tInt fun Γ2 j => CPow i j ∧ k Γ2 (i * 2 ^ j.toNat)) : EW c Γ (.BinOp a .LShift b pos) tInt k := ew_bin (fun _ => op_shl) (h.imp fun _ i h => h.imp fun _ j h => rw_I (f := fun i j => i * 2 ^ j.toNat) (fun _ => rfl) h)
theorem ew_shr (h : EW c Γ a tInt fun Γ1 i => EW c Γ1 b tInt fun Γ2 j => 0 ≤ j ∧ k Γ2 (i / 2 ^ j.toNat)) : EW c Γ (.BinOp a .RShift b pos) tInt k := ew_bin (fun _ => op_shr) (h.imp fun _ i h => h.imp fun _ j h => rw_I (D := fun _ j => 0 ≤ j) (f := fun i j => i / 2 ^ j.toNat) (fun _ => rfl) h)
theorem ew_and (h : EW c Γ a tInt fun Γ1 i => EW c Γ1 b tInt fun Γ2 j => k Γ2 (Builtin.bitAnd i j)) : EW c Γ (.BinOp a .BitAnd b pos) tInt k := ew_bin (fun _ => op_and) (h.imp fun _ i h => h.imp fun _ j h => rw_I0 (f := fun i j => Builtin.bitAnd i j) (fun _ => rfl) h)
theorem ew_neg (h : EW c Γ a tInt fun Γ1 i => k Γ1 (-i)) : EW c Γ (.UnaryOp .USub a pos) tInt k := ew_unop un_neg (h.imp fun _ i h => fun F H x S hx Q q => ⟨i, hx, q _ F H _ (Step.refl S) rfl h⟩)
end

/-! ### comparisons -/
theorem ew_cmp {op : CmpOp} {r : R2} {k : Gm → γ → Prop} (ho : ∀ {X : Cx}, X.K = K → OpR X (compareOp op) r) (h : EW c Γ a A fun Γ1 i => EW c Γ1 b B' fun Γ2 j => RW r A B' C i j fun z => k Γ2 z) (hm : behindInMarks op b = false) : EW c Γ (.Compare a [op] [b] pos) C k := by
  intro B σ F H S Q q
  refine of_pe (pe_cmpR (ho c.hK) peW peW hm) ?_
  refine h B σ F H S _ fun v i Γ1 F1 H1 S1 e1 r1 h1 => ?_
  refine h1 B σ F1 H1 S1 _ fun u j Γ2 F2 H2 S2 e2 r2 h2 => ?_
  exact h2 F2 H2 v u S2.sub (A.mono e2 r1) r2 Q fun z F3 H3 y e3 r3 h3 => q z y Γ2 F3 H3 (S2.step e3) ((e1.trans e2).trans e3.ff) r3 h3
theorem tw_cmp {op : CmpOp} {r : R2} {k : Gm → Bool → Prop} (ho : ∀ {X : Cx}, X.K = K → OpR X (compareOp op) r) (h : EW c Γ a A fun Γ1 i => EW c Γ1 b B' fun Γ2 j => RW (K := K) r A B' tBool i j fun z => k Γ2 z) (hm : behindInMarks op b = false) : TW c Γ (.Compare a [op] [b] pos) k := by
  intro B σ F H S Q q
  refine of_pt (pt_cmpR (ho c.hK) peW peW hm) ?_
  refine h B σ F H S _ fun v i Γ1 F1 H1 S1 e1 r1 h1 => ?_
  refine h1 B σ F1 H1 S1 _ fun u j Γ2 F2 H2 S2 e2 r2 h2 => ?_
  exact h2 F2 H2 v u S2.sub (A.mono e2 r1) r2 _ fun z F3 H3 y e3 r3 h3 => ⟨y, r3, q y Γ2 F3 H3 (S2.step e3) ((e1.trans e2).trans e3.ff) h3⟩
section
variable {k : Gm → Bool → Prop} {p : Int → Int → Bool}
theorem rw_B {i j : Int} {kk : Bool → Prop} (hk : kk (p i j)) : RW (K := K) (rI0 fun i j => .bl (p i j)) tInt tInt tBool i j kk := rw_I0 (f := fun i j => p i j) (fun _ => rfl) hk
theorem ew_lt (h : EW c Γ a tInt fun Γ1 i => EW c Γ1 b tInt fun Γ2 j => k Γ2 (decide (i < j))) : EW c Γ (.Compare a [.Lt] [b] pos) tBool k := ew_cmp (fun _ => op_lt) (h.imp fun _ i h => h.imp fun _ j h => rw_B (p := fun i j => decide (i < j)) h) (nomark _)
theorem ew_le (h : EW c Γ a tInt fun Γ1 i => EW c Γ1 b tInt fun Γ2 j => k Γ2 (decide (i ≤ j))) : EW c Γ (.Compare a [.LtE] [b] pos) tBool k := ew_cmp (fun _ => op_le) (h.imp fun _ i h => h.imp fun _ j h => rw_B (p := fun i j => decide (i ≤ j)) h) (nomark _)
theorem ew_gt (h : EW c Γ a tInt fun Γ1 i => EW c Γ1 b tInt fun Γ2 j => k Γ2 (decide (j < i))) : EW c Γ (.Compare a [.Gt] [b] pos) tBool k := ew_cmp (fun _ => op_gt) (h.imp fun _ i h => h.imp fun _ j h => rw_B (p := fun i j => decide (j < i)) h) (nomark _)
theorem ew_ge (h : EW c Γ a tInt fun Γ1 i => EW c Γ1 b tInt fun Γ2 j => k Γ2 (decide (j ≤ i))) : EW c Γ (.Compare a [.GtE] [b] pos) tBool k := ew_cmp (fun _ => op_ge) (h.imp fun _ i h => h.imp fun _ j h => rw_B (p := fun i j => decide (j ≤ i)) h) (nomark _)
theorem tw_lt (h : EW c Γ a tInt fun Γ1 i => EW c Γ1 b tInt fun Γ2 j => k Γ2 (decide (i < j))) : TW c Γ (.Compare a [.Lt] [b] pos) k := tw_cmp (fun _ => op_lt) (h.imp fun _ i h => h.imp fun _ j h => rw_B (p := fun i j => decide (i < j)) h) (nomark _)
theorem tw_le (h : EW c Γ a tInt fun Γ1 i => EW c Γ1 b tInt fun Γ2 j => k Γ2 (decide (i ≤ j))) : TW c Γ (.Compare a [.LtE] [b] pos) k := tw_cmp (fun _ => op_le) (h.imp fun _ i h => h.imp fun _ j h => rw_B (p := fun i j => decide (i ≤ j)) h) (nomark _)
theorem tw_gt (h : EW c Γ a tInt fun Γ1 i => EW c Γ1 b tInt fun Γ2 j => k Γ2 (decide (j < i))) : TW c Γ (.Compare a [.Gt] [b] pos) k := tw_cmp (fun _ => op_gt) (h.imp fun _ i h => h.imp fun _ j h => rw_B (p := fun i j => decide (j < i)) h) (nomark _)
theorem tw_ge (h : EW c Γ a tInt fun Γ1 i => EW c Γ1 b tInt fun Γ2 j => k Γ2 (decide (j ≤ i))) : TW c Γ (.Compare a [.GtE] [b] pos) k := tw_cmp (fun _ => op_ge) (h.imp fun _ i h => h.imp fun _ j h => rw_B (p := fun i j => decide (j ≤ i)) h) (nomark _)
/-- flat things: ints, texts, bools -/
structure Flat (T : Ty K α) where
  f : α → V
  is : ∀ {F v a}, T.r F v a → v = f a
  inj : ∀ {a b}, f a = f b → a = b
  sc : ∀ a b, scal (f a) (f b) = true
def fInt : Flat (K := K) tInt := ⟨.int, fun h => h, fun h => V.int.inj h, fun _ _ => rfl⟩
def fBool : Flat (K := K) tBool := ⟨.bl, fun h => h, fun h => V.bl.inj h, fun _ _ => rfl⟩
def fStr : Flat (K := K) tStr := ⟨.str, fun h => h, fun h => V.str.inj h, fun _ _ => rfl⟩
theorem rw_eq (f : Flat T) [DecidableEq α] {i j : α} {kk : Bool → Prop} (hk : kk (decide (i = j))) : RW (K := K) rEq T T tBool i j kk := fun F H x y S hx hy Q q => by
  rw [f.is hx, f.is hy]
  refine ⟨f.sc _ _, q _ F H _ (Step.refl S) rfl ?_⟩
  by_cases h : i = j
  · subst h; simpa using hk
  · have h2 : ¬ f.f i = f.f j := fun z => h (f.inj z)
    simpa [h, h2] using hk
theorem rw_ne (f : Flat T) [DecidableEq α] {i j : α} {kk : Bool → Prop} (hk : kk (!decide (i = j))) : RW (K := K) rNe T T tBool i j kk := fun F H x y S hx hy Q q => by
  rw [f.is hx, f.is hy]
  refine ⟨f.sc _ _, q _ F H _ (Step.refl S) rfl ?_⟩
  by_cases h : i = j
  · subst h; simpa using hk
  · have h2 : ¬ f.f i = f.f j := fun z => h (f.inj z)
    simpa [h, h2] using hk
theorem ew_eq (f : Flat T) [DecidableEq α] (h : EW c Γ a T fun Γ1 i => EW c Γ1 b T fun Γ2 j => k Γ2 (decide (i = j))) : EW c Γ (.Compare a [.Eq] [b] pos) tBool k := ew_cmp (fun _ => op_eq) (h.imp fun _ i h => h.imp fun _ j h => rw_eq f h) (nomark _)
theorem ew_ne (f : Flat T) [DecidableEq α] (h : EW c Γ a T fun Γ1 i => EW c Γ1 b T fun Γ2 j => k Γ2 (!decide (i = j))) : EW c Γ (.Compare a [.NotEq] [b] pos) tBool k := ew_cmp (fun _ => op_ne) (h.imp fun _ i h => h.imp fun _ j h => rw_ne f h) (nomark _)
theorem tw_eq (f : Flat T) [DecidableEq α] (h : EW c Γ a T fun Γ1 i => EW c Γ1 b T fun Γ2 j => k Γ2 (decide (i = j))) : TW c Γ (.Compare a [.Eq] [b] pos) k := tw_cmp (fun _ => op_eq) (h.imp fun _ i h => h.imp fun _ j h => rw_eq f h) (nomark _)
theorem tw_ne (f : Flat T) [DecidableEq α] (h : EW c Γ a T fun Γ1 i => EW c Γ1 b T fun Γ2 j => k Γ2 (!decide (i = j))) : TW c Γ (.Compare a [.NotEq] [b] pos) k := tw_cmp (fun _ => op_ne) (h.imp fun _ i h => h.imp fun _ j h => rw_ne f h) (nomark _)
/-- is None -/
theorem ew_isN {j} {p' : Pos} (h : EW c Γ a (tOpt T) fun Γ1 i => k Γ1 i.isNone) : EW c Γ (.Compare a [.Is] [.Constant .none j p'] pos) tBool k := fun B σ F H S Q q => by
  refine of_pe (pe_cmp (pc_isN peW)) ?_
  refine h B σ F H S _ fun v i Γ1 F1 H1 S1 e1 r1 h1 => ?_
  refine q _ i.isNone Γ1 F1 H1 S1 e1 ?_ h1
  cases i with
  | none => obtain rfl : v = .non := r1; rfl
  | some x => have r2 : v ≠ .non := r1.1; show V.bl _ = V.bl _; simp [r2]
theorem tw_isN {j} {p' : Pos} (h : EW c Γ a (tOpt T) fun Γ1 i => k Γ1 i.isNone) : TW c Γ (.Compare a [.Is] [.Constant .none j p'] pos) k := fun B σ F H S Q q => by
  refine of_pt (pt_cmp (pc_isN peW)) ?_
  refine h B σ F H S _ fun v i Γ1 F1 H1 S1 e1 r1 h1 => ?_
  refine ⟨i.isNone, ?_, q i.isNone Γ1 F1 H1 S1 e1 h1⟩
  cases i with
  | none => obtain rfl : v = .non := r1; rfl
  | some x => have r2 : v ≠ .non := r1.1; show V.bl _ = V.bl _; simp [r2]
theorem ew_notN {j} {p' : Pos} (h : EW c Γ a (tOpt T) fun Γ1 i => k Γ1 i.isSome) : EW c Γ (.Compare a [.IsNot] [.Constant .none j p'] pos) tBool k := fun B σ F H S Q q => by
  refine of_pe (pe_cmp (pc_notN peW)) ?_
  refine h B σ F H S _ fun v i Γ1 F1 H1 S1 e1 r1 h1 => ?_
  refine q _ i.isSome Γ1 F1 H1 S1 e1 ?_ h1
  cases i with
  | none => obtain rfl : v = .non := r1; rfl
  | some x => have r2 : v ≠ .non := r1.1; show V.bl _ = V.bl _; simp [r2]
theorem tw_notN {j} {p' : Pos} (h : EW c Γ a (tOpt T) fun Γ1 i => k Γ1 i.isSome) : TW c Γ (.Compare a [.IsNot] [.Constant .none j p'] pos) k := fun B σ F H S Q q => by
  refine of_pt (pt_cmp (pc_notN peW)) ?_
  refine h B σ F H S _ fun v i Γ1 F1 H1 S1 e1 r1 h1 => ?_
  refine ⟨i.isSome, ?_, q i.isSome Γ1 F1 H1 S1 e1 h1⟩
  cases i with
  | none => obtain rfl : v = .non := r1; rfl
  | some x => have r2 : v ≠ .non := r1.1; show V.bl _ = V.bl _; simp [r2]

/-! ### and, or, not, if -/
theorem tw_val (h : EW c Γ e tBool k) (he : ∀ env whole, isTrue e env whole = (do let v ← whole; standAt e.pos; holding [v] (truthy v)) := by intro _ _; rfl) : TW c Γ e k := fun B σ F H S Q q => by
  refine of_pt (pt_val peW (he _)) ?_
  exact h B σ F H S _ fun v i Γ1 F1 H1 S1 e1 r1 h1 => ⟨i, r1, q i Γ1 F1 H1 S1 e1 h1⟩
theorem tw_not (h : TW c Γ a fun Γ1 b => k Γ1 (!b)) : TW c Γ (.UnaryOp .Not a pos) k := fun B σ F H S Q q => of_pt (pt_not ptW) (h B σ F H S _ fun b Γ1 F1 H1 S1 e1 h1 => q _ Γ1 F1 H1 S1 e1 h1)
theorem ew_not (h : EW c Γ a tBool fun Γ1 b => k Γ1 (!b)) : EW c Γ (.UnaryOp .Not a pos) tBool k := fun B σ F H S Q q => of_pe (pe_not peW) (h B σ F H S _ fun v b Γ1 F1 H1 S1 e1 r1 h1 => ⟨b, r1, q _ _ Γ1 F1 H1 S1 e1 rfl h1⟩)
end
end
end Px
/-! Px, third part: chains, displays, subscripts, calls, statements, loops, comprehensions. -/
namespace Px
open PySem PySem.Spec PyProof.Rows L2

def wPW (X : Cx) (e : Expr) : TT := fun σ H Q => ∀ whole pins s, Inv X pins σ H s → wpAny (model X.prog X.w) X.A (isTrue e X.env whole) (TP X pins σ Q) X.xe s
theorem pwW {X : Cx} {e : Expr} : PW X e (wPW X e) := ⟨fun wh pins s σ H Q I h => h wh pins s I⟩
theorem of_pw {X : Cx} {e : Expr} {t : TT} (h : PW X e t) {σ : L2.St} {H : Hp} {Q : Bool → Hp → Prop} (q : t σ H Q) : wPW X e σ H Q := fun wh pins s I => h.run wh pins s σ H Q I q
def wG (X : Cx) (tg : Expr) : TG := fun v σ H Q => ∀ pins s u, Inv X pins σ H s → RelV v u → wpAny (model X.prog X.w) X.A (assign tg X.env u) (fun _ s' => ∃ σ' H', Inv X pins σ' H' s' ∧ Q σ' H') X.xe s
def wGs (X : Cx) (ts : List Expr) : TGs := fun vs σ H Q => ∀ pins s us, Inv X pins σ H s → Vals vs us → wpAny (model X.prog X.w) X.A (assignInOrder ((assignEach ts X.env).map (·.2)) us) (fun _ s' => ∃ σ' H', Inv X pins σ' H' s' ∧ Q σ' H') X.xe s
theorem pgW {X : Cx} {e : Expr} : PG X e (wG X e) := ⟨fun pins s σ H v u Q I r h => h pins s u I r⟩
theorem pgsW {X : Cx} {e : List Expr} : PGs X e (wGs X e) := ⟨fun pins s σ H v u Q I r h => h pins s u I r⟩
theorem of_pg {X : Cx} {e : Expr} {t : TG} (h : PG X e t) {v : V} {σ : L2.St} {H : Hp} {Q : L2.St → Hp → Prop} (q : t v σ H Q) : wG X e v σ H Q := fun pins s u I r => h.run pins s σ H v u Q I r q
theorem of_pgs {X : Cx} {e : List Expr} {t : TGs} (h : PGs X e t) {v : List V} {σ : L2.St} {H : Hp} {Q : L2.St → Hp → Prop} (q : t v σ H Q) : wGs X e v σ H Q := fun pins s u I r => h.run pins s σ H v u Q I r q
def wI (X : Cx) (tg iter : Expr) : TI := fun σ H R => ∀ pins s, Inv X pins σ H s → wpAny (model X.prog X.w) X.A (eval iter X.env) (fun v s1 => wpAny (model X.prog X.w) X.A (pyIter v) (PIE X pins σ tg R) X.xe s1) X.xe s
theorem piW {X : Cx} {tg e : Expr} : PI X tg e (wI X tg e) := ⟨fun pins s σ H R I h => h pins s I⟩
theorem of_pi {X : Cx} {tg e : Expr} {t : TI} (h : PI X tg e t) {σ : L2.St} {H : Hp} {R : It → Hp → Prop} (q : t σ H R) : wI X tg e σ H R := fun pins s I => h.run pins s σ H R I q
def wTs (X : Cx) (ifs : List Expr) : TT := fun σ H Q => ∀ pins s, Inv X pins σ H s →
    wpAny (model X.prog X.w) X.A (forIn ifs true fun c r => if r = true then do let ok ← isTrue c X.env (eval c X.env); pure (ForInStep.yield ok) else pure (ForInStep.yield r)) (TP X pins σ Q) X.xe s
theorem ptsW {X : Cx} {e : List Expr} : PTs X e (wTs X e) := ⟨fun pins s σ H Q I h => h pins s I⟩
theorem of_pts {X : Cx} {e : List Expr} {t : TT} (h : PTs X e t) {σ : L2.St} {H : Hp} {Q : Bool → Hp → Prop} (q : t σ H Q) : wTs X e σ H Q := fun pins s I => h.run pins s σ H Q I q

section
variable {P : Program} {w : World} {K : PySem.W.Frag} {mg : Str → Option Value} {base : Heap} {lv : Nat} {N : List Str} {sc : Scope} {fn : Str → Bool}
variable {α β γ δ ρ : Type}
variable {c : Ctx P w K mg base lv N sc fn} {Γ : Gm} {e a b d : Expr} {es : List Expr} {pos pos' : Pos} {T : Ty K α} {A : Ty K α} {B' : Ty K β} {C : Ty K γ} {D' : Ty K δ}

/-! ### and, or -/
def TWW (c : Ctx P w K mg base lv N sc fn) (Γ : Gm) (e : Expr) (k : Gm → Bool → Prop) : Prop :=
  ∀ B σ F H, Sta B Γ σ F H → ∀ Q : Bool → Hp → Prop, (∀ b Γ' F' H', Sta B Γ' σ F' H' → Same F F' → k Γ' b → Q b H') → wPW c.X e σ H Q
section
variable {k : Gm → Bool → Prop} {rest : List Expr}
theorem tw_w (h : TWW c Γ e k) : TW c Γ e k := fun B σ F H S Q q => of_pt (PW.pt pwW) (h B σ F H S Q q)
theorem tww_and1 (h : TW c Γ a k) : TWW c Γ (.BoolOp .And [a] pos) k := fun B σ F H S Q q => of_pw (pw_and1 ptW) (h B σ F H S Q q)
theorem tww_or1 (h : TW c Γ a k) : TWW c Γ (.BoolOp .Or [a] pos) k := fun B σ F H S Q q => of_pw (pw_or1 ptW) (h B σ F H S Q q)
theorem tww_and (h : TW c Γ a fun Γ1 x => (x = true → TWW c Γ1 (.BoolOp .And (b :: rest) pos) k) ∧ (x = false → k Γ1 false)) : TWW c Γ (.BoolOp .And (a :: b :: rest) pos) k := fun B σ F H S Q q => by
  refine of_pw (pw_and ptW pwW) (h B σ F H S _ fun x Γ1 F1 H1 S1 e1 h1 => ?_)
  cases x with
  | true => exact iteT (h1.1 rfl B σ F1 H1 S1 Q fun y Γ2 F2 H2 S2 e2 h2 => q y Γ2 F2 H2 S2 (e1.trans e2) h2)
  | false => exact iteF (q false Γ1 F1 H1 S1 e1 (h1.2 rfl))
theorem tww_or (h : TW c Γ a fun Γ1 x => (x = false → TWW c Γ1 (.BoolOp .Or (b :: rest) pos) k) ∧ (x = true → k Γ1 true)) : TWW c Γ (.BoolOp .Or (a :: b :: rest) pos) k := fun B σ F H S Q q => by
  refine of_pw (pw_or ptW pwW) (h B σ F H S _ fun x Γ1 F1 H1 S1 e1 h1 => ?_)
  cases x with
  | false => exact iteF (h1.1 rfl B σ F1 H1 S1 Q fun y Γ2 F2 H2 S2 e2 h2 => q y Γ2 F2 H2 S2 (e1.trans e2) h2)
  | true => exact iteT (q true Γ1 F1 H1 S1 e1 (h1.2 rfl))
theorem ew_one {op} {k : Gm → α → Prop} (h : EW c Γ a T k) : EW c Γ (.BoolOp op [a] pos) T k := fun B σ F H S Q q => of_pe (pe_one peW) (h B σ F H S Q q)
theorem ew_andV (h : EW c Γ a tBool fun Γ1 x => (x = true → EW c Γ1 (.BoolOp .And (b :: rest) pos) tBool k) ∧ (x = false → k Γ1 false)) : EW c Γ (.BoolOp .And (a :: b :: rest) pos) tBool k := fun B σ F H S Q q => by
  refine of_pe (pe_and peW peW) (h B σ F H S _ fun v x Γ1 F1 H1 S1 e1 r1 h1 => ⟨x, r1, ?_⟩)
  cases x with
  | true => exact iteT (h1.1 rfl B σ F1 H1 S1 Q fun v y Γ2 F2 H2 S2 e2 r2 h2 => q v y Γ2 F2 H2 S2 (e1.trans e2) r2 h2)
  | false => exact iteF (q _ false Γ1 F1 H1 S1 e1 rfl (h1.2 rfl))
theorem ew_orV (h : EW c Γ a tBool fun Γ1 x => (x = false → EW c Γ1 (.BoolOp .Or (b :: rest) pos) tBool k) ∧ (x = true → k Γ1 true)) : EW c Γ (.BoolOp .Or (a :: b :: rest) pos) tBool k := fun B σ F H S Q q => by
  refine of_pe (pe_or peW peW) (h B σ F H S _ fun v x Γ1 F1 H1 S1 e1 r1 h1 => ⟨x, r1, ?_⟩)
  cases x with
  | false => exact iteF (h1.1 rfl B σ F1 H1 S1 Q fun v y Γ2 F2 H2 S2 e2 r2 h2 => q v y Γ2 F2 H2 S2 (e1.trans e2) r2 h2)
  | true => exact iteT (q _ true Γ1 F1 H1 S1 e1 rfl (h1.2 rfl))
end
theorem ew_ifx {t : Expr} {k : Gm → α → Prop} (h : TW c Γ t fun Γ1 x => (x = true → EW c Γ1 a T k) ∧ (x = false → EW c Γ1 b T k)) : EW c Γ (.IfExp t a b pos) T k := fun B σ F H S Q q => by
  refine of_pe (pe_ifExp ptW peW peW) (h B σ F H S _ fun x Γ1 F1 H1 S1 e1 h1 => ?_)
  cases x with
  | true => exact iteT (h1.1 rfl B σ F1 H1 S1 Q fun v y Γ2 F2 H2 S2 e2 r2 h2 => q v y Γ2 F2 H2 S2 (e1.trans e2) r2 h2)
  | false => exact iteF (h1.2 rfl B σ F1 H1 S1 Q fun v y Γ2 F2 H2 S2 e2 r2 h2 => q v y Γ2 F2 H2 S2 (e1.trans e2) r2 h2)

/-! ### argument lists -/
theorem ews_nil {k : Gm → List (TV K) → Prop} (hk : k Γ []) : EWs c Γ [] k := fun B σ F H S Q q => of_pa pa_nil (q [] [] Γ F H S (Same.refl _) trivial hk)
theorem all2_mono {F F' : Hp} (e : Same F F') {vs : List V} {ts : List (TV K)} (h : All2 (fun v (t : TV K) => t.r F v) vs ts) : All2 (fun v (t : TV K) => t.r F' v) vs ts := All2.imp (fun _ t => t.mono e) h
theorem ews_cons {k : Gm → List (TV K) → Prop} (h : EW c Γ a T fun Γ1 x => EWs c Γ1 es fun Γ2 ts => k Γ2 (tv T x :: ts)) (hs : ∀ env, starEach (a :: es) env = (false, eval a env) :: starEach es env := by intro _; rfl) : EWs c Γ (a :: es) k := fun B σ F H S Q q => by
  refine of_pa (pa_cons peW paW (hs _)) (h B σ F H S _ fun v x Γ1 F1 H1 S1 e1 r1 h1 => ?_)
  exact h1 B σ F1 H1 S1 _ fun vs ts Γ2 F2 H2 S2 e2 r2 h2 => q (v :: vs) (tv T x :: ts) Γ2 F2 H2 S2 (e1.trans e2) ⟨T.mono e2 r1, r2⟩ h2
/-- all of one type -/
def EWL (c : Ctx P w K mg base lv N sc fn) (Γ : Gm) (es : List Expr) (T : Ty K α) (k : Gm → List α → Prop) : Prop :=
  ∀ B σ F H, Sta B Γ σ F H → ∀ Q : List V → Hp → Prop, (∀ vs as Γ' F' H', Sta B Γ' σ F' H' → Same F F' → All2 (T.r F') vs as → k Γ' as → Q vs H') → wA c.X es σ H Q
theorem ewl_nil {k : Gm → List α → Prop} (hk : k Γ []) : EWL c Γ [] T k := fun B σ F H S Q q => of_pa pa_nil (q [] [] Γ F H S (Same.refl _) trivial hk)
theorem ewl_cons {k : Gm → List α → Prop} (h : EW c Γ a T fun Γ1 x => EWL c Γ1 es T fun Γ2 as => k Γ2 (x :: as)) (hs : ∀ env, starEach (a :: es) env = (false, eval a env) :: starEach es env := by intro _; rfl) : EWL c Γ (a :: es) T k := fun B σ F H S Q q => by
  refine of_pa (pa_cons peW paW (hs _)) (h B σ F H S _ fun v x Γ1 F1 H1 S1 e1 r1 h1 => ?_)
  exact h1 B σ F1 H1 S1 _ fun vs as Γ2 F2 H2 S2 e2 r2 h2 => q (v :: vs) (x :: as) Γ2 F2 H2 S2 (e1.trans e2) ⟨T.mono e2 r1, r2⟩ h2

/-! ### displays -/
theorem le1000 {n : Nat} (h : n ≤ 1000) : n ≤ 1000 := h
theorem sz1000 {n : Nat} (h : n ≤ 1000) : n ≤ sizeLine := Nat.le_trans h (by decide)
theorem ew_tupL {x1} {k : Gm → List α → Prop} (h : EWL c Γ es T fun Γ1 as => as.length ≤ sizeLine ∧ k Γ1 as) : EW c Γ (.Tuple es x1 pos) (tTup T) k := fun B σ F H S Q q => by
  refine of_pe (pe_tup paW) (h B σ F H S _ fun vs as Γ1 F1 H1 S1 e1 r1 h1 => ⟨by rw [All2.length r1]; exact h1.1, fun p hp => ?_⟩)
  have st := Step.frozen (o := .tup vs) S1.sub hp
  exact q _ as Γ1 _ _ (S1.step st) (e1.trans st.ff) ⟨p, vs, rfl, .inl (.inl upd_same), All2.imp (fun _ _ => T.mono st.ff) r1⟩ h1.2
theorem ew_tup {T' : Ty K ρ} {x1} {R : Hp → List V → ρ → Prop} {m} (hT : T' = tupTy R m) {k : Gm → ρ → Prop} (h : EWs c Γ es fun Γ1 ts => ts.length ≤ 1000 ∧ ∃ z : ρ, (∀ F vs, All2 (fun v (t : TV K) => t.r F v) vs ts → R F vs z) ∧ k Γ1 z) : EW c Γ (.Tuple es x1 pos) T' k := fun B σ F H S Q q => by
  refine of_pe (pe_tup paW) (h B σ F H S _ fun vs ts Γ1 F1 H1 S1 e1 r1 ⟨h0, z, h1, h2⟩ => ⟨by rw [All2.length r1]; exact sz1000 h0, fun p hp => ?_⟩)
  have st := Step.frozen (o := .tup vs) S1.sub hp
  refine q _ z Γ1 _ _ (S1.step st) (e1.trans st.ff) ?_ h2
  rw [hT]
  exact ⟨p, vs, rfl, .inl (.inl upd_same), m st.ff (h1 _ _ r1)⟩
theorem ew_tup1 {x1} {k : Gm → α → Prop} (h : EW c Γ a A k) (hs : ∀ env, starEach [a] env = (false, eval a env) :: starEach [] env := by intro _; rfl) : EW c Γ (.Tuple [a] x1 pos) (tT1 A) k :=
  ew_tup rfl (ews_cons (h.imp fun _ x hx => ews_nil ⟨le1000 (by exact Nat.le_of_ble_eq_true rfl), x, fun F vs r => match vs, r with | [u], ⟨r, _⟩ => ⟨u, rfl, r⟩, hx⟩) hs)
theorem ew_tup2 {x1} {k : Gm → α × β → Prop} (h : EW c Γ a A fun Γ1 x => EW c Γ1 b B' fun Γ2 y => k Γ2 (x, y)) (hs : ∀ env, starEach [a, b] env = (false, eval a env) :: starEach [b] env := by intro _; rfl) (hs2 : ∀ env, starEach [b] env = (false, eval b env) :: starEach [] env := by intro _; rfl) : EW c Γ (.Tuple [a, b] x1 pos) (tT2 A B') k :=
  ew_tup rfl (ews_cons (h.imp fun _ x hx => ews_cons (hx.imp fun _ y hy => ews_nil ⟨le1000 (by exact Nat.le_of_ble_eq_true rfl), (x, y), fun F vs r => match vs, r with | [u, v], ⟨r, r', _⟩ => ⟨u, v, rfl, r, r'⟩, hy⟩) hs2) hs)
theorem ew_tup3 {f : Expr} {x1} {k : Gm → α × β × γ → Prop} (h : EW c Γ a A fun Γ1 x => EW c Γ1 b B' fun Γ2 y => EW c Γ2 f C fun Γ3 z => k Γ3 (x, y, z)) (hs : ∀ env, starEach [a, b, f] env = (false, eval a env) :: starEach [b, f] env := by intro _; rfl) (hs2 : ∀ env, starEach [b, f] env = (false, eval b env) :: starEach [f] env := by intro _; rfl) (hs3 : ∀ env, starEach [f] env = (false, eval f env) :: starEach [] env := by intro _; rfl) : EW c Γ (.Tuple [a, b, f] x1 pos) (tT3 A B' C) k :=
  ew_tup rfl (ews_cons (h.imp fun _ x hx => ews_cons (hx.imp fun _ y hy => ews_cons (hy.imp fun _ z hz => ews_nil ⟨le1000 (by exact Nat.le_of_ble_eq_true rfl), (x, y, z), fun F vs r => match vs, r with | [u, v, t], ⟨r, r', r'', _⟩ => ⟨u, v, t, rfl, r, r', r''⟩, hz⟩) hs3) hs2) hs)
theorem ew_tup4 {f g : Expr} {x1} {k : Gm → α × β × γ × δ → Prop} (h : EW c Γ a A fun Γ1 x => EW c Γ1 b B' fun Γ2 y => EW c Γ2 f C fun Γ3 z => EW c Γ3 g D' fun Γ4 u => k Γ4 (x, y, z, u)) (hs : ∀ env, starEach [a, b, f, g] env = (false, eval a env) :: starEach [b, f, g] env := by intro _; rfl) (hs2 : ∀ env, starEach [b, f, g] env = (false, eval b env) :: starEach [f, g] env := by intro _; rfl) (hs3 : ∀ env, starEach [f, g] env = (false, eval f env) :: starEach [g] env := by intro _; rfl) (hs4 : ∀ env, starEach [g] env = (false, eval g env) :: starEach [] env := by intro _; rfl) : EW c Γ (.Tuple [a, b, f, g] x1 pos) (tT4 A B' C D') k :=
  ew_tup rfl (ews_cons (h.imp fun _ x hx => ews_cons (hx.imp fun _ y hy => ews_cons (hy.imp fun _ z hz => ews_cons (hz.imp fun _ u hu => ews_nil ⟨le1000 (by exact Nat.le_of_ble_eq_true rfl), (x, y, z, u), fun F vs r => match vs, r with | [u1, v, t, s], ⟨r, r', r'', r3, _⟩ => ⟨u1, v, t, s, rfl, r, r', r'', r3⟩, hu⟩) hs4) hs3) hs2) hs)
/-- a new list -/
theorem el_lst {k : Gm → List α → Prop} (h : EWL c Γ es T fun Γ1 as => as.length ≤ sizeLine ∧ k Γ1 as) : EL c Γ (.List es pos) T k := fun B σ F H S Q q => by
  refine of_pe (pe_lst paW) (h B σ F H S _ fun vs as Γ1 F1 H1 S1 e1 r1 h1 => ⟨by rw [All2.length r1]; exact h1.1, fun p hp => ?_⟩)
  obtain ⟨S2, b1, b2, b3⟩ := S1.make (o := .lst vs) hp
  exact q p vs as Γ1 _ _ S2 e1 b1 b3 b2 upd_same r1 h1.2
theorem ew_el {k : Gm → List α → Prop} (h : EL c Γ e T k) : EW c Γ e (tLst T) k := fun B σ F H S Q q =>
  h B σ F H S Q fun p vs as Γ1 F1 H1 S1 e1 b1 b2 b3 hp r1 h1 => by
    obtain ⟨S2, e2⟩ := S1.freeze hp b1 b3
    exact q _ as Γ1 _ _ S2 (e1.trans e2) ⟨p, vs, rfl, upd_same, All2.imp (fun _ _ => T.mono e2) r1⟩ h1
end
end Px
/-! Px, fourth part: subscripts, calls, statements, loops. -/
namespace Px
open PySem PySem.Spec PyProof.Rows L2

/-- the built-in names that the text leaves alone -/
structure Bi (mg : Str → Option Value) : Prop where
  len : mg "len" = none
  range : mg "range" = none
  tuple : mg "tuple" = none
  list : mg "list" = none
  isinstance : mg "isinstance" = none
  int : mg "int" = none
  bool : mg "bool" = none
  str : mg "str" = none
  max : mg "max" = none
  min : mg "min" = none
  sum : mg "sum" = none
  all : mg "all" = none
  any : mg "any" = none
  zip : mg "zip" = none
  enumerate : mg "enumerate" = none
  sorted : mg "sorted" = none
  set : mg "set" = none
  dict : mg "dict" = none

theorem all2_at {α β : Type} {R : α → β → Prop} {vs : List α} {as : List β} {i : Int} {a : β} (h : All2 R vs as) (e : atI as i = some a) : ∃ v, atI vs i = some v ∧ R v a := by
  unfold atI at e ⊢
  rw [All2.length h]
  cases q : ixN as.length i with
  | none => rw [q] at e; cases e
  | some j =>
    rw [q] at e
    obtain ⟨v, h1, h2⟩ := All2.getR h (show as[j]? = some a from e)
    exact ⟨v, h1, h2⟩
section
variable {P : Program} {w : World} {K : PySem.W.Frag} {mg : Str → Option Value} {base : Heap} {lv : Nat} {N : List Str} {sc : Scope} {fn : Str → Bool}
variable {α β γ δ ρ : Type}
variable {c : Ctx P w K mg base lv N sc fn} {Γ : Gm} {e a b d : Expr} {es : List Expr} {pos pos' : Pos} {T : Ty K α} {A : Ty K α} {B' : Ty K β} {C : Ty K γ} {D' : Ty K δ}

/-! ### subscripts -/
theorem ew_ixG {r : R2} {k : Gm → γ → Prop} (ho : ∀ {X : Cx}, X.K = K → IxR X r) (h : EW c Γ a A fun Γ1 i => EW c Γ1 b B' fun Γ2 j => RW r A B' C i j fun z => k Γ2 z) (hs : PlainIx b) : EW c Γ (.Subscript a b pos) C k := by
  intro B σ F H S Q q
  refine of_pe (pe_ix (ho c.hK) peW peW hs) ?_
  refine h B σ F H S _ fun v i Γ1 F1 H1 S1 e1 r1 h1 => ?_
  refine h1 B σ F1 H1 S1 _ fun u j Γ2 F2 H2 S2 e2 r2 h2 => ?_
  exact h2 F2 H2 v u S2.sub (A.mono e2 r1) r2 Q fun z F3 H3 y e3 r3 h3 => q z y Γ2 F3 H3 (S2.step e3) ((e1.trans e2).trans e3.ff) r3 h3
theorem ew_ixQ {k : Gm → α → Prop} (h : EW c Γ a (tSeq T) fun Γ1 xs => EW c Γ1 b tInt fun Γ2 i => ∃ x, atI xs i = some x ∧ k Γ2 x) (hs : PlainIx b := by intro _ _; rfl) : EW c Γ (.Subscript a b pos) T k :=
  ew_ixG (r := rIxL K) (fun hK => by rw [← hK]; exact ix_list) (h.imp fun _ xs h => h.imp fun _ i ⟨x, h1, h2⟩ => fun F H u v S ⟨p, vs, e1, hp, hv⟩ ev Q q => by
    obtain ⟨z, hz, rz⟩ := all2_at hv h1
    exact ⟨p, vs, i, z, e1, ev, sqL_mono S hp, hz, q z F H x (Step.refl S) rz h2⟩) hs
theorem ew_ixL {k : Gm → α → Prop} (h : EW c Γ a (tLst T) fun Γ1 xs => EW c Γ1 b tInt fun Γ2 i => ∃ x, atI xs i = some x ∧ k Γ2 x) (hs : PlainIx b := by intro _ _; rfl) : EW c Γ (.Subscript a b pos) T k :=
  ew_ixG (r := rIxL K) (fun hK => by rw [← hK]; exact ix_list) (h.imp fun _ xs h => h.imp fun _ i ⟨x, h1, h2⟩ => fun F H u v S ⟨p, vs, e1, hp, hv⟩ ev Q q => by
    obtain ⟨z, hz, rz⟩ := all2_at hv h1
    exact ⟨p, vs, i, z, e1, ev, .inl (.inl (S _ _ hp)), hz, q z F H x (Step.refl S) rz h2⟩) hs
theorem ew_ixT {k : Gm → α → Prop} (h : EW c Γ a (tTup T) fun Γ1 xs => EW c Γ1 b tInt fun Γ2 i => ∃ x, atI xs i = some x ∧ k Γ2 x) (hs : PlainIx b := by intro _ _; rfl) : EW c Γ (.Subscript a b pos) T k :=
  ew_ixG (r := rIxT K) (fun hK => by rw [← hK]; exact ix_tup) (h.imp fun _ xs h => h.imp fun _ i ⟨x, h1, h2⟩ => fun F H u v S ⟨p, vs, e1, hp, hv⟩ ev Q q => by
    obtain ⟨z, hz, rz⟩ := all2_at hv h1
    exact ⟨p, vs, i, z, e1, ev, sqT_mono S hp, hz, q z F H x (Step.refl S) rz h2⟩) hs
/-- a written place of a tuple of known make -/
theorem ew_ixP {T' : Ty K ρ} {R : Hp → List V → ρ → Prop} {m} (hT : T' = tupTy R m) {i : Int} {j} {p' : Pos} {k : Gm → γ → Prop} (f : ρ → γ) (hf : ∀ F vs z, R F vs z → ∃ v, atI vs i = some v ∧ C.r F v (f z)) (h : EW c Γ a T' fun Γ1 z => k Γ1 (f z)) : EW c Γ (.Subscript a (.Constant (.int i) j p') pos) C k :=
  ew_ixG (r := rIxT K) (fun hK => by rw [← hK]; exact ix_tup) (h.imp fun _ z h => ew_int (fun F H u v S hu ev Q q => by
    rw [hT] at hu
    obtain ⟨p, vs, e1, hp, hv⟩ := hu
    obtain ⟨x, hx, rx⟩ := hf F vs z hv
    exact ⟨p, vs, i, x, e1, ev, sqT_mono S hp, hx, q x F H (f z) (Step.refl S) rx h⟩)) (fun _ _ => rfl)
theorem ew_T1_0 {j} {p' : Pos} {k : Gm → α → Prop} (h : EW c Γ a (tT1 A) fun Γ1 z => k Γ1 z) : EW c Γ (.Subscript a (.Constant (.int 0) j p') pos) A k := ew_ixP (T' := tT1 A) rfl (fun z => z) (fun F vs z ⟨x, e, h1⟩ => ⟨x, by rw [e]; rfl, h1⟩) h
theorem ew_T2_0 {j} {p' : Pos} {k : Gm → α → Prop} (h : EW c Γ a (tT2 A B') fun Γ1 z => k Γ1 z.1) : EW c Γ (.Subscript a (.Constant (.int 0) j p') pos) A k := ew_ixP (T' := tT2 A B') rfl (fun z => z.1) (fun F vs z ⟨x, y, e, h1, h2⟩ => ⟨x, by rw [e]; rfl, h1⟩) h
theorem ew_T2_1 {j} {p' : Pos} {k : Gm → β → Prop} (h : EW c Γ a (tT2 A B') fun Γ1 z => k Γ1 z.2) : EW c Γ (.Subscript a (.Constant (.int 1) j p') pos) B' k := ew_ixP (T' := tT2 A B') rfl (fun z => z.2) (fun F vs z ⟨x, y, e, h1, h2⟩ => ⟨y, by rw [e]; rfl, h2⟩) h
theorem ew_T3_0 {j} {p' : Pos} {k : Gm → α → Prop} (h : EW c Γ a (tT3 A B' C) fun Γ1 z => k Γ1 z.1) : EW c Γ (.Subscript a (.Constant (.int 0) j p') pos) A k := ew_ixP (T' := tT3 A B' C) rfl (fun z => z.1) (fun F vs z ⟨x, y, u, e, h1, h2, h3⟩ => ⟨x, by rw [e]; rfl, h1⟩) h
theorem ew_T3_1 {j} {p' : Pos} {k : Gm → β → Prop} (h : EW c Γ a (tT3 A B' C) fun Γ1 z => k Γ1 z.2.1) : EW c Γ (.Subscript a (.Constant (.int 1) j p') pos) B' k := ew_ixP (T' := tT3 A B' C) rfl (fun z => z.2.1) (fun F vs z ⟨x, y, u, e, h1, h2, h3⟩ => ⟨y, by rw [e]; rfl, h2⟩) h
theorem ew_T3_2 {j} {p' : Pos} {k : Gm → γ → Prop} (h : EW c Γ a (tT3 A B' C) fun Γ1 z => k Γ1 z.2.2) : EW c Γ (.Subscript a (.Constant (.int 2) j p') pos) C k := ew_ixP (T' := tT3 A B' C) rfl (fun z => z.2.2) (fun F vs z ⟨x, y, u, e, h1, h2, h3⟩ => ⟨u, by rw [e]; rfl, h3⟩) h
theorem ew_T4_0 {j} {p' : Pos} {k : Gm → α → Prop} (h : EW c Γ a (tT4 A B' C D') fun Γ1 z => k Γ1 z.1) : EW c Γ (.Subscript a (.Constant (.int 0) j p') pos) A k := ew_ixP (T' := tT4 A B' C D') rfl (fun z => z.1) (fun F vs z ⟨x, y, u, t, e, h1, h2, h3, h4⟩ => ⟨x, by rw [e]; rfl, h1⟩) h
theorem ew_T4_1 {j} {p' : Pos} {k : Gm → β → Prop} (h : EW c Γ a (tT4 A B' C D') fun Γ1 z => k Γ1 z.2.1) : EW c Γ (.Subscript a (.Constant (.int 1) j p') pos) B' k := ew_ixP (T' := tT4 A B' C D') rfl (fun z => z.2.1) (fun F vs z ⟨x, y, u, t, e, h1, h2, h3, h4⟩ => ⟨y, by rw [e]; rfl, h2⟩) h
theorem ew_T4_2 {j} {p' : Pos} {k : Gm → γ → Prop} (h : EW c Γ a (tT4 A B' C D') fun Γ1 z => k Γ1 z.2.2.1) : EW c Γ (.Subscript a (.Constant (.int 2) j p') pos) C k := ew_ixP (T' := tT4 A B' C D') rfl (fun z => z.2.2.1) (fun F vs z ⟨x, y, u, t, e, h1, h2, h3, h4⟩ => ⟨u, by rw [e]; rfl, h3⟩) h
theorem ew_T4_3 {j} {p' : Pos} {k : Gm → δ → Prop} (h : EW c Γ a (tT4 A B' C D') fun Γ1 z => k Γ1 z.2.2.2) : EW c Γ (.Subscript a (.Constant (.int 3) j p') pos) D' k := ew_ixP (T' := tT4 A B' C D') rfl (fun z => z.2.2.2) (fun F vs z ⟨x, y, u, t, e, h1, h2, h3, h4⟩ => ⟨t, by rw [e]; rfl, h4⟩) h
/-- of an own list -/
theorem ew_ixO {i : Nat} {x : Str} {p : Pos} {xs : List α} {k : Gm → α → Prop} (hs : slotOf N x 0 = some i) (hv : visB sc x = true) (hg : Γ[i]? = some (some (ownL T xs))) (h : EW c Γ b tInt fun Γ2 j => ∃ z, Γ2[i]? = some (some (ownL T xs)) ∧ atI xs j = some z ∧ k Γ2 z)
    (hp : PlainIx b := by intro _ _; rfl) (hd : (x == ("__debug__" : Str)) = false := by decide +kernel) (hcd : (x == ("__classdict__" : Str)) = false := by decide +kernel) : EW c Γ (.Subscript (.Name x p) b pos) T k := by
  intro B σ F H S Q q
  have hN := c.hN
  have hsc := c.hsc
  have hK := c.hK
  refine of_pe (pe_ix ix_list (pe_var (i := i) (by rw [hN]; exact slotOf_at hs) (by rw [hsc]; exact visB_vis hv) hd hcd) peW hp) ?_
  obtain ⟨v, ps, h1, ⟨p1, vs1, h2, _⟩, _⟩ := S.get hg
  refine ⟨v, h1, h B σ F H S _ fun u j Γ2 F2 H2 S2 e2 r2 ⟨z, g2, hz, hk⟩ => ?_⟩
  obtain ⟨v', ps', h1', ⟨p2, vs2, h2', h3', h4', h5'⟩, _⟩ := S2.get g2
  rw [h1] at h1'; cases h1'
  obtain ⟨y, hy, ry⟩ := all2_at h5' hz
  exact ⟨p2, vs2, j, y, h2', r2, .inl (.inl h4'), hy, q y z Γ2 F2 H2 S2 e2 ry hk⟩

/-! ### len -/
theorem ew_B {r : List V → Hp → VK → Prop} {x id : Str} {i' : String} {k : Gm → γ → Prop} (ho : ∀ {X : Cx}, X.K = K → X.calm = true → CallR X (.builtin i') r) (hg : glB sc x = true) (hm : mg x = none) (hv : bootBuiltins x = some (.builtin i')) (h : EWs c Γ (e :: es) fun Γ1 ts => RC r ts C fun z => k Γ1 z)
    (hn : x ≠ "__name__" := by decide +kernel) (hdb : (x == ("__debug__" : Str)) = false := by decide +kernel)
    (he : ∀ env, starEach (e :: es) env = (false, eval e env) :: starEach es env := by intro _; rfl) (hpl : ∀ env, (backTo pos (starEach es env)).any (·.1) = false := by intro _; rfl) {p : Pos} : EW c Γ (.Call (.Name x p) (e :: es) [] pos) C k := by
  intro B σ F H S Q q
  have hsc := c.hsc
  have hmg := c.hmg
  refine of_pe (pe_callB (ho c.hK c.calm) (by show c.X.env.scope.names.lookup x = _; rw [hsc]; exact glB_gl hg) (by rw [hmg]; exact hm) hv paW hn hdb (he _) (hpl _)) ?_
  exact h B σ F H S _ fun vs ts Γ1 F1 H1 S1 e1 r1 h1 => h1 F1 H1 vs S1.sub r1 Q fun z F3 H3 y e3 r3 h3 => q z y Γ1 F3 H3 (S1.step e3) (e1.trans e3.ff) r3 h3
theorem ew_Ty {r : List V → Hp → VK → Prop} {x : Str} {i' : String} {k : Gm → γ → Prop} (ho : ∀ {X : Cx}, X.K = K → X.calm = true → CallR X (.type i') r) (hg : glB sc x = true) (hm : mg x = none) (hv : bootBuiltins x = some (.type i')) (h : EWs c Γ (e :: es) fun Γ1 ts => RC r ts C fun z => k Γ1 z)
    (hn : x ≠ "__name__" := by decide +kernel) (hdb : (x == ("__debug__" : Str)) = false := by decide +kernel)
    (he : ∀ env, starEach (e :: es) env = (false, eval e env) :: starEach es env := by intro _; rfl) (hpl : ∀ env, (backTo pos (starEach es env)).any (·.1) = false := by intro _; rfl) {p : Pos} : EW c Γ (.Call (.Name x p) (e :: es) [] pos) C k := by
  intro B σ F H S Q q
  have hsc := c.hsc
  have hmg := c.hmg
  refine of_pe (pe_callTy (ho c.hK c.calm) (by show c.X.env.scope.names.lookup x = _; rw [hsc]; exact glB_gl hg) (by rw [hmg]; exact hm) hv paW hn hdb (he _) (hpl _)) ?_
  exact h B σ F H S _ fun vs ts Γ1 F1 H1 S1 e1 r1 h1 => h1 F1 H1 vs S1.sub r1 Q fun z F3 H3 y e3 r3 h3 => q z y Γ1 F3 H3 (S1.step e3) (e1.trans e3.ff) r3 h3
def rLen (K : PySem.W.Frag) : List V → Hp → VK → Prop := fun xs H Q => ∃ x n, xs = [x] ∧ LenV K x H n ∧ Q (.int n) H
theorem boot_len_ : bootBuiltins "len" = some (.builtin "len") := PySem.boot_len
/-- len, by what is known of the thing -/
theorem ew_len (bi : Bi mg) {k : Gm → Int → Prop} {p : Pos} (hg : glB sc "len" = true) (n : α → Nat) (hn : ∀ F v x, T.r F v x → LenV K v F (n x)) (h : EW c Γ a T fun Γ1 x => k Γ1 (n x)) (he : ∀ env, starEach [a] env = (false, eval a env) :: starEach [] env := by intro _; rfl) : EW c Γ (.Call (.Name "len" p) [a] [] pos) tInt k :=
  ew_B (id := "len") (r := rLen K) (fun hK _ => by rw [← hK]; exact call_len) hg bi.len boot_len_ (ews_cons (h.imp fun _ x hx => ews_nil (fun F H xs S r Q q => match xs, r with
    | [v], ⟨r, _⟩ => by
      refine ⟨v, n x, rfl, ?_, q _ F H _ (Step.refl S) rfl hx⟩
      have l := hn F v x r
      unfold LenV at l ⊢
      cases v with
      | ref p => exact l.elim (fun ⟨ys, h1, h2⟩ => .inl ⟨ys, sqL_mono S h1, h2⟩) fun ⟨ys, h1, h2⟩ => .inr ⟨ys, sqT_mono S h1, h2⟩
      | _ => exact l)) he) (he := he)
theorem lenL : ∀ F v x, (tLst T).r F v x → LenV K v F x.length := fun F v x ⟨p, vs, e, h, r⟩ => by
  subst e; exact .inl ⟨vs, .inl (.inl h), (All2.length r).symm⟩
theorem lenQ : ∀ F v x, (tSeq T).r F v x → LenV K v F x.length := fun F v x ⟨p, vs, e, h, r⟩ => by
  subst e; exact .inl ⟨vs, h, (All2.length r).symm⟩
theorem lenT : ∀ F v x, (tTup T).r F v x → LenV K v F x.length := fun F v x ⟨p, vs, e, h, r⟩ => by
  subst e; exact .inr ⟨vs, h, (All2.length r).symm⟩
end
end Px
/-! Px, fifth part: statements, loops, calls of defs. -/
namespace Px
open PySem PySem.Spec PyProof.Rows L2

section
variable {P : Program} {w : World} {K : PySem.W.Frag} {mg : Str → Option Value} {base : Heap} {lv : Nat} {N : List Str} {sc : Scope} {fn : Str → Bool}
variable {α β γ δ ρ : Type}
variable {c : Ctx P w K mg base lv N sc fn} {Γ : Gm} {e a b d : Expr} {es : List Expr} {pos pos' : Pos} {T : Ty K α} {A : Ty K α} {B' : Ty K β} {C : Ty K γ} {D' : Ty K δ}

/-! ### statements -/
/-- how a result lies: by the heap at the entry, the value, the datum, what is frozen and what stands now -/
abbrev Rs (ρ : Type) := Hp → V → ρ → Hp → Hp → Prop
def rTy {K : PySem.W.Frag} {ρ : Type} (T : Ty K ρ) : Rs ρ := fun _ v a F _ => T.r F v a
/-- a fresh list -/
def rLst {K : PySem.W.Frag} {α : Type} (T : Ty K α) : Rs (List α) := fun BH v as F H => ∃ p vs, v = .ref p ∧ BH p = none ∧ F p = none ∧ H p = some (.lst vs) ∧ All2 (T.r F) vs as
structure En (ρ : Type) where
  R : Rs ρ
  rt : Gm → ρ → Prop
  nx : Gm → Prop
  bk : Gm → Prop := fun _ => False
  ct : Gm → Prop := fun _ => False
def cD (B : Base) (D : En ρ) : L2.Ends :=
  { nx := fun σ H => ∃ Γ F, Sta B Γ σ F H ∧ D.nx Γ
    rt := fun v H => ∃ Γ σ F a, Sta B Γ σ F H ∧ D.R B.H v a F H ∧ D.rt Γ a
    bk := fun σ H => ∃ Γ F, Sta B Γ σ F H ∧ D.bk Γ
    ct := fun σ H => ∃ Γ F, Sta B Γ σ F H ∧ D.ct Γ }
def SW (c : Ctx P w K mg base lv N sc fn) (Γ : Gm) (ss : List Stmt) (D : En ρ) : Prop := ∀ B σ F H, (∀ p, ¬ B.loc p) → Sta B Γ σ F H → wSs c.X ss (cD B D) σ H
def S1 (c : Ctx P w K mg base lv N sc fn) (Γ : Gm) (st : Stmt) (D : En ρ) : Prop := ∀ B σ F H, (∀ p, ¬ B.loc p) → Sta B Γ σ F H → wS c.X st (cD B D) σ H
variable {D : En ρ} {st : Stmt} {rest ss ss' : List Stmt}
theorem sw_nil (h : D.nx Γ) : SW c Γ [] D := fun B σ F H hB S => of_pss pss_nil ⟨Γ, F, S, h⟩
theorem sw_cons (h : S1 c Γ st { D with nx := fun Γ1 => SW c Γ1 rest D }) : SW c Γ (st :: rest) D := fun B σ F H hB S => by
  refine of_pss (pss_cons psW pssW) ?_
  refine wS_mono (h B σ F H hB S) (fun σ1 H1 ⟨Γ1, F1, S1, h1⟩ => ?_) (fun _ _ h => h) (fun _ _ h => h) (fun _ _ h => h)
  exact h1 B σ1 F1 H1 hB S1
theorem sw_one (h : S1 c Γ st D) : SW c Γ [st] D := sw_cons (fun B σ F H hB S => wS_mono (h B σ F H hB S) (fun σ1 H1 ⟨Γ1, F1, S1, h1⟩ => ⟨Γ1, F1, S1, sw_nil h1⟩) (fun _ _ h => h) (fun _ _ h => h) (fun _ _ h => h))
theorem S1.imp {D' : En ρ} (h : S1 c Γ st D) (hT : D'.R = D.R) (h1 : ∀ Γ, D.nx Γ → D'.nx Γ) (h2 : ∀ Γ a, D.rt Γ a → D'.rt Γ a) (h3 : ∀ Γ, D.bk Γ → D'.bk Γ) (h4 : ∀ Γ, D.ct Γ → D'.ct Γ) : S1 c Γ st D' := fun B σ F H hB S =>
  wS_mono (h B σ F H hB S) (fun _ _ ⟨Γ1, F1, S1, q⟩ => ⟨Γ1, F1, S1, h1 _ q⟩) (fun _ _ ⟨Γ1, σ1, F1, a, S1, r, q⟩ => ⟨Γ1, σ1, F1, a, S1, by rw [hT]; exact r, h2 _ _ q⟩) (fun _ _ ⟨Γ1, F1, S1, q⟩ => ⟨Γ1, F1, S1, h3 _ q⟩) (fun _ _ ⟨Γ1, F1, S1, q⟩ => ⟨Γ1, F1, S1, h4 _ q⟩)
theorem SW.imp {D' : En ρ} (h : SW c Γ ss D) (hT : D'.R = D.R) (h1 : ∀ Γ, D.nx Γ → D'.nx Γ) (h2 : ∀ Γ a, D.rt Γ a → D'.rt Γ a) (h3 : ∀ Γ, D.bk Γ → D'.bk Γ) (h4 : ∀ Γ, D.ct Γ → D'.ct Γ) : SW c Γ ss D' := fun B σ F H hB S =>
  wSs_mono (h B σ F H hB S) (fun _ _ ⟨Γ1, F1, S1, q⟩ => ⟨Γ1, F1, S1, h1 _ q⟩) (fun _ _ ⟨Γ1, σ1, F1, a, S1, r, q⟩ => ⟨Γ1, σ1, F1, a, S1, by rw [hT]; exact r, h2 _ _ q⟩) (fun _ _ ⟨Γ1, F1, S1, q⟩ => ⟨Γ1, F1, S1, h3 _ q⟩) (fun _ _ ⟨Γ1, F1, S1, q⟩ => ⟨Γ1, F1, S1, h4 _ q⟩)
theorem SW.weak {Γ' : Gm} (h : SW c Γ' ss D) (hl : Γ'.length = Γ.length) (hw : ∀ (i : Nat) (e : Ent), Γ'[i]? = some (some e) → Γ[i]? = some (some e)) : SW c Γ ss D := fun B σ F H hB S => h B σ F H hB (S.weak hl hw)
theorem s1_ret {T : Ty K ρ} (hR : D.R = rTy T) (h : EW c Γ e T D.rt) : S1 c Γ (.Return (some e) pos) D := fun B σ F H hB S => of_ps (ps_ret peW) (h B σ F H S _ fun v a Γ1 F1 H1 S1 e1 r1 h1 => ⟨Γ1, σ, F1, a, S1, by rw [hR]; exact r1, h1⟩)
theorem s1_retL {D : En (List α)} (hR : D.R = rLst T) (h : EL c Γ e T D.rt) : S1 c Γ (.Return (some e) pos) D := fun B σ F H hB S => of_ps (ps_ret peW) (h B σ F H S _ fun p vs as Γ1 F1 H1 S1 e1 b1 b2 b3 hp r1 h1 => ⟨Γ1, σ, F1, as, S1.unpin, by rw [hR]; exact ⟨p, vs, rfl, b1, b2, hp, r1⟩, h1⟩)
theorem s1_retN {D : En Unit} (hT : D.R = rTy (K := K) tNon) (h : D.rt Γ ()) : S1 c Γ (.Return none pos) D := fun B σ F H hB S => of_ps ps_retN ⟨Γ, σ, F, (), S, by rw [hT]; rfl, h⟩
theorem s1_pass (h : D.nx Γ) : S1 c Γ (.Pass pos) D := fun B σ F H hB S => of_ps ps_pass ⟨Γ, F, S, h⟩
theorem s1_break (h : D.bk Γ) : S1 c Γ (.Break pos) D := fun B σ F H hB S => of_ps ps_break ⟨Γ, F, S, h⟩
theorem s1_continue (h : D.ct Γ) : S1 c Γ (.Continue pos) D := fun B σ F H hB S => of_ps ps_continue ⟨Γ, F, S, h⟩
theorem s1_expr (h : EW c Γ e T fun Γ1 _ => D.nx Γ1) (hs : ∀ env, swapsWith e none pos.line env = pure false := by intro _; rfl) : S1 c Γ (.Expr e pos) D := fun B σ F H hB S => of_ps (ps_expr peW (hs _)) (h B σ F H S _ fun v a Γ1 F1 H1 S1 e1 r1 h1 => ⟨Γ1, F1, S1, h1⟩)
theorem s1_if {t : Expr} (h : TW c Γ t fun Γ1 x => (x = true → SW c Γ1 ss D) ∧ (x = false → SW c Γ1 ss' D)) : S1 c Γ (.If t ss ss' pos) D := fun B σ F H hB S => by
  refine of_ps (ps_if ptW pssW pssW) (h B σ F H S _ fun x Γ1 F1 H1 S1 e1 h1 => ?_)
  cases x with
  | true => exact iteT (h1.1 rfl B σ F1 H1 hB S1)
  | false => exact iteF (h1.2 rfl B σ F1 H1 hB S1)
/-- x = e -/
theorem s1_set {i : Nat} {x : Str} (hs : slotOf N x 0 = some i) (hv : locB sc fn x = true) (h : EW c Γ e T fun Γ1 z => i < Γ1.length ∧ D.nx (Γ1.set i (some (val T z)))) (hsw : ∀ env, swapsWith e (some (.Name x pos')) pos.line env = pure false := by intro _; rfl) : S1 c Γ (.Assign [.Name x pos'] e pos) D := fun B σ F H hB S => by
  have hN := c.hN
  have hsc := c.hsc
  have hfn := c.hfn
  have hl := locB_loc hv
  refine of_ps (ps_set (i := i) (by rw [hN]; exact c.nd) (by rw [hN]; exact slotOf_at hs) (by rw [hsc]; exact hl.1) peW (hsw _) (by rw [hsc, hfn]; exact hl.2)) ?_
  exact h B σ F H S _ fun v a Γ1 F1 H1 S1 e1 r1 h1 => ⟨Γ1.set i (some (val T a)), F1, S1.set h1.1 ⟨fun _ z => z, r1⟩, h1.2⟩
/-- x = e, a new list of one's own -/
theorem s1_setL {i : Nat} {x : Str} (hs : slotOf N x 0 = some i) (hv : locB sc fn x = true) (h : EL c Γ e T fun Γ1 z => i < Γ1.length ∧ D.nx (Γ1.set i (some (ownL T z)))) (hsw : ∀ env, swapsWith e (some (.Name x pos')) pos.line env = pure false := by intro _; rfl) : S1 c Γ (.Assign [.Name x pos'] e pos) D := fun B σ F H hB S => by
  have hN := c.hN
  have hsc := c.hsc
  have hfn := c.hfn
  have hl := locB_loc hv
  refine of_ps (ps_set (i := i) (by rw [hN]; exact c.nd) (by rw [hN]; exact slotOf_at hs) (by rw [hsc]; exact hl.1) peW (hsw _) (by rw [hsc, hfn]; exact hl.2)) ?_
  exact h B σ F H S _ fun p vs as Γ1 F1 H1 S1 e1 b1 b2 b3 hp r1 h1 => ⟨Γ1.set i (some (ownL T as)), F1, S1.take h1.1 ⟨p, vs, rfl, fun q => Iff.rfl, hp, r1⟩ b2 (by rw [hp]; exact fun z => nomatch z) b1 b3, h1.2⟩
/-- x op= e, on ints -/
theorem s1_aug {i : Nat} {x : Str} {op : Operator} {f : Int → Int → Int} {z : Int} (ho : ∀ {X : Cx}, PIp X op (ipI f)) (hs : slotOf N x 0 = some i) (hv : locB sc fn x = true) (hg : Γ[i]? = some (some (val (K := K) tInt z))) (h : EW c Γ e tInt fun Γ1 u => i < Γ1.length ∧ D.nx (Γ1.set i (some (val (K := K) tInt (f z u))))) : S1 c Γ (.AugAssign (.Name x pos') op e pos) D := fun B σ F H hB S => by
  have hN := c.hN
  have hsc := c.hsc
  have hfn := c.hfn
  have hl := locB_loc hv
  refine of_ps (ps_aug (i := i) (by rw [hN]; exact c.nd) (by rw [hN]; exact slotOf_at hs) (by rw [hsc]; exact hl.1) peW ho (by rw [hsc, hfn]; exact hl.2)) ?_
  obtain ⟨v, ps, h1, h2, _⟩ := S.get hg
  refine ⟨v, h1, h B σ F H S _ fun u a Γ1 F1 H1 S1 e1 r1 h3 => ⟨z, a, h2.2, r1, ?_⟩⟩
  exact ⟨_, F1, S1.set (e := val (K := K) tInt (f z a)) h3.1 ⟨fun _ z => z, rfl⟩, h3.2⟩
/-! ### a call of a def -/
structure Prom (P : Program) (w : World) (K : PySem.W.Frag) (mg : Str → Option Value) (base : Heap) (name : Str) (lv : Nat) (ps : List Str) (sp : Sp) : Prop where
  ex : ∃ f fd, mg name = some (.ref f) ∧ PySem.W.keepIn K (.ref f) = true ∧ Binds K fd ps [] ∧ FnOk P w K mg base CX0 lv f fd ps sp
/-- a def that changes nothing that stood before -/
def spP {ι : Type} (args : ι → List (TV K)) (T : Ty K ρ) (pre : ι → Prop) (post : ι → ρ → Prop) : Sp := fun vs H Q _ =>
  ∃ F i, Same F H ∧ All2 (fun v (t : TV K) => t.r F v) vs (args i) ∧ pre i ∧ ∀ v r F' H', Step F H F' H' → T.r F' v r → post i r → Q v H'
theorem ew_call {ι : Type} {args : ι → List (TV K)} {R : Ty K ρ} {pre : ι → Prop} {post : ι → ρ → Prop} {name : Str} {ps : List Str} {l : Nat} {k : Gm → ρ → Prop} {p : Pos} (G : Prom P w K mg base name l ps (spP args R pre post)) (hl : l ≤ lv) (hg : glB sc name = true)
    (h : EWs c Γ (e :: es) fun Γ1 ts => ∃ i, ts = args i ∧ pre i ∧ ∀ r, post i r → k Γ1 r) (hdb : (name == ("__debug__" : Str)) = false := by decide +kernel)
    (he : ∀ env, starEach (e :: es) env = (false, eval e env) :: starEach es env := by intro _; rfl) (hpl : ∀ env, (backTo pos (starEach es env)).any (·.1) = false := by intro _; rfl) : EW c Γ (.Call (.Name name p) (e :: es) [] pos) R k := by
  intro B σ F H S Q q
  obtain ⟨X, rfl, rfl, rfl, rfl, rfl, rfl, nd, rfl, rfl, calm, room, pas⟩ := c
  obtain ⟨f, fd, g1, g2, g3, g4⟩ := G.ex
  refine of_pe (pe_call g4 (room.mono hl) (glB_gl hg) g1 g2 g3 .nil pass0 paW hdb (he _) (hpl _)) ?_
  refine h B σ F H S _ fun vs ts Γ1 F1 H1 S1 e1 r1 ⟨i, ei, hp, hk⟩ => ?_
  subst ei
  show spP args R pre post (vs ++ []) H1 Q E0
  rw [List.append_nil]
  exact ⟨F1, i, S1.sub, r1, hp, fun v r F2 H2 st rr hr => q v r Γ1 F2 H2 (S1.step st) (e1.trans st.ff) rr (hk r hr)⟩
/-! ### a def keeps its promise -/
theorem fn_px {x qual : Str} {st : Stmt} {f : Addr} {fd : FuncData} {ps : List Str} {sp : Sp} (F : Fun K x qual st f fd) (S : FnScope N ps (defScope st)) (len : ∀ vs H Q E, sp vs H Q E → vs.length = ps.length)
    (h : ∀ vs H Q E, sp vs H Q E → ∃ (ρ : Type) (B : Base) (Γ : Gm) (F : Hp) (T : Rs ρ) (rt : Gm → ρ → Prop) (nx : Gm → Prop), (∀ p, ¬ B.loc p) ∧ Sta B Γ (start N vs) F H ∧ (∀ c : Ctx P w K mg base lv N (defScope st) (fun _ => true), SW c Γ (defBody st) ⟨T, rt, nx, fun _ => False, fun _ => False⟩) ∧
      (∀ v Γ' σ' F' H' a, Sta B Γ' σ' F' H' → T B.H v a F' H' → rt Γ' a → Q v H') ∧ (∀ Γ' σ' F' H', Sta B Γ' σ' F' H' → nx Γ' → Q .non H')) : FnOk P w K mg base CX0 (lv + 1) f fd ps sp := by
  refine F.ok S len fun cdv A outer s H vs Q E hr hs => ?_
  obtain ⟨ρ, B, Γ, F0, T, rt, nx, hB, S0, hb, h1, h2⟩ := h vs H Q E hs
  refine ⟨_, pssW, ?_⟩
  refine wSs_mono (hb ⟨(cxOf CX0 P w K mg base N qual (defScope st) f cdv A outer s H E).nox, rfl, rfl, rfl, rfl, rfl, rfl, S.nd, rfl, rfl, rfl, hr, PassesOwn.never⟩ B (start N vs) F0 H hB S0) (fun σ1 H1 ⟨Γ1, F1, S1, q⟩ => h2 _ _ _ _ S1 q) (fun v H1 ⟨Γ1, σ1, F1, a, S1, r, q⟩ => h1 v _ _ _ _ a S1 r q) (fun σ1 H1 ⟨Γ1, F1, S1, q⟩ => ?_) fun σ1 H1 ⟨Γ1, F1, S1, q⟩ => ?_
  · exact q.elim
  · exact q.elim
def entV (t : TV K) : Ent := ⟨fun v ps F _ => (∀ p, ¬ ps p) ∧ t.r F v, true, false, fun h e _ => ⟨h.1, t.mono e h.2⟩, fun _ _ _ _ _ h => h.1⟩
/-- the slots at the entry -/
def gmOf (n : Nat) (ts : List (TV K)) : Gm := ts.map (fun t => some (entV t)) ++ List.replicate (n - ts.length) none
theorem start_get {vs : List V} {i : Nat} {v : V} (h : vs[i]? = some v) : (start N vs)[i]? = some (some v) := by
  unfold L2.start
  have hi : i < vs.length := (List.getElem?_eq_some_iff.mp h).1
  rw [List.getElem?_append_left (by simpa using hi), List.getElem?_map, h]
  rfl
theorem start_len {vs : List V} (h : vs.length ≤ N.length) : (start N vs).length = N.length := by
  unfold L2.start
  rw [List.length_append, List.length_map, List.length_replicate]
  omega
theorem gm_get {n : Nat} {ts : List (TV K)} {i : Nat} {x : Ent} (h : (gmOf n ts)[i]? = some (some x)) : ∃ t, ts[i]? = some t ∧ x = entV t := by
  unfold gmOf at h
  by_cases hi : i < ts.length
  · rw [List.getElem?_append_left (by simpa using hi), List.getElem?_map, List.getElem?_eq_getElem hi] at h
    exact ⟨ts[i], List.getElem?_eq_getElem hi, by simpa using h.symm⟩
  · rw [List.getElem?_append_right (by simpa using hi), List.getElem?_replicate] at h
    split at h <;> cases h
theorem sta_start {ts : List (TV K)} {vs : List V} {F H : Hp} (hs : Same F H) (r : All2 (fun v (t : TV K) => t.r F v) vs ts) (hl : vs.length ≤ N.length) : Sta ⟨F, H, fun _ => False, fun _ => False, fun _ => False⟩ (gmOf N.length ts) (start N vs) F H := by
  have h0 := All2.length r
  refine ⟨?_, hs, Same.refl _, fun _ _ h _ => h, fun _ h => h, fun _ _ h => h, fun _ h => h.elim, fun _ _ => False, fun _ _ h => h.elim, fun _ _ _ h => h.elim, fun i x hx => ?_⟩
  · rw [start_len hl]
    unfold gmOf
    rw [List.length_append, List.length_map, List.length_replicate]
    omega
  · obtain ⟨t, ht, rfl⟩ := gm_get hx
    obtain ⟨v, hv, rv⟩ := All2.getR r ht
    exact ⟨v, start_get hv, ⟨fun _ h => h, rv⟩, fun _ _ h => h.elim⟩
theorem sta_step {B : Base} {σ : L2.St} {F H : Hp} (S : Sta B Γ σ F H) (hv : ∀ b, ¬ B.vol b) : Step B.F B.H F H := ⟨S.ext, fun b o h => S.keep b o h (hv b), S.sub, S.new⟩
/-- a def that changes nothing that stood before -/
theorem fn_pure {ι : Type} {args : ι → List (TV K)} {R : Ty K ρ} {pre : ι → Prop} {post : ι → ρ → Prop} {x qual : Str} {st : Stmt} {f : Addr} {fd : FuncData} {ps : List Str} (F : Fun K x qual st f fd) (S : FnScope N ps (defScope st)) (hl : ∀ i, (args i).length = ps.length)
    (h : ∀ i, pre i → ∀ c : Ctx P w K mg base lv N (defScope st) (fun _ => true), SW c (gmOf N.length (args i)) (defBody st) ⟨rTy R, fun _ r => post i r, fun _ => ∃ r, (∀ F, R.r F .non r) ∧ post i r, fun _ => False, fun _ => False⟩) : FnOk P w K mg base CX0 (lv + 1) f fd ps (spP args R pre post) := by
  have hpl : ps.length ≤ N.length := by have := congrArg List.length S.pre; rw [List.length_take] at this; omega
  refine fn_px F S (fun vs H Q E ⟨F0, i, _, r, _⟩ => (All2.length r).trans (hl i)) fun vs H Q E ⟨F0, i, hs, r, hp, q⟩ => ?_
  refine ⟨ρ, ⟨F0, H, fun _ => False, fun _ => False, fun _ => False⟩, gmOf N.length (args i), F0, rTy R, _, _, fun _ h => h, sta_start hs r (by rw [All2.length r, hl i]; exact hpl), h i hp, fun v Γ' σ' F' H' a S' ra ha => q v a F' H' (sta_step S' fun _ z => z) ra ha, fun Γ' σ' F' H' S' ⟨a, ra, ha⟩ => q .non a F' H' (sta_step S' fun _ z => z) (ra F') ha⟩
theorem Prom.of {x : Str} {st : Stmt} {f : Addr} {fd : FuncData} {ps : List Str} {sp : Sp} {l : Nat} (hm : mg x = some (.ref f)) (F : Fun K x x st f fd) (hb : Binds K fd ps []) (h : FnOk P w K mg base CX0 l f fd ps sp) : Prom P w K mg base x l ps sp := ⟨f, fd, hm, F.kp, hb, h⟩
/-- a slot's own list is frozen and read -/
theorem Sta.ownFrz {B : Base} {σ : L2.St} {F H : Hp} {i : Nat} {as : List α} (S : Sta B Γ σ F H) (hg : Γ[i]? = some (some (ownL T as))) (hB : ∀ p, ¬ B.loc p) : ∃ v F', σ[i]? = some (some v) ∧ Same F F' ∧ (tLst T).r F' v as ∧ Sta B (Γ.set i (some (val (tLst T) as))) σ F' H := by
  obtain ⟨O, h1, h2, h3⟩ := S.own
  obtain ⟨v, hv, ⟨p, vs, rfl, hq, hp, hr⟩, hz⟩ := h3 i _ hg
  have hO : O i p := (hq p).mpr rfl
  obtain ⟨o1, o2, o3, o4⟩ := h1 i p hO
  have hbp : B.H p = none := (hz rfl p hO).resolve_right (hB p)
  have ff : Same F (upd F p (.lst vs)) := same_new o1
  refine ⟨.ref p, upd F p (.lst vs), hv, ff, ⟨p, vs, rfl, upd_same, All2.imp (fun _ _ => T.mono ff) hr⟩, ?_⟩
  have hil : i < Γ.length := (List.getElem?_eq_some_iff.mp hg).1
  refine ⟨by rw [List.length_set]; exact S.len, fun b o z => ?_, S.ext.trans ff, S.keep, S.dom, fun b n1 n2 => ?_, fun b z => ⟨(S.pnd b z).1, ?_⟩, fun j q => j ≠ i ∧ O j q, fun j q hq => ?_, fun j k q hj hk => h2 j k q hj.2 hk.2, fun j x hx => ?_⟩
  · by_cases hb : b = p
    · subst hb; rw [upd_same] at z; rw [hp]; exact z
    · rw [upd_ne hb] at z; exact S.sub b o z
  · rw [upd_ne fun z => n1 (by rw [z]; exact hbp)]; exact S.new b n1 n2
  · rw [upd_ne (show b ≠ p from fun y => o4 (by rw [← y]; exact z))]; exact (S.pnd b z).2
  · obtain ⟨a, b, c, d⟩ := h1 j q hq.2
    exact ⟨by rw [upd_ne (show q ≠ p from fun y => hq.1 (h2 j i p (by rw [← y]; exact hq.2) hO))]; exact a, b, c, d⟩
  · by_cases hj : j = i
    · subst hj
      rw [List.getElem?_set_self hil] at hx
      cases hx
      exact ⟨.ref p, hv, ⟨fun q z => z.1 rfl, p, vs, rfl, upd_same, All2.imp (fun _ _ => T.mono ff) hr⟩, fun _ q z => absurd rfl z.1⟩
    · rw [List.getElem?_set_ne (Ne.symm hj)] at hx
      obtain ⟨u, hu, hok, hw⟩ := h3 j x hx
      refine ⟨u, hu, ?_, fun b q z => hw b q z.2⟩
      have e0 : (fun q => j ≠ i ∧ O j q) = O j := by funext q; simp [hj]
      show x.ok u (fun q => j ≠ i ∧ O j q) _ H
      rw [e0]
      exact x.st hok ff fun _ _ => rfl
theorem sw_frz {D : En ρ} {ss : List Stmt} (i : Nat) {as : List α} (hg : Γ[i]? = some (some (ownL T as))) (h : SW c (Γ.set i (some (val (tLst T) as))) ss D) : SW c Γ ss D := fun B σ F H hB S => by
  obtain ⟨v, F', hv, ff, r, S2⟩ := S.ownFrz hg hB
  exact h B σ F' H hB S2
theorem s1_frz {D : En ρ} {st : Stmt} (i : Nat) {as : List α} (hg : Γ[i]? = some (some (ownL T as))) (h : S1 c (Γ.set i (some (val (tLst T) as))) st D) : S1 c Γ st D := fun B σ F H hB S => by
  obtain ⟨v, F', hv, ff, r, S2⟩ := S.ownFrz hg hB
  exact h B σ F' H hB S2
end
end Px
/-! Px, sixth part: what is walked, loops, comprehensions. -/
namespace Px
open PySem PySem.Spec PyProof.Rows L2

structure ItOk {K : PySem.W.Frag} {α : Type} (J : It) (A : Ty K α) (F : Hp) (as : List α) : Prop where
  go : ∀ i F1 H, Same F F1 → Same F1 H → i < as.length → J.go i H
  stop : ∀ i F1 H, Same F F1 → Same F1 H → as.length ≤ i → J.stop i H
  yld : ∀ i F1 H x H', Same F F1 → Same F1 H → J.yld i H x H' → ∀ a, as[i]? = some a → ∃ F2, Step F1 H F2 H' ∧ A.r F2 x a
theorem wipe_get {σ : L2.St} {i : Nat} : ∀ {vs : List Nat}, i ∈ vs → i < σ.length → (wipe σ vs)[i]? = some none
  | [], h, _ => by simp at h
  | v :: vs, h, hl => by
    unfold wipe
    by_cases e : v = i
    · subst e
      exact List.getElem?_set_self (by rw [wipe_length]; exact hl)
    · rw [List.getElem?_set_ne e]
      exact wipe_get ((List.mem_cons.mp h).resolve_left fun z => e z.symm) hl
theorem wipe_eq {σ σ' : L2.St} {vs : List Nat} (hl : σ'.length = σ.length) (h : ∀ j, j ∉ vs → σ'[j]? = σ[j]?) : wipe σ' vs = wipe σ vs := by
  apply List.ext_getElem?
  intro i
  by_cases hi : i ∈ vs
  · by_cases hil : i < σ.length
    · rw [wipe_get hi (by rw [hl]; exact hil), wipe_get hi hil]
    · rw [List.getElem?_eq_none (by rw [wipe_length]; omega), List.getElem?_eq_none (by rw [wipe_length]; omega)]
  · rw [wipe_out hi, wipe_out hi, h i hi]
def wipeG (Γ : Gm) : List Nat → Gm
  | [] => Γ
  | v :: vs => (wipeG Γ vs).set v none
theorem wipeG_length (Γ : Gm) : ∀ vs : List Nat, (wipeG Γ vs).length = Γ.length
  | [] => rfl
  | v :: vs => by unfold wipeG; rw [List.length_set, wipeG_length Γ vs]
theorem wipeG_out {Γ : Gm} {i : Nat} : ∀ {vs : List Nat}, i ∉ vs → (wipeG Γ vs)[i]? = Γ[i]?
  | [], _ => rfl
  | v :: vs, h => by
    unfold wipeG
    rw [List.getElem?_set_ne fun e => h (by rw [e]; exact List.mem_cons_self)]
    exact wipeG_out fun m => h (List.mem_cons_of_mem _ m)
theorem wipeG_in {Γ : Gm} {i : Nat} {e : Ent} : ∀ {vs : List Nat}, i ∈ vs → (wipeG Γ vs)[i]? ≠ some (some e)
  | [], h, _ => by simp at h
  | v :: vs, h, q => by
    unfold wipeG at q
    by_cases z : v = i
    · subst z
      by_cases hl : v < (wipeG Γ vs).length
      · rw [List.getElem?_set_self hl] at q; cases q
      · rw [List.getElem?_eq_none (by rw [List.length_set]; omega)] at q; cases q
    · rw [List.getElem?_set_ne z] at q
      exact wipeG_in ((List.mem_cons.mp h).resolve_left fun y => z y.symm) q
def frzAt (Γ : Gm) (vs : List Nat) : Bool := vs.all fun i => match Γ[i]? with
  | some (some e) => e.frz
  | _ => true
theorem frzAt_of {Γ : Gm} {vs : List Nat} (h : frzAt Γ vs = true) {i : Nat} {e : Ent} (hi : i ∈ vs) (he : Γ[i]? = some (some e)) : e.frz = true := by
  have := List.all_eq_true.mp h i hi
  rw [he] at this
  exact this

section
variable {P : Program} {w : World} {K : PySem.W.Frag} {mg : Str → Option Value} {base : Heap} {lv : Nat} {N : List Str} {sc : Scope} {fn : Str → Bool}
variable {α β γ δ ρ : Type}
variable {c : Ctx P w K mg base lv N sc fn} {Γ : Gm} {e a b d tg iter elt : Expr} {es ts ifs : List Expr} {pos pos' : Pos} {T : Ty K α} {A : Ty K α} {B' : Ty K β} {C : Ty K γ} {D' : Ty K δ}

def IW (c : Ctx P w K mg base lv N sc fn) (Γ : Gm) (tg iter : Expr) (A : Ty K α) (k : Gm → List α → Prop) : Prop :=
  ∀ B σ F H, Sta B Γ σ F H → ∀ R : It → Hp → Prop, (∀ J as Γ' F' H', Sta B Γ' σ F' H' → Same F F' → ItOk J A F' as → k Γ' as → R J H') → wI c.X tg iter σ H R
def Agree (vs : Nat → Prop) (σ σ' : L2.St) : Prop := σ'.length = σ.length ∧ ∀ j, ¬ vs j → σ'[j]? = σ[j]?
theorem Agree.trans {vs : Nat → Prop} {σ σ1 σ2 : L2.St} (a : Agree vs σ σ1) (b : Agree vs σ1 σ2) : Agree vs σ σ2 := ⟨b.1.trans a.1, fun j hj => (b.2 j hj).trans (a.2 j hj)⟩
def GW (c : Ctx P w K mg base lv N sc fn) (vs : Nat → Prop) (Γ : Gm) (tg : Expr) (A : Ty K α) (x : α) (k : Gm → Prop) : Prop :=
  ∀ B σ F H, Sta B Γ σ F H → ∀ v, A.r F v x → ∀ Q : L2.St → Hp → Prop, (∀ Γ' σ', Sta B Γ' σ' F H → Agree vs σ σ' → k Γ' → Q σ' H) → wG c.X tg v σ H Q
def TsW (c : Ctx P w K mg base lv N sc fn) (Γ : Gm) (ifs : List Expr) (k : Gm → Bool → Prop) : Prop :=
  ∀ B σ F H, Sta B Γ σ F H → ∀ Q : Bool → Hp → Prop, (∀ b Γ' F' H', Sta B Γ' σ F' H' → Same F F' → k Γ' b → Q b H') → wTs c.X ifs σ H Q
theorem ts_nil {k : Gm → Bool → Prop} (h : k Γ true) : TsW c Γ [] k := fun B σ F H S Q q => of_pts pts_nil (q true Γ F H S (Same.refl _) h)
theorem ts_one {k : Gm → Bool → Prop} (h : TW c Γ e k) : TsW c Γ [e] k := fun B σ F H S Q q => of_pts (pts_one ptW) (h B σ F H S Q q)

/-! ### targets -/
theorem gw_name {vs : Nat → Prop} {i : Nat} {x : Str} {x0 : α} {k : Gm → Prop} (hs : slotOf N x 0 = some i) (hv : locB sc fn x = true) (hi : vs i) (hl : i < Γ.length) (h : k (Γ.set i (some (val A x0)))) : GW c vs Γ (.Name x pos) A x0 k := fun B σ F H S v r Q q => by
  have hN := c.hN
  have hsc := c.hsc
  have hfn := c.hfn
  have hl' := locB_loc hv
  refine of_pg (pg_name (i := i) (by rw [hN]; exact c.nd) (by rw [hN]; exact slotOf_at hs) (by rw [hsc]; exact hl'.1) (by rw [hsc, hfn]; exact hl'.2)) ?_
  exact q _ _ (S.set (e := val A x0) hl ⟨fun _ z => z, r⟩) ⟨List.length_set, fun j hj => List.getElem?_set_ne fun z : i = j => hj (by rw [← z]; exact hi)⟩ h
/-- several targets -/
def GWs (c : Ctx P w K mg base lv N sc fn) (vs : Nat → Prop) (Γ : Gm) (tgs : List Expr) (ts : List (TV K)) (k : Gm → Prop) : Prop :=
  ∀ B σ F H, Sta B Γ σ F H → ∀ xs, All2 (fun v (t : TV K) => t.r F v) xs ts → ∀ Q : L2.St → Hp → Prop, (∀ Γ' σ', Sta B Γ' σ' F H → Agree vs σ σ' → k Γ' → Q σ' H) → wGs c.X tgs xs σ H Q
theorem gws_nil {vs : Nat → Prop} {k : Gm → Prop} (h : k Γ) : GWs c vs Γ [] [] k := fun B σ F H S xs r Q q => by
  cases xs with
  | nil => exact of_pgs pgs_nil ⟨rfl, q _ _ S ⟨rfl, fun _ _ => rfl⟩ h⟩
  | cons _ _ => exact r.elim
theorem gws_cons {vs : Nat → Prop} {x : α} {tv' : List (TV K)} {k : Gm → Prop} (h : GW c vs Γ tg A x fun Γ1 => GWs c vs Γ1 ts tv' k) (hs : ∀ env, (assignEach (tg :: ts) env).map (·.2) = assign tg env :: (assignEach ts env).map (·.2) := by intro _; rfl) : GWs c vs Γ (tg :: ts) (tv A x :: tv') k := fun B σ F H S xs r Q q => by
  cases xs with
  | nil => exact r.elim
  | cons y ys =>
    refine of_pgs (pgs_cons pgW pgsW (hs _)) ⟨y, ys, rfl, h B σ F H S y r.1 _ fun Γ1 σ1 S1 o1 h1 => ?_⟩
    exact h1 B σ1 F H S1 ys r.2 Q fun Γ2 σ2 S2 o2 h2 => q Γ2 σ2 S2 (o1.trans o2) h2
theorem gw_tup {vs : Nat → Prop} {T' : Ty K ρ} {R : Hp → List V → ρ → Prop} {m} (hT : T' = tupTy R m) {x : ρ} {kk : Nat} {n : Nat} (ts' : List (TV K)) (hr : ∀ F xs, R F xs x → All2 (fun v (t : TV K) => t.r F v) xs ts' ∧ xs.length = n) {k : Gm → Prop} (h : GWs c vs Γ ts ts' k)
    (hn : ∀ env, (assignEach ts env).length = n := by intro _; rfl) (hst : ∀ env, (assignEach ts env).findIdx? (·.1) = none := by intro _; rfl) : GW c vs Γ (.Tuple ts kk pos) T' x k := fun B σ F H S v r Q q => by
  obtain ⟨X, rfl, rfl, rfl, rfl, rfl, rfl, nd, rfl, rfl, calm, room, pas⟩ := c
  rw [hT] at r
  obtain ⟨p, xs, rfl, hp, hx⟩ := r
  obtain ⟨h1, h2⟩ := hr F xs hx
  exact of_pg (pg_tup calm pgsW (hn _) (hst _)) ⟨p, xs, rfl, sqT_mono S.sub hp, h2, h B σ F H S xs h1 Q q⟩
theorem gw_T2 {vs : Nat → Prop} {t1 t2 : Expr} {x : α × β} {kk : Nat} {k : Gm → Prop} (h : GW c vs Γ t1 A x.1 fun Γ1 => GW c vs Γ1 t2 B' x.2 k)
    (h1 : ∀ env, (assignEach [t1, t2] env).map (·.2) = assign t1 env :: (assignEach [t2] env).map (·.2) := by intro _; rfl) (h2 : ∀ env, (assignEach [t2] env).map (·.2) = assign t2 env :: (assignEach [] env).map (·.2) := by intro _; rfl)
    (hn : ∀ env, (assignEach [t1, t2] env).length = 2 := by intro _; rfl) (hst : ∀ env, (assignEach [t1, t2] env).findIdx? (·.1) = none := by intro _; rfl) : GW c vs Γ (.Tuple [t1, t2] kk pos) (tT2 A B') x k :=
  gw_tup (T' := tT2 A B') rfl [tv A x.1, tv B' x.2] (fun F xs ⟨u, v, e, r1, r2⟩ => by subst e; exact ⟨⟨r1, r2, trivial⟩, rfl⟩) (gws_cons (fun B σ F H S v r Q q => h B σ F H S v r Q fun Γ1 σ1 S1 o1 k1 => q Γ1 σ1 S1 o1 (gws_cons (fun B σ F H S v r Q q => k1 B σ F H S v r Q fun Γ1 σ1 S1 o1 k2 => q Γ1 σ1 S1 o1 (gws_nil k2)) h2)) h1) hn hst
theorem GW.imp {vs : Nat → Prop} {x : α} {k k' : Gm → Prop} (h : GW c vs Γ tg A x k) (f : ∀ Γ, k Γ → k' Γ) : GW c vs Γ tg A x k' := fun B σ F H S v r Q q => h B σ F H S v r Q fun Γ1 σ1 S1 o1 k1 => q Γ1 σ1 S1 o1 (f _ k1)
theorem gw_T3 {vs : Nat → Prop} {t1 t2 t3 : Expr} {x : α × β × γ} {kk : Nat} {k : Gm → Prop} (h : GW c vs Γ t1 A x.1 fun Γ1 => GW c vs Γ1 t2 B' x.2.1 fun Γ2 => GW c vs Γ2 t3 C x.2.2 k)
    (h1 : ∀ env, (assignEach [t1, t2, t3] env).map (·.2) = assign t1 env :: (assignEach [t2, t3] env).map (·.2) := by intro _; rfl) (h2 : ∀ env, (assignEach [t2, t3] env).map (·.2) = assign t2 env :: (assignEach [t3] env).map (·.2) := by intro _; rfl) (h3 : ∀ env, (assignEach [t3] env).map (·.2) = assign t3 env :: (assignEach [] env).map (·.2) := by intro _; rfl)
    (hn : ∀ env, (assignEach [t1, t2, t3] env).length = 3 := by intro _; rfl) (hst : ∀ env, (assignEach [t1, t2, t3] env).findIdx? (·.1) = none := by intro _; rfl) : GW c vs Γ (.Tuple [t1, t2, t3] kk pos) (tT3 A B' C) x k :=
  gw_tup (T' := tT3 A B' C) rfl [tv A x.1, tv B' x.2.1, tv C x.2.2] (fun F xs ⟨u, v, z, e, r1, r2, r3⟩ => by subst e; exact ⟨⟨r1, r2, r3, trivial⟩, rfl⟩) (gws_cons (h.imp fun _ k1 => gws_cons (k1.imp fun _ k2 => gws_cons (k2.imp fun _ k3 => gws_nil k3) h3) h2) h1) hn hst
theorem gw_T4 {vs : Nat → Prop} {t1 t2 t3 t4 : Expr} {x : α × β × γ × δ} {kk : Nat} {k : Gm → Prop} (h : GW c vs Γ t1 A x.1 fun Γ1 => GW c vs Γ1 t2 B' x.2.1 fun Γ2 => GW c vs Γ2 t3 C x.2.2.1 fun Γ3 => GW c vs Γ3 t4 D' x.2.2.2 k)
    (h1 : ∀ env, (assignEach [t1, t2, t3, t4] env).map (·.2) = assign t1 env :: (assignEach [t2, t3, t4] env).map (·.2) := by intro _; rfl) (h2 : ∀ env, (assignEach [t2, t3, t4] env).map (·.2) = assign t2 env :: (assignEach [t3, t4] env).map (·.2) := by intro _; rfl) (h3 : ∀ env, (assignEach [t3, t4] env).map (·.2) = assign t3 env :: (assignEach [t4] env).map (·.2) := by intro _; rfl) (h4 : ∀ env, (assignEach [t4] env).map (·.2) = assign t4 env :: (assignEach [] env).map (·.2) := by intro _; rfl)
    (hn : ∀ env, (assignEach [t1, t2, t3, t4] env).length = 4 := by intro _; rfl) (hst : ∀ env, (assignEach [t1, t2, t3, t4] env).findIdx? (·.1) = none := by intro _; rfl) : GW c vs Γ (.Tuple [t1, t2, t3, t4] kk pos) (tT4 A B' C D') x k :=
  gw_tup (T' := tT4 A B' C D') rfl [tv A x.1, tv B' x.2.1, tv C x.2.2.1, tv D' x.2.2.2] (fun F xs ⟨u, v, z, y, e, r1, r2, r3, r4⟩ => by subst e; exact ⟨⟨r1, r2, r3, r4, trivial⟩, rfl⟩) (gws_cons (h.imp fun _ k1 => gws_cons (k1.imp fun _ k2 => gws_cons (k2.imp fun _ k3 => gws_cons (k3.imp fun _ k4 => gws_nil k4) h4) h3) h2) h1) hn hst
/-- a, b = .. -/
theorem s1_asgT {D : En ρ} {ts : List Expr} {kk : Nat} (h : EW c Γ e T fun Γ1 x => GW c (fun _ => True) Γ1 (.Tuple ts kk pos') T x fun Γ2 => D.nx Γ2) (hs : ∀ env, swapsWithSole [.Tuple ts kk pos'] e pos.line env = pure false := by intro _; rfl) (hw : ∀ env, swappedStores [.Tuple ts kk pos'] e env = pure none := by intro _; rfl) : S1 c Γ (.Assign [.Tuple ts kk pos'] e pos) D := fun B σ F H hB S => by
  refine of_ps (ps_asg peW pgW (hs _) (hw _)) (h B σ F H S _ fun v x Γ1 F1 H1 S1 e1 r1 h1 => ?_)
  exact h1 B σ F1 H1 S1 v r1 _ fun Γ2 σ2 S2 o2 h2 => ⟨Γ2, F1, S2, h2⟩

/-! ### what is walked -/
theorem iw_list {k : Gm → List α → Prop} (h : EW c Γ iter (tLst A) k) : IW c Γ tg iter A k := fun B σ F H S R q => by
  obtain ⟨X, rfl, rfl, rfl, rfl, rfl, rfl, nd, rfl, rfl, calm, room, pas⟩ := c
  refine of_pi (pi_list peW) (h B σ F H S _ fun v as Γ1 F1 H1 S1 e1 ⟨p, vs, e2, hp, hv⟩ h1 => ⟨p, e2, ⟨vs, SqL.of (S1.sub _ _ hp)⟩, q _ as Γ1 F1 H1 S1 e1 ⟨fun i F2 H2 s1 s2 hi => ?_, fun i F2 H2 s1 s2 hi => ?_, fun i F2 H2 x H' s1 s2 hy a ha => ?_⟩ h1⟩)
  · have hq : SqL X.K H2 p vs := SqL.of ((s1.trans s2) _ _ hp)
    have hi' : i < vs.length := by rw [All2.length hv]; exact hi
    exact ⟨vs, vs[i], hq, List.getElem?_eq_getElem hi'⟩
  · exact ⟨vs, SqL.of ((s1.trans s2) _ _ hp), by rw [All2.length hv]; exact hi⟩
  · obtain ⟨rfl, f⟩ := hy
    obtain ⟨y, h3, h4⟩ := All2.getR hv ha
    have := f vs (SqL.of ((s1.trans s2) _ _ hp))
    rw [h3] at this; cases this
    exact ⟨F2, Step.refl s2, A.mono s1 h4⟩
theorem iw_tup {k : Gm → List α → Prop} (h : EW c Γ iter (tTup A) k) : IW c Γ tg iter A k := fun B σ F H S R q => by
  obtain ⟨X, rfl, rfl, rfl, rfl, rfl, rfl, nd, rfl, rfl, calm, room, pas⟩ := c
  refine of_pi (pi_tup peW) (h B σ F H S _ fun v as Γ1 F1 H1 S1 e1 ⟨p, vs, e2, hp, hv⟩ h1 => ⟨p, e2, ⟨vs, sqT_mono S1.sub hp⟩, q _ as Γ1 F1 H1 S1 e1 ⟨fun i F2 H2 s1 s2 hi => ?_, fun i F2 H2 s1 s2 hi => ?_, fun i F2 H2 x H' s1 s2 hy a ha => ?_⟩ h1⟩)
  · have hq := sqT_mono (s1.trans s2) hp
    have hi' : i < vs.length := by rw [All2.length hv]; exact hi
    exact ⟨vs, vs[i], hq, List.getElem?_eq_getElem hi'⟩
  · exact ⟨vs, sqT_mono (s1.trans s2) hp, by rw [All2.length hv]; exact hi⟩
  · obtain ⟨rfl, f⟩ := hy
    obtain ⟨y, h3, h4⟩ := All2.getR hv ha
    have := f vs (sqT_mono (s1.trans s2) hp)
    rw [h3] at this; cases this
    exact ⟨F2, Step.refl s2, A.mono s1 h4⟩
/-- the ints of a range -/
def ups (lo hi : Int) : List Int := (List.range (hi - lo).toNat).map fun (i : Nat) => lo + (i : Int)
theorem ups_len (lo hi : Int) : (ups lo hi).length = (hi - lo).toNat := by simp [ups]
theorem ups_get {lo hi : Int} {i : Nat} {a : Int} (h : (ups lo hi)[i]? = some a) : a = lo + (i : Int) ∧ i < (hi - lo).toNat := by
  unfold ups at h
  rw [List.getElem?_map] at h
  by_cases hi' : i < (hi - lo).toNat
  · rw [List.getElem?_range hi'] at h
    exact ⟨(Option.some.inj h).symm, hi'⟩
  · rw [List.getElem?_eq_none (by simpa using hi')] at h; cases h
theorem it_range {F : Hp} {lo hi : Int} : ItOk (K := K) (Itr lo (hi - lo).toNat) tInt F (ups lo hi) :=
  ⟨fun i _ _ _ _ h => by rw [ups_len] at h; exact h, fun i _ _ _ _ h => by rw [ups_len] at h; exact h, fun i F1 H x H' _ s2 ⟨e1, e2⟩ a ha => ⟨F1, by subst e1; exact Step.refl s2, by rw [e2, (ups_get ha).1]; rfl⟩⟩
theorem iw_range1 (bi : Bi mg) {k : Gm → List Int → Prop} {p : Pos} (hg : glB sc "range" = true) (h : EW c Γ a tInt fun Γ1 n => -(2 ^ 62) ≤ n ∧ n < 2 ^ 62 ∧ k Γ1 (ups 0 n)) (hs : ∀ env, starEach [a] env = [(false, eval a env)] := by intro _; rfl) : IW c Γ tg (.Call (.Name "range" p) [a] [] pos) tInt k := fun B σ F H S R q => by
  obtain ⟨X, rfl, rfl, rfl, rfl, rfl, rfl, nd, rfl, rfl, calm, room, pas⟩ := c
  refine of_pi (pi_range1 (glB_gl hg) bi.range (pa_cons peW pa_nil (hs _)) (hs _)) (h B σ F H S _ fun v n Γ1 F1 H1 S1 e1 r1 ⟨h1, h2, h3⟩ => ⟨n, by rw [show v = .int n from r1], h1, h2, ?_⟩)
  have e0 : (n - 0).toNat = n.toNat := by rw [Int.sub_zero]
  rw [← e0]
  exact q _ _ Γ1 F1 H1 S1 e1 it_range h3
theorem iw_range2 (bi : Bi mg) {k : Gm → List Int → Prop} {p : Pos} (hg : glB sc "range" = true) (h : EW c Γ a tInt fun Γ1 m => EW c Γ1 b tInt fun Γ2 n => (-(2 ^ 62) ≤ m ∧ m < 2 ^ 62 ∧ -(2 ^ 62) ≤ n ∧ n < 2 ^ 62) ∧ k Γ2 (ups m n)) (hs : ∀ env, starEach [a, b] env = [(false, eval a env), (false, eval b env)] := by intro _; rfl) (hs2 : ∀ env, starEach [b] env = [(false, eval b env)] := by intro _; rfl) : IW c Γ tg (.Call (.Name "range" p) [a, b] [] pos) tInt k := fun B σ F H S R q => by
  obtain ⟨X, rfl, rfl, rfl, rfl, rfl, rfl, nd, rfl, rfl, calm, room, pas⟩ := c
  refine of_pi (pi_range2 (glB_gl hg) bi.range (pa_cons peW (pa_cons peW pa_nil (hs2 _)) (by rw [hs, hs2])) (hs _) (hs2 _)) (h B σ F H S _ fun v m Γ1 F1 H1 S1 e1 r1 h1 => h1 B σ F1 H1 S1 _ fun u n Γ2 F2 H2 S2 e2 r2 ⟨h2, h3⟩ => ⟨m, n, by rw [show v = .int m from r1, show u = .int n from r2], h2, q _ _ Γ2 F2 H2 S2 (e1.trans e2) it_range h3⟩)

/-! ### loops -/
theorem sta_reF {B : Base} {σ : L2.St} {F H : Hp} (S : Sta B Γ σ F H) : Sta { B with F := F } Γ σ F H := by
  obtain ⟨O, h1, h2, h3⟩ := S.own
  exact ⟨S.len, S.sub, Same.refl _, S.keep, S.dom, fun b _ h => h, S.pnd, O, h1, h2, h3⟩
theorem sta_unF {B : Base} {Γ1 : Gm} {σ σ1 : L2.St} {F F1 H H1 : Hp} (S1 : Sta B Γ1 σ1 F1 H1) (S : Sta { B with F := F1 } Γ σ F H) : Sta B Γ σ F H := by
  obtain ⟨O, h1, h2, h3⟩ := S.own
  exact ⟨S.len, S.sub, S1.ext.trans S.ext, S.keep, S.dom, fun b n1 n2 => S.new b n1 (S1.new b n1 n2), S.pnd, O, h1, h2, h3⟩
theorem cD_unF {B : Base} {D : En ρ} {Γ1 : Gm} {σ1 : L2.St} {F1 H1 : Hp} (S1 : Sta B Γ1 σ1 F1 H1) {st : Stmt} {σ : L2.St} {H : Hp} {X : Cx} (h : wS X st (cD { B with F := F1 } D) σ H) : wS X st (cD B D) σ H :=
  wS_mono h (fun _ _ ⟨G, F, S, q⟩ => ⟨G, F, sta_unF S1 S, q⟩) (fun _ _ ⟨G, s, F, a, S, r, q⟩ => ⟨G, s, F, a, sta_unF S1 S, r, q⟩) (fun _ _ ⟨G, F, S, q⟩ => ⟨G, F, sta_unF S1 S, q⟩) (fun _ _ ⟨G, F, S, q⟩ => ⟨G, F, sta_unF S1 S, q⟩)
theorem s1_for {D : En ρ} {body : List Stmt} (h : IW c Γ tg iter A fun Γ1 as => ∃ I : Nat → Gm → Prop, I 0 Γ1 ∧ (∀ i a, as[i]? = some a → ∀ Γ2, I i Γ2 → GW c (fun _ => True) Γ2 tg A a fun Γ3 => SW c Γ3 body { D with nx := I (i + 1), ct := I (i + 1), bk := D.nx }) ∧ ∀ Γ2, I as.length Γ2 → D.nx Γ2)
    (hs : ∀ env x, foldedSetIterable iter env x = pure x := by intro _ _; rfl) : S1 c Γ (.For tg iter body [] pos) D := fun B σ F H hB S => by
  refine of_ps (ps_for c.pas c.calm piW pgW pssW (hs _)) (h B σ F H S _ fun J as Γ1 F1 H1 S1 e1 it ⟨I, i0, step, fin⟩ => ?_)
  refine ⟨fun i m σ' H' => m = as.length - i ∧ i ≤ as.length ∧ ∃ Γ2 F2, Sta { B with F := F1 } Γ2 σ' F2 H' ∧ I i Γ2, ⟨as.length, by simp, Nat.zero_le _, Γ1, F1, sta_reF S1, i0⟩, ?_⟩
  rintro i m σ' H' ⟨rfl, hi, Γ2, F2, S2, hI⟩
  by_cases hlt : i < as.length
  · refine .inr ⟨it.go i F2 H' S2.ext S2.sub hlt, fun σ3 H3 => ∃ Γ3 F3, Sta { B with F := F1 } Γ3 σ3 F3 H3 ∧ I (i + 1) Γ3, fun σ3 H3 q => ⟨as.length - (i + 1), by omega, rfl, hlt, q⟩, fun x H3 hy => ?_⟩
    obtain ⟨F3, st, rx⟩ := it.yld i F2 H' x H3 S2.ext S2.sub hy as[i] (List.getElem?_eq_getElem hlt)
    refine step i as[i] (List.getElem?_eq_getElem hlt) Γ2 hI _ σ' F3 H3 (S2.step st) x rx _ fun Γ4 σ4 S4 _ hb => ?_
    exact wSs_mono (hb { B with F := F1 } σ4 F3 H3 hB S4) (fun _ _ h => h) (fun _ _ ⟨G, s, F, a, S', r, q⟩ => ⟨G, s, F, a, sta_unF S1 S', r, q⟩) (fun _ _ ⟨G, F, S', q⟩ => ⟨G, F, sta_unF S1 S', q⟩) (fun _ _ h => h)
  · have e : i = as.length := by omega
    subst e
    exact .inl ⟨it.stop _ F2 H' S2.ext S2.sub (Nat.le_refl _), Γ2, F2, sta_unF S1 S2, fin Γ2 hI⟩
theorem s1_while {D : En ρ} {body : List Stmt} (I : Nat → Gm → Prop) (h0 : ∃ n, I n Γ) (h : ∀ n Γ1, I n Γ1 → TW c Γ1 e fun Γ2 b => (b = true → SW c Γ2 body { D with nx := fun Γ3 => ∃ m, m < n ∧ I m Γ3, ct := fun Γ3 => ∃ m, m < n ∧ I m Γ3, bk := D.nx }) ∧ (b = false → D.nx Γ2)) : S1 c Γ (.While e body [] pos) D := fun B σ F H hB S => by
  refine of_ps (ps_while c.pas ptW pssW) ?_
  obtain ⟨n0, h0⟩ := h0
  refine ⟨fun m σ' H' => ∃ Γ2 F2, Sta B Γ2 σ' F2 H' ∧ I m Γ2, ⟨n0, Γ, F, S, h0⟩, ?_⟩
  rintro m σ' H' ⟨Γ2, F2, S2, hI⟩
  refine h m Γ2 hI B σ' F2 H' S2 _ fun b Γ3 F3 H3 S3 e3 ⟨h1, h2⟩ => ?_
  cases b with
  | false => exact iteF ⟨Γ3, F3, S3, h2 rfl⟩
  | true =>
    refine iteT ⟨fun σ4 H4 => ∃ Γ4 F4, Sta B Γ4 σ4 F4 H4 ∧ ∃ k, k < m ∧ I k Γ4, fun σ4 H4 ⟨Γ4, F4, S4, k, hk, q⟩ => ⟨k, hk, Γ4, F4, S4, q⟩, ?_⟩
    exact h1 rfl B σ' F3 H3 hB S3
end
end Px
/-! Px, seventh part: comprehensions; a law's draws. -/
namespace Px
open PySem PySem.Spec PyProof.Rows L2

section
variable {P : Program} {w : World} {K : PySem.W.Frag} {mg : Str → Option Value} {base : Heap} {lv : Nat} {N : List Str} {sc : Scope} {fn : Str → Bool}
variable {α β γ δ ρ : Type}
variable {c : Ctx P w K mg base lv N sc fn} {Γ : Gm} {e a b d tg iter elt : Expr} {es ts ifs : List Expr} {pos pos' : Pos} {T : Ty K α} {A : Ty K α} {B' : Ty K β} {C : Ty K γ} {D' : Ty K δ}

/-- a block's own base: what the slots own may change -/
theorem Sta.block {B : Base} {σ : L2.St} {F H : Hp} (S : Sta B Γ σ F H) (vs : List Nat) (hf : frzAt Γ vs = true) : ∃ B2 : Base, B2.F = F ∧ B2.H = H ∧ B2.pin = B.pin ∧ Sta B2 (wipeG Γ vs) (wipe σ vs) F H ∧ (∀ b, B.pin b → ¬ B2.vol b) ∧
    ∀ Γ4 σ4 F4 H4, Sta B2 Γ4 σ4 F4 H4 → wipeG Γ4 vs = wipeG Γ vs → (∀ j, j ∉ vs → σ4[j]? = σ[j]?) → Sta B Γ σ F4 H4 := by
  obtain ⟨O, h1, h2, h3⟩ := id S.own
  refine ⟨⟨F, H, fun p => ∃ i, O i p, B.pin, fun p => ∃ k x, Γ[k]? = some (some x) ∧ x.vol = false ∧ O k p⟩, rfl, rfl, rfl, ?_, fun b hb ⟨i, z⟩ => (h1 i b z).2.2.2 hb, fun Γ4 σ4 F4 H4 S4 hw ho => ?_⟩
  · refine ⟨by rw [wipeG_length, wipe_length]; exact S.len, S.sub, Same.refl _, fun _ _ h _ => h, fun _ h => h, fun _ _ h => h, S.pnd, fun i p => i ∉ vs ∧ O i p, fun i p hp => ?_, fun i j p hp hq => h2 i j p hp.2 hq.2, fun i x hx => ?_⟩
    · obtain ⟨a, b, c, d⟩ := h1 i p hp.2
      exact ⟨a, b, .inr ⟨i, hp.2⟩, d⟩
    · by_cases hi : i ∈ vs
      · exact absurd hx (wipeG_in hi)
      · rw [wipeG_out hi] at hx
        obtain ⟨v, hv, hok, _⟩ := h3 i x hx
        refine ⟨v, by rw [wipe_out hi]; exact hv, ?_, fun z p hp => .inr ⟨i, x, hx, z, hp.2⟩⟩
        have e0 : (fun p => i ∉ vs ∧ O i p) = O i := by funext p; simp [hi]
        show x.ok v (fun p => i ∉ vs ∧ O i p) F H
        rw [e0]
        exact hok
  · obtain ⟨O4, g1, g2, g3⟩ := S4.own
    refine ⟨S.len, S4.sub, S.ext.trans S4.ext, fun b o q n => S4.keep b o (S.keep b o q n) fun ⟨i, z⟩ => ?_, fun b n => S4.dom b (S.dom b n), fun b n1 n2 => S4.new b (S.dom b n1) (S.new b n1 n2), fun b z => S4.pnd b z, fun i p => i ∉ vs ∧ O4 i p, fun i p hp => ?_, fun i j p hp hq => g2 i j p hp.2 hq.2, fun i x hx => ?_⟩
    · rcases (h1 i b z).2.2.1 with y | y
      · rw [y] at q; cases q
      · exact n y
    · obtain ⟨a, b, c, d⟩ := g1 i p hp.2
      refine ⟨a, b, ?_, d⟩
      rcases c with c | ⟨j, c⟩
      · left
        cases q : B.H p with
        | none => rfl
        | some o => exact absurd c (S.dom p (by rw [q]; exact fun z => nomatch z))
      · exact (h1 j p c).2.2.1
    · by_cases hi : i ∈ vs
      · obtain ⟨v, hv, hok, hw'⟩ := h3 i x hx
        have hz := frzAt_of hf hi hx
        refine ⟨v, hv, ?_, fun _ p z => absurd hi z.1⟩
        have e0 : (fun p => i ∉ vs ∧ O4 i p) = O i := by
          funext p
          have := x.fz hz hok p
          simp [hi, this]
        show x.ok v (fun p => i ∉ vs ∧ O4 i p) F4 H4
        rw [e0]
        exact x.st hok S4.ext fun p hp => absurd hp (x.fz hz hok p)
      · have hx4 : Γ4[i]? = some (some x) := by
          rw [← wipeG_out (vs := vs) hi, hw, wipeG_out hi]; exact hx
        obtain ⟨v, hv, hok, hw4⟩ := g3 i x hx4
        refine ⟨v, by rw [← ho i hi]; exact hv, ?_, fun b p hp => ?_⟩
        rotate_left
        · rcases hw4 b p hp.2 with z | ⟨k, y, hy, yv, z⟩
          · left
            cases q : B.H p with
            | none => rfl
            | some o => exact absurd z (S.dom p (by rw [q]; exact fun z => nomatch z))
          · obtain ⟨_, _, _, hk⟩ := h3 k y hy
            exact hk yv p z
        have e0 : (fun p => i ∉ vs ∧ O4 i p) = O4 i := by funext p; simp [hi]
        show x.ok v (fun p => i ∉ vs ∧ O4 i p) F4 H4
        rw [e0]
        exact hok
abbrev fnB (scope : Scope) : Str → Bool := fun x => scope.names.lookup x == some .cell
def Ctx.blk (c : Ctx P w K mg base lv N sc fn) (s : Shared) (H : Hp) (scope : Scope) (cl : List (Str × Addr)) (C : Addr) (fp : List Addr) : Ctx P w K mg base lv N (relS scope sc) (fnB scope) :=
  ⟨c.X.blk s H scope (compEnvC scope cl C c.X.env) fp, c.hP, c.hw, c.hK, c.hmg, c.hbase, c.hN, c.nd, by show relS scope c.X.env.scope = _; rw [c.hsc], rfl, c.calm, c.room, PassesOwn.never⟩
theorem all2_snoc {R : α → β → Prop} {xs : List α} {ys : List β} {x : α} {y : β} (h : All2 R xs ys) (r : R x y) : All2 R (xs ++ [x]) (ys ++ [y]) := All2.append h ⟨r, trivial⟩
/-- the block's readings, for every frame of the block -/
def bG (c : Ctx P w K mg base lv N sc fn) (scope : Scope) (tg : Expr) : TG := fun v σ H Q => ∀ s H0 C cl fp, wG (c.blk s H0 scope cl C fp).X tg v σ H Q
def bTs (c : Ctx P w K mg base lv N sc fn) (scope : Scope) (ifs : List Expr) : TT := fun σ H Q => ∀ s H0 C cl fp, wTs (c.blk s H0 scope cl C fp).X ifs σ H Q
def bE (c : Ctx P w K mg base lv N sc fn) (scope : Scope) (e : Expr) : TE := fun σ H Q => ∀ s H0 C cl fp, wE (c.blk s H0 scope cl C fp).X e σ H Q
theorem pg_b {scope : Scope} : ∀ (s : Shared) (H : Hp) (C : Addr) (cl : List (Str × Addr)) (fp : List Addr), PG (c.X.blk s H scope (compEnvC scope cl C c.X.env) fp) tg (bG c scope tg) := fun s H C cl fp => ⟨fun pins s1 σ1 H1 v u Q1 I r q => q s H C cl fp pins s1 u I r⟩
theorem pts_b {scope : Scope} : ∀ (s : Shared) (H : Hp) (C : Addr) (cl : List (Str × Addr)) (fp : List Addr), PTs (c.X.blk s H scope (compEnvC scope cl C c.X.env) fp) ifs (bTs c scope ifs) := fun s H C cl fp => ⟨fun pins s1 σ1 H1 Q1 I q => q s H C cl fp pins s1 I⟩
theorem pe_b {scope : Scope} : ∀ (s : Shared) (H : Hp) (C : Addr) (cl : List (Str × Addr)) (fp : List Addr), PE (c.X.blk s H scope (compEnvC scope cl C c.X.env) fp) elt (bE c scope elt) := fun s H C cl fp => ⟨fun pins s1 σ1 H1 Q1 I q => q s H C cl fp pins s1 I⟩
/-- what a comprehension's reading asks -/
def CompW (c : Ctx P w K mg base lv N sc fn) (Γ : Gm) (scope : Scope) (own : List (Str × Nat)) (elt tg iter : Expr) (ifs : List Expr) (A : Ty K α) (B' : Ty K β) (Rel : α → Option β → Prop) (k : Gm → List β → Prop) : Prop :=
    IW c Γ tg iter A fun Γ1 as => frzAt Γ1 (own.map (·.2)) = true ∧ as.length < sizeLine ∧ (∀ (c' : Ctx P w K mg base lv N (relS scope sc) (fnB scope)) (i : Nat) (x : α), as[i]? = some x → GW c' (fun j => j ∈ own.map (·.2)) (wipeG Γ1 (own.map (·.2))) tg A x fun Γ2 =>
        ∀ (c' : Ctx P w K mg base lv N (relS scope sc) (fnB scope)), TsW c' Γ2 ifs fun Γ3 t => (t = true → ∀ (c' : Ctx P w K mg base lv N (relS scope sc) (fnB scope)), EW c' Γ3 elt B' fun Γ4 y => wipeG Γ4 (own.map (·.2)) = wipeG Γ1 (own.map (·.2)) ∧ Rel x (some y)) ∧ (t = false → wipeG Γ3 (own.map (·.2)) = wipeG Γ1 (own.map (·.2)) ∧ Rel x none)) ∧
      ∀ os, All2 Rel as os → k Γ1 (os.filterMap id)
theorem comp_read {scope : Scope} (own : List (Str × Nat)) {k : Gm → List β → Prop} (Rel : α → Option β → Prop) (h : CompW c Γ scope own elt tg iter ifs A B' Rel k) {B : Base} {σ : L2.St} {F H : Hp} (S : Sta B Γ σ F H) {Q : VK}
    (q : ∀ p vs as Γ' F' H', Sta { B with pin := fun q => q = p ∨ B.pin q } Γ' σ F' H' → Same F F' → B.H p = none → F' p = none → ¬ B.pin p → H' p = some (.lst vs) → All2 (B'.r F') vs as → k Γ' as → Q (.ref p) H') :
    tLc (wI c.X tg iter) (bG c scope tg) (bTs c scope ifs) (bE c scope elt) (own.map (·.2)) σ H Q := by
  refine h B σ F H S _ fun J as Γ1 F1 H1 S1 e1 it ⟨hf, hsz, step, fin⟩ => ?_
  intro D hD
  generalize hvs : own.map (·.2) = vs at *
  obtain ⟨S2, b1, b2, b3⟩ := S1.make (o := .lst []) hD
  refine ⟨fun i m H' => m = as.length - i ∧ i ≤ as.length ∧ ∃ F2 acc os, Sta { { B with pin := fun q => q = D ∨ B.pin q } with F := F1 } Γ1 σ F2 H' ∧ H' D = some (.lst acc) ∧ All2 Rel (as.take i) os ∧ All2 (B'.r F2) acc (os.filterMap id) ∧ os.length = i, ⟨as.length, by simp, Nat.zero_le _, F1, [], [], sta_reF S2, upd_same, by simp [All2], trivial, rfl⟩, ?_⟩
  rintro i m H' ⟨rfl, hi, F2, acc, os, S3, hacc, hos, hrep, hol⟩
  by_cases hlt : i < as.length
  · have hx : as[i]? = some as[i] := List.getElem?_eq_getElem hlt
    refine .inr ⟨it.go i F2 H' S3.ext S3.sub hlt, fun H3 => ∃ F3 acc' os', Sta { { B with pin := fun q => q = D ∨ B.pin q } with F := F1 } Γ1 σ F3 H3 ∧ H3 D = some (.lst acc') ∧ All2 Rel (as.take (i + 1)) os' ∧ All2 (B'.r F3) acc' (os'.filterMap id) ∧ os'.length = i + 1, fun H3 ⟨F3, acc', os', q1, q2, q3, q4, q5⟩ => ⟨as.length - (i + 1), by omega, rfl, hlt, F3, acc', os', q1, q2, q3, q4, q5⟩, fun x H3 hy => ?_⟩
    obtain ⟨F3, st, rx⟩ := it.yld i F2 H' x H3 S3.ext S3.sub hy as[i] hx
    have S4 := S3.step st
    have hacc3 : H3 D = some (.lst acc) := st.hh _ _ hacc
    obtain ⟨B2, z1, z2, z3, S5, z5, back⟩ := S4.block vs hf
    intro s H0 C cl fp
    refine step (c.blk s H0 scope cl C fp) i as[i] hx B2 (wipe σ vs) F3 H3 S5 x rx _ fun Γ4 σ4 S6 o6 hts => ?_
    have o6' : ∀ j, j ∉ vs → σ4[j]? = σ[j]? := fun j hj => (o6.2 j hj).trans (wipe_out hj)
    have keepD : ∀ {G4 : Gm} {s4 : L2.St} {F4 H4 : Hp}, Sta B2 G4 s4 F4 H4 → H4 D = some (.lst acc) := fun {G4 s4 F4 H4} S' => S'.keep D _ (by rw [z2]; exact hacc3) (z5 D (.inl rfl))
    have fF : ∀ {G4 : Gm} {s4 : L2.St} {F4 H4 : Hp}, Sta B2 G4 s4 F4 H4 → Same F2 F4 := fun {G4 s4 F4 H4} S' => st.ff.trans (by have := S'.ext; rw [z1] at this; exact this)
    have htk : as.take (i + 1) = as.take i ++ [as[i]] := by rw [List.take_add_one, hx]; rfl
    refine ⟨wipe_eq (o6.1.trans (wipe_length _ _)) o6', fun s2 H2 C2 cl2 fp2 => ?_⟩
    refine hts (c.blk s2 H2 scope cl2 C2 fp2) B2 σ4 F3 H3 S6 _ fun t Γ5 F5 H5 S7 e7 ⟨h1, h2⟩ => ?_
    cases t with
    | false =>
      refine iteF ?_
      obtain ⟨w1, w2⟩ := h2 rfl
      refine ⟨F5, acc, os ++ [none], back Γ5 σ4 F5 H5 S7 w1 o6', keepD S7, ?_, ?_, by simp [hol]⟩
      · rw [htk]; exact all2_snoc hos w2
      · rw [List.filterMap_append]
        simp only [List.filterMap_cons_none (f := id) (a := (none : Option β)) rfl, List.filterMap_nil, List.append_nil]
        exact All2.imp (fun _ _ => B'.mono (fF S7)) hrep
    | true =>
      refine iteT fun s3 H3' C3 cl3 fp3 => ?_
      refine h1 rfl (c.blk s3 H3' scope cl3 C3 fp3) B2 σ4 F5 H5 S7 _ fun y z Γ6 F6 H6 S8 e8 ry ⟨w1, w2⟩ => ?_
      have Sb := back Γ6 σ4 F6 H6 S8 w1 o6'
      refine ⟨acc, keepD S8, ?_, F6, acc ++ [y], os ++ [some z], Sta.pinUpd (B := { B with F := F1 }) Sb b1 (Sb.pnd D (.inl rfl)).2, upd_same, ?_, ?_, by simp [hol]⟩
      · have l1 := All2.length hrep
        have l2 := List.length_filterMap_le id os
        omega
      · rw [htk]; exact all2_snoc hos w2
      · rw [List.filterMap_append]
        simp only [List.filterMap_cons_some (f := id) (a := some z) (b := z) rfl, List.filterMap_nil]
        exact all2_snoc (All2.imp (fun _ _ => B'.mono (fF S8)) hrep) ry
  · have e : i = as.length := by omega
    subst e
    refine .inl ⟨it.stop _ F2 H' S3.ext S3.sub (Nat.le_refl _), ?_⟩
    have hos' : All2 Rel as os := by rw [List.take_of_length_le (Nat.le_refl _)] at hos; exact hos
    exact q D acc (os.filterMap id) Γ1 F2 H' (sta_unF (B := { B with pin := fun q => q = D ∨ B.pin q }) S2 S3) (e1.trans S3.ext) b1 (S3.pnd D (.inl rfl)).2 b2 hacc hrep (fin os hos')
/-- [elt for tg in iter if ..] -/
theorem el_comp {scope : Scope} (own : List (Str × Nat)) (ok : blkC N sc scope own = true) {k : Gm → List β → Prop} (Rel : α → Option β → Prop) (h : CompW c Γ scope own elt tg iter ifs A B' Rel k)
    (hs : ∀ env x, foldedSetIterable iter env x = pure x := by intro _ _; rfl) : EL c Γ (.ListComp elt [⟨tg, iter, ifs, 0⟩] scope pos) B' k := fun B σ F H S Q q => by
  refine of_pe (pe_lc c.calm (by rw [c.hN]; exact c.nd) piW (blkOk_by (own := own) (by rw [c.hN, c.hsc]; exact ok)) pg_b pts_b pe_b (hs _)) ?_
  exact comp_read own Rel h S q
/-- x = [elt for tg in iter if ..], x a local -/
theorem s1_setC {D : En ρ} {scope : Scope} (own : List (Str × Nat)) (ok : blkC N sc scope own = true) (Rel : α → Option β → Prop) {i : Nat} {x : Str} {py : Pos} (hsl : slotOf N x 0 = some i) (hv : sc.names.lookup x = some .local) (hk : sc.kind = .function) (hln : (py.line == pos.line) = true) (hnm : (scope.names.any fun (n, k) => n == x && (k == .local || k == .cell)) = false)
    (h : CompW c Γ scope own elt tg iter ifs A B' Rel fun Γ1 z => i < Γ1.length ∧ D.nx (Γ1.set i (some (ownL B' z)))) (hs : ∀ env x, foldedSetIterable iter env x = pure x := by intro _ _; rfl) : S1 c Γ (.Assign [.Name x py] (.ListComp elt [⟨tg, iter, ifs, 0⟩] scope pos) pos') D := fun B σ F H hB S => by
  refine of_ps (ps_setLc (own := own) (i := i) c.calm (by rw [c.hN]; exact c.nd) (by rw [c.hN]; exact slotOf_at hsl) (by rw [c.hsc]; exact hv) (sw_true (by rw [c.hsc]; exact hk) (by rw [c.hsc]; exact hv) hln hnm) piW (blkOk_by (by rw [c.hN, c.hsc]; exact ok)) pg_b pts_b pe_b (hs _)) ?_
  exact comp_read own Rel h S fun p vs as Γ1 F1 H1 S1 e1 b1 b2 b3 hp r1 h1 => ⟨Γ1.set i (some (ownL B' as)), F1, S1.take h1.1 ⟨p, vs, rfl, fun q => Iff.rfl, hp, r1⟩ b2 (by rw [hp]; exact fun z => nomatch z) b1 b3, h1.2⟩
/-- no test, each element told by a function -/
theorem all2_some {f : α → β} : ∀ {as : List α} {os : List (Option β)}, All2 (fun x o => o = some (f x)) as os → os.filterMap id = as.map f
  | [], [], _ => rfl
  | x :: as, o :: os, h => by
    obtain ⟨rfl, h⟩ := h
    rw [List.map_cons, List.filterMap_cons_some (f := id) (b := f x) rfl, all2_some h]
theorem all2_ite {p : α → Bool} {f : α → β} : ∀ {as : List α} {os : List (Option β)}, All2 (fun x o => o = if p x then some (f x) else none) as os → os.filterMap id = (as.filter p).map f
  | [], [], _ => rfl
  | x :: as, o :: os, h => by
    obtain ⟨rfl, h⟩ := h
    have ih := all2_ite h
    cases q : p x with
    | true => simp [q, ih]
    | false => simp [q, ih]

/-! ### a law's draws: a list of two ints that a call changes -/
def DrAt (H : Hp) (p : Addr) : Prop := ∃ a b : Int, H p = some (.lst [.int a, .int b]) ∧ 0 ≤ a ∧ a < 2 ^ 1000 ∧ 0 ≤ b ∧ b < 2147483648
def drw (p : Addr) : Ent := ⟨fun v ps F H => v = .ref p ∧ (∀ q, ps q ↔ q = p) ∧ DrAt H p, false, true, fun ⟨h1, h2, a, b, h3, h4⟩ _ k => ⟨h1, h2, a, b, by rw [k p ((h2 p).mpr rfl)]; exact h3, h4⟩, fun h => nomatch h⟩
def spD {ι : Type} (args : ι → List (TV K)) (T : Ty K ρ) (pre : ι → Prop) (post : ι → ρ → Prop) : Sp := fun vs H Q _ =>
  ∃ F i p va, vs = .ref p :: va ∧ Same F H ∧ F p = none ∧ DrAt H p ∧ All2 (fun v (t : TV K) => t.r F v) va (args i) ∧ pre i ∧
    ∀ v r F' H', Same F F' → Same F' H' → (∀ b o, b ≠ p → H b = some o → H' b = some o) → (∀ b, H b ≠ none → F b = none → F' b = none) → DrAt H' p → T.r F' v r → post i r → Q v H'
theorem DrAt.ne {H : Hp} {p : Addr} (h : DrAt H p) : H p ≠ none := by
  obtain ⟨a, b, e, _⟩ := h
  rw [e]
  exact fun z => nomatch z
theorem ew_callD {ι : Type} {args : ι → List (TV K)} {R : Ty K ρ} {pre : ι → Prop} {post : ι → ρ → Prop} {name x : Str} {ps : List Str} {l i : Nat} {k : Gm → ρ → Prop} {p px : Pos} {dr : Addr} (G : Prom P w K mg base name l ps (spD args R pre post)) (hl : l ≤ lv) (hg : glB sc name = true)
    (hs : slotOf N x 0 = some i) (hv : visB sc x = true) (hx : Γ[i]? = some (some (drw dr)))
    (h : EWs c Γ es fun Γ1 ts => Γ1[i]? = some (some (drw dr)) ∧ ∃ j, ts = args j ∧ pre j ∧ ∀ r, post j r → k Γ1 r) (hdb : (name == ("__debug__" : Str)) = false := by decide +kernel)
    (he : ∀ env, starEach (.Name x px :: es) env = (false, eval (.Name x px) env) :: starEach es env := by intro _; rfl) (hpl : ∀ env, (backTo pos (starEach es env)).any (·.1) = false := by intro _; rfl) (hd : (x == ("__debug__" : Str)) = false := by decide +kernel) (hcd : (x == ("__classdict__" : Str)) = false := by decide +kernel) :
    EW c Γ (.Call (.Name name p) (.Name x px :: es) [] pos) R k := by
  intro B σ F H S Q q
  obtain ⟨X, rfl, rfl, rfl, rfl, rfl, rfl, nd, rfl, rfl, calm, room, pas⟩ := c
  obtain ⟨f, fd, g1, g2, g3, g4⟩ := G.ex
  refine of_pe (pe_call g4 (room.mono hl) (glB_gl hg) g1 g2 g3 .nil pass0 (pa_cons (pe_var (slotOf_at hs) (visB_vis hv) hd hcd) paW (he _)) hdb (he _) (hpl _)) ?_
  obtain ⟨v, ps0, hv1, ⟨rfl, hq1, d1⟩, _⟩ := S.get hx
  refine ⟨_, hv1, h B σ F H S _ fun vs ts Γ1 F1 H1 S1 e1 r1 ⟨hx1, j, ej, hp, hk⟩ => ?_⟩
  subst ej
  obtain ⟨v', ps1, hv2, ⟨rfl, hq2, d2⟩, own⟩ := S1.get hx1
  show spD args R pre post (V.ref dr :: vs ++ []) H1 Q E0
  rw [List.append_nil]
  refine ⟨F1, j, dr, vs, rfl, S1.sub, (own dr ((hq2 dr).mpr rfl)).1, d2, r1, hp, fun v r F2 H2 s1 s2 s3 s4 d3 rr hr => ?_⟩
  refine q v r Γ1 F2 H2 ?_ (e1.trans s1) rr (hk r hr)
  have S2 := S1.own_upd (F' := F2) (H' := H2) (e' := drw dr) hx1 rfl fun v3 ps3 hv3 ⟨e3, hq3, d4⟩ own3 => ?_
  · have e0 : Γ1.set i (some (drw dr)) = Γ1 := by
      apply List.ext_getElem?
      intro n
      by_cases hn : n = i
      · subst hn
        rw [List.getElem?_set_self (List.getElem?_eq_some_iff.mp hx1).1, hx1]
      · rw [List.getElem?_set_ne (Ne.symm hn)]
    rw [e0] at S2
    exact S2
  · refine ⟨ps3, s2, s1, fun b o hb nb => s3 b o (fun z => nb ((hq3 b).mpr z)) hb, fun b nb => ?_, s4, fun q hq => ?_, e3, hq3, d3⟩
    · by_cases z : b = dr
      · rw [z]; exact d3.ne
      · cases y : H1 b with
        | none => exact absurd y nb
        | some o => rw [s3 b o z y]; exact fun z => nomatch z
    · obtain rfl : q = dr := (hq3 q).mp hq
      have o3 := own3 q hq
      exact ⟨.inl hq, s4 q o3.2.1 o3.1, d3.ne, o3.2.2.2⟩
/-- a def whose first parameter is a law's draws -/
theorem fn_draws {ι : Type} {args : ι → List (TV K)} {R : Ty K ρ} {pre : ι → Prop} {post : ι → ρ → Prop} {x qual : Str} {st : Stmt} {f : Addr} {fd : FuncData} {ps : List Str} (F : Fun K x qual st f fd) (S : FnScope N ps (defScope st)) (hl : ∀ i, (args i).length + 1 = ps.length)
    (h : ∀ i, pre i → ∀ (dr : Addr) (c : Ctx P w K mg base lv N (defScope st) (fun _ => true)), SW c (some (drw dr) :: gmOf (N.length - 1) (args i)) (defBody st) ⟨rTy R, fun Γ r => Γ[0]? = some (some (drw dr)) ∧ post i r, fun Γ => Γ[0]? = some (some (drw dr)) ∧ ∃ r, (∀ F, R.r F .non r) ∧ post i r, fun _ => False, fun _ => False⟩) : FnOk P w K mg base CX0 (lv + 1) f fd ps (spD args R pre post) := by
  have hpl : ps.length ≤ N.length := by have := congrArg List.length S.pre; rw [List.length_take] at this; omega
  refine fn_px F S (fun vs H Q E ⟨F0, i, p, va, e, _, _, _, r, _⟩ => by subst e; exact (congrArg (· + 1) (All2.length r)).trans (hl i)) fun vs H Q E ⟨F0, i, p, va, e, hs, hf, hd, r, hp, q⟩ => ?_
  subst e
  have hlen := All2.length r
  have hl' := hl i
  have fin : ∀ (v : V) (Γ' : Gm) (σ' : L2.St) (F' H' : Hp) (a : ρ), Sta ⟨F0, H, fun q => q = p, fun _ => False, fun _ => False⟩ Γ' σ' F' H' → R.r F' v a → Γ'[0]? = some (some (drw p)) → post i a → Q v H' := fun v Γ' σ' F' H' a S' ra h0 ha => by
    obtain ⟨v0, ps0, hv0, ⟨_, _, d0⟩, _⟩ := S'.get h0
    exact q v a F' H' S'.ext S'.sub (fun b o nb hb => S'.keep b o hb nb) S'.new d0 ra ha
  refine ⟨ρ, ⟨F0, H, fun q => q = p, fun _ => False, fun _ => False⟩, some (drw p) :: gmOf (N.length - 1) (args i), F0, rTy R, _, _, fun _ h => h, ?_, h i hp p, fun v Γ' σ' F' H' a S' ra ha => fin v Γ' σ' F' H' a S' ra ha.1 ha.2, fun Γ' σ' F' H' S' ⟨h0, a, ra, ha⟩ => fin .non Γ' σ' F' H' a S' (ra F') h0 ha⟩
  refine ⟨?_, hs, Same.refl _, fun _ _ h _ => h, fun _ h => h, fun _ _ h => h, fun _ h => h.elim, fun j q => j = 0 ∧ q = p, fun j q ⟨_, e⟩ => ⟨by rw [e]; exact hf, by rw [e]; exact hd.ne, .inr e, fun h => h⟩, fun j k q ⟨e1, _⟩ ⟨e2, _⟩ => e1.trans e2.symm, fun j x hx => ?_⟩
  · rw [start_len (by rw [List.length_cons]; omega)]
    unfold gmOf
    rw [List.length_cons, List.length_append, List.length_map, List.length_replicate]
    omega
  · cases j with
    | zero =>
      cases hx
      exact ⟨.ref p, start_get rfl, ⟨rfl, fun q => by simp, hd⟩, fun z => nomatch z⟩
    | succ j =>
      rw [List.getElem?_cons_succ] at hx
      obtain ⟨t, ht, rfl⟩ := gm_get hx
      obtain ⟨v, hv, rv⟩ := All2.getR r ht
      refine ⟨v, start_get (by rw [List.getElem?_cons_succ]; exact hv), ⟨?_, rv⟩, fun _ q hq => absurd hq.1 (Nat.succ_ne_zero j)⟩
      intro q hq
      exact Nat.succ_ne_zero j hq.1
/-- a step that makes a thing of nobody's -/
theorem Sta.fresh {B : Base} {σ : L2.St} {F H F' H' : Hp} {p : Addr} (S : Sta B Γ σ F H) (st : Step F H F' H') (n1 : H p = none) (n2 : F' p = none) (n3 : H' p ≠ none) : Sta { B with pin := fun q => q = p ∨ B.pin q } Γ σ F' H' ∧ B.H p = none ∧ ¬ B.pin p := by
  have S2 := S.step st
  have hb : B.H p = none := by
    cases z : B.H p with
    | none => rfl
    | some o => exact absurd n1 (S.dom p (by rw [z]; exact fun y => nomatch y))
  refine ⟨?_, hb, fun z => (S.pnd p z).1 n1⟩
  obtain ⟨O, o1, o2, o3⟩ := S.own
  refine ⟨S2.len, S2.sub, S2.ext, S2.keep, S2.dom, S2.new, fun q z => ?_, O, fun i q hq => ?_, o2, fun i x hx => ?_⟩
  · rcases z with z | z
    · rw [z]; exact ⟨n3, n2⟩
    · exact S2.pnd q z
  · obtain ⟨a, b, c, d⟩ := o1 i q hq
    refine ⟨st.new q b a, Same.dom st.hh b, c, fun z => ?_⟩
    rcases z with z | z
    · rw [z] at b; exact b n1
    · exact d z
  · obtain ⟨v, hv, ho, hw⟩ := o3 i x hx
    refine ⟨v, hv, x.st ho st.ff fun q hq => ?_, hw⟩
    obtain ⟨a, b, c, d⟩ := o1 i q hq
    cases y : H q with
    | none => exact absurd y b
    | some o => exact st.hh _ _ y
/-- a def that gives new draws -/
def spN {ι : Type} (args : ι → List (TV K)) (pre : ι → Prop) : Sp := fun vs H Q _ =>
  ∃ F i, Same F H ∧ All2 (fun v (t : TV K) => t.r F v) vs (args i) ∧ pre i ∧ ∀ p F' H', Step F H F' H' → F' p = none → H p = none → DrAt H' p → Q (.ref p) H'
/-- draws = f(..) -/
theorem s1_setD {ι : Type} {args : ι → List (TV K)} {pre : ι → Prop} {D : En ρ} {name x : Str} {ps : List Str} {l i : Nat} {p : Pos} (G : Prom P w K mg base name l ps (spN args pre)) (hl : l ≤ lv) (hg : glB sc name = true) (hs : slotOf N x 0 = some i) (hv : locB sc fn x = true)
    (h : EWs c Γ (e :: es) fun Γ1 ts => i < Γ1.length ∧ ∃ j, ts = args j ∧ pre j ∧ ∀ dr, D.nx (Γ1.set i (some (drw dr)))) (hdb : (name == ("__debug__" : Str)) = false := by decide +kernel) {cpos : Pos}
    (he : ∀ env, starEach (e :: es) env = (false, eval e env) :: starEach es env := by intro _; rfl) (hpl : ∀ env, (backTo cpos (starEach es env)).any (·.1) = false := by intro _; rfl)
    (hsw : ∀ env, swapsWith (.Call (.Name name p) (e :: es) [] cpos) (some (.Name x pos')) pos.line env = pure false := by intro _; rfl) : S1 c Γ (.Assign [.Name x pos'] (.Call (.Name name p) (e :: es) [] cpos) pos) D := fun B σ F H hB S => by
  obtain ⟨X, rfl, rfl, rfl, rfl, rfl, rfl, nd, rfl, rfl, calm, room, pas⟩ := c
  obtain ⟨f, fd, g1, g2, g3, g4⟩ := G.ex
  have hl' := locB_loc hv
  refine of_ps (ps_set (i := i) nd (slotOf_at hs) hl'.1 (pe_call g4 (room.mono hl) (glB_gl hg) g1 g2 g3 .nil pass0 paW hdb (he _) (hpl _)) (hsw _) hl'.2) ?_
  refine h B σ F H S _ fun vs ts Γ1 F1 H1 S1 e1 r1 ⟨hil, j, ej, hp, hk⟩ => ?_
  subst ej
  show spN args pre (vs ++ []) H1 _ E0
  rw [List.append_nil]
  refine ⟨F1, j, S1.sub, r1, hp, fun dr F2 H2 st f2 h1 d2 => ?_⟩
  obtain ⟨S2, b1, b2⟩ := S1.fresh st h1 f2 d2.ne
  exact ⟨_, F2, Sta.take (e := drw dr) (B := B) S2 hil ⟨rfl, fun q => Iff.rfl, d2⟩ f2 d2.ne b1 b2, hk dr⟩
/-- new draws -/
def rDrw : Rs Unit := fun BH v _ F H => ∃ p, v = .ref p ∧ BH p = none ∧ F p = none ∧ DrAt H p
theorem fn_news {ι : Type} {args : ι → List (TV K)} {pre : ι → Prop} {x qual : Str} {st : Stmt} {f : Addr} {fd : FuncData} {ps : List Str} (F : Fun K x qual st f fd) (S : FnScope N ps (defScope st)) (hl : ∀ i, (args i).length = ps.length)
    (h : ∀ i, pre i → ∀ c : Ctx P w K mg base lv N (defScope st) (fun _ => true), SW c (gmOf N.length (args i)) (defBody st) ⟨rDrw, fun _ _ => True, fun _ => False, fun _ => False, fun _ => False⟩) : FnOk P w K mg base CX0 (lv + 1) f fd ps (spN args pre) := by
  have hpl : ps.length ≤ N.length := by have := congrArg List.length S.pre; rw [List.length_take] at this; omega
  refine fn_px F S (fun vs H Q E ⟨F0, i, _, r, _⟩ => (All2.length r).trans (hl i)) fun vs H Q E ⟨F0, i, hs, r, hp, q⟩ => ?_
  refine ⟨Unit, ⟨F0, H, fun _ => False, fun _ => False, fun _ => False⟩, gmOf N.length (args i), F0, rDrw, _, _, fun _ h => h, sta_start hs r (by rw [All2.length r, hl i]; exact hpl), h i hp, fun v Γ' σ' F' H' a S' ⟨p, e, h1, h2, h3⟩ ha => ?_, fun Γ' σ' F' H' S' z => z.elim⟩
  rw [e]
  exact q p F' H' (sta_step S' fun _ z => z) h2 h1 h3
/-- return [a, b]: new draws -/
theorem s1_retD {D : En Unit} {x1 : Pos} (hR : D.R = rDrw) (h : EW c Γ a tInt fun Γ1 i => EW c Γ1 b tInt fun Γ2 j => 0 ≤ i ∧ i < 2 ^ 1000 ∧ 0 ≤ j ∧ j < 2147483648 ∧ D.rt Γ2 ()) (hs : ∀ env, starEach [a, b] env = (false, eval a env) :: starEach [b] env := by intro _; rfl) (hs2 : ∀ env, starEach [b] env = (false, eval b env) :: starEach [] env := by intro _; rfl) :
    S1 c Γ (.Return (some (.List [a, b] x1)) pos) D := fun B σ F H hB S => by
  refine of_ps (ps_ret (pe_lst (pa_cons peW (pa_cons peW pa_nil (hs2 _)) (hs _)))) ?_
  refine h B σ F H S _ fun v i Γ1 F1 H1 S1 e1 r1 h1 => h1 B σ F1 H1 S1 _ fun u j Γ2 F2 H2 S2 e2 r2 ⟨h2, h3, h4, h5, h6⟩ => ⟨by show 2 ≤ sizeLine; decide, fun p hp => ?_⟩
  obtain ⟨S3, b1, b2, b3⟩ := S2.make (o := .lst [v, u]) hp
  refine ⟨Γ2, σ, F2, (), S3.unpin, ?_, h6⟩
  rw [hR]
  exact ⟨p, rfl, b1, b3, i, j, by rw [upd_same, show v = .int i from r1, show u = .int j from r2], h2, h3, h4, h5⟩
/-- a def that hands back a new list -/
def spF {ι : Type} (args : ι → List (TV K)) (T : Ty K α) (pre : ι → Prop) (post : ι → List α → Prop) : Sp := fun vs H Q _ =>
  ∃ F i, Same F H ∧ All2 (fun v (t : TV K) => t.r F v) vs (args i) ∧ pre i ∧ ∀ p xs r F' H', Step F H F' H' → H p = none → F' p = none → H' p = some (.lst xs) → All2 (T.r F') xs r → post i r → Q (.ref p) H'
theorem fn_fresh {ι : Type} {args : ι → List (TV K)} {T : Ty K α} {pre : ι → Prop} {post : ι → List α → Prop} {x qual : Str} {st : Stmt} {f : Addr} {fd : FuncData} {ps : List Str} (F : Fun K x qual st f fd) (S : FnScope N ps (defScope st)) (hl : ∀ i, (args i).length = ps.length)
    (h : ∀ i, pre i → ∀ c : Ctx P w K mg base lv N (defScope st) (fun _ => true), SW c (gmOf N.length (args i)) (defBody st) ⟨rLst T, fun _ r => post i r, fun _ => False, fun _ => False, fun _ => False⟩) : FnOk P w K mg base CX0 (lv + 1) f fd ps (spF args T pre post) := by
  have hpl : ps.length ≤ N.length := by have := congrArg List.length S.pre; rw [List.length_take] at this; omega
  refine fn_px F S (fun vs H Q E ⟨F0, i, _, r, _⟩ => (All2.length r).trans (hl i)) fun vs H Q E ⟨F0, i, hs, r, hp, q⟩ => ?_
  refine ⟨List α, ⟨F0, H, fun _ => False, fun _ => False, fun _ => False⟩, gmOf N.length (args i), F0, rLst T, _, _, fun _ h => h, sta_start hs r (by rw [All2.length r, hl i]; exact hpl), h i hp, fun v Γ' σ' F' H' a S' ⟨p, xs, e, h1, h2, h3, h4⟩ ha => ?_, fun Γ' σ' F' H' S' z => z.elim⟩
  rw [e]
  exact q p xs a F' H' (sta_step S' fun _ z => z) h1 h2 h3 h4 ha
/-- its call -/
theorem el_call {ι : Type} {args : ι → List (TV K)} {R : Ty K α} {pre : ι → Prop} {post : ι → List α → Prop} {name : Str} {ps : List Str} {l : Nat} {k : Gm → List α → Prop} {p : Pos} (G : Prom P w K mg base name l ps (spF args R pre post)) (hl : l ≤ lv) (hg : glB sc name = true)
    (h : EWs c Γ (e :: es) fun Γ1 ts => ∃ i, ts = args i ∧ pre i ∧ ∀ r, post i r → k Γ1 r) (hdb : (name == ("__debug__" : Str)) = false := by decide +kernel)
    (he : ∀ env, starEach (e :: es) env = (false, eval e env) :: starEach es env := by intro _; rfl) (hpl : ∀ env, (backTo pos (starEach es env)).any (·.1) = false := by intro _; rfl) : EL c Γ (.Call (.Name name p) (e :: es) [] pos) R k := by
  intro B σ F H S Q q
  obtain ⟨X, rfl, rfl, rfl, rfl, rfl, rfl, nd, rfl, rfl, calm, room, pas⟩ := c
  obtain ⟨f, fd, g1, g2, g3, g4⟩ := G.ex
  refine of_pe (pe_call g4 (room.mono hl) (glB_gl hg) g1 g2 g3 .nil pass0 paW hdb (he _) (hpl _)) ?_
  refine h B σ F H S _ fun vs ts Γ1 F1 H1 S1 e1 r1 ⟨i, ei, hp, hk⟩ => ?_
  subst ei
  show spF args R pre post (vs ++ []) H1 Q E0
  rw [List.append_nil]
  refine ⟨F1, i, S1.sub, r1, hp, fun p xs r F2 H2 st n1 n2 hx rr hr => ?_⟩
  obtain ⟨S2, b1, b2⟩ := S1.fresh st n1 n2 (by rw [hx]; exact fun z => nomatch z)
  exact q p xs r Γ1 F2 H2 S2 (e1.trans st.ff) b1 n2 b2 hx rr (hk r hr)
end
end Px
/-! Px, eighth part: the items of draws; a law's own head. -/
namespace Px
open PySem PySem.Spec PyProof.Rows L2
section
variable {P : Program} {w : World} {K : PySem.W.Frag} {mg : Str → Option Value} {base : Heap} {lv : Nat} {N : List Str} {sc : Scope} {fn : Str → Bool}
variable {α β γ δ ρ : Type}
variable {c : Ctx P w K mg base lv N sc fn} {Γ : Gm} {e a b d tg iter elt : Expr} {es ts ifs : List Expr} {pos pos' : Pos} {T : Ty K α} {A : Ty K α} {B' : Ty K β} {C : Ty K γ} {D' : Ty K δ}
theorem ew_drw {i : Nat} {x : Str} {p p' : Pos} {dr : Addr} {n : Int} {j} {k : Gm → Int → Prop} (hs : slotOf N x 0 = some i) (hv : visB sc x = true) (hg : Γ[i]? = some (some (drw dr))) (h : (n = 0 ∧ ∀ a, 0 ≤ a → a < 2 ^ 1000 → k Γ a) ∨ (n = 1 ∧ ∀ a, 0 ≤ a → a < 2147483648 → k Γ a))
    (hd : (x == ("__debug__" : Str)) = false := by decide +kernel) (hcd : (x == ("__classdict__" : Str)) = false := by decide +kernel) : EW c Γ (.Subscript (.Name x p) (.Constant (.int n) j p') pos) tInt k := by
  intro B σ F H S Q q
  have hN := c.hN
  have hsc := c.hsc
  refine of_pe (pe_ix ix_list (pe_var (i := i) (by rw [hN]; exact slotOf_at hs) (by rw [hsc]; exact visB_vis hv) hd hcd) pe_int (fun _ _ => rfl)) ?_
  obtain ⟨v, ps, h1, ⟨rfl, h2, u, t, h3, h4, h5, h6, h7⟩, _⟩ := S.get hg
  refine ⟨_, h1, dr, [.int u, .int t], n, if n = 0 then .int u else .int t, rfl, rfl, .inl (.inl h3), ?_, ?_⟩
  · rcases h with ⟨rfl, _⟩ | ⟨rfl, _⟩ <;> rfl
  · rcases h with ⟨rfl, h⟩ | ⟨rfl, h⟩
    · exact q _ u Γ F H S (Same.refl _) rfl (h u h4 h5)
    · exact q _ t Γ F H S (Same.refl _) rfl (h t h6 h7)
theorem s1_drw {i : Nat} {x : Str} {p p' : Pos} {dr : Addr} {n : Int} {j} {D : En ρ} (hs : slotOf N x 0 = some i) (hv : visB sc x = true)
    (h : EW c Γ e tInt fun Γ1 z => Γ1[i]? = some (some (drw dr)) ∧ ((n = 0 ∧ 0 ≤ z ∧ z < 2 ^ 1000) ∨ (n = 1 ∧ 0 ≤ z ∧ z < 2147483648)) ∧ D.nx Γ1)
    (hd : (x == ("__debug__" : Str)) = false := by decide +kernel) (hcd : (x == ("__classdict__" : Str)) = false := by decide +kernel)
    (hs1 : ∀ env, swapsWithSole [.Subscript (.Name x p) (.Constant (.int n) j p') pos'] e pos.line env = pure false := by intro _; rfl) (hw : ∀ env, swappedStores [.Subscript (.Name x p) (.Constant (.int n) j p') pos'] e env = pure none := by intro _; rfl) :
    S1 c Γ (.Assign [.Subscript (.Name x p) (.Constant (.int n) j p') pos'] e pos) D := fun B σ F H hB S => by
  have hN := c.hN
  have hsc := c.hsc
  refine of_ps (ps_asg peW (pg_sub (pe_var (i := i) (by rw [hN]; exact slotOf_at hs) (by rw [hsc]; exact visB_vis hv) hd hcd) pe_int set_list) (hs1 _) (hw _)) ?_
  refine h B σ F H S _ fun v z Γ1 F1 H1 S1 e1 r1 ⟨hg, hz, hn⟩ => ?_
  obtain ⟨v0, ps, h1, ⟨rfl, h2, u, t, h3, h4, h5, h6, h7⟩, ow⟩ := S1.get hg
  obtain rfl : v = .int z := r1
  refine ⟨_, h1, dr, [.int u, .int t], n, n.toNat, rfl, rfl, h3, by rcases hz with ⟨rfl, _⟩ | ⟨rfl, _⟩ <;> rfl, Γ1, F1, ?_, hn⟩
  have hF : F1 dr = none := (ow dr ((h2 dr).mpr rfl)).1
  have S2 := S1.own_upd (F' := F1) (H' := upd H1 dr (.lst (([.int u, .int t] : List V).set n.toNat (.int z)))) (e' := drw dr) hg rfl fun v3 ps3 hv3 ⟨e3, hq3, d4⟩ own3 => ?_
  · have e0 : Γ1.set i (some (drw dr)) = Γ1 := by
      apply List.ext_getElem?
      intro n
      by_cases hn : n = i
      · subst hn
        rw [List.getElem?_set_self (List.getElem?_eq_some_iff.mp hg).1, hg]
      · rw [List.getElem?_set_ne (Ne.symm hn)]
    rw [e0] at S2
    exact S2
  · refine ⟨ps3, fun b o q => by rw [upd_ne (ne_of_none q hF)]; exact S1.sub b o q, Same.refl _, fun b o hb nb => by rw [upd_ne (fun z => nb ((hq3 b).mpr z))]; exact hb, fun b nb => ?_, fun _ _ h => h, fun q hq => ?_, e3, hq3, ?_⟩
    · by_cases y : b = dr
      · rw [y, upd_same]; exact fun z => nomatch z
      · rw [upd_ne y]; exact nb
    · obtain rfl : q = dr := (hq3 q).mp hq
      exact ⟨.inl hq, hF, by rw [upd_same]; (exact fun z => nomatch z), (own3 q hq).2.2.2⟩
    · rcases hz with ⟨rfl, z1, z2⟩ | ⟨rfl, z1, z2⟩
      · exact ⟨z, t, upd_same, z1, z2, h6, h7⟩
      · exact ⟨u, z, upd_same, h4, h5, z1, z2⟩
theorem all2_ints (F : Hp) (ns : List Int) : All2 ((tInt (K := K)).r F) (ns.map V.int) ns := All2.of_map (f := V.int) (fun _ => rfl) ns
/-! ### the law's own promise -/
def spLaw (K : PySem.W.Frag) : Sp := fun vs H Q _ => ∃ (a : Addr) (ns : List Int), vs = [.ref a] ∧ SqL K H a (ns.map V.int) ∧ ns.length ≤ 63 ∧ ∀ H', Q (.bl true) H'
theorem fn_law {x qual : Str} {st : Stmt} {f : Addr} {fd : FuncData} (F : Fun K x qual st f fd) (S : FnScope N ["script"] (defScope st))
    (h : ∀ ns : List Int, ns.length ≤ 63 → ∀ c : Ctx P w K mg base lv N (defScope st) (fun _ => true), SW c (gmOf N.length [tv (tSeq (K := K) tInt) ns]) (defBody st) ⟨rTy (K := K) tBool, fun _ r => r = true, fun _ => False, fun _ => False, fun _ => False⟩) : FnOk P w K mg base CX0 (lv + 1) f fd ["script"] (spLaw K) := by
  have hpl : 1 ≤ N.length := by have := congrArg List.length S.pre; rw [List.length_take] at this; simp at this; omega
  refine fn_px F S (fun vs H Q E ⟨a, ns, e, _⟩ => by rw [e]; rfl) fun vs H Q E ⟨a, ns, e, hS, hl, q⟩ => ?_
  subst e
  rcases hS with hS | hS
  · -- the script is tracked: it is frozen as it stands
    have key : ∃ o, H a = some o ∧ SqL K (upd (fun _ => none) a o) a (ns.map V.int) := by
      rcases hS with h | ⟨o, h⟩
      · exact ⟨_, h, .inl (.inl upd_same)⟩
      · exact ⟨_, h, .inl (.inr ⟨o, upd_same⟩)⟩
    obtain ⟨o, ho, hq⟩ := key
    have hs : Same (upd (fun _ => none) a o) H := fun b x z => by
      by_cases hb : b = a
      · subst hb; rw [upd_same] at z; rw [ho]; exact z
      · rw [upd_ne hb] at z; cases z
    refine ⟨Bool, ⟨upd (fun _ => none) a o, H, fun _ => False, fun _ => False, fun _ => False⟩, gmOf N.length [tv (tSeq (K := K) tInt) ns], upd (fun _ => none) a o, rTy (K := K) tBool, _, _, fun _ h => h, sta_start hs ⟨⟨a, ns.map V.int, rfl, hq, all2_ints _ ns⟩, trivial⟩ hpl, h ns hl, fun v Γ' σ' F' H' a S' ra ha => ?_, fun Γ' σ' F' H' S' z => z.elim⟩
    obtain rfl : v = .bl a := ra
    rw [ha]; exact q H'
  · have hs : Same (fun _ => none) H := fun _ _ z => nomatch z
    refine ⟨Bool, ⟨fun _ => none, H, fun _ => False, fun _ => False, fun _ => False⟩, gmOf N.length [tv (tSeq (K := K) tInt) ns], fun _ => none, rTy (K := K) tBool, _, _, fun _ h => h, sta_start hs ⟨⟨a, ns.map V.int, rfl, .inr hS, all2_ints _ ns⟩, trivial⟩ hpl, h ns hl, fun v Γ' σ' F' H' a S' ra ha => ?_, fun Γ' σ' F' H' S' z => z.elim⟩
    obtain rfl : v = .bl a := ra
    rw [ha]; exact q H'
/-- a def of the text as it stands behind the top, with how it binds -/
def FnAt (K : PySem.W.Frag) (mg : Str → Option Value) (x qual : Str) (st : Stmt) (ps : List Str) : Prop := ∃ f fd, Fun K x qual st f fd ∧ mg x = some (.ref f) ∧ Binds K fd ps []
theorem FnAt.prom {x qual : Str} {st : Stmt} {ps : List Str} {sp : Sp} {l : Nat} (h : FnAt K mg x qual st ps) (k : ∀ f fd, Fun K x qual st f fd → FnOk P w K mg base CX0 l f fd ps sp) : Prom P w K mg base x l ps sp := by
  obtain ⟨f, fd, F, hm, hb⟩ := h
  exact ⟨f, fd, hm, F.kp, hb, k f fd F⟩
theorem Prom.mono {x : Str} {ps : List Str} {sp : Sp} {l l' : Nat} (h : Prom P w K mg base x l ps sp) (hl : l ≤ l') : Prom P w K mg base x l' ps sp := by
  obtain ⟨f, fd, a, b, c, d⟩ := h
  exact ⟨f, fd, a, b, c, d.mono hl⟩
/-- a slot's own list is handed back -/
theorem s1_retO {i : Nat} {x : Str} {p : Pos} {xs : List α} {D : En (List α)} (hR : D.R = rLst T) (hs : slotOf N x 0 = some i) (hv : visB sc x = true) (hg : Γ[i]? = some (some (ownL T xs))) (h : D.rt Γ xs)
    (hd : (x == ("__debug__" : Str)) = false := by decide +kernel) (hcd : (x == ("__classdict__" : Str)) = false := by decide +kernel) : S1 c Γ (.Return (some (.Name x p)) pos) D := fun B σ F H hB S => by
  have hN := c.hN
  have hsc := c.hsc
  refine of_ps (ps_ret (pe_var (i := i) (by rw [hN]; exact slotOf_at hs) (by rw [hsc]; exact visB_vis hv) hd hcd)) ?_
  obtain ⟨O, o1, o2, o3⟩ := id S.own
  obtain ⟨v, h1, ⟨q, vs, rfl, h2, h3, h4⟩, h5⟩ := o3 i _ hg
  have hO := (h2 q).mpr rfl
  exact ⟨_, h1, Γ, σ, F, xs, S, by rw [hR]; exact ⟨q, vs, rfl, (h5 rfl q hO).resolve_right (hB q), (o1 i q hO).1, h3, h4⟩, h⟩
/-! ### the statements' rules, what is wanted behind written out -/
section
variable {R : Rs ρ} {rt : Gm → ρ → Prop} {nx bk ct : Gm → Prop} {st : Stmt} {rest ss ss' body : List Stmt}
theorem w_nil (h : nx Γ) : SW c Γ [] (⟨R, rt, nx, bk, ct⟩ : En ρ) := sw_nil h
theorem w_cons (h : S1 c Γ st (⟨R, rt, fun Γ1 => SW c Γ1 rest ⟨R, rt, nx, bk, ct⟩, bk, ct⟩ : En ρ)) : SW c Γ (st :: rest) (⟨R, rt, nx, bk, ct⟩ : En ρ) := sw_cons h
theorem w_ret {T : Ty K ρ} (h : EW c Γ e T rt) : S1 c Γ (.Return (some e) pos) (⟨rTy T, rt, nx, bk, ct⟩ : En ρ) := s1_ret rfl h
theorem w_retL {rt : Gm → List α → Prop} (h : EL c Γ e T rt) : S1 c Γ (.Return (some e) pos) (⟨rLst T, rt, nx, bk, ct⟩ : En (List α)) := s1_retL rfl h
theorem w_retD {rt : Gm → Unit → Prop} {x1 : Pos} (h : EW c Γ a tInt fun Γ1 i => EW c Γ1 b tInt fun Γ2 j => 0 ≤ i ∧ i < 2 ^ 1000 ∧ 0 ≤ j ∧ j < 2147483648 ∧ rt Γ2 ()) (hs : ∀ env, starEach [a, b] env = (false, eval a env) :: starEach [b] env := by intro _; rfl) (hs2 : ∀ env, starEach [b] env = (false, eval b env) :: starEach [] env := by intro _; rfl) : S1 c Γ (.Return (some (.List [a, b] x1)) pos) (⟨rDrw, rt, nx, bk, ct⟩ : En Unit) := s1_retD rfl h hs hs2
theorem w_retO {i : Nat} {x : Str} {p : Pos} {xs : List α} {rt : Gm → List α → Prop} (hs : slotOf N x 0 = some i) (hv : visB sc x = true) (hg : Γ[i]? = some (some (ownL T xs))) (h : rt Γ xs) (hd : (x == ("__debug__" : Str)) = false := by decide +kernel) (hcd : (x == ("__classdict__" : Str)) = false := by decide +kernel) : S1 c Γ (.Return (some (.Name x p)) pos) (⟨rLst T, rt, nx, bk, ct⟩ : En (List α)) := s1_retO rfl hs hv hg h hd hcd
theorem w_retN {rt : Gm → Unit → Prop} (h : rt Γ ()) : S1 c Γ (.Return none pos) (⟨rTy (K := K) tNon, rt, nx, bk, ct⟩ : En Unit) := s1_retN rfl h
theorem w_cut (J : Gm → Prop) (h : S1 c Γ st (⟨R, rt, J, bk, ct⟩ : En ρ)) (hJ : ∀ Γ, J Γ → nx Γ) : S1 c Γ st (⟨R, rt, nx, bk, ct⟩ : En ρ) := h.imp rfl hJ (fun _ _ h => h) (fun _ h => h) fun _ h => h
theorem w_pass (h : nx Γ) : S1 c Γ (.Pass pos) (⟨R, rt, nx, bk, ct⟩ : En ρ) := s1_pass h
theorem w_break (h : bk Γ) : S1 c Γ (.Break pos) (⟨R, rt, nx, bk, ct⟩ : En ρ) := s1_break h
theorem w_continue (h : ct Γ) : S1 c Γ (.Continue pos) (⟨R, rt, nx, bk, ct⟩ : En ρ) := s1_continue h
theorem w_expr (h : EW c Γ e T fun Γ1 _ => nx Γ1) (hs : ∀ env, swapsWith e none pos.line env = pure false := by intro _; rfl) : S1 c Γ (.Expr e pos) (⟨R, rt, nx, bk, ct⟩ : En ρ) := s1_expr h hs
theorem w_if {t : Expr} (h : TW c Γ t fun Γ1 x => (x = true → SW c Γ1 ss ⟨R, rt, nx, bk, ct⟩) ∧ (x = false → SW c Γ1 ss' ⟨R, rt, nx, bk, ct⟩)) : S1 c Γ (.If t ss ss' pos) (⟨R, rt, nx, bk, ct⟩ : En ρ) := s1_if h
theorem w_set {i : Nat} {x : Str} (hs : slotOf N x 0 = some i) (hv : locB sc fn x = true) (h : EW c Γ e T fun Γ1 z => i < Γ1.length ∧ nx (Γ1.set i (some (val T z)))) (hsw : ∀ env, swapsWith e (some (.Name x pos')) pos.line env = pure false := by intro _; rfl) : S1 c Γ (.Assign [.Name x pos'] e pos) (⟨R, rt, nx, bk, ct⟩ : En ρ) := s1_set hs hv h hsw
theorem w_setL {i : Nat} {x : Str} (hs : slotOf N x 0 = some i) (hv : locB sc fn x = true) (h : EL c Γ e T fun Γ1 z => i < Γ1.length ∧ nx (Γ1.set i (some (ownL T z)))) (hsw : ∀ env, swapsWith e (some (.Name x pos')) pos.line env = pure false := by intro _; rfl) : S1 c Γ (.Assign [.Name x pos'] e pos) (⟨R, rt, nx, bk, ct⟩ : En ρ) := s1_setL hs hv h hsw
theorem w_setC {scope : Scope} (own : List (Str × Nat)) (ok : blkC N sc scope own = true) (Rel : α → Option β → Prop) {i : Nat} {x : Str} {py : Pos} (hsl : slotOf N x 0 = some i) (hv : sc.names.lookup x = some .local) (hk : sc.kind = .function) (hln : (py.line == pos.line) = true) (hnm : (scope.names.any fun (n, k) => n == x && (k == .local || k == .cell)) = false)
    (h : CompW c Γ scope own elt tg iter ifs A B' Rel fun Γ1 z => i < Γ1.length ∧ nx (Γ1.set i (some (ownL B' z)))) (hs : ∀ env x, foldedSetIterable iter env x = pure x := by intro _ _; rfl) : S1 c Γ (.Assign [.Name x py] (.ListComp elt [⟨tg, iter, ifs, 0⟩] scope pos) pos') (⟨R, rt, nx, bk, ct⟩ : En ρ) := s1_setC own ok Rel hsl hv hk hln hnm h hs
theorem w_frz (i : Nat) {as : List α} (hg : Γ[i]? = some (some (ownL T as))) (h : SW c (Γ.set i (some (val (tLst T) as))) ss (⟨R, rt, nx, bk, ct⟩ : En ρ)) : SW c Γ ss (⟨R, rt, nx, bk, ct⟩ : En ρ) := sw_frz i hg h
theorem w_addTo {i : Nat} {x : Str} {z : Int} (hs : slotOf N x 0 = some i) (hv : locB sc fn x = true) (hg : Γ[i]? = some (some (val (K := K) tInt z))) (h : EW c Γ e tInt fun Γ1 u => i < Γ1.length ∧ nx (Γ1.set i (some (val (K := K) tInt (z + u))))) : S1 c Γ (.AugAssign (.Name x pos') .Add e pos) (⟨R, rt, nx, bk, ct⟩ : En ρ) := s1_aug (f := fun a b => a + b) ip_add hs hv hg h
theorem w_asgT {ts : List Expr} {kk : Nat} (h : EW c Γ e T fun Γ1 x => GW c (fun _ => True) Γ1 (.Tuple ts kk pos') T x fun Γ2 => nx Γ2) (hs : ∀ env, swapsWithSole [.Tuple ts kk pos'] e pos.line env = pure false := by intro _; rfl) (hw : ∀ env, swappedStores [.Tuple ts kk pos'] e env = pure none := by intro _; rfl) : S1 c Γ (.Assign [.Tuple ts kk pos'] e pos) (⟨R, rt, nx, bk, ct⟩ : En ρ) := s1_asgT h hs hw
theorem w_drw {i : Nat} {x : Str} {p p' : Pos} {dr : Addr} {n : Int} {j} (hs : slotOf N x 0 = some i) (hv : visB sc x = true)
    (h : EW c Γ e tInt fun Γ1 z => Γ1[i]? = some (some (drw dr)) ∧ ((n = 0 ∧ 0 ≤ z ∧ z < 2 ^ 1000) ∨ (n = 1 ∧ 0 ≤ z ∧ z < 2147483648)) ∧ nx Γ1)
    (hd : (x == ("__debug__" : Str)) = false := by decide +kernel) (hcd : (x == ("__classdict__" : Str)) = false := by decide +kernel)
    (hs1 : ∀ env, swapsWithSole [.Subscript (.Name x p) (.Constant (.int n) j p') pos'] e pos.line env = pure false := by intro _; rfl) (hw : ∀ env, swappedStores [.Subscript (.Name x p) (.Constant (.int n) j p') pos'] e env = pure none := by intro _; rfl) :
    S1 c Γ (.Assign [.Subscript (.Name x p) (.Constant (.int n) j p') pos'] e pos) (⟨R, rt, nx, bk, ct⟩ : En ρ) := s1_drw hs hv h hd hcd hs1 hw
theorem w_for (h : IW c Γ tg iter A fun Γ1 as => ∃ I : Nat → Gm → Prop, I 0 Γ1 ∧ (∀ i a, as[i]? = some a → ∀ Γ2, I i Γ2 → GW c (fun _ => True) Γ2 tg A a fun Γ3 => SW c Γ3 body ⟨R, rt, I (i + 1), nx, I (i + 1)⟩) ∧ ∀ Γ2, I as.length Γ2 → nx Γ2)
    (hs : ∀ env x, foldedSetIterable iter env x = pure x := by intro _ _; rfl) : S1 c Γ (.For tg iter body [] pos) (⟨R, rt, nx, bk, ct⟩ : En ρ) := s1_for h hs
theorem w_while (I : Nat → Gm → Prop) (h0 : ∃ n, I n Γ) (h : ∀ n Γ1, I n Γ1 → TW c Γ1 e fun Γ2 b => (b = true → SW c Γ2 body ⟨R, rt, fun Γ3 => ∃ m, m < n ∧ I m Γ3, nx, fun Γ3 => ∃ m, m < n ∧ I m Γ3⟩) ∧ (b = false → nx Γ2)) : S1 c Γ (.While e body [] pos) (⟨R, rt, nx, bk, ct⟩ : En ρ) := s1_while I h0 h
theorem w_setD {ι : Type} {args : ι → List (TV K)} {pre : ι → Prop} {name x : Str} {ps : List Str} {l i : Nat} {p : Pos} (G : Prom P w K mg base name l ps (spN args pre)) (hl : l ≤ lv) (hg : glB sc name = true) (hs : slotOf N x 0 = some i) (hv : locB sc fn x = true)
    (h : EWs c Γ (e :: es) fun Γ1 ts => i < Γ1.length ∧ ∃ j, ts = args j ∧ pre j ∧ ∀ dr, nx (Γ1.set i (some (drw dr)))) (hdb : (name == ("__debug__" : Str)) = false := by decide +kernel) {cpos : Pos}
    (he : ∀ env, starEach (e :: es) env = (false, eval e env) :: starEach es env := by intro _; rfl) (hpl : ∀ env, (backTo cpos (starEach es env)).any (·.1) = false := by intro _; rfl)
    (hsw : ∀ env, swapsWith (.Call (.Name name p) (e :: es) [] cpos) (some (.Name x pos')) pos.line env = pure false := by intro _; rfl) : S1 c Γ (.Assign [.Name x pos'] (.Call (.Name name p) (e :: es) [] cpos) pos) (⟨R, rt, nx, bk, ct⟩ : En ρ) := s1_setD G hl hg hs hv h hdb he hpl hsw
end
theorem cmul_of {i j : Int} (h : (-(2 ^ 64) < i ∧ i < 2 ^ 64) ∨ (-(2 ^ 64) < j ∧ j < 2 ^ 64)) : CMul i j := h
theorem cdiv_of {i j : Int} (h0 : 0 < j) (h : j < 2 ^ 64) : CDivW i j := wide_div h0 (b := 64) (by omega) (by decide) (by decide)
theorem cpow_of {i j : Int} (h0 : 0 ≤ j) (h : j ≤ 1000000) (hi : -(2 ^ 64) < i) (hi' : i < 2 ^ 64) : CPow i j := ⟨h0, h, by omega⟩
end
end Px
/-! Px, ninth part: built-ins. -/
namespace Px
open PySem PySem.Spec PyProof.Rows L2
section
variable {P : Program} {w : World} {K : PySem.W.Frag} {mg : Str → Option Value} {base : Heap} {lv : Nat} {N : List Str} {sc : Scope} {fn : Str → Bool}
variable {α β γ δ ρ : Type}
variable {c : Ctx P w K mg base lv N sc fn} {Γ : Gm} {e a b d tg iter elt : Expr} {es ts ifs : List Expr} {pos pos' p : Pos} {T : Ty K α} {A : Ty K α} {B' : Ty K β} {C : Ty K γ} {D' : Ty K δ}
theorem ew_intOf (bi : Bi mg) {k : Gm → Int → Prop} (hg : glB sc "int" = true) (h : EW c Γ a tBool fun Γ1 x => k Γ1 (if x = true then 1 else 0)) (he : ∀ env, starEach [a] env = (false, eval a env) :: starEach [] env := by intro _; rfl) : EW c Γ (.Call (.Name "int" p) [a] [] pos) tInt k :=
  ew_Ty (i' := "int") (fun _ _ => call_int1) hg bi.int (by decide +kernel) (ews_cons (h.imp fun _ x hx => ews_nil fun F H xs S r Q q => match xs, r with
    | [v], ⟨r, _⟩ => .inr ⟨x, by rw [show v = .bl x from r], q _ F H _ (Step.refl S) rfl hx⟩) he) (he := he)
theorem ew_max2 (bi : Bi mg) {k : Gm → Int → Prop} (hg : glB sc "max" = true) (h : EW c Γ a tInt fun Γ1 x => EW c Γ1 b tInt fun Γ2 y => k Γ2 (if y > x then y else x)) (he : ∀ env, starEach [a, b] env = (false, eval a env) :: starEach [b] env := by intro _; rfl) (he2 : ∀ env, starEach [b] env = (false, eval b env) :: starEach [] env := by intro _; rfl) (hpl : ∀ env, (backTo pos (starEach [b] env)).any (·.1) = false := by intro _; rfl) : EW c Γ (.Call (.Name "max" p) [a, b] [] pos) tInt k :=
  ew_B (id := "max") (i' := "max") (fun _ hc => call_max2 hc) hg bi.max (by decide +kernel) (ews_cons (h.imp fun _ x hx => ews_cons (hx.imp fun _ y hy => ews_nil fun F H xs S r Q q => match xs, r with
    | [v, u], ⟨r, r', _⟩ => ⟨x, y, by rw [show v = .int x from r, show u = .int y from r'], q _ F H _ (Step.refl S) rfl hy⟩) he2) he) (he := he) (hpl := hpl)
theorem ew_min2 (bi : Bi mg) {k : Gm → Int → Prop} (hg : glB sc "min" = true) (h : EW c Γ a tInt fun Γ1 x => EW c Γ1 b tInt fun Γ2 y => k Γ2 (if y < x then y else x)) (he : ∀ env, starEach [a, b] env = (false, eval a env) :: starEach [b] env := by intro _; rfl) (he2 : ∀ env, starEach [b] env = (false, eval b env) :: starEach [] env := by intro _; rfl) (hpl : ∀ env, (backTo pos (starEach [b] env)).any (·.1) = false := by intro _; rfl) : EW c Γ (.Call (.Name "min" p) [a, b] [] pos) tInt k :=
  ew_B (id := "min") (i' := "min") (fun _ hc => call_min2 hc) hg bi.min (by decide +kernel) (ews_cons (h.imp fun _ x hx => ews_cons (hx.imp fun _ y hy => ews_nil fun F H xs S r Q q => match xs, r with
    | [v, u], ⟨r, r', _⟩ => ⟨x, y, by rw [show v = .int x from r, show u = .int y from r'], q _ F H _ (Step.refl S) rfl hy⟩) he2) he) (he := he) (hpl := hpl)
theorem ew_lenL (bi : Bi mg) {k : Gm → Int → Prop} (hg : glB sc "len" = true) (h : EW c Γ a (tLst A) fun Γ1 x => k Γ1 x.length) (he : ∀ env, starEach [a] env = (false, eval a env) :: starEach [] env := by intro _; rfl) : EW c Γ (.Call (.Name "len" p) [a] [] pos) tInt k := ew_len bi hg List.length lenL h he
theorem ew_lenQ (bi : Bi mg) {k : Gm → Int → Prop} (hg : glB sc "len" = true) (h : EW c Γ a (tSeq A) fun Γ1 x => k Γ1 x.length) (he : ∀ env, starEach [a] env = (false, eval a env) :: starEach [] env := by intro _; rfl) : EW c Γ (.Call (.Name "len" p) [a] [] pos) tInt k := ew_len bi hg List.length lenQ h he
theorem ew_lenT (bi : Bi mg) {k : Gm → Int → Prop} (hg : glB sc "len" = true) (h : EW c Γ a (tTup A) fun Γ1 x => k Γ1 x.length) (he : ∀ env, starEach [a] env = (false, eval a env) :: starEach [] env := by intro _; rfl) : EW c Γ (.Call (.Name "len" p) [a] [] pos) tInt k := ew_len bi hg List.length lenT h he
/-- a built-in class as a value -/
def tCls : Ty K String := ⟨fun _ v n => v = .ty n, fun _ h => h⟩
theorem ew_cls {x : Str} {n : String} {k : Gm → String → Prop} (hg : glB sc x = true) (hm : mg x = none) (hv : bootBuiltins x = some (.type n)) (hk : k Γ n) (hn : x ≠ "__name__" := by decide +kernel) (hd : (x == ("__debug__" : Str)) = false := by decide +kernel) : EW c Γ (.Name x pos) (tCls (K := K)) k := fun B σ F H S Q q => by
  have hsc := c.hsc
  have hmg := c.hmg
  exact of_pe (pe_bltn (v := .ty n) (by show c.X.env.scope.names.lookup x = _; rw [hsc]; exact glB_gl hg) (by rw [hmg]; exact hm) hv rfl hn hd) (q _ n Γ F H S (Same.refl _) rfl hk)
theorem tyB_mono {F H : Hp} {v : V} {t : Value} (e : Same F H) (h : TyX K F v t) : TyX K H v t := by
  cases h with
  | base b =>
    refine .base ?_
    cases b with
    | non => exact .non
    | bl y => exact .bl y
    | int i => exact .int i
    | str y => exact .str y
    | flt y => exact .flt y
    | lst ea => exact .lst (e _ _ ea)
    | frz ea => exact .frz (e _ _ ea)
    | tup ea => exact .tup (e _ _ ea)
    | dK ea => exact .dK (e _ _ ea)
    | dT ea => exact .dT (e _ _ ea)
    | ins ea cl ha hn htk hm => exact .ins (e _ _ ea) cl ha hn htk hm
  | byt y => exact .byt y
  | set ea => exact .set (e _ _ ea)
  | kList a b => exact .kList a b
  | kTuple a b => exact .kTuple a b
  | kDict a b => exact .kDict a b
  | fTuple ea => exact .fTuple (e _ _ ea)
  | fDict ea => exact .fDict (e _ _ ea)
/-- isinstance(e, a built-in class) -/
theorem ew_isi (bi : Bi mg) {x : Str} {n : String} {k : Gm → Bool → Prop} (hi : glB sc "isinstance" = true) (hg : glB sc x = true) (hm : mg x = none) (hv : bootBuiltins x = some (.type n)) (ans : α → Bool) (ha : ∀ F v z, T.r F v z → ∃ t, TyX K F v t ∧ PySem.W.kitOne K t (.type n) = some (ans z))
    (h : EW c Γ a T fun Γ1 z => k Γ1 (ans z)) (hn : x ≠ "__name__" := by decide +kernel) (hd : (x == ("__debug__" : Str)) = false := by decide +kernel) (he : ∀ env, starEach [a, .Name x pos'] env = (false, eval a env) :: starEach [.Name x pos'] env := by intro _; rfl) (he2 : ∀ env, starEach [.Name x pos'] env = (false, eval (.Name x pos') env) :: starEach [] env := by intro _; rfl) (hpl : ∀ env, (backTo pos (starEach [.Name x pos'] env)).any (·.1) = false := by intro _; rfl) :
    EW c Γ (.Call (.Name "isinstance" p) [a, .Name x pos'] [] pos) tBool k :=
  ew_B (id := "isinstance") (i' := "isinstance") (r := rIsi K) (fun hK _ => by rw [← hK]; exact call_isi) hi bi.isinstance (by decide +kernel) (ews_cons (h.imp fun _ z hz => ews_cons (ew_cls hg hm hv (ews_nil fun F H xs S r Q q => match xs, r with
    | [v, u], ⟨r, r', _⟩ => by
      obtain ⟨t, h1, h2⟩ := ha F v z r
      exact ⟨v, u, t, .type n, ans z, rfl, by rw [show u = .ty n from r']; exact .ty n, tyB_mono S h1, h2, q _ F H _ (Step.refl S) rfl hz⟩) hn hd) he2) he) (he := he) (hpl := hpl)
theorem isi_int_bool : ∀ F v z, (tInt (K := K)).r F v z → ∃ t, TyX K F v t ∧ PySem.W.kitOne K t (.type "bool") = some false := fun F v z e => ⟨.type "int", by rw [show v = .int z from e]; exact .base (.int z), kit_ty (by decide +kernel)⟩
theorem isi_bool_bool : ∀ F v z, (tBool (K := K)).r F v z → ∃ t, TyX K F v t ∧ PySem.W.kitOne K t (.type "bool") = some true := fun F v z e => ⟨.type "bool", by rw [show v = .bl z from e]; exact .base (.bl z), kit_ty (by decide +kernel)⟩
theorem isi_lst {T : Ty K α} : ∀ F v z, (tLst T).r F v z → ∃ t, TyX K F v t ∧ PySem.W.kitOne K t (.type "list") = some true := fun F v z ⟨q, vs, e, h, _⟩ => by
  subst e
  exact ⟨.type "list", .base (.lst h), kit_ty (by decide +kernel)⟩
theorem isi_tup {T : Ty K ρ} {R : Hp → List V → ρ → Prop} {m} (hT : T = tupTy R m) : ∀ F v z, T.r F v z → ∃ t, TyX K F v t ∧ PySem.W.kitOne K t (.type "tuple") = some true := fun F v z h => by
  rw [hT] at h
  obtain ⟨q, vs, e, h, _⟩ := h
  subst e
  refine ⟨.type "tuple", ?_, kit_ty (by decide +kernel)⟩
  rcases h with (h | ⟨o, h⟩) | ⟨o, its, n, h, h2, _⟩
  · exact .base (.tup h)
  · exact .fTuple h
  · exact .kTuple h h2
/-! ### a call by keywords alone -/
def wK (X : Cx) (kws : List Keyword) : TA := fun σ H Q => ∀ pos pins s, Inv X pins σ H s → wpAny (model X.prog X.w) X.A (evalAll ((backToKw pos (keywordEach kws X.env)).map (·.2))) (AP X pins σ Q) X.xe s
theorem pkW {X : Cx} {kws : List Keyword} : PK X kws (wK X kws) := ⟨fun pos pins s σ H Q I h => h pos pins s I⟩
theorem of_pk {X : Cx} {kws : List Keyword} {t : TA} (h : PK X kws t) {σ : L2.St} {H : Hp} {Q : List V → Hp → Prop} (q : t σ H Q) : wK X kws σ H Q := fun pos pins s I => h.run pos pins s σ H Q I q
def EWk (c : Ctx P w K mg base lv N sc fn) (Γ : Gm) (kws : List Keyword) (k : Gm → List (TV K) → Prop) : Prop :=
  ∀ B σ F H, Sta B Γ σ F H → ∀ Q : List V → Hp → Prop, (∀ vs ts Γ' F' H', Sta B Γ' σ F' H' → Same F F' → All2 (fun v (t : TV K) => t.r F' v) vs ts → k Γ' ts → Q vs H') → wK c.X kws σ H Q
theorem ewk_nil {k : Gm → List (TV K) → Prop} (hk : k Γ []) : EWk c Γ [] k := fun B σ F H S Q q => of_pk pk_nil (q [] [] Γ F H S (Same.refl _) trivial hk)
theorem ewk_cons {nm : Option Str} {kpos : Pos} {kws : List Keyword} {k : Gm → List (TV K) → Prop} (h : EW c Γ a T fun Γ1 x => EWk c Γ1 kws fun Γ2 ts => k Γ2 (tv T x :: ts)) : EWk c Γ (⟨nm, a, kpos⟩ :: kws) k := fun B σ F H S Q q => by
  refine of_pk (pk_cons peW pkW) (h B σ F H S _ fun v x Γ1 F1 H1 S1 e1 r1 h1 => ?_)
  exact h1 B σ F1 H1 S1 _ fun vs ts Γ2 F2 H2 S2 e2 r2 h2 => q (v :: vs) (tv T x :: ts) Γ2 F2 H2 S2 (e1.trans e2) ⟨T.mono e2 r1, r2⟩ h2
/-- the arguments by names, in the order of the call; perm puts them in the parameters' order -/
structure KwB (K : PySem.W.Frag) (name : Str) (st : Stmt) (ps ks : List Str) (perm : ∀ {β : Type}, List β → List β) : Prop where
  to : ∀ (f : Addr) (fd : FuncData), Fun K name name st f fd → ∀ (s : Shared) (ws : List Value), ws.length = ks.length → BindsTo s fd ⟨[], ks.zip ws⟩ (ps.zip (perm ws))
  rel : ∀ {vs : List V} {ws : List Value}, Vals vs ws → Vals (perm vs) (perm ws)
/-- how the call of a def by keywords runs -/
theorem run_kw {X : Cx} {k : Nat} {f : Addr} {fd : FuncData} {ps ks : List Str} {sp : Sp} {perm : ∀ {β : Type}, List β → List β} {x : Str} {kws : List Keyword} {tk : TA} (F : FnOk X.prog X.w X.K X.mg X.base CX0 k f fd ps sp) (hr : Room k X.A) (hg : Gl X x) (hm : X.mg x = some (.ref f)) (hk : PySem.W.keepIn X.K (.ref f) = true)
    (hb : ∀ (s : Shared) (ws : List Value), ws.length = ks.length → BindsTo s fd ⟨[], ks.zip ws⟩ (ps.zip (perm ws))) (hrel : ∀ {vs : List V} {ws : List Value}, Vals vs ws → Vals (perm vs) (perm ws)) (hkw : PK X kws tk)
    (hall : (backToKw pos (keywordEach kws X.env)).all (·.1.isSome) = true) (hks : (backToKw pos (keywordEach kws X.env)).filterMap (·.1) = ks) (hdb : (x == ("__debug__" : Str)) = false)
    (hpl : ((backTo pos (starEach [] X.env)).any (·.1) || (backToKw pos (keywordEach kws X.env)).any (·.1.isNone)) = false) :
    PE X (.Call (.Name x p) [] kws pos) (fun σ H Q => tk σ H fun vs H1 => vs.length = ks.length ∧ sp (perm vs) H1 Q E0) := by
  refine ⟨fun pins s σ H Q I h => ?_⟩
  refine wpAny_Call_Name_kw (ld_glob I hg hm ?_ hdb)
  refine PySem.W.callWith_KW0 (h₀ := X.base) I.ok.mod.kin hk hall ?_ hpl
  refine thn (hkw.run pos pins s σ H _ I h) fun ws s2 ⟨zs, H2, I2, rz, l1, q2⟩ => ⟨I2.kIn, ?_⟩
  rw [hks]
  refine wpAny_call (codeAny_mono (F.run X.A X.stack s2 H2 ⟨[], ks.zip ws⟩ (perm ws) (perm zs) Q E0 hr I2.env0 (hb s2 ws (by rw [← rz.length]; exact l1)) (hrel rz) q2) fun r s' hq => ?_)
  cases r with
  | error e => exact pass0 pins σ H2 s2 e s' I2 hq
  | ok fl =>
    cases fl with
    | ret u => exact I2.after hq
    | next => exact False.elim hq
    | brk => exact False.elim hq
    | cont => exact False.elim hq
theorem ew_callK {ι : Type} {args : ι → List (TV K)} {R : Ty K ρ} {pre : ι → Prop} {post : ι → ρ → Prop} {name : Str} {st : Stmt} {ps ks : List Str} {perm : ∀ {β : Type}, List β → List β} {l : Nat} {k : Gm → ρ → Prop} {kws : List Keyword} (G : FnAt K mg name name st ps) (G2 : ∀ f fd, Fun K name name st f fd → FnOk P w K mg base CX0 l f fd ps (spP args R pre post)) (hl : l ≤ lv) (kb : KwB K name st ps ks @perm) (hg : glB sc name = true)
    (h : EWk c Γ kws fun Γ1 ts => ts.length = ks.length ∧ ∃ i, perm ts = args i ∧ pre i ∧ ∀ r, post i r → k Γ1 r) (hperm : ∀ F vs (ts : List (TV K)), All2 (fun v (t : TV K) => t.r F v) vs ts → All2 (fun v (t : TV K) => t.r F v) (perm vs) (perm ts)) (hdb : (name == ("__debug__" : Str)) = false := by decide +kernel)
    (hall : ∀ env, (backToKw pos (keywordEach kws env)).all (·.1.isSome) = true := by intro _; rfl) (hks : ∀ env, (backToKw pos (keywordEach kws env)).filterMap (·.1) = ks := by intro _; rfl)
    (hpl : ∀ env, ((backTo pos (starEach [] env)).any (·.1) || (backToKw pos (keywordEach kws env)).any (·.1.isNone)) = false := by intro _; rfl) : EW c Γ (.Call (.Name name p) [] kws pos) R k := by
  intro B σ F H S Q q
  obtain ⟨X, rfl, rfl, rfl, rfl, rfl, rfl, nd, rfl, rfl, calm, room, pas⟩ := c
  obtain ⟨f, fd, FF, hm, hb⟩ := G
  refine of_pe (run_kw (G2 f fd FF) (room.mono hl) (glB_gl hg) hm FF.kp (kb.to f fd FF) kb.rel pkW (hall _) (hks _) hdb (hpl _)) ?_
  refine h B σ F H S _ fun vs ts Γ1 F1 H1 S1 e1 r1 ⟨hl', i, ei, hp, hk⟩ => ⟨by rw [All2.length r1]; exact hl', ?_⟩
  refine ⟨F1, i, S1.sub, by rw [← ei]; exact hperm _ _ _ r1, hp, fun v r F2 H2 st rr hr => q v r Γ1 F2 H2 (S1.step st) (e1.trans st.ff) rr (hk r hr)⟩
def swap2 {β : Type} : List β → List β
  | [x, y] => [y, x]
  | l => l
theorem swap2_rel {α β : Type} {R : α → β → Prop} : ∀ {vs : List α} {ws : List β}, Paired R vs ws → Paired R (swap2 vs) (swap2 ws)
  | _, _, .nil => .nil
  | _, _, .cons h .nil => .cons h .nil
  | _, _, .cons h (.cons h2 .nil) => .cons h2 (.cons h .nil)
  | _, _, .cons h (.cons h2 (.cons h3 t)) => .cons h (.cons h2 (.cons h3 t))
theorem swap2_all {α β : Type} {R : α → β → Prop} : ∀ {vs : List α} {ws : List β}, All2 R vs ws → All2 R (swap2 vs) (swap2 ws)
  | [], [], h => h
  | [_], [_], h => h
  | [_, _], [_, _], h => ⟨h.2.1, h.1, trivial⟩
  | _ :: _ :: _ :: _, _ :: _ :: _ :: _, h => h
theorem kwB_of {name : Str} {st : Stmt} {ps ks : List Str} {perm : ∀ {β : Type}, List β → List β} (rel : ∀ {vs : List V} {ws : List Value}, Vals vs ws → Vals (perm vs) (perm ws))
    (h : ∀ (kV doc pm : Value) (an : Option Addr) (cdv ct : Value) (us : List Value), us.length = ks.length → bindArgs (PySem.W.fnOf name name (defArgs st) (defBody st) (defScope st) .none kV doc pm an cdv ct) ⟨[], ks.zip us⟩ = pure (ps.zip (perm us))) : KwB K name st ps ks @perm :=
  ⟨fun f fd F s ws hw => by
    obtain ⟨oc, od, kV, doc, pm, an, cdv, ct, osl, rfl, lk, hcd⟩ := F.ex
    exact .of_eq (h kV doc pm an cdv ct ws hw), rel⟩
/-! ### slots forgotten, slots read otherwise -/
structure Le (e e' : Ent) : Prop where
  ok : ∀ {v ps F H}, e.ok v ps F H → e'.ok v ps F H
  vol : e'.vol = e.vol
theorem Le.refl {e : Ent} : Le e e := ⟨fun h => h, rfl⟩
theorem le_val {T' : Ty K β} {x : α} {y : β} (h : ∀ F v, T.r F v x → T'.r F v y) : Le (val T x) (val T' y) := ⟨fun q => ⟨q.1, h _ _ q.2⟩, rfl⟩
def Wk (Γ' Γ : Gm) : Prop := Γ'.length = Γ.length ∧ ∀ (i : Nat) (e' : Ent), Γ'[i]? = some (some e') → ∃ e, Γ[i]? = some (some e) ∧ Le e e'
theorem wk_nil : Wk [] [] := ⟨rfl, fun i _ h => by simp at h⟩
theorem wk_as {x y : Ent} {Γ' Γ : Gm} (hl : Le x y) (h : Wk Γ' Γ) : Wk (some y :: Γ') (some x :: Γ) := ⟨congrArg (· + 1) h.1, fun i e q => by
  cases i with
  | zero => cases q; exact ⟨x, rfl, hl⟩
  | succ i => exact h.2 i e (by simpa using q)⟩
theorem wk_keep {x : Option Ent} {Γ' Γ : Gm} (h : Wk Γ' Γ) : Wk (x :: Γ') (x :: Γ) := ⟨congrArg (· + 1) h.1, fun i e q => by
  cases i with
  | zero => cases q; exact ⟨_, rfl, Le.refl⟩
  | succ i => exact h.2 i e (by simpa using q)⟩
theorem wk_drop {x : Option Ent} {Γ' Γ : Gm} (h : Wk Γ' Γ) : Wk (none :: Γ') (x :: Γ) := ⟨congrArg (· + 1) h.1, fun i e q => by
  cases i with
  | zero => cases q
  | succ i => exact h.2 i e (by simpa using q)⟩
theorem wk_refl {Γ : Gm} : Wk Γ Γ := ⟨rfl, fun _ _ h => ⟨_, h, Le.refl⟩⟩
theorem Sta.wk {B : Base} {Γ' : Gm} {σ : L2.St} {F H : Hp} (S : Sta B Γ σ F H) (hw : Wk Γ' Γ) : Sta B Γ' σ F H := by
  obtain ⟨O, h1, h2, h3⟩ := S.own
  refine ⟨hw.1.trans S.len, S.sub, S.ext, S.keep, S.dom, S.new, S.pnd, O, h1, h2, fun i e q => ?_⟩
  obtain ⟨e0, q0, le⟩ := hw.2 i e q
  obtain ⟨v, hv, ho, hz⟩ := h3 i e0 q0
  exact ⟨v, hv, le.ok ho, fun b => hz (le.vol ▸ b)⟩
theorem w_nilW {R : Rs ρ} {rt : Gm → ρ → Prop} {nx bk ct : Gm → Prop} (Γ' : Gm) (hw : Wk Γ' Γ) (h : nx Γ') : SW c Γ [] (⟨R, rt, nx, bk, ct⟩ : En ρ) := fun B σ F H hB S => w_nil h B σ F H hB (S.wk hw)
theorem w_weak {D : En ρ} {ss : List Stmt} (Γ' : Gm) (hw : Wk Γ' Γ) (h : SW c Γ' ss D) : SW c Γ ss D := fun B σ F H hB S => h B σ F H hB (S.wk hw)
theorem s1_weak {D : En ρ} {st : Stmt} (Γ' : Gm) (hw : Wk Γ' Γ) (h : S1 c Γ' st D) : S1 c Γ st D := fun B σ F H hB S => h B σ F H hB (S.wk hw)
theorem ew_weak {k : Gm → α → Prop} (Γ' : Gm) (hw : Wk Γ' Γ) (h : EW c Γ' e T k) : EW c Γ e T k := fun B σ F H S => h B σ F H (S.wk hw)
theorem tw_weak {k : Gm → Bool → Prop} (Γ' : Gm) (hw : Wk Γ' Γ) (h : TW c Γ' e k) : TW c Γ e k := fun B σ F H S => h B σ F H (S.wk hw)
/-! ### a list of a few things, at a drawn place -/
theorem atI_in {xs : List α} {i : Int} {x : α} (h : atI xs i = some x) : x ∈ xs := by
  unfold atI at h
  cases q : ixN xs.length i with
  | none => rw [q] at h; cases h
  | some j => rw [q] at h; exact List.mem_of_getElem? (show xs[j]? = some x from h)
theorem atI_lt {xs : List α} {k : Int} (h0 : 0 ≤ k) (h : k < xs.length) : ∃ x, atI xs k = some x := by
  obtain ⟨n, rfl⟩ := Int.eq_ofNat_of_zero_le h0
  have hn : n < xs.length := by omega
  exact ⟨xs[n], atI_nat (List.getElem?_eq_getElem hn)⟩
theorem EWL.imp {k k' : Gm → List α → Prop} (h : EWL c Γ es T k) (f : ∀ Γ a, k Γ a → k' Γ a) : EWL c Γ es T k' := fun B σ F H S Q q => h B σ F H S Q fun vs as Γ1 F1 H1 S1 e1 r1 h1 => q vs as Γ1 F1 H1 S1 e1 r1 (f _ _ h1)
theorem ew_menu {k : Gm → α → Prop} (h : EWL c Γ es T fun Γ1 xs => xs.length ≤ sizeLine ∧ EW c Γ1 b tInt fun Γ2 i => 0 ≤ i ∧ i < xs.length ∧ ∀ x, x ∈ xs → k Γ2 x) (hs : PlainIx b := by intro _ _; rfl) : EW c Γ (.Subscript (.List es pos') b pos) T k :=
  ew_ixL (ew_el (el_lst (h.imp fun _ xs ⟨h1, h2⟩ => ⟨h1, h2.imp fun _ i ⟨h3, h4, h5⟩ => by
    obtain ⟨x, hx⟩ := atI_lt h3 h4
    exact ⟨x, hx, h5 x (atI_in hx)⟩⟩))) hs
/-! ### the draw's call -/
abbrev spDraw (K : PySem.W.Frag) : Sp := spD (fun n : Int => [tv (tInt (K := K)) n]) (tInt (K := K)) (fun n => 0 < n ∧ n < 2 ^ 62) (fun n r => 0 ≤ r ∧ r < n)
abbrev spDraws (K : PySem.W.Frag) : Sp := spN (fun i : List Int × Int => [tv (tSeq (K := K) tInt) i.1, tv (tInt (K := K)) i.2]) (fun i => i.1.length ≤ 63 ∧ 0 ≤ i.2 ∧ i.2 < 64)
theorem ew_draw {x : Str} {i l : Nat} {px : Pos} {dr : Addr} {k : Gm → Int → Prop} (G : Prom P w K mg base "_law_draw" l ["draws", "many"] (spDraw K)) (hl : l ≤ lv) (hg : glB sc "_law_draw" = true) (hs : slotOf N x 0 = some i) (hv : visB sc x = true) (hx : Γ[i]? = some (some (drw dr)))
    (h : EW c Γ e tInt fun Γ1 n => Γ1[i]? = some (some (drw dr)) ∧ (0 < n ∧ n < 2 ^ 62) ∧ ∀ r, 0 ≤ r → r < n → k Γ1 r) (he : ∀ env, starEach [.Name x px, e] env = (false, eval (.Name x px) env) :: starEach [e] env := by intro _; rfl) (he2 : ∀ env, starEach [e] env = (false, eval e env) :: starEach [] env := by intro _; rfl) (hpl : ∀ env, (backTo pos (starEach [e] env)).any (·.1) = false := by intro _; rfl) (hd : (x == ("__debug__" : Str)) = false := by decide +kernel) (hcd : (x == ("__classdict__" : Str)) = false := by decide +kernel) :
    EW c Γ (.Call (.Name "_law_draw" p) [.Name x px, e] [] pos) tInt k :=
  ew_callD G hl hg hs hv hx (ews_cons (h.imp fun _ n ⟨h1, h2, h3⟩ => ews_nil ⟨h1, n, rfl, h2, fun r hr => h3 r hr.1 hr.2⟩) he2) (by decide +kernel) he hpl hd hcd
theorem w_draws {R : Rs ρ} {rt : Gm → ρ → Prop} {nx bk ct : Gm → Prop} {x : Str} {i l : Nat} {cpos : Pos} (G : Prom P w K mg base "_law_draws" l ["script", "k"] (spDraws K)) (hl : l ≤ lv) (hg : glB sc "_law_draws" = true) (hs : slotOf N x 0 = some i) (hv : locB sc fn x = true)
    (h : EW c Γ a (tSeq tInt) fun Γ1 ns => EW c Γ1 b tInt fun Γ2 k => i < Γ2.length ∧ (ns.length ≤ 63 ∧ 0 ≤ k ∧ k < 64) ∧ ∀ dr, nx (Γ2.set i (some (drw dr)))) (he : ∀ env, starEach [a, b] env = (false, eval a env) :: starEach [b] env := by intro _; rfl) (he2 : ∀ env, starEach [b] env = (false, eval b env) :: starEach [] env := by intro _; rfl) (hpl : ∀ env, (backTo cpos (starEach [b] env)).any (·.1) = false := by intro _; rfl)
    (hsw : ∀ env, swapsWith (.Call (.Name "_law_draws" p) [a, b] [] cpos) (some (.Name x pos')) pos.line env = pure false := by intro _; rfl) : S1 c Γ (.Assign [.Name x pos'] (.Call (.Name "_law_draws" p) [a, b] [] cpos) pos) (⟨R, rt, nx, bk, ct⟩ : En ρ) :=
  w_setD G hl hg hs hv (ews_cons (h.imp fun _ ns h => ews_cons (h.imp fun _ k ⟨h1, h2, h3⟩ => ews_nil ⟨h1, (ns, k), rfl, h2, h3⟩) he2) he) (by decide +kernel) he hpl hsw
/-! ### a law's outer loop -/
theorem w_turns {R : Rs ρ} {rt : Gm → ρ → Prop} {nx bk ct : Gm → Prop} {body : List Stmt} {x : Str} {i : Nat} {ns : List Int} {m : Int} {j1 j2} {p1 p2 p3 p4 p5 p6 p7 p8 p9 : Pos} (bi : Bi mg) (hm : 0 ≤ m) (hm2 : m < 64) (g1 : glB sc "range" = true) (g2 : glB sc "max" = true) (g3 : glB sc "min" = true) (g4 : glB sc "len" = true)
    (hs : slotOf N x 0 = some i) (hv : visB sc x = true) (hg : Γ[i]? = some (some (val (tSeq (K := K) tInt) ns))) (hn : ns.length ≤ 63)
    (step : ∀ a : Int, 0 ≤ a → a < 64 → GW c (fun _ => True) Γ tg (tInt (K := K)) a fun Γ3 => SW c Γ3 body ⟨R, rt, fun G => G = Γ, nx, fun G => G = Γ⟩) (fin : nx Γ) (hd : (x == ("__debug__" : Str)) = false := by decide +kernel) (hcd : (x == ("__classdict__" : Str)) = false := by decide +kernel) :
    S1 c Γ (.For tg (.Call (.Name "range" p1) [.Call (.Name "max" p2) [.Constant (.int 1) j1 p3, .Call (.Name "min" p4) [.Constant (.int m) j2 p5, .Call (.Name "len" p6) [.Name x p7] [] p8] [] p9] [] pos'] [] p) body [] pos) (⟨R, rt, nx, bk, ct⟩ : En ρ) := by
  refine w_for (A := tInt) (iw_range1 bi g1 (ew_max2 bi g2 (ew_int (ew_min2 bi g3 (ew_int (ew_lenQ (A := tInt) bi g4 (ew_name hs hv hg ?_ hd hcd)))))))
  refine ⟨by split <;> split <;> omega, by split <;> split <;> omega, fun _ G => G = Γ, rfl, fun i a ha G e => ?_, fun G e => by rw [e]; exact fin⟩
  subst e
  obtain ⟨a1, a2⟩ := ups_get ha
  refine step a (by omega) ?_
  rw [a1]
  split at a2 <;> split at a2 <;> omega
end
end Px
/-! Px, tenth part: slices, sums of lists, of tuples, of texts; changes of an own list. -/
namespace Px
open PySem PySem.Spec PyProof.Rows L2
def wO (X : Cx) (e : Option Expr) : TO := fun σ H Q => ∀ pins s, Inv X pins σ H s → wpAny (model X.prog X.w) X.A (evalPart e X.env) (fun u s' => ∃ o H', Inv X pins σ H' s' ∧ IsPart u o ∧ Q o H') X.xe s
theorem poW {X : Cx} {e : Option Expr} : PO X e (wO X e) := ⟨fun pins s σ H Q I h => h pins s I⟩
theorem of_po {X : Cx} {e : Option Expr} {t : TO} (h : PO X e t) {σ : L2.St} {H : Hp} {Q : Option Int → Hp → Prop} (q : t σ H Q) : wO X e σ H Q := fun pins s I => h.run pins s σ H Q I q
def cutA {α : Type} (xs : List α) (lo hi : Option Int) : List α := (xs.drop (HT.sIx xs.length 0 lo)).take (HT.sIx xs.length xs.length hi - HT.sIx xs.length 0 lo)
theorem cutA_length {α : Type} (xs : List α) (lo hi : Option Int) : (cutA xs lo hi).length ≤ xs.length := by
  unfold cutA
  rw [List.length_take, List.length_drop]
  omega
theorem all2_cut {α β : Type} {R : α → β → Prop} {xs : List α} {ys : List β} (h : All2 R xs ys) (lo hi : Option Int) : All2 R (cutA xs lo hi) (cutA ys lo hi) := by
  unfold cutA
  rw [All2.length h]
  exact All2.take _ (All2.drop _ h)
theorem all2_rep {α β : Type} {R : α → β → Prop} {xs : List α} {ys : List β} (m : Nat) (h : All2 R xs ys) : All2 R (List.replicate m xs).flatten (List.replicate m ys).flatten := by
  induction m with
  | zero => trivial
  | succ m ih =>
    rw [List.replicate_succ, List.replicate_succ, List.flatten_cons, List.flatten_cons]
    exact All2.append h ih
theorem all2_set {α β : Type} {R : α → β → Prop} : ∀ {xs : List α} {ys : List β} {j : Nat} {x : α} {y : β}, All2 R xs ys → R x y → All2 R (xs.set j x) (ys.set j y)
  | [], [], _, _, _, h, _ => h
  | _ :: _, _ :: _, 0, _, _, h, r => ⟨r, h.2⟩
  | _ :: _, _ :: _, j + 1, _, _, h, r => ⟨h.1, all2_set (j := j) h.2 r⟩
theorem cutA_mem {α : Type} {xs : List α} {lo hi : Option Int} {x : α} (h : x ∈ cutA xs lo hi) : x ∈ xs := List.mem_of_mem_drop (List.mem_of_mem_take h)
section
variable {P : Program} {w : World} {K : PySem.W.Frag} {mg : Str → Option Value} {base : Heap} {lv : Nat} {N : List Str} {sc : Scope} {fn : Str → Bool}
variable {α β γ δ ρ : Type}
variable {c : Ctx P w K mg base lv N sc fn} {Γ : Gm} {e a b d tg iter elt : Expr} {lo hi : Option Expr} {es ts ifs : List Expr} {pos pos' p p2 : Pos} {T : Ty K α} {A : Ty K α} {B' : Ty K β} {C : Ty K γ} {D' : Ty K δ}
/-! ### slices -/
def OW (c : Ctx P w K mg base lv N sc fn) (Γ : Gm) (e : Option Expr) (k : Gm → Option Int → Prop) : Prop :=
  ∀ B σ F H, Sta B Γ σ F H → ∀ Q : Option Int → Hp → Prop, (∀ o Γ' F' H', Sta B Γ' σ F' H' → Same F F' → k Γ' o → Q o H') → wO c.X e σ H Q
theorem ow_none {k : Gm → Option Int → Prop} (h : k Γ none) : OW c Γ none k := fun B σ F H S Q q => of_po po_none (q none Γ F H S (Same.refl _) h)
theorem ow_some {k : Gm → Option Int → Prop} (h : EW c Γ e tInt fun Γ1 i => k Γ1 (some i)) : OW c Γ (some e) k := fun B σ F H S Q q => of_po (po_some peW) (h B σ F H S _ fun v i Γ1 F1 H1 S1 e1 r1 h1 => ⟨i, r1, q (some i) Γ1 F1 H1 S1 e1 h1⟩)
theorem ew_slT {k : Gm → List α → Prop} (h : EW c Γ a (tTup T) fun Γ1 xs => OW c Γ1 lo fun Γ2 l => OW c Γ2 hi fun Γ3 u => k Γ3 (cutA xs l u)) : EW c Γ (.Subscript a (.Slice lo hi none p2) pos) (tTup T) k := fun B σ F H S Q q => by
  obtain ⟨X, rfl, rfl, rfl, rfl, rfl, rfl, nd, rfl, rfl, calm, room, pas⟩ := c
  refine of_pe (pe_slice sl_tupA peW poW poW) (h B σ F H S _ fun v xs Γ1 F1 H1 S1 e1 r1 h1 => h1 B σ F1 H1 S1 _ fun l Γ2 F2 H2 S2 e2 h2 => h2 B σ F2 H2 S2 _ fun u Γ3 F3 H3 S3 e3 h3 => ?_)
  obtain ⟨q1, vs, rfl, hq, hv⟩ := (tTup T).mono (e2.trans e3) r1
  refine ⟨q1, vs, rfl, sqT_mono S3.sub hq, fun hw => ?_, fun hw p hp => ?_⟩
  · refine q _ _ Γ3 F3 H3 S3 ((e1.trans e2).trans e3) ⟨q1, vs, rfl, hq, ?_⟩ h3
    have : cutA xs l u = xs := by
      unfold cutA
      rw [← All2.length hv, hw.1, hw.2]
      simp [All2.length hv]
    rw [this]; exact hv
  · have st := Step.frozen (o := .tup (cutV vs l u)) S3.sub hp
    exact q _ _ Γ3 _ _ (S3.step st) (((e1.trans e2).trans e3).trans st.ff) ⟨p, _, rfl, .inl (.inl upd_same), All2.imp (fun _ _ => T.mono st.ff) (all2_cut hv l u)⟩ h3
theorem el_slQ {k : Gm → List α → Prop} (h : EW c Γ a (tSeq T) fun Γ1 xs => OW c Γ1 lo fun Γ2 l => OW c Γ2 hi fun Γ3 u => k Γ3 (cutA xs l u)) : EL c Γ (.Subscript a (.Slice lo hi none p2) pos) T k := fun B σ F H S Q q => by
  obtain ⟨X, rfl, rfl, rfl, rfl, rfl, rfl, nd, rfl, rfl, calm, room, pas⟩ := c
  refine of_pe (pe_slice sl_list peW poW poW) (h B σ F H S _ fun v xs Γ1 F1 H1 S1 e1 r1 h1 => h1 B σ F1 H1 S1 _ fun l Γ2 F2 H2 S2 e2 h2 => h2 B σ F2 H2 S2 _ fun u Γ3 F3 H3 S3 e3 h3 => ?_)
  obtain ⟨q1, vs, rfl, hq, hv⟩ := (tSeq T).mono (e2.trans e3) r1
  refine ⟨q1, vs, rfl, sqL_mono S3.sub hq, fun p hp => ?_⟩
  obtain ⟨S4, b1, b2, b3⟩ := S3.make (o := .lst (cutV vs l u)) hp
  exact q p _ _ Γ3 _ _ S4 ((e1.trans e2).trans e3) b1 b3 b2 upd_same (all2_cut hv l u) h3
theorem EW.toSeq {k : Gm → List α → Prop} (h : EW c Γ a (tLst T) k) : EW c Γ a (tSeq T) k := EW.as (fun x => x) h fun _ _ _ => seq_of_lst
theorem el_slL {k : Gm → List α → Prop} (h : EW c Γ a (tLst T) fun Γ1 xs => OW c Γ1 lo fun Γ2 l => OW c Γ2 hi fun Γ3 u => k Γ3 (cutA xs l u)) : EL c Γ (.Subscript a (.Slice lo hi none p2) pos) T k := el_slQ h.toSeq
theorem ew_slS {k : Gm → Str → Prop} (h : EW c Γ a tStr fun Γ1 s => s.length ≤ sizeLine ∧ OW c Γ1 lo fun Γ2 l => OW c Γ2 hi fun Γ3 u => k Γ3 (cutS s l u)) : EW c Γ (.Subscript a (.Slice lo hi none p2) pos) tStr k := fun B σ F H S Q q => by
  refine of_pe (pe_slice sl_str peW poW poW) (h B σ F H S _ fun v s Γ1 F1 H1 S1 e1 r1 ⟨h0, h1⟩ => h1 B σ F1 H1 S1 _ fun l Γ2 F2 H2 S2 e2 h2 => h2 B σ F2 H2 S2 _ fun u Γ3 F3 H3 S3 e3 h3 => ?_)
  exact ⟨s, r1, h0, q _ _ Γ3 F3 H3 S3 ((e1.trans e2).trans e3) rfl h3⟩
/-! ### sums -/
theorem ew_catS {k : Gm → Str → Prop} (h : EW c Γ a tStr fun Γ1 s => EW c Γ1 b tStr fun Γ2 t => s.length + t.length ≤ sizeLine ∧ k Γ2 (s ++ t)) : EW c Γ (.BinOp a .Add b pos) tStr k :=
  ew_bin (fun _ => op_add_str) (h.imp fun _ s h => h.imp fun _ t h => fun F H x y S hx hy Q q => ⟨s, t, hx, hy, h.1, q _ F H _ (Step.refl S) rfl h.2⟩)
theorem ew_catT {k : Gm → List α → Prop} (h : EW c Γ a (tTup T) fun Γ1 s => EW c Γ1 b (tTup T) fun Γ2 t => s.length + t.length ≤ sizeLine ∧ k Γ2 (s ++ t)) : EW c Γ (.BinOp a .Add b pos) (tTup T) k :=
  ew_bin (r := rCatA K) (fun hK => by rw [← hK]; exact op_catA) (h.imp fun _ s h => h.imp fun _ t h => fun F H x y S ⟨p1, xs, e1, h1, r1⟩ ⟨p2, ys, e2, h2, r2⟩ Q q => by
    refine ⟨p1, p2, xs, ys, e1, e2, sqT_mono S h1, sqT_mono S h2, by rw [All2.length r1, All2.length r2]; exact h.1, fun z => ?_, fun z1 z2 => ?_, fun z1 z2 p hp => ?_⟩
    · subst z
      have es : s = [] := List.eq_nil_of_length_eq_zero (All2.length r1).symm
      exact q _ F H (s ++ t) (Step.refl S) ⟨p2, ys, rfl, h2, by rw [es]; exact r2⟩ h.2
    · subst z2
      have es : t = [] := List.eq_nil_of_length_eq_zero (All2.length r2).symm
      exact q _ F H (s ++ t) (Step.refl S) ⟨p1, xs, rfl, h1, by rw [es, List.append_nil]; exact r1⟩ h.2
    · have st := Step.frozen (o := .tup (xs ++ ys)) S hp
      exact q _ _ _ (s ++ t) st ⟨p, _, rfl, .inl (.inl upd_same), All2.append (All2.imp (fun _ _ => T.mono st.ff) r1) (All2.imp (fun _ _ => T.mono st.ff) r2)⟩ h.2)
theorem el_cat {k : Gm → List α → Prop} (h : EW c Γ a (tLst T) fun Γ1 s => EW c Γ1 b (tLst T) fun Γ2 t => s.length + t.length ≤ sizeLine ∧ k Γ2 (s ++ t)) : EL c Γ (.BinOp a .Add b pos) T k := fun B σ F H S Q q => by
  refine of_pe (pe_op op_cat peW peW) (h B σ F H S _ fun v xs Γ1 F1 H1 S1 e1 r1 h1 => h1 B σ F1 H1 S1 _ fun u ys Γ2 F2 H2 S2 e2 r2 h2 => ?_)
  obtain ⟨p1, vs, rfl, hp1, r1'⟩ := (tLst T).mono e2 r1
  obtain ⟨p2, us, rfl, hp2, r2'⟩ := r2
  refine ⟨p1, p2, vs, us, rfl, rfl, S2.sub _ _ hp1, S2.sub _ _ hp2, by rw [All2.length r1', All2.length r2']; exact h2.1, fun p hp => ?_⟩
  obtain ⟨S4, b1, b2, b3⟩ := S2.make (o := .lst (vs ++ us)) hp
  exact q p _ _ Γ2 _ _ S4 (e1.trans e2) b1 b3 b2 upd_same (All2.append r1' r2') h2.2
theorem ew_repT {k : Gm → List α → Prop} (h : EW c Γ a (tTup T) fun Γ1 s => EW c Γ1 b tInt fun Γ2 n => (s ≠ [] ∧ 2 ≤ n ∧ n ≤ 1000 ∧ s.length ≤ 1000) ∧ k Γ2 (List.replicate n.toNat s).flatten) : EW c Γ (.BinOp a .Mult b pos) (tTup T) k :=
  ew_bin (r := rRepT K) (fun hK => by rw [← hK]; exact op_repT) (h.imp fun _ s h => h.imp fun _ n ⟨⟨h1, h2, h3, h4⟩, h5⟩ => fun F H x y S ⟨p1, xs, e1, g1, r1⟩ e2 Q q => by
    refine ⟨p1, n, xs, e1, e2, sqT_mono S g1, fun z => h1 (by subst z; exact List.eq_nil_of_length_eq_zero (All2.length r1).symm), h2, h3, by rw [All2.length r1]; exact h4, fun p hp => ?_⟩
    have st := Step.frozen (o := .tup (List.replicate n.toNat xs).flatten) S hp
    exact q _ _ _ _ st ⟨p, _, rfl, .inl (.inl upd_same), all2_rep n.toNat (All2.imp (fun _ _ => T.mono st.ff) r1)⟩ h5)
/-! ### list(..), tuple(..) -/
def rLst1 (K : PySem.W.Frag) : List V → Hp → VK → Prop := fun xs H Q => ∃ p ys, xs = [.ref p] ∧ (SqL K H p ys ∨ SqT K H p ys) ∧ ∀ l, H l = none → Q (.ref l) (upd H l (.lst ys))
theorem el_listG {A : Ty K ρ} (bi : Bi mg) {k : Gm → List α → Prop} (hg : glB sc "list" = true) (it : ρ → List α) (hi : ∀ F v z, A.r F v z → ∃ q ys, v = .ref q ∧ (SqL K F q ys ∨ SqT K F q ys) ∧ All2 (T.r F) ys (it z)) (h : EW c Γ a A fun Γ1 z => k Γ1 (it z)) (he : ∀ env, starEach [a] env = (false, eval a env) :: starEach [] env := by intro _; rfl) : EL c Γ (.Call (.Name "list" p) [a] [] pos) T k := fun B σ F H S Q q => by
  obtain ⟨X, rfl, rfl, rfl, rfl, rfl, rfl, nd, rfl, rfl, calm, room, pas⟩ := c
  refine of_pe (pe_callTy (T := "list") call_list_of (glB_gl hg) bi.list (by decide +kernel) (pa_cons peW pa_nil (he _)) (by decide +kernel) (by decide +kernel) (he _) rfl) (h B σ F H S _ fun v z Γ1 F1 H1 S1 e1 r1 h1 => ?_)
  obtain ⟨q1, ys, rfl, hq, hr⟩ := hi F1 v z r1
  refine ⟨q1, ys, rfl, hq.elim (fun y => .inl (sqL_mono S1.sub y)) (fun y => .inr (sqT_mono S1.sub y)), fun l hl => ?_⟩
  obtain ⟨S4, b1, b2, b3⟩ := S1.make (o := .lst ys) hl
  exact q l ys (it z) Γ1 _ _ S4 e1 b1 b3 b2 upd_same hr h1
theorem el_listL (bi : Bi mg) {k : Gm → List α → Prop} (hg : glB sc "list" = true) (h : EW c Γ a (tLst T) k) (he : ∀ env, starEach [a] env = (false, eval a env) :: starEach [] env := by intro _; rfl) : EL c Γ (.Call (.Name "list" p) [a] [] pos) T k := el_listG (A := tLst T) bi hg (fun x => x) (fun F v z ⟨q, ys, e, h, r⟩ => ⟨q, ys, e, .inl (.inl (.inl h)), r⟩) h he
theorem el_listT (bi : Bi mg) {k : Gm → List α → Prop} (hg : glB sc "list" = true) (h : EW c Γ a (tTup T) k) (he : ∀ env, starEach [a] env = (false, eval a env) :: starEach [] env := by intro _; rfl) : EL c Γ (.Call (.Name "list" p) [a] [] pos) T k := el_listG (A := tTup T) bi hg (fun x => x) (fun F v z ⟨q, ys, e, h, r⟩ => ⟨q, ys, e, .inr h, r⟩) h he
theorem el_listQ (bi : Bi mg) {k : Gm → List α → Prop} (hg : glB sc "list" = true) (h : EW c Γ a (tSeq T) k) (he : ∀ env, starEach [a] env = (false, eval a env) :: starEach [] env := by intro _; rfl) : EL c Γ (.Call (.Name "list" p) [a] [] pos) T k := el_listG (A := tSeq T) bi hg (fun x => x) (fun F v z ⟨q, ys, e, h, r⟩ => ⟨q, ys, e, .inl h, r⟩) h he
theorem ew_tupleL (bi : Bi mg) {k : Gm → List α → Prop} (hg : glB sc "tuple" = true) (h : EW c Γ a (tLst T) k) (he : ∀ env, starEach [a] env = (false, eval a env) :: starEach [] env := by intro _; rfl) : EW c Γ (.Call (.Name "tuple" p) [a] [] pos) (tTup T) k := fun B σ F H S Q q => by
  obtain ⟨X, rfl, rfl, rfl, rfl, rfl, rfl, nd, rfl, rfl, calm, room, pas⟩ := c
  refine of_pe (pe_callTy (T := "tuple") call_tuple_of (glB_gl hg) bi.tuple (by decide +kernel) (pa_cons peW pa_nil (he _)) (by decide +kernel) (by decide +kernel) (he _) rfl) (h B σ F H S _ fun v z Γ1 F1 H1 S1 e1 r1 h1 => ?_)
  obtain ⟨q1, ys, rfl, hq, hr⟩ := r1
  refine ⟨q1, ys, rfl, .inl ⟨.inl (.inl (S1.sub _ _ hq)), fun l hl => ?_⟩⟩
  have st := Step.frozen (o := .tup ys) S1.sub hl
  exact q _ z Γ1 _ _ (S1.step st) (e1.trans st.ff) ⟨l, ys, rfl, .inl (.inl upd_same), All2.imp (fun _ _ => T.mono st.ff) hr⟩ h1
/-! ### an own list is changed -/
structure MOk (o : Expr) (m : Str) (ap : Pos) (e : Expr) (es : List Expr) (cp : Pos) : Prop where
  base : ∀ env, attributeBase o m env (eval o env) = eval o env
  few : ∀ env, ((backTo cp (starEach (e :: es) env)).all (fun x => !x.1) && (backToKw cp (keywordEach [] env)).all (fun x => x.1.isSome) && decide ((e :: es).length + ([] : List Keyword).length + (if ([] : List Keyword).isEmpty then 0 else 1) < 30)) = true
  line : (ap.endLine == cp.line) = true
  star : ∀ env, starEach (e :: es) env = (false, eval e env) :: starEach es env
  plain : ∀ env, (backTo cp (starEach es env)).any (·.1) = false
structure MOk0 (o : Expr) (m : Str) (ap : Pos) (cp : Pos) : Prop where
  base : ∀ env, attributeBase o m env (eval o env) = eval o env
  line : (ap.endLine == cp.line) = true
/-- o.m(e, ..) of a built-in kind -/
theorem pe_bmW {X : Cx} {o e : Expr} {es : List Expr} {name : Str} {ap cp : Pos} {T id : String} {r : V → List V → Hp → VK → Prop} {to : TE} {t : TA} (pa : PlainAttrs T) (slot : Slot T name id) (hty : typeOf (.builtin id) = pure (.type "method_descriptor")) (hm : MtR X id r) (ok : MOk o name ap e es cp) (ho : PE X o to) (ha : PA X (e :: es) t) : PE X (.Call (.Attribute o name ap) (e :: es) [] cp) (tBM X.K T r to t) :=
  pe_bm pa slot hty hm ho ha (ok.base _) (ok.few _) ok.line (ok.star _) (ok.plain _)
theorem pe_bmW0 {X : Cx} {o : Expr} {name : Str} {ap cp : Pos} {T id : String} {r : V → List V → Hp → VK → Prop} {to : TE} (pa : PlainAttrs T) (slot : Slot T name id) (hty : typeOf (.builtin id) = pure (.type "method_descriptor")) (hm : MtR X id r) (ok : MOk0 o name ap cp) (ho : PE X o to) : PE X (.Call (.Attribute o name ap) [] [] cp) (tBM0 X.K T r to) :=
  pe_bm0 pa slot hty hm ho (ok.base _) ok.line
theorem Sta.ownPut {B : Base} {σ : L2.St} {F H : Hp} {i : Nat} {xs : List α} (S : Sta B Γ σ F H) (hg : Γ[i]? = some (some (ownL T xs))) : ∃ p vs, σ[i]? = some (some (.ref p)) ∧ H p = some (.lst vs) ∧ All2 (T.r F) vs xs ∧ ∀ ws ys, All2 (T.r F) ws ys → Sta B (Γ.set i (some (ownL T ys))) σ F (upd H p (.lst ws)) := by
  obtain ⟨v, ps, hv, ⟨p, vs, rfl, hq, hp, hr⟩, ow⟩ := S.get hg
  refine ⟨p, vs, hv, hp, hr, fun ws ys hw => ?_⟩
  have hF : F p = none := (ow p ((hq p).mpr rfl)).1
  refine S.own_upd (e' := ownL T ys) hg rfl fun v3 ps3 hv3 ⟨p3, vs3, e3, hq3, hp3, hr3⟩ own3 => ?_
  rw [hv] at hv3; cases hv3
  obtain rfl : p = p3 := V.ref.inj e3
  refine ⟨ps3, fun b o q => by rw [upd_ne (ne_of_none q hF)]; exact S.sub b o q, Same.refl _, fun b o hb nb => by rw [upd_ne (fun z => nb ((hq3 b).mpr z))]; exact hb, fun b nb => ?_, fun _ _ h => h, fun q hq' => ?_, p, ws, rfl, hq3, upd_same, hw⟩
  · by_cases y : b = p
    · rw [y, upd_same]; exact fun z => nomatch z
    · rw [upd_ne y]; exact nb
  · obtain rfl : q = p := (hq3 q).mp hq'
    exact ⟨.inl hq', hF, by rw [upd_same]; (exact fun z => nomatch z), (own3 q hq').2.2.2⟩
section
variable {R : Rs ρ} {rt : Gm → ρ → Prop} {nx bk ct : Gm → Prop} {i : Nat} {x : Str} {px ap : Pos} {xs : List α}
/-- x.append(e) -/
theorem w_append (hs : slotOf N x 0 = some i) (hv : visB sc x = true) (hg : ∃ xs : List α, Γ[i]? = some (some (ownL T xs))) (h : EW c Γ e T fun Γ1 z => ∃ xs, Γ1[i]? = some (some (ownL T xs)) ∧ xs.length < sizeLine ∧ nx (Γ1.set i (some (ownL T (xs ++ [z])))))
    (hd : (x == ("__debug__" : Str)) = false := by decide +kernel) (hcd : (x == ("__classdict__" : Str)) = false := by decide +kernel) (ok : MOk (.Name x px) "append" ap e [] p := by exact ⟨fun _ => rfl, fun _ => rfl, rfl, fun _ => rfl, fun _ => rfl⟩) (hsw : ∀ env, swapsWith (.Call (.Attribute (.Name x px) "append" ap) [e] [] p) none pos.line env = pure false := by intro _; rfl) :
    S1 c Γ (.Expr (.Call (.Attribute (.Name x px) "append" ap) [e] [] p) pos) (⟨R, rt, nx, bk, ct⟩ : En ρ) := fun B σ F H hB S => by
  obtain ⟨X, rfl, rfl, rfl, rfl, rfl, rfl, nd, rfl, rfl, calm, room, pas⟩ := c
  refine of_ps (ps_expr (pe_bmW PySem.F.plainAttrs_list PySem.F.slot_list_append PySem.F.type_list_append mt_append ok (pe_var (slotOf_at hs) (visB_vis hv) hd hcd) (pa_cons peW pa_nil (ok.star _))) (hsw _)) ?_
  obtain ⟨xs0, hg⟩ := hg
  obtain ⟨p0, vs0, hv0, hp0, hr0, put0⟩ := S.ownPut hg
  refine ⟨_, hv0, .inl ⟨rfl, vs0, .inl (.inl hp0)⟩, h B σ F H S _ fun u z Γ1 F1 H1 S1 e1 r1 ⟨xs1, hg1, hl1, hn⟩ => ?_⟩
  obtain ⟨p1, vs1, hv1, hp1, hr1, put1⟩ := S1.ownPut hg1
  rw [hv0] at hv1; cases hv1
  exact ⟨p0, vs1, u, rfl, rfl, hp1, by rw [All2.length hr1]; exact hl1, _, F1, put1 _ _ (all2_snoc hr1 r1), hn⟩
/-- x[e] = f -/
theorem w_setAt {f : Expr} {pt : Pos} (hs : slotOf N x 0 = some i) (hv : visB sc x = true) (h : EW c Γ f T fun Γ1 z => (∃ xs : List α, Γ1[i]? = some (some (ownL T xs))) ∧ EW c Γ1 e tInt fun Γ2 k => ∃ xs j, Γ2[i]? = some (some (ownL T xs)) ∧ ixN xs.length k = some j ∧ nx (Γ2.set i (some (ownL T (xs.set j z)))))
    (hd : (x == ("__debug__" : Str)) = false := by decide +kernel) (hcd : (x == ("__classdict__" : Str)) = false := by decide +kernel)
    (hs1 : ∀ env, swapsWithSole [.Subscript (.Name x px) e pt] f pos.line env = pure false := by intro _; rfl) (hw : ∀ env, swappedStores [.Subscript (.Name x px) e pt] f env = pure none := by intro _; rfl)
    (ha : ∀ env v, assign (.Subscript (.Name x px) e pt) env v = (do
      let ov ← holding [v] (eval (.Name x px) env)
      let iv ← holding [v, ov] (eval e env)
      standAt pt
      holding [v, ov, iv] (setItem ov iv v)
      release [v, ov, iv] []) := by intro _ _; rfl) :
    S1 c Γ (.Assign [.Subscript (.Name x px) e pt] f pos) (⟨R, rt, nx, bk, ct⟩ : En ρ) := fun B σ F H hB S => by
  obtain ⟨X, rfl, rfl, rfl, rfl, rfl, rfl, nd, rfl, rfl, calm, room, pas⟩ := c
  refine of_ps (ps_asg peW (pg_sub (pe_var (i := i) (slotOf_at hs) (visB_vis hv) hd hcd) peW set_list (ha _)) (hs1 _) (hw _)) ?_
  refine h B σ F H S _ fun u z Γ1 F1 H1 S1 e1 r1 ⟨⟨xs0, hg0⟩, h1⟩ => ?_
  obtain ⟨p0, vs0, hv0, hp0, hr0, put0⟩ := S1.ownPut hg0
  refine ⟨_, hv0, h1 B σ F1 H1 S1 _ fun w k Γ2 F2 H2 S2 e2 r2 ⟨xs1, j, hg1, hj, hn⟩ => ?_⟩
  obtain ⟨p1, vs1, hv1, hp1, hr1, put1⟩ := S2.ownPut hg1
  rw [hv0] at hv1; cases hv1
  exact ⟨p0, vs1, k, j, rfl, r2, hp1, by rw [All2.length hr1]; exact hj, _, F2, put1 _ _ (all2_set hr1 (T.mono e2 r1)), hn⟩
end
end
end Px
/-! Px, eleventh part: things of any kind. -/
namespace Px
open PySem PySem.Spec PyProof.Rows L2
mutual
theorem dp_mono {K : PySem.W.Frag} {F F' : Hp} (e : Same F F') : ∀ (d : PyData) {v : V}, Dp K F v d → Dp K F' v d
  | .none, _, h => by cases h; exact .non
  | .bool b, _, h => by cases h; exact .bl b
  | .int i, _, h => by cases h; exact .int i
  | .str s, _, h => by cases h; exact .str s
  | .list ds, _, h => by
    cases h with
    | lst hs ha => exact .lst (sqL_mono e hs) (dpAll_mono e ds ha)
  | .tuple ds, _, h => by
    cases h with
    | tup hs ha => exact .tup (sqT_mono e hs) (dpAll_mono e ds ha)
  | .dict _, _, h => by cases h
theorem dpAll_mono {K : PySem.W.Frag} {F F' : Hp} (e : Same F F') : ∀ (ds : List PyData) {vs : List V}, DpAll K F vs ds → DpAll K F' vs ds
  | [], _, h => by cases h; exact .nil
  | d :: ds, _, h => by
    cases h with
    | cons h1 h2 => exact .cons (dp_mono e d h1) (dpAll_mono e ds h2)
end
theorem all_of_dp {K : PySem.W.Frag} {F : Hp} : ∀ {vs : List V} {ds : List PyData}, DpAll K F vs ds → All2 (Dp K F) vs ds
  | [], [], _ => trivial
  | _ :: _, _ :: _, h => by
    cases h with
    | cons h1 h2 => exact ⟨h1, all_of_dp h2⟩
  | [], _ :: _, h => by cases h
  | _ :: _, [], h => by cases h
theorem dp_of_all {K : PySem.W.Frag} {F : Hp} : ∀ {vs : List V} {ds : List PyData}, All2 (Dp K F) vs ds → DpAll K F vs ds
  | [], [], _ => .nil
  | _ :: _, _ :: _, h => .cons h.1 (dp_of_all h.2)
section
variable {K : PySem.W.Frag} {α β γ δ : Type}
/-- a thing of any kind -/
def tAny : Ty K PyData := ⟨fun F v d => Dp K F v d, fun e h => dp_mono e _ h⟩
/-- the things of a type, as data -/
def AsD (T : Ty K α) (f : α → PyData) : Prop := ∀ F v a, T.r F v a → (tAny (K := K)).r F v (f a)
theorem asD_int : AsD (tInt (K := K)) .int := fun F v a h => by rw [show v = .int a from h]; exact .int a
theorem asD_bool : AsD (tBool (K := K)) .bool := fun F v a h => by rw [show v = .bl a from h]; exact .bl a
theorem asD_str : AsD (tStr (K := K)) .str := fun F v a h => by rw [show v = .str a from h]; exact .str a
theorem asD_non : AsD (tNon (K := K)) (fun _ => .none) := fun F v a h => by rw [show v = .non from h]; exact .non
theorem asD_any : AsD (tAny (K := K)) (fun d => d) := fun F v a h => h
theorem dp_all {R : V → α → Prop} {f : α → PyData} {F : Hp} (h : ∀ v a, R v a → Dp K F v (f a)) : ∀ {vs : List V} {as : List α}, All2 R vs as → DpAll K F vs (as.map f)
  | [], [], _ => .nil
  | _ :: _, _ :: _, q => .cons (h _ _ q.1) (dp_all h q.2)
theorem asD_tup {T : Ty K α} {f : α → PyData} (h : AsD T f) : AsD (tTup T) (fun xs => .tuple (xs.map f)) := fun F v a ⟨p, vs, e, hp, r⟩ => by
  subst e; exact .tup hp (dp_all (h F) r)
theorem asD_seq {T : Ty K α} {f : α → PyData} (h : AsD T f) : AsD (tSeq T) (fun xs => .list (xs.map f)) := fun F v a ⟨p, vs, e, hp, r⟩ => by
  subst e; exact .lst hp (dp_all (h F) r)
theorem asD_lst {T : Ty K α} {f : α → PyData} (h : AsD T f) : AsD (tLst T) (fun xs => .list (xs.map f)) := fun F v a q => asD_seq h F v a (seq_of_lst q)
theorem asD_T1 {A : Ty K α} {f : α → PyData} (h : AsD A f) : AsD (tT1 A) (fun x => .tuple [f x]) := fun F v a ⟨p, vs, e, hp, x, e2, r⟩ => by
  subst e; subst e2; exact .tup hp (.cons (h _ _ _ r) .nil)
theorem asD_T2 {A : Ty K α} {B : Ty K β} {f : α → PyData} {g : β → PyData} (h : AsD A f) (h2 : AsD B g) : AsD (tT2 A B) (fun x => .tuple [f x.1, g x.2]) := fun F v a ⟨p, vs, e, hp, x, y, e2, r, r2⟩ => by
  subst e; subst e2; exact .tup hp (.cons (h _ _ _ r) (.cons (h2 _ _ _ r2) .nil))
theorem asD_T3 {A : Ty K α} {B : Ty K β} {C : Ty K γ} {f : α → PyData} {g : β → PyData} {g3 : γ → PyData} (h : AsD A f) (h2 : AsD B g) (h3 : AsD C g3) : AsD (tT3 A B C) (fun x => .tuple [f x.1, g x.2.1, g3 x.2.2]) := fun F v a ⟨p, vs, e, hp, x, y, z, e2, r, r2, r3⟩ => by
  subst e; subst e2; exact .tup hp (.cons (h _ _ _ r) (.cons (h2 _ _ _ r2) (.cons (h3 _ _ _ r3) .nil)))
theorem asD_T4 {A : Ty K α} {B : Ty K β} {C : Ty K γ} {D : Ty K δ} {f : α → PyData} {g : β → PyData} {g3 : γ → PyData} {g4 : δ → PyData} (h : AsD A f) (h2 : AsD B g) (h3 : AsD C g3) (h4 : AsD D g4) : AsD (tT4 A B C D) (fun x => .tuple [f x.1, g x.2.1, g3 x.2.2.1, g4 x.2.2.2]) := fun F v a ⟨p, vs, e, hp, x, y, z, u, e2, r, r2, r3, r4⟩ => by
  subst e; subst e2; exact .tup hp (.cons (h _ _ _ r) (.cons (h2 _ _ _ r2) (.cons (h3 _ _ _ r3) (.cons (h4 _ _ _ r4) .nil))))
theorem any_int {F : Hp} {v : V} {i : Int} (h : (tAny (K := K)).r F v (.int i)) : (tInt (K := K)).r F v i := by cases (show Dp K F v (.int i) from h); rfl
theorem any_bool {F : Hp} {v : V} {i : Bool} (h : (tAny (K := K)).r F v (.bool i)) : (tBool (K := K)).r F v i := by cases (show Dp K F v (.bool i) from h); rfl
theorem any_str {F : Hp} {v : V} {i : Str} (h : (tAny (K := K)).r F v (.str i)) : (tStr (K := K)).r F v i := by cases (show Dp K F v (.str i) from h); rfl
theorem any_tup {F : Hp} {v : V} {ds : List PyData} (h : (tAny (K := K)).r F v (.tuple ds)) : (tTup (tAny (K := K))).r F v ds := by
  cases (show Dp K F v (.tuple ds) from h) with
  | tup hs ha => exact ⟨_, _, rfl, hs, all_of_dp ha⟩
theorem any_lst {F : Hp} {v : V} {ds : List PyData} (h : (tAny (K := K)).r F v (.list ds)) : (tSeq (tAny (K := K))).r F v ds := by
  cases (show Dp K F v (.list ds) from h) with
  | lst hs ha => exact ⟨_, _, rfl, hs, all_of_dp ha⟩
theorem tup_any {F : Hp} {v : V} {ds : List PyData} (h : (tTup (tAny (K := K))).r F v ds) : (tAny (K := K)).r F v (.tuple ds) := by
  have := asD_tup asD_any F v ds h
  simpa using this
theorem lst_any {F : Hp} {v : V} {ds : List PyData} (h : (tLst (tAny (K := K))).r F v ds) : (tAny (K := K)).r F v (.list ds) := by
  have := asD_lst asD_any F v ds h
  simpa using this
theorem seq_any {F : Hp} {v : V} {ds : List PyData} (h : (tSeq (tAny (K := K))).r F v ds) : (tAny (K := K)).r F v (.list ds) := by
  have := asD_seq asD_any F v ds h
  simpa using this
theorem any_T2 {F : Hp} {v : V} {x y : PyData} (h : (tAny (K := K)).r F v (.tuple [x, y])) : (tT2 (tAny (K := K)) tAny).r F v (x, y) := by
  obtain ⟨p, vs, e, hp, r⟩ := any_tup h
  match vs, r with
  | [u, w], ⟨r1, r2, _⟩ => exact ⟨p, _, e, hp, u, w, rfl, r1, r2⟩
/-! ### what kind of thing -/
def tyName : PyData → String
  | .none => "NoneType"
  | .bool _ => "bool"
  | .int _ => "int"
  | .str _ => "str"
  | .list _ => "list"
  | .tuple _ => "tuple"
  | .dict _ => "dict"
theorem ty_any {F : Hp} {v : V} {d : PyData} (h : (tAny (K := K)).r F v d) : TyX K F v (.type (tyName d)) := by
  cases (show Dp K F v d from h) with
  | non => exact .base .non
  | bl b => exact .base (.bl b)
  | int i => exact .base (.int i)
  | str s => exact .base (.str s)
  | lst hs ha =>
    rcases hs with (h | ⟨o, h⟩) | ⟨o, its, n, h, h2, _⟩
    · exact .base (.lst h)
    · exact .base (.frz h)
    · first | exact .kList h h2 | exact .kList h h2.1 | exact .kList h (by simp_all)
  | tup hs ha =>
    rcases hs with (h | ⟨o, h⟩) | ⟨o, its, n, h, h2, _⟩
    · exact .base (.tup h)
    · exact .fTuple h
    · first | exact .kTuple h h2 | exact .kTuple h h2.1 | exact .kTuple h (by simp_all)
def dInt : PyData → Bool
  | .int _ => true
  | .bool _ => true
  | _ => false
def dBool : PyData → Bool
  | .bool _ => true
  | _ => false
def dStr : PyData → Bool
  | .str _ => true
  | _ => false
def dTup : PyData → Bool
  | .tuple _ => true
  | _ => false
def dLst : PyData → Bool
  | .list _ => true
  | _ => false
theorem kI (d : PyData) : PySem.W.kitOne K (.type (tyName d)) (.type "int") = some (dInt d) := match d with
  | .none => kit_ty (show kitB "NoneType" "int" = some false by decide +kernel)
  | .bool _ => kit_ty (show kitB "bool" "int" = some true by decide +kernel)
  | .int _ => kit_ty (show kitB "int" "int" = some true by decide +kernel)
  | .str _ => kit_ty (show kitB "str" "int" = some false by decide +kernel)
  | .list _ => kit_ty (show kitB "list" "int" = some false by decide +kernel)
  | .tuple _ => kit_ty (show kitB "tuple" "int" = some false by decide +kernel)
  | .dict _ => kit_ty (show kitB "dict" "int" = some false by decide +kernel)
theorem kB (d : PyData) : PySem.W.kitOne K (.type (tyName d)) (.type "bool") = some (dBool d) := match d with
  | .none => kit_ty (show kitB "NoneType" "bool" = some false by decide +kernel)
  | .bool _ => kit_ty (show kitB "bool" "bool" = some true by decide +kernel)
  | .int _ => kit_ty (show kitB "int" "bool" = some false by decide +kernel)
  | .str _ => kit_ty (show kitB "str" "bool" = some false by decide +kernel)
  | .list _ => kit_ty (show kitB "list" "bool" = some false by decide +kernel)
  | .tuple _ => kit_ty (show kitB "tuple" "bool" = some false by decide +kernel)
  | .dict _ => kit_ty (show kitB "dict" "bool" = some false by decide +kernel)
theorem kS (d : PyData) : PySem.W.kitOne K (.type (tyName d)) (.type "str") = some (dStr d) := match d with
  | .none => kit_ty (show kitB "NoneType" "str" = some false by decide +kernel)
  | .bool _ => kit_ty (show kitB "bool" "str" = some false by decide +kernel)
  | .int _ => kit_ty (show kitB "int" "str" = some false by decide +kernel)
  | .str _ => kit_ty (show kitB "str" "str" = some true by decide +kernel)
  | .list _ => kit_ty (show kitB "list" "str" = some false by decide +kernel)
  | .tuple _ => kit_ty (show kitB "tuple" "str" = some false by decide +kernel)
  | .dict _ => kit_ty (show kitB "dict" "str" = some false by decide +kernel)
theorem kT (d : PyData) : PySem.W.kitOne K (.type (tyName d)) (.type "tuple") = some (dTup d) := match d with
  | .none => kit_ty (show kitB "NoneType" "tuple" = some false by decide +kernel)
  | .bool _ => kit_ty (show kitB "bool" "tuple" = some false by decide +kernel)
  | .int _ => kit_ty (show kitB "int" "tuple" = some false by decide +kernel)
  | .str _ => kit_ty (show kitB "str" "tuple" = some false by decide +kernel)
  | .list _ => kit_ty (show kitB "list" "tuple" = some false by decide +kernel)
  | .tuple _ => kit_ty (show kitB "tuple" "tuple" = some true by decide +kernel)
  | .dict _ => kit_ty (show kitB "dict" "tuple" = some false by decide +kernel)
theorem kL (d : PyData) : PySem.W.kitOne K (.type (tyName d)) (.type "list") = some (dLst d) := match d with
  | .none => kit_ty (show kitB "NoneType" "list" = some false by decide +kernel)
  | .bool _ => kit_ty (show kitB "bool" "list" = some false by decide +kernel)
  | .int _ => kit_ty (show kitB "int" "list" = some false by decide +kernel)
  | .str _ => kit_ty (show kitB "str" "list" = some false by decide +kernel)
  | .list _ => kit_ty (show kitB "list" "list" = some true by decide +kernel)
  | .tuple _ => kit_ty (show kitB "tuple" "list" = some false by decide +kernel)
  | .dict _ => kit_ty (show kitB "dict" "list" = some false by decide +kernel)
theorem kTL (d : PyData) : PySem.W.kitAny K (.type (tyName d)) [.type "tuple", .type "list"] = some (dTup d || dLst d) :=
  kitAny_cons (kT d) (fun h => kitAny_cons (kL d) (fun h2 => by rw [h, h2]; rfl) (fun h2 => by rw [h, h2]; rfl)) (fun h => by rw [h]; rfl)
end
section
variable {P : Program} {w : World} {K : PySem.W.Frag} {mg : Str → Option Value} {base : Heap} {lv : Nat} {N : List Str} {sc : Scope} {fn : Str → Bool}
variable {α β γ δ ρ : Type}
variable {c : Ctx P w K mg base lv N sc fn} {Γ : Gm} {e a b d tg iter elt : Expr} {lo hi : Option Expr} {es ts ifs : List Expr} {pos pos' p p2 : Pos} {T : Ty K α} {A : Ty K α} {B' : Ty K β} {C : Ty K γ} {D' : Ty K δ}
/-! ### isinstance -/
theorem ew_isiD (bi : Bi mg) {x : Str} {n : String} {k : Gm → Bool → Prop} (hi : glB sc "isinstance" = true) (hg : glB sc x = true) (hm : mg x = none) (hv : bootBuiltins x = some (.type n)) (ans : PyData → Bool) (hk : ∀ d, PySem.W.kitOne K (.type (tyName d)) (.type n) = some (ans d))
    (h : EW c Γ a tAny fun Γ1 z => k Γ1 (ans z)) (hn : x ≠ "__name__" := by decide +kernel) (hd : (x == ("__debug__" : Str)) = false := by decide +kernel) (he : ∀ env, starEach [a, .Name x pos'] env = (false, eval a env) :: starEach [.Name x pos'] env := by intro _; rfl) (he2 : ∀ env, starEach [.Name x pos'] env = (false, eval (.Name x pos') env) :: starEach [] env := by intro _; rfl) (hpl : ∀ env, (backTo pos (starEach [.Name x pos'] env)).any (·.1) = false := by intro _; rfl) :
    EW c Γ (.Call (.Name "isinstance" p) [a, .Name x pos'] [] pos) tBool k :=
  ew_isi bi hi hg hm hv ans (fun F v z r => ⟨_, ty_any r, hk z⟩) h hn hd he he2 hpl
theorem ew_isiI (bi : Bi mg) {k : Gm → Bool → Prop} (hi : glB sc "isinstance" = true) (hg : glB sc "int" = true) (h : EW c Γ a tAny fun Γ1 z => k Γ1 (dInt z)) (he : ∀ env, starEach [a, .Name "int" pos'] env = (false, eval a env) :: starEach [.Name "int" pos'] env := by intro _; rfl) : EW c Γ (.Call (.Name "isinstance" p) [a, .Name "int" pos'] [] pos) tBool k := ew_isiD bi hi hg bi.int (by decide +kernel) dInt kI h (he := he)
theorem ew_isiB (bi : Bi mg) {k : Gm → Bool → Prop} (hi : glB sc "isinstance" = true) (hg : glB sc "bool" = true) (h : EW c Γ a tAny fun Γ1 z => k Γ1 (dBool z)) (he : ∀ env, starEach [a, .Name "bool" pos'] env = (false, eval a env) :: starEach [.Name "bool" pos'] env := by intro _; rfl) : EW c Γ (.Call (.Name "isinstance" p) [a, .Name "bool" pos'] [] pos) tBool k := ew_isiD bi hi hg bi.bool (by decide +kernel) dBool kB h (he := he)
theorem ew_isiS (bi : Bi mg) {k : Gm → Bool → Prop} (hi : glB sc "isinstance" = true) (hg : glB sc "str" = true) (h : EW c Γ a tAny fun Γ1 z => k Γ1 (dStr z)) (he : ∀ env, starEach [a, .Name "str" pos'] env = (false, eval a env) :: starEach [.Name "str" pos'] env := by intro _; rfl) : EW c Γ (.Call (.Name "isinstance" p) [a, .Name "str" pos'] [] pos) tBool k := ew_isiD bi hi hg bi.str (by decide +kernel) dStr kS h (he := he)
theorem ew_isiT (bi : Bi mg) {k : Gm → Bool → Prop} (hi : glB sc "isinstance" = true) (hg : glB sc "tuple" = true) (h : EW c Γ a tAny fun Γ1 z => k Γ1 (dTup z)) (he : ∀ env, starEach [a, .Name "tuple" pos'] env = (false, eval a env) :: starEach [.Name "tuple" pos'] env := by intro _; rfl) : EW c Γ (.Call (.Name "isinstance" p) [a, .Name "tuple" pos'] [] pos) tBool k := ew_isiD bi hi hg bi.tuple (by decide +kernel) dTup kT h (he := he)
theorem ew_isiL (bi : Bi mg) {k : Gm → Bool → Prop} (hi : glB sc "isinstance" = true) (hg : glB sc "list" = true) (h : EW c Γ a tAny fun Γ1 z => k Γ1 (dLst z)) (he : ∀ env, starEach [a, .Name "list" pos'] env = (false, eval a env) :: starEach [.Name "list" pos'] env := by intro _; rfl) : EW c Γ (.Call (.Name "isinstance" p) [a, .Name "list" pos'] [] pos) tBool k := ew_isiD bi hi hg bi.list (by decide +kernel) dLst kL h (he := he)
/-- (tuple, list) -/
def tTL : Ty K Unit := ⟨fun F v _ => ∃ q, v = .ref q ∧ F q = some (.tup [.ty "tuple", .ty "list"]), fun e ⟨q, h1, h2⟩ => ⟨q, h1, e _ _ h2⟩⟩
theorem ew_TL (bi : Bi mg) {x1} {p1 p2 : Pos} {k : Gm → Unit → Prop} (h1 : glB sc "tuple" = true) (h2 : glB sc "list" = true) (hk : k Γ ()) : EW c Γ (.Tuple [.Name "tuple" p1, .Name "list" p2] x1 pos) tTL k := fun B σ F H S Q q => by
  have c1 : EW c Γ (.Name "tuple" p1) (tCls (K := K)) fun G n => G = Γ ∧ n = "tuple" := ew_cls h1 bi.tuple (by decide +kernel) ⟨rfl, rfl⟩
  have c2 : EW c Γ (.Name "list" p2) (tCls (K := K)) fun G n => G = Γ ∧ n = "list" := ew_cls h2 bi.list (by decide +kernel) ⟨rfl, rfl⟩
  refine of_pe (pe_tup (pa_cons peW (pa_cons peW pa_nil (by rfl)) (by rfl))) ?_
  refine c1 B σ F H S _ fun v n Γ1 F1 H1 S1 e1 r1 ⟨z1, z2⟩ => ?_
  subst z1; subst z2
  refine c2 B σ F1 H1 S1 _ fun u n Γ2 F2 H2 S2 e2 r2 ⟨z1, z2⟩ => ?_
  subst z1; subst z2
  have hv : v = .ty "tuple" := r1
  have hu : u = .ty "list" := r2
  subst hv; subst hu
  refine ⟨by show 2 ≤ sizeLine; decide, fun l hl => ?_⟩
  have st := Step.frozen (o := .tup [.ty "tuple", .ty "list"]) S2.sub hl
  exact q _ () _ _ _ (S2.step st) ((e1.trans e2).trans st.ff) ⟨l, rfl, upd_same⟩ hk
theorem ew_isiTL (bi : Bi mg) {x1} {p1 p2 p3 : Pos} {k : Gm → Bool → Prop} (hi : glB sc "isinstance" = true) (h1 : glB sc "tuple" = true) (h2 : glB sc "list" = true) (h : EW c Γ a tAny fun Γ1 z => k Γ1 (dTup z || dLst z)) (he : ∀ env, starEach [a, .Tuple [.Name "tuple" p1, .Name "list" p2] x1 p3] env = (false, eval a env) :: starEach [.Tuple [.Name "tuple" p1, .Name "list" p2] x1 p3] env := by intro _; rfl) (he2 : ∀ env, starEach [.Tuple [.Name "tuple" p1, .Name "list" p2] x1 p3] env = (false, eval (.Tuple [.Name "tuple" p1, .Name "list" p2] x1 p3) env) :: starEach [] env := by intro _; rfl) (hpl : ∀ env, (backTo pos (starEach [.Tuple [.Name "tuple" p1, .Name "list" p2] x1 p3] env)).any (·.1) = false := by intro _; rfl) :
    EW c Γ (.Call (.Name "isinstance" p) [a, .Tuple [.Name "tuple" p1, .Name "list" p2] x1 p3] [] pos) tBool k :=
  ew_B (id := "isinstance") (i' := "isinstance") (r := rIsiT K) (fun hK _ => by rw [← hK]; exact call_isiT) hi bi.isinstance (by decide +kernel) (ews_cons (h.imp fun _ z hz => ews_cons (ew_TL bi h1 h2 (ews_nil fun F H xs S r Q q => match xs, r with
    | [v, u], ⟨r, ⟨l, r', r''⟩, _⟩ => by
      subst r'
      refine ⟨v, l, _, .type (tyName z), [.type "tuple", .type "list"], _, rfl, S _ _ r'', .cons (.ty "tuple") (.cons (.ty "list") .nil), tyB_mono S (ty_any r), kTL z, q _ F H _ (Step.refl S) rfl hz⟩)) he2) he) (he := he) (hpl := hpl)
/-! ### numbers of truth -/
def b2i (b : Bool) : Int := if b = true then 1 else 0
def rBI (f : Bool → Int → V) : R2 := fun x y H Q => ∃ i j, x = .bl i ∧ y = .int j ∧ Q (f i j) H
def rIB (f : Int → Bool → V) : R2 := fun x y H Q => ∃ i j, x = .int i ∧ y = .bl j ∧ Q (f i j) H
theorem op_addBI {X : Cx} : OpR X (binaryOp .Add) (rBI fun b i => .int (b2i b + i)) := by
  intro pins s σ H x y v u Q I rx ry h
  obtain ⟨i, j, rfl, rfl, q⟩ := h
  cases rx
  obtain ⟨t, rfl⟩ := ry
  exact PySem.IntBool.add_bool_int ⟨.int _, H, I.tok _, ⟨_, rfl⟩, q⟩
theorem op_subBI {X : Cx} : OpR X (binaryOp .Sub) (rBI fun b i => .int (b2i b - i)) := by
  intro pins s σ H x y v u Q I rx ry h
  obtain ⟨i, j, rfl, rfl, q⟩ := h
  cases rx
  obtain ⟨t, rfl⟩ := ry
  exact PySem.IntBool.sub_bool_int ⟨.int _, H, I.tok _, ⟨_, rfl⟩, q⟩
theorem op_mulBI {X : Cx} : OpR X (binaryOp .Mult) (rBI fun b i => .int (b2i b * i)) := by
  intro pins s σ H x y v u Q I rx ry h
  obtain ⟨i, j, rfl, rfl, q⟩ := h
  cases rx
  obtain ⟨t, rfl⟩ := ry
  exact PySem.IntBool.mul_bool_int ⟨.int _, H, I.tok _, ⟨_, rfl⟩, q⟩
theorem op_subIB {X : Cx} : OpR X (binaryOp .Sub) (rIB fun i b => .int (i - b2i b)) := by
  intro pins s σ H x y v u Q I rx ry h
  obtain ⟨i, j, rfl, rfl, q⟩ := h
  cases ry
  obtain ⟨t, rfl⟩ := rx
  exact PySem.IntBool.sub_int_bool ⟨.int _, H, I.tok _, ⟨_, rfl⟩, q⟩
theorem ew_addBI {k : Gm → Int → Prop} (h : EW c Γ a tBool fun Γ1 i => EW c Γ1 b tInt fun Γ2 j => k Γ2 (b2i i + j)) : EW c Γ (.BinOp a .Add b pos) tInt k :=
  ew_bin (fun _ => op_addBI) (h.imp fun _ i h => h.imp fun _ j h => fun F H x y S hx hy Q q => ⟨i, j, hx, hy, q _ F H _ (Step.refl S) rfl h⟩)
theorem ew_subBI {k : Gm → Int → Prop} (h : EW c Γ a tBool fun Γ1 i => EW c Γ1 b tInt fun Γ2 j => k Γ2 (b2i i - j)) : EW c Γ (.BinOp a .Sub b pos) tInt k :=
  ew_bin (fun _ => op_subBI) (h.imp fun _ i h => h.imp fun _ j h => fun F H x y S hx hy Q q => ⟨i, j, hx, hy, q _ F H _ (Step.refl S) rfl h⟩)
theorem ew_mulBI {k : Gm → Int → Prop} (h : EW c Γ a tBool fun Γ1 i => EW c Γ1 b tInt fun Γ2 j => k Γ2 (b2i i * j)) : EW c Γ (.BinOp a .Mult b pos) tInt k :=
  ew_bin (fun _ => op_mulBI) (h.imp fun _ i h => h.imp fun _ j h => fun F H x y S hx hy Q q => ⟨i, j, hx, hy, q _ F H _ (Step.refl S) rfl h⟩)
theorem ew_subIB {k : Gm → Int → Prop} (h : EW c Γ a tInt fun Γ1 i => EW c Γ1 b tBool fun Γ2 j => k Γ2 (i - b2i j)) : EW c Γ (.BinOp a .Sub b pos) tInt k :=
  ew_bin (fun _ => op_subIB) (h.imp fun _ i h => h.imp fun _ j h => fun F H x y S hx hy Q q => ⟨i, j, hx, hy, q _ F H _ (Step.refl S) rfl h⟩)
/-- text.upper() -/
theorem ew_upper {ap : Pos} {k : Gm → Str → Prop} (h : EW c Γ a tStr fun Γ1 s => s.length ≤ 5592405 ∧ k Γ1 (Txt.upper s)) (hb : ∀ env, attributeBase a "upper" env (eval a env) = eval a env := by intro _; rfl) (hl : (ap.endLine == pos.line) = true := by rfl) : EW c Γ (.Call (.Attribute a "upper" ap) [] [] pos) tStr k := fun B σ F H S Q q => by
  refine of_pe (pe_upper peW (hb _) hl) (h B σ F H S _ fun v s Γ1 F1 H1 S1 e1 r1 h1 => ?_)
  exact ⟨⟨s, r1⟩, s, r1, rfl, h1.1, q _ _ Γ1 F1 H1 S1 e1 rfl h1.2⟩
/-! ### the items of a thing -/
def isSq : PyData → Prop
  | .tuple _ => True
  | .list _ => True
  | _ => False
def itemsD : PyData → List PyData
  | .tuple ds => ds
  | .list ds => ds
  | _ => []
theorem any_items {F : Hp} {v : V} {z : PyData} (h : (tAny (K := K)).r F v z) (hz : isSq z) : ∃ q ys, v = .ref q ∧ (SqL K F q ys ∨ SqT K F q ys) ∧ All2 ((tAny (K := K)).r F) ys (itemsD z) := by
  cases (show Dp K F v z from h) with
  | lst hs ha => exact ⟨_, _, rfl, .inl hs, all_of_dp ha⟩
  | tup hs ha => exact ⟨_, _, rfl, .inr hs, all_of_dp ha⟩
  | _ => exact hz.elim
theorem el_listA (bi : Bi mg) {k : Gm → List PyData → Prop} (hg : glB sc "list" = true) (h : EW c Γ a tAny fun Γ1 z => isSq z ∧ k Γ1 (itemsD z)) (he : ∀ env, starEach [a] env = (false, eval a env) :: starEach [] env := by intro _; rfl) : EL c Γ (.Call (.Name "list" p) [a] [] pos) tAny k := fun B σ F H S Q q => by
  obtain ⟨X, rfl, rfl, rfl, rfl, rfl, rfl, nd, rfl, rfl, calm, room, pas⟩ := c
  refine of_pe (pe_callTy (T := "list") call_list_of (glB_gl hg) bi.list (by decide +kernel) (pa_cons peW pa_nil (he _)) (by decide +kernel) (by decide +kernel) (he _) rfl) (h B σ F H S _ fun v z Γ1 F1 H1 S1 e1 r1 h1 => ?_)
  obtain ⟨q1, ys, rfl, hq, hr⟩ := any_items r1 h1.1
  refine ⟨q1, ys, rfl, hq.elim (fun y => .inl (sqL_mono S1.sub y)) (fun y => .inr (sqT_mono S1.sub y)), fun l hl => ?_⟩
  obtain ⟨S4, b1, b2, b3⟩ := S1.make (o := .lst ys) hl
  exact q l ys _ Γ1 _ _ S4 e1 b1 b3 b2 upd_same hr h1.2
/-! ### own lists -/
/-- x[lo:hi] of an own list -/
theorem el_slO {i : Nat} {x : Str} {px : Pos} {k : Gm → List α → Prop} (hs : slotOf N x 0 = some i) (hv : visB sc x = true) (hg : ∃ xs : List α, Γ[i]? = some (some (ownL T xs))) (h : OW c Γ lo fun Γ2 l => OW c Γ2 hi fun Γ3 u => ∃ xs, Γ3[i]? = some (some (ownL T xs)) ∧ k Γ3 (cutA xs l u))
    (hd : (x == ("__debug__" : Str)) = false := by decide +kernel) (hcd : (x == ("__classdict__" : Str)) = false := by decide +kernel) : EL c Γ (.Subscript (.Name x px) (.Slice lo hi none p2) pos) T k := fun B σ F H S Q q => by
  obtain ⟨X, rfl, rfl, rfl, rfl, rfl, rfl, nd, rfl, rfl, calm, room, pas⟩ := c
  refine of_pe (pe_slice sl_list (pe_var (i := i) (slotOf_at hs) (visB_vis hv) hd hcd) poW poW) ?_
  obtain ⟨xs0, hg⟩ := hg
  obtain ⟨p0, vs0, hv0, hp0, hr0, _⟩ := S.ownPut hg
  refine ⟨_, hv0, h B σ F H S _ fun l Γ2 F2 H2 S2 e2 h2 => h2 B σ F2 H2 S2 _ fun u Γ3 F3 H3 S3 e3 ⟨xs, hg3, h3⟩ => ?_⟩
  obtain ⟨p1, vs1, hv1, hp1, hr1, _⟩ := S3.ownPut hg3
  rw [hv0] at hv1; cases hv1
  refine ⟨p0, vs1, rfl, .inl (.inl hp1), fun l1 hl => ?_⟩
  obtain ⟨S4, b1, b2, b3⟩ := S3.make (o := .lst (cutV vs1 l u)) hl
  exact q l1 _ _ Γ3 _ _ S4 (e2.trans e3) b1 b3 b2 upd_same (all2_cut hr1 l u) h3
/-- e[::-1] of a list -/
theorem el_rev {k : Gm → List α → Prop} {j1} {p1 p3 p4 : Pos} (h : EW c Γ a (tSeq T) fun Γ1 xs => k Γ1 xs.reverse) : EL c Γ (.Subscript a (.Slice none none (some (.UnaryOp .USub (.Constant (.int 1) j1 p1) p3)) p4) pos) T k := fun B σ F H S Q q => by
  obtain ⟨X, rfl, rfl, rfl, rfl, rfl, rfl, nd, rfl, rfl, calm, room, pas⟩ := c
  refine of_pe (pe_revL peW) (h B σ F H S _ fun v xs Γ1 F1 H1 S1 e1 r1 h1 => ?_)
  obtain ⟨q1, vs, rfl, hq, hv⟩ := r1
  refine ⟨q1, vs, rfl, sqL_mono S1.sub hq, fun l hl => ?_⟩
  obtain ⟨S4, b1, b2, b3⟩ := S1.make (o := .lst vs.reverse) hl
  exact q l _ _ Γ1 _ _ S4 e1 b1 b3 b2 upd_same (All2.reverse hv) h1
theorem all2_erase {α β : Type} {R : α → β → Prop} : ∀ {xs : List α} {ys : List β} {j : Nat}, All2 R xs ys → All2 R (xs.eraseIdx j) (ys.eraseIdx j)
  | [], [], _, h => h
  | _ :: _, _ :: _, 0, h => h.2
  | _ :: _, _ :: _, j + 1, h => ⟨h.1, all2_erase (j := j) h.2⟩
section
variable {R : Rs ρ} {rt : Gm → ρ → Prop} {nx bk ct : Gm → Prop} {i : Nat} {x : Str} {px ap : Pos} {xs : List α} {f : Expr}
/-- x.pop(e) -/
theorem w_popAt (hs : slotOf N x 0 = some i) (hv : visB sc x = true) (hg : ∃ xs : List α, Γ[i]? = some (some (ownL T xs))) (h : EW c Γ e tInt fun Γ1 z => ∃ xs j, Γ1[i]? = some (some (ownL T xs)) ∧ -(2 ^ 63) ≤ z ∧ z < 2 ^ 63 ∧ ixN xs.length z = some j ∧ nx (Γ1.set i (some (ownL T (xs.eraseIdx j)))))
    (hd : (x == ("__debug__" : Str)) = false := by decide +kernel) (hcd : (x == ("__classdict__" : Str)) = false := by decide +kernel) (ok : MOk (.Name x px) "pop" ap e [] p := by exact ⟨fun _ => rfl, fun _ => rfl, rfl, fun _ => rfl, fun _ => rfl⟩) (hsw : ∀ env, swapsWith (.Call (.Attribute (.Name x px) "pop" ap) [e] [] p) none pos.line env = pure false := by intro _; rfl) :
    S1 c Γ (.Expr (.Call (.Attribute (.Name x px) "pop" ap) [e] [] p) pos) (⟨R, rt, nx, bk, ct⟩ : En ρ) := fun B σ F H hB S => by
  obtain ⟨X, rfl, rfl, rfl, rfl, rfl, rfl, nd, rfl, rfl, calm, room, pas⟩ := c
  refine of_ps (ps_expr (pe_bmW PySem.F.plainAttrs_list PySem.F.slot_list_pop PySem.F.type_list_pop mt_popAt ok (pe_var (slotOf_at hs) (visB_vis hv) hd hcd) (pa_cons peW pa_nil (ok.star _))) (hsw _)) ?_
  obtain ⟨xs0, hg⟩ := hg
  obtain ⟨p0, vs0, hv0, hp0, hr0, put0⟩ := S.ownPut hg
  refine ⟨_, hv0, .inl ⟨rfl, vs0, .inl (.inl hp0)⟩, h B σ F H S _ fun u z Γ1 F1 H1 S1 e1 r1 ⟨xs1, j, hg1, z1, z2, hj, hn⟩ => ?_⟩
  obtain ⟨p1, vs1, hv1, hp1, hr1, put1⟩ := S1.ownPut hg1
  rw [hv0] at hv1; cases hv1
  obtain ⟨k1, k2, _, _⟩ := ixN_seq hj
  have hl := All2.length hr1
  have hz : u = .int z := r1
  subst hz
  exact ⟨p0, vs1, z, j, vs1[j]'(by omega), rfl, rfl, hp1, z1, z2, by rw [hl]; exact k1, List.getElem?_eq_getElem (by omega), _, F1, put1 _ _ (all2_erase hr1), hn⟩
/-- x.insert(e, f) -/
theorem w_insert (hs : slotOf N x 0 = some i) (hv : visB sc x = true) (hg : ∃ xs : List α, Γ[i]? = some (some (ownL T xs))) (h : EW c Γ e tInt fun Γ1 z => EW c Γ1 f T fun Γ2 y => ∃ xs, Γ2[i]? = some (some (ownL T xs)) ∧ 0 ≤ z ∧ z < 2 ^ 63 ∧ xs.length < sizeLine ∧ nx (Γ2.set i (some (ownL T (xs.take z.toNat ++ [y] ++ xs.drop z.toNat)))))
    (hd : (x == ("__debug__" : Str)) = false := by decide +kernel) (hcd : (x == ("__classdict__" : Str)) = false := by decide +kernel) (ok : MOk (.Name x px) "insert" ap e [f] p := by exact ⟨fun _ => rfl, fun _ => rfl, rfl, fun _ => rfl, fun _ => rfl⟩) (hsw : ∀ env, swapsWith (.Call (.Attribute (.Name x px) "insert" ap) [e, f] [] p) none pos.line env = pure false := by intro _; rfl) (he2 : ∀ env, starEach [f] env = (false, eval f env) :: starEach [] env := by intro _; rfl) :
    S1 c Γ (.Expr (.Call (.Attribute (.Name x px) "insert" ap) [e, f] [] p) pos) (⟨R, rt, nx, bk, ct⟩ : En ρ) := fun B σ F H hB S => by
  obtain ⟨X, rfl, rfl, rfl, rfl, rfl, rfl, nd, rfl, rfl, calm, room, pas⟩ := c
  refine of_ps (ps_expr (pe_bmW PySem.F.plainAttrs_list PySem.F.slot_list_insert PySem.F.type_list_insert mt_insert ok (pe_var (slotOf_at hs) (visB_vis hv) hd hcd) (pa_cons peW (pa_cons peW pa_nil (he2 _)) (ok.star _))) (hsw _)) ?_
  obtain ⟨xs0, hg⟩ := hg
  obtain ⟨p0, vs0, hv0, hp0, hr0, put0⟩ := S.ownPut hg
  refine ⟨_, hv0, .inl ⟨rfl, vs0, .inl (.inl hp0)⟩, h B σ F H S _ fun u z Γ1 F1 H1 S1 e1 r1 h1 => h1 B σ F1 H1 S1 _ fun t y Γ2 F2 H2 S2 e2 r2 ⟨xs1, hg1, z1, z2, z3, hn⟩ => ?_⟩
  obtain ⟨p1, vs1, hv1, hp1, hr1, put1⟩ := S2.ownPut hg1
  rw [hv0] at hv1; cases hv1
  have hz : u = .int z := r1
  subst hz
  exact ⟨p0, vs1, z, t, rfl, rfl, hp1, by rw [All2.length hr1]; exact z3, z1, z2, _, F2, put1 _ _ (All2.append (All2.append (All2.take _ hr1) (show All2 (T.r F2) [t] [y] from ⟨r2, trivial⟩)) (All2.drop _ hr1)), hn⟩
end
end
end Px
/-! Px, twelfth part: bounds of things; a part of an own list put anew; == of things. -/
namespace Px
open PySem PySem.Spec PyProof.Rows L2
def asc (s : Str) : Bool := s.cps.all (· < 128)
theorem upper_tab : ((List.range 128).all fun c => (Unicode.upperOf c).all (· < 128)) = true := by decide +kernel
theorem asc_upper {s : Str} (h : asc s = true) : asc (Txt.upper s) = true := by
  unfold asc at h ⊢
  rw [Array.all_eq_true_iff_forall_mem] at h ⊢
  intro c hc
  have hc' : c ∈ (s.cps.mapIdx fun _ c => (Unicode.upperOf c).toArray).flatten := hc
  rw [Array.mem_flatten] at hc'
  obtain ⟨l, hl, hcl⟩ := hc'
  obtain ⟨i, hi, rfl⟩ := Array.mem_mapIdx.mp hl
  have h1 := h _ (Array.getElem_mem hi)
  have h2 := List.all_eq_true.mp upper_tab (s.cps[i]) (by simpa using h1)
  exact List.all_eq_true.mp h2 c (by simpa using hcl)
theorem asc_ok {s : Str} (h : asc s = true)  : PyData.strOk s = true := by
  unfold asc at h
  unfold PyData.strOk
  rw [Array.all_eq_true_iff_forall_mem] at h ⊢
  intro c hc
  have := h c hc
  simp at this ⊢
  omega
theorem asc_app {s t : Str} (h : asc s = true) (h2 : asc t = true) : asc (s ++ t) = true := by
  show (s.cps ++ t.cps).all _ = true
  rw [Array.all_append]
  exact Bool.and_eq_true_iff.mpr ⟨h, h2⟩
theorem len_app (s t : Str) : (s ++ t).length = s.length + t.length := by show (s.cps ++ t.cps).size = _; rw [Array.size_append]; rfl
theorem asc_cut {s : Str} {lo hi : Option Int} (h : asc s = true) : asc (cutS s lo hi) = true := by
  unfold asc at h ⊢
  rw [Array.all_eq_true_iff_forall_mem] at h ⊢
  intro c hc
  have : c ∈ (s.cps.toList.drop (HT.sIx s.length 0 lo)).take (HT.sIx s.length s.length hi - HT.sIx s.length 0 lo) := by simpa [cutS] using hc
  exact h c (by simpa using List.mem_of_mem_drop (List.mem_of_mem_take this))
theorem len_cut (s : Str) (lo hi : Option Int) : (cutS s lo hi).length ≤ s.length := by
  show ((s.cps.toList.drop (HT.sIx s.length 0 lo)).take (HT.sIx s.length s.length hi - HT.sIx s.length 0 lo)).toArray.size ≤ s.cps.size
  simp
  omega
/-- a thing within bounds: its ints, its texts and tuples' lengths, its depth -/
inductive Sm (b : Int) (n : Nat) : Nat → PyData → Prop
  | non {k} : Sm b n k .none
  | bool {k x} : Sm b n k (.bool x)
  | int {k i} : -b ≤ i → i ≤ b → Sm b n k (.int i)
  | str {k s} : s.length ≤ n → asc s = true → Sm b n k (.str s)
  | list {k ds} : ds.length ≤ n → (∀ d, d ∈ ds → Sm b n k d) → Sm b n (k + 1) (.list ds)
  | tuple {k ds} : ds.length ≤ n → (∀ d, d ∈ ds → Sm b n k d) → Sm b n (k + 1) (.tuple ds)
theorem Sm.mono {b b' : Int} {n n' k k' : Nat} {d : PyData} (h : Sm b n k d) (hb : b ≤ b') (hn : n ≤ n') (hk : k ≤ k') : Sm b' n' k' d := by
  induction h generalizing k' with
  | non => exact .non
  | bool => exact .bool
  | int h1 h2 => exact .int (by omega) (by omega)
  | str h1 h2 => exact .str (by omega) h2
  | list h1 h2 ih =>
    obtain ⟨j, rfl⟩ : ∃ j, k' = j + 1 := ⟨k' - 1, by omega⟩
    exact .list (by omega) fun d hd => ih d hd (by omega)
  | tuple h1 h2 ih =>
    obtain ⟨j, rfl⟩ : ∃ j, k' = j + 1 := ⟨k' - 1, by omega⟩
    exact .tuple (by omega) fun d hd => ih d hd (by omega)
theorem layAll_of {ds : List PyData} (h : ∀ d, d ∈ ds → d.canLay0 = true) : PyData.canLayAll0 ds = true := by
  induction ds with
  | nil => rfl
  | cons d ds ih => rw [PyData.canLayAll0, h d (List.mem_cons_self), ih fun e he => h e (List.mem_cons_of_mem _ he)]; rfl
theorem depthAll_of {k : Nat} {ds : List PyData} (h : ∀ d, d ∈ ds → d.depth ≤ k) : PyData.depthAll ds ≤ k := by
  induction ds with
  | nil => exact Nat.zero_le _
  | cons d ds ih =>
    rw [PyData.depthAll]
    exact Nat.max_le.mpr ⟨h d List.mem_cons_self, ih fun e he => h e (List.mem_cons_of_mem _ he)⟩
theorem Sm.lay {b : Int} {n k : Nat} {d : PyData} (h : Sm b n k d) : d.canLay0 = true := by
  induction h with
  | non => rfl
  | bool => rfl
  | int => rfl
  | str h1 h2 => rw [PyData.canLay0]; exact asc_ok h2
  | list h1 h2 ih => rw [PyData.canLay0]; exact layAll_of ih
  | tuple h1 h2 ih => rw [PyData.canLay0]; exact layAll_of ih
theorem Sm.dep {b : Int} {n k : Nat} {d : PyData} (h : Sm b n k d) : d.depth ≤ k := by
  induction h with
  | non => exact Nat.zero_le _
  | bool => exact Nat.zero_le _
  | int => exact Nat.zero_le _
  | str h1 h2 => exact Nat.zero_le _
  | list h1 h2 ih => rw [PyData.depth]; exact Nat.succ_le_succ (depthAll_of ih)
  | tuple h1 h2 ih => rw [PyData.depth]; exact Nat.succ_le_succ (depthAll_of ih)
theorem Sm.shaped {b : Int} {n k : Nat} {d : PyData} (h : Sm b n k d) (hk : k ≤ 64) : SeqAt.shaped d = true := by
  unfold SeqAt.shaped
  rw [h.lay]
  simpa using Nat.le_trans h.dep hk
section
variable {prog : Program} {w : World} {A : Around} {E : Value → Shared → Prop} {s : Shared}
theorem bounds_cut {a c n : Nat} (hac : a ≤ c) (ha : a ≤ n) : sliceBounds (some (a : Int)) (some (c : Int)) none n = ((a : Int), ((min c n : Nat) : Int), 1) := by
  simp only [sliceBounds, Option.getD_none]
  have h1 : ¬ ((a : Int) < 0) := by omega
  have h2 : ¬ ((c : Int) < 0) := by omega
  simp only [h1, h2, if_false, show (1 : Int) > 0 by decide, if_true]
  congr 1
  · omega
  · congr 1; omega
theorem max_cut {a c n : Nat} (hac : a ≤ c) (ha : a ≤ n) : (max (a : Int) ((min c n : Nat) : Int)).toNat = min c n := by omega
/-- a list's part put anew: as the kit's rule for it, with an end beyond the list's -/
theorem setItem_cut {l b sl : Addr} {items new : Array Value} {n n2 : Nat} {vl vu : Value} {a c : Nat} {Q : Unit → Shared → Prop}
    (e : s.heap.get? l = some { cls := .type "list", data := .seq items n }) (e2 : s.heap.get? b = some { cls := .type "list", data := .seq new n2 }) (hne : l ≠ b)
    (hs : s.heap.IsSliceOf sl vl vu .none) (pl : IsPart vl (some (a : Int))) (pu : IsPart vu (some (c : Int))) (hac : a ≤ c) (ha : a ≤ items.size)
    (hsz : items.size + new.size ≤ sizeLine) (h : Q () { s with heap := s.heap.update l (Obj.mapSeq fun xs => xs.extract 0 a ++ new ++ xs.extract (min c items.size) xs.size) }) :
    wpAny (model prog w) A (setItem (.ref l) (.ref sl) (.ref b)) Q E s := by
  have hl : s.heap.IsList l items := PySem.IsL.isList e
  have hb : s.heap.IsList b new := PySem.IsL.isList e2
  obtain ⟨os, hos, hcs, hds⟩ := id hs
  have hT : s.TypeIs (.ref sl) "slice" := ⟨os, hos, hcs⟩
  unfold setItem
  try with_reducible refine wpAny_holding ?_
  first | refine wpAny_bind (wpAny_pure ?_) | skip
  refine wpAny_bind (wpAny_sequenceKey hl.typeIs (by decide) (wpAny_bind (wpAny_callSpecial?_slot (name := Str.ofString "__setitem__") hl.typeIs slot_list_setitem (wpAny_call_entry slot_list_setitem hl.typeIs entry_list_setitem ?_ (args_list_setitem _ _ _)))))
  show wpAny _ _ (Builtin.List.listSubscript? (.ref sl) >>= _) _ _ s
  refine wpAny_bind ?_
  unfold Builtin.List.listSubscript?
  refine wpAny_bind (wpAny_specialOf hT slice_no_index ?_)
  simp only [Option.isNone_none, if_true]
  refine wpAny_pure ?_
  show wpAny _ _ (typeOf (.ref sl) >>= _) _ _ s
  refine wpAny_bind (wpAny_typeOf hT ?_)
  first
    | rw [if_neg (by decide)]
    | refine PySem.W.KFB.if_not (by decide) ?_
  rw [listSliceParts_eq]
  refine wpAny_bind (wpAny_bind (wpAny_field hos hds (x := .none) rfl (wpAny_bind (wpAny_listPart .none ?_))))
  rw [if_neg (show ¬ ((rawPart none == rawInt 0) = true) from Bool.false_ne_true)]
  refine wpAny_bind (wpAny_field hos hds (x := vl) rfl (wpAny_bind (wpAny_listPart pl (wpAny_bind (wpAny_field hos hds (x := vu) rfl (wpAny_bind (wpAny_listPart pu (wpAny_pure ?_))))))))
  have hsame : Builtin.List.listSameRef (.ref l) (.ref b) = false := beq_eq_false_iff_ne.mpr hne
  first
    | simp only [hsame, Bool.false_eq_true, if_false]
    | refine PySem.W.KFB.if_not hsame ?_
    | (dsimp only
       rw [if_neg (by rw [hsame]; exact Bool.false_ne_true)])
  refine wpAny_bind (m := Builtin.List.listAllItems (.ref b) "must assign iterable to extended slice") ?_
  unfold Builtin.List.listAllItems
  refine wpAny_bind (wpAny_typeOf hb.typeIs ?_)
  first
    | refine PySem.W.KFB.if_so (by decide) ?_
    | rw [if_pos (by decide)]
    | simp only [beq_self_eq_true, Bool.true_or, if_true]
  unfold Builtin.List.listItems
  refine wpAny_bind (wpAny_seqItems e2 rfl (wpAny_pure (wpAny_bind (wpAny_bind (wpAny_seqItems e rfl (wpAny_pure ?_))))))
  refine wpAny_bind (wpAny_of_eq ((sliceIndices_raw (some (a : Int)) (some (c : Int)) none items.size (by simp)).trans (congrArg (pure : Int × Int × Int → Sem (Int × Int × Int)) (bounds_cut hac ha))) ?_)
  show wpAny _ _ (if ((1 : Int) == 1) = true then _ else _) _ _ s
  rw [if_pos (by decide)]
  refine wpAny_bind (wpAny_rule ?_)
  first
    | simp only [notLongL hsz, Bool.false_eq_true, if_false]
    | refine PySem.W.KFB.if_not (notLongL hsz) ?_
  first | refine wpAny_bind (wpAny_pure ?_) | skip
  show wpAny _ _ (updateSeq l (fun xs => xs.extract 0 ((a : Int)).toNat ++ new ++ xs.extract (max (a : Int) ((min c items.size : Nat) : Int)).toNat xs.size) >>= _) _ _ s
  rw [max_cut hac ha, Int.toNat_natCast]
  refine wpAny_bind (wpAny_updateSeq (hz := Nat.le_trans (Nat.le_add_right _ _) hsz) (_hz' := by
    simp only [Array.size_append, Array.size_extract]
    omega) e rfl ?_)
  refine wpAny_bind (wpAny_letGo ?_)
  first
    | exact wpAny_bind (wpAny_pure (wpAny_pure ⟨.none, rfl, wpAny_pure h⟩))
    | exact wpAny_pure ⟨.none, rfl, wpAny_pure h⟩
end
section
variable {X : Cx} {o f e1 e2 : Expr} {to t1 t2 : TE} {pt p2 : Pos}
/-- o[e1:e2] = v -/
def gCut (to t1 t2 : TE) : TG := fun v σ H Q => to σ H fun ov H1 => t1 σ H1 fun a H2 => ∃ ia, a = .int ia ∧ t2 σ H2 fun b H3 => ∃ ib, b = .int ib ∧ ∃ l y xs ys, ov = .ref l ∧ v = .ref y ∧ H3 l = some (.lst xs) ∧ H3 y = some (.lst ys) ∧ l ≠ y ∧
  0 ≤ ia ∧ ia ≤ ib ∧ ia ≤ xs.length ∧ xs.length + ys.length ≤ sizeLine ∧ Q σ (upd H3 l (.lst (xs.take ia.toNat ++ ys ++ xs.drop ib.toNat)))
theorem pg_cut (ho : PE X o to) (h1 : PE X e1 t1) (h2 : PE X e2 t2)
    (ha : ∀ v, assign (.Subscript o (.Slice (some e1) (some e2) none p2) pt) X.env v = (do
      let ov ← holding [v] (eval o X.env)
      let iv ← holding [v, ov] (eval (.Slice (some e1) (some e2) none p2) X.env)
      standAt pt
      holding [v, ov, iv] (setItem ov iv v)
      release [iv, v, ov] []) := by intro _; rfl) : PG X (.Subscript o (.Slice (some e1) (some e2) none p2) pt) (gCut to t1 t2) := by
  refine ⟨fun pins s σ H v u Q I r h => ?_⟩
  rw [ha]
  refine wpAny_bind (wpAny_holding (thn (ho.run pins s σ H _ I h) fun ov s1 ⟨x, H1, I1, r1, q1⟩ => ?_))
  refine wpAny_bind (wpAny_holding ?_)
  refine wpAny_Slice ?_
  rw [evalPart_some]
  refine thn (h1.run pins s1 σ H1 _ I1 q1) fun vl s2 ⟨a, H2, I2, ra, ia, ea, q2⟩ => ?_
  rw [evalPart_some]
  refine thn (h2.run pins s2 σ H2 _ I2 q2) fun vu s3 ⟨b, H3, I3, rb, ib, eb, l, y, xs, ys, ex, ey, hl, hy, hne, z0, z1, z2, z3, q3⟩ => ?_
  rw [evalPart_none]
  subst ea; subst eb; subst ex; subst ey
  obtain ⟨ta, rfl⟩ := ra
  obtain ⟨tb, rfl⟩ := rb
  cases (show ov = Value.ref l from r1)
  cases (show u = Value.ref y from r)
  refine wpAny_pure ?_
  have I4 : Inv X pins σ H3 { s3 with heap := s3.heap.push { cls := .type "slice", data := .fields #[.int ia ta, .int ib tb, .none] } } := I3.kept (t' := s3.toks) fun b ob q => Heap.get?_push_of_some _ q
  refine wpAny_bind (wpAny_standAt (wpAny_bind (wpAny_holding ?_)))
  obtain ⟨k, its, n, rv, hk, e⟩ := I4.lstM hl
  obtain ⟨k2, its2, n2, rv2, hk2, e2⟩ := I4.lstM hy
  obtain ⟨a', rfl⟩ := Int.eq_ofNat_of_zero_le z0
  obtain ⟨c', rfl⟩ := Int.eq_ofNat_of_zero_le (Int.le_trans z0 z1)
  simp only [Int.toNat_natCast] at q3
  refine setItem_cut (a := a') (c := c') e e2 hne (Heap.IsSliceOf.new ..) (.int _ _) (.int _ _) (by omega) (by rw [List.size_toArray]; omega) (by rw [List.size_toArray, List.size_toArray]; omega) ?_
  refine wpAny_release ⟨σ, _, I4.lset (its' := its.take a' ++ its2 ++ its.drop c') (t' := s3.toks) hl e ?_ (Vals.append (Vals.append (rv.take _) rv2) (rv.drop _)) ?_, q3⟩
  · have e5 : its.drop (min c' its.length) = its.drop c' := by
      by_cases h : c' ≤ its.length
      · rw [Nat.min_eq_left h]
      · rw [Nat.min_eq_right (by omega), List.drop_eq_nil_of_le (by omega), List.drop_eq_nil_of_le (by omega)]
    rw [List.size_toArray, ← e5]
    exact splice_eq its its2 a' (min c' its.length)
  · rw [List.length_append, List.length_append, List.length_take, List.length_drop]
    omega
end
section
variable {P : Program} {w : World} {K : PySem.W.Frag} {mg : Str → Option Value} {base : Heap} {lv : Nat} {N : List Str} {sc : Scope} {fn : Str → Bool}
variable {α β γ δ ρ : Type}
variable {c : Ctx P w K mg base lv N sc fn} {Γ : Gm} {e a b d tg iter elt f e1 e2 : Expr} {lo hi : Option Expr} {es ts ifs : List Expr} {pos pos' p p2 pt px : Pos} {T : Ty K α} {A : Ty K α} {B' : Ty K β} {C : Ty K γ} {D' : Ty K δ}
/-- x[e1:e2] = f -/
theorem w_setCut {R : Rs ρ} {rt : Gm → ρ → Prop} {nx bk ct : Gm → Prop} {i : Nat} {x : Str} (hs : slotOf N x 0 = some i) (hv : visB sc x = true)
    (h : EW c Γ f (tLst T) fun Γ1 zs => (∃ xs : List α, Γ1[i]? = some (some (ownL T xs))) ∧ EW c Γ1 e1 tInt fun Γ2 a => EW c Γ2 e2 tInt fun Γ3 b => ∃ xs, Γ3[i]? = some (some (ownL T xs)) ∧ 0 ≤ a ∧ a ≤ b ∧ a ≤ xs.length ∧ xs.length + zs.length ≤ sizeLine ∧ nx (Γ3.set i (some (ownL T (xs.take a.toNat ++ zs ++ xs.drop b.toNat)))))
    (hd : (x == ("__debug__" : Str)) = false := by decide +kernel) (hcd : (x == ("__classdict__" : Str)) = false := by decide +kernel)
    (hs1 : ∀ env, swapsWithSole [.Subscript (.Name x px) (.Slice (some e1) (some e2) none p2) pt] f pos.line env = pure false := by intro _; rfl) (hw : ∀ env, swappedStores [.Subscript (.Name x px) (.Slice (some e1) (some e2) none p2) pt] f env = pure none := by intro _; rfl)
    (ha : ∀ env v, assign (.Subscript (.Name x px) (.Slice (some e1) (some e2) none p2) pt) env v = (do
      let ov ← holding [v] (eval (.Name x px) env)
      let iv ← holding [v, ov] (eval (.Slice (some e1) (some e2) none p2) env)
      standAt pt
      holding [v, ov, iv] (setItem ov iv v)
      release [iv, v, ov] []) := by intro _ _; rfl) :
    S1 c Γ (.Assign [.Subscript (.Name x px) (.Slice (some e1) (some e2) none p2) pt] f pos) (⟨R, rt, nx, bk, ct⟩ : En ρ) := fun B σ F H hB S => by
  obtain ⟨X, rfl, rfl, rfl, rfl, rfl, rfl, nd, rfl, rfl, calm, room, pas⟩ := c
  refine of_ps (ps_asg peW (pg_cut (pe_var (i := i) (slotOf_at hs) (visB_vis hv) hd hcd) peW peW (ha _)) (hs1 _) (hw _)) ?_
  refine h B σ F H S _ fun u zs Γ1 F1 H1 S1 e1 r1 ⟨⟨xs0, hg0⟩, h1⟩ => ?_
  obtain ⟨p0, vs0, hv0, hp0, hr0, put0⟩ := S1.ownPut hg0
  refine ⟨_, hv0, h1 B σ F1 H1 S1 _ fun v2 ia Γ2 F2 H2 S2 e2 r2 h2 => ⟨ia, r2, h2 B σ F2 H2 S2 _ fun v3 ib Γ3 F3 H3 S3 e3 r3 ⟨xs, hg3, z0, z1, z2, z3, hn⟩ => ⟨ib, r3, ?_⟩⟩⟩
  obtain ⟨p1, vs1, hv1, hp1, hr1, put1⟩ := S3.ownPut hg3
  rw [hv0] at hv1; cases hv1
  obtain ⟨q1, ys, rfl, hq, hy⟩ := (tLst T).mono (e2.trans e3) r1
  refine ⟨p0, q1, vs1, ys, rfl, rfl, hp1, S3.sub _ _ hq, fun z => ?_, z0, z1, by rw [All2.length hr1]; exact z2, by rw [All2.length hr1, All2.length hy]; exact z3, _, F3, put1 _ _ (All2.append (All2.append (All2.take _ hr1) hy) (All2.drop _ hr1)), hn⟩
  subst z
  obtain ⟨v, ps, hv2, ⟨p, vs, e5, hq5, _⟩, ow⟩ := S3.get hg3
  rw [hv0] at hv2; cases hv2
  obtain rfl : p0 = p := V.ref.inj e5
  have := (ow p0 ((hq5 p0).mpr rfl)).1
  rw [hq] at this
  cases this
/-! ### == -/
theorem uni (c : Ctx P w K mg base lv N sc fn) : c.X.A.units + 64 < cLine := by have := c.room.un; omega
/-- x == [] of an own list -/
theorem tw_nilO {i : Nat} {x : Str} {ds : List PyData} {k : Gm → Bool → Prop} (hs : slotOf N x 0 = some i) (hv : visB sc x = true) (hg : Γ[i]? = some (some (ownL (tAny (K := K)) ds))) (hl : SeqAt.shaped (.list ds) = true) (h : k Γ ds.isEmpty)
    (hd : (x == ("__debug__" : Str)) = false := by decide +kernel) (hcd : (x == ("__classdict__" : Str)) = false := by decide +kernel) : TW c Γ (.Compare (.Name x px) [.Eq] [.List [] p2] pos) k := fun B σ F H S Q q => by
  have hu := uni c
  obtain ⟨X, rfl, rfl, rfl, rfl, rfl, rfl, nd, rfl, rfl, calm, room, pas⟩ := c
  refine of_pt (pt_cmpR (op_eqD hu) (pe_var (i := i) (slotOf_at hs) (visB_vis hv) hd hcd) (pe_lst pa_nil) (nomark _)) ?_
  obtain ⟨p0, vs0, hv0, hp0, hr0, put0⟩ := S.ownPut hg
  refine ⟨_, hv0, by show 0 ≤ sizeLine; omega, fun l hl2 => ?_⟩
  obtain ⟨S4, b1, b2, b3⟩ := S.make (o := .lst []) hl2
  have st := Step.frozen (o := .lst []) S.sub hl2
  have S5 := S.step st
  refine ⟨.list ds, .list [], .lst (.inl (.inl (by rw [upd_ne (fun z => by subst z; rw [hl2] at hp0; cases hp0)]; exact hp0))) (dp_of_all (All2.imp (fun _ _ r => dp_mono (st.ff.trans S5.sub) _ r) hr0)), .lst (.inl (.inl upd_same)) .nil, hl, by decide, ?_⟩
  have e0 : PyData.eqv (.list ds) (.list []) = ds.isEmpty := by cases ds <;> rfl
  rw [e0]
  exact ⟨_, rfl, q _ Γ _ _ S5 st.ff h⟩
/-- two things of one type, told as data -/
theorem ew_eqD {f : α → PyData} (hT : AsD T f) {k : Gm → Bool → Prop} (h : EW c Γ a T fun Γ1 x => EW c Γ1 b T fun Γ2 y => (SeqAt.shaped (f x) = true ∧ SeqAt.shaped (f y) = true) ∧ k Γ2 (PyData.eqv (f x) (f y))) : EW c Γ (.Compare a [.Eq] [b] pos) tBool k := fun B σ F H S Q q => by
  have hu := uni c
  obtain ⟨X, rfl, rfl, rfl, rfl, rfl, rfl, nd, rfl, rfl, calm, room, pas⟩ := c
  refine of_pe (pe_cmpR (op_eqD hu) peW peW (nomark _)) ?_
  refine h B σ F H S _ fun v x Γ1 F1 H1 S1 e1 r1 h1 => h1 B σ F1 H1 S1 _ fun u y Γ2 F2 H2 S2 e2 r2 ⟨⟨h2, h3⟩, h4⟩ => ?_
  exact ⟨f x, f y, dp_mono S2.sub _ (hT _ _ _ (T.mono e2 r1)), dp_mono S2.sub _ (hT _ _ _ r2), h2, h3, q _ _ Γ2 F2 H2 S2 (e1.trans e2) rfl h4⟩
theorem ew_neD {f : α → PyData} (hT : AsD T f) {k : Gm → Bool → Prop} (h : EW c Γ a T fun Γ1 x => EW c Γ1 b T fun Γ2 y => (SeqAt.shaped (f x) = true ∧ SeqAt.shaped (f y) = true) ∧ k Γ2 (!PyData.eqv (f x) (f y))) : EW c Γ (.Compare a [.NotEq] [b] pos) tBool k := fun B σ F H S Q q => by
  have hu := uni c
  obtain ⟨X, rfl, rfl, rfl, rfl, rfl, rfl, nd, rfl, rfl, calm, room, pas⟩ := c
  refine of_pe (pe_cmpR (op_neD hu) peW peW (nomark _)) ?_
  refine h B σ F H S _ fun v x Γ1 F1 H1 S1 e1 r1 h1 => h1 B σ F1 H1 S1 _ fun u y Γ2 F2 H2 S2 e2 r2 ⟨⟨h2, h3⟩, h4⟩ => ?_
  exact ⟨f x, f y, dp_mono S2.sub _ (hT _ _ _ (T.mono e2 r1)), dp_mono S2.sub _ (hT _ _ _ r2), h2, h3, q _ _ Γ2 F2 H2 S2 (e1.trans e2) rfl h4⟩
end
end Px
/-! Px, thirteenth part: written things of any kind; the promises of a law's makers of things. -/
namespace Px
open PySem PySem.Spec PyProof.Rows L2
section
variable {P : Program} {w : World} {K : PySem.W.Frag} {mg : Str → Option Value} {base : Heap} {lv : Nat} {N : List Str} {sc : Scope} {fn : Str → Bool}
variable {α β γ δ ρ : Type}
variable {c : Ctx P w K mg base lv N sc fn} {Γ : Gm} {e a b d tg iter elt f e1 e2 : Expr} {lo hi : Option Expr} {es ts ifs : List Expr} {pos pos' p p2 pt px : Pos} {T : Ty K α} {A : Ty K α} {B' : Ty K β} {C : Ty K γ} {D' : Ty K δ}
/-- len of an own list -/
theorem ew_lenO (bi : Bi mg) {x : Str} {i : Nat} {xs : List α} {k : Gm → Int → Prop} (hl : glB sc "len" = true) (hs : slotOf N x 0 = some i) (hv : visB sc x = true) (hg : Γ[i]? = some (some (ownL T xs))) (h : k Γ xs.length)
    (hd : (x == ("__debug__" : Str)) = false := by decide +kernel) (hcd : (x == ("__classdict__" : Str)) = false := by decide +kernel) (he : ∀ env, starEach [.Name x px] env = (false, eval (.Name x px) env) :: starEach [] env := by intro _; rfl) : EW c Γ (.Call (.Name "len" p) [.Name x px] [] pos) tInt k := fun B σ F H S Q q => by
  obtain ⟨X, rfl, rfl, rfl, rfl, rfl, rfl, nd, rfl, rfl, calm, room, pas⟩ := c
  refine of_pe (pe_callB call_len (glB_gl hl) bi.len boot_len_ (pa_cons (pe_var (i := i) (slotOf_at hs) (visB_vis hv) hd hcd) pa_nil (he _)) (by decide +kernel) (by decide +kernel) (he _) rfl) ?_
  obtain ⟨p0, vs0, hv0, hp0, hr0, put0⟩ := S.ownPut hg
  exact ⟨_, hv0, .ref p0, xs.length, rfl, .inl ⟨vs0, .inl (.inl hp0), (All2.length hr0).symm⟩, q _ _ Γ F H S (Same.refl _) rfl h⟩
/-- a <= b <= d -/
theorem ew_leLe {k : Gm → Bool → Prop} (h : EW c Γ a tInt fun Γ1 i => EW c Γ1 b tInt fun Γ2 j => (i ≤ j → EW c Γ2 d tInt fun Γ3 l => k Γ3 (decide (j ≤ l))) ∧ (¬ i ≤ j → k Γ2 false)) (hm : lastMarks [.LtE, .LtE] [b, d] = false := by with_unfolding_all rfl) : EW c Γ (.Compare a [.LtE, .LtE] [b, d] pos) tBool k := fun B σ F H S Q q => by
  refine of_pe (pe_chain op_le op_le peW peW peW hm) ?_
  refine h B σ F H S _ fun v i Γ1 F1 H1 S1 e1 r1 h1 => h1 B σ F1 H1 S1 _ fun u j Γ2 F2 H2 S2 e2 r2 ⟨h2, h3⟩ => ⟨i, j, r1, r2, decide (i ≤ j), rfl, ?_⟩
  by_cases z : i ≤ j
  · rw [if_pos (decide_eq_true z)]
    exact h2 z B σ F2 H2 S2 _ fun t l Γ3 F3 H3 S3 e3 r3 h4 => ⟨j, l, r2, r3, q _ _ Γ3 F3 H3 S3 ((e1.trans e2).trans e3) rfl h4⟩
  · rw [if_neg (fun e => z (of_decide_eq_true e))]
    exact q _ _ Γ2 F2 H2 S2 (e1.trans e2) rfl (h3 z)
theorem ea_I {k : Gm → PyData → Prop} (h : EW c Γ e tInt fun Γ1 i => k Γ1 (.int i)) : EW c Γ e tAny k := EW.as .int h asD_int
theorem ea_B {k : Gm → PyData → Prop} (h : EW c Γ e tBool fun Γ1 i => k Γ1 (.bool i)) : EW c Γ e tAny k := EW.as .bool h asD_bool
theorem ea_S {k : Gm → PyData → Prop} (h : EW c Γ e tStr fun Γ1 i => k Γ1 (.str i)) : EW c Γ e tAny k := EW.as .str h asD_str
theorem ea_TI {k : Gm → PyData → Prop} (h : EW c Γ e (tTup tInt) fun Γ1 i => k Γ1 (.tuple (i.map .int))) : EW c Γ e tAny k := EW.as (fun i : List Int => .tuple (i.map .int)) h (asD_tup asD_int)
theorem ea_LI {k : Gm → PyData → Prop} (h : EW c Γ e (tLst tInt) fun Γ1 i => k Γ1 (.list (i.map .int))) : EW c Γ e tAny k := EW.as (fun i : List Int => .list (i.map .int)) h (asD_lst asD_int)
theorem as_S {k : Gm → Str → Prop} (h : EW c Γ e tAny fun Γ1 z => ∃ s, z = .str s ∧ k Γ1 s) : EW c Γ e tStr k := fun B σ F H S Q q => h B σ F H S Q fun v z Γ' F' H' S' e' r' ⟨s, z1, z2⟩ => q v s Γ' F' H' S' e' (any_str (by rw [z1] at r'; exact r')) z2
theorem as_I {k : Gm → Int → Prop} (h : EW c Γ e tAny fun Γ1 z => ∃ s, z = .int s ∧ k Γ1 s) : EW c Γ e tInt k := fun B σ F H S Q q => h B σ F H S Q fun v z Γ' F' H' S' e' r' ⟨s, z1, z2⟩ => q v s Γ' F' H' S' e' (any_int (by rw [z1] at r'; exact r')) z2
theorem as_B {k : Gm → Bool → Prop} (h : EW c Γ e tAny fun Γ1 z => ∃ s, z = .bool s ∧ k Γ1 s) : EW c Γ e tBool k := fun B σ F H S Q q => h B σ F H S Q fun v z Γ' F' H' S' e' r' ⟨s, z1, z2⟩ => q v s Γ' F' H' S' e' (any_bool (by rw [z1] at r'; exact r')) z2
theorem as_T {k : Gm → List PyData → Prop} (h : EW c Γ e tAny fun Γ1 z => ∃ s, z = .tuple s ∧ k Γ1 s) : EW c Γ e (tTup tAny) k := fun B σ F H S Q q => h B σ F H S Q fun v z Γ' F' H' S' e' r' ⟨s, z1, z2⟩ => q v s Γ' F' H' S' e' (any_tup (by rw [z1] at r'; exact r')) z2
theorem as_Q {k : Gm → List PyData → Prop} (h : EW c Γ e tAny fun Γ1 z => ∃ s, z = .list s ∧ k Γ1 s) : EW c Γ e (tSeq tAny) k := fun B σ F H S Q q => h B σ F H S Q fun v z Γ' F' H' S' e' r' ⟨s, z1, z2⟩ => q v s Γ' F' H' S' e' (any_lst (by rw [z1] at r'; exact r')) z2
theorem ea_int {i : Int} {j} {k : Gm → PyData → Prop} (hk : k Γ (.int i)) : EW c Γ (.Constant (.int i) j pos) tAny k := ea_I (ew_int hk)
theorem ea_bl {i : Bool} {j} {k : Gm → PyData → Prop} (hk : k Γ (.bool i)) : EW c Γ (.Constant (.bool i) j pos) tAny k := ea_B (ew_bl hk)
theorem ea_str {i : Str} {j} {k : Gm → PyData → Prop} (hk : k Γ (.str i)) : EW c Γ (.Constant (.str i) j pos) tAny k := ea_S (ew_str hk)
theorem ea_non {j} {k : Gm → PyData → Prop} (hk : k Γ .none) : EW c Γ (.Constant .none j pos) tAny k := EW.as (fun _ => .none) (ew_non hk) asD_non
theorem ea_neg {j p1} {i : Int} {k : Gm → PyData → Prop} (hk : k Γ (.int (-i))) : EW c Γ (.UnaryOp .USub (.Constant (.int i) j p1) pos) tAny k := ea_I (ew_neg (ew_int hk))
theorem ea_pow {j j2 p1 p2} {i n : Int} {k : Gm → PyData → Prop} (h : CPow i n) (hk : k Γ (.int (i ^ n.toNat))) : EW c Γ (.BinOp (.Constant (.int i) j p1) .Pow (.Constant (.int n) j2 p2) pos) tAny k := ea_I (ew_pow (ew_int (ew_int ⟨h, hk⟩)))
theorem ea_lst {k : Gm → PyData → Prop} (h : EWL c Γ es tAny fun Γ1 ds => ds.length ≤ sizeLine ∧ k Γ1 (.list ds)) : EW c Γ (.List es pos) tAny k := EW.as .list (ew_el (el_lst h)) fun _ _ _ => lst_any
theorem ea_tup {x1} {k : Gm → PyData → Prop} (h : EWL c Γ es tAny fun Γ1 ds => ds.length ≤ sizeLine ∧ k Γ1 (.tuple ds)) : EW c Γ (.Tuple es x1 pos) tAny k := EW.as .tuple (ew_tupL h) fun _ _ _ => tup_any
theorem ea_L {k : Gm → PyData → Prop} (h : EW c Γ e (tLst tAny) fun Γ1 i => k Γ1 (.list i)) : EW c Γ e tAny k := EW.as .list h fun _ _ _ => lst_any
theorem ea_T {k : Gm → PyData → Prop} (h : EW c Γ e (tTup tAny) fun Γ1 i => k Γ1 (.tuple i)) : EW c Γ e tAny k := EW.as .tuple h fun _ _ _ => tup_any
end
theorem all2_ex {α β : Type} {p : β → Prop} : ∀ {as : List α} {os : List (Option β)}, All2 (fun _ o => ∃ d, o = some d ∧ p d) as os → (os.filterMap id).length = as.length ∧ ∀ d, d ∈ os.filterMap id → p d
  | [], [], _ => ⟨rfl, fun d h => nomatch h⟩
  | x :: as, o :: os, h => by
    obtain ⟨⟨d, rfl, hd⟩, h⟩ := h
    obtain ⟨h1, h2⟩ := all2_ex h
    rw [List.filterMap_cons_some (f := id) (b := d) rfl]
    refine ⟨congrArg (· + 1) h1, fun e he => ?_⟩
    rcases List.mem_cons.mp he with rfl | he
    · exact hd
    · exact h2 e he
/-- is a thing a whole number between two -/
def isBet : PyData → Int → Int → Bool
  | .int i, lo, hi => decide (lo ≤ i) && decide (i ≤ hi)
  | _, _, _ => false
abbrev spBet (K : PySem.W.Frag) : Sp := spP (fun i : PyData × Int × Int => [tv (tAny (K := K)) i.1, tv (tInt (K := K)) i.2.1, tv (tInt (K := K)) i.2.2]) (tBool (K := K)) (fun _ => True) (fun i r => r = isBet i.1 i.2.1 i.2.2)
abbrev spTruly (K : PySem.W.Frag) : Sp := spP (fun i : Bool × Bool => [tv (tBool (K := K)) i.1, tv (tBool (K := K)) i.2]) (tBool (K := K)) (fun _ => True) (fun i r => r = decide (i.1 = i.2))
/-! ### things' items -/
theorem sm_items {b : Int} {n k : Nat} {t : PyData} (h : Sm b n k t) (hs : isSq t) : ∃ k', k = k' + 1 ∧ (itemsD t).length ≤ n ∧ ∀ d, d ∈ itemsD t → Sm b n k' d := by
  cases h with
  | list h1 h2 => exact ⟨_, rfl, h1, h2⟩
  | tuple h1 h2 => exact ⟨_, rfl, h1, h2⟩
  | _ => exact hs.elim
abbrev bT : Int := 10 ^ 40
/-- what becomes of a thing that is within bounds -/
def Gd1 (t : PyData) (x : PyData) : Prop := ∀ b n k, Sm b n k t → bT ≤ b → 10 ≤ n → Sm (2 * b + 300) (3 * n) (k + 3) x
def Gd (t : PyData) (ds : List PyData) : Prop := ∀ b n k, Sm b n k t → bT ≤ b → 10 ≤ n → ds.length ≤ 3 * n ∧ ∀ d, d ∈ ds → Sm (2 * b + 300) (3 * n) (k + 3) d
def GdR (t : PyData) (r : PyData) : Prop := ∀ b n k, Sm b n k t → bT ≤ b → 10 ≤ n → Sm (2 * b + 300) (3 * n) (k + 4) r
theorem Gd.lst {t : PyData} {ds : List PyData} (h : Gd t ds) : GdR t (.list ds) := fun b n k h1 h2 h3 => .list (h b n k h1 h2 h3).1 (h b n k h1 h2 h3).2
theorem Gd.tup {t : PyData} {ds : List PyData} (h : Gd t ds) : GdR t (.tuple ds) := fun b n k h1 h2 h3 => .tuple (h b n k h1 h2 h3).1 (h b n k h1 h2 h3).2
theorem bT_pos : (0 : Int) ≤ bT := by decide +kernel
theorem Gd.sub {t : PyData} {ds : List PyData} (hs : isSq t) (h : ∀ d, d ∈ ds → d ∈ itemsD t) (hl : ds.length ≤ (itemsD t).length + 1 ∨ ds.length ≤ 3 * (itemsD t).length) : Gd t ds := fun b n k h1 h2 h3 => by
  obtain ⟨k', rfl, i1, i2⟩ := sm_items h1 hs
  have := bT_pos
  exact ⟨by omega, fun d hd => (i2 d (h d hd)).mono (by omega) (by omega) (by omega)⟩
theorem Gd.set {t x : PyData} {ds : List PyData} {j : Nat} (h : Gd t ds) (hx : Gd1 t x) : Gd t (ds.set j x) := fun b n k h1 h2 h3 => by
  refine ⟨by rw [List.length_set]; exact (h b n k h1 h2 h3).1, fun d hd => ?_⟩
  rcases List.mem_or_eq_of_mem_set hd with z | z
  · exact (h b n k h1 h2 h3).2 d z
  · rw [z]; exact hx b n k h1 h2 h3
theorem Gd1.of {t x : PyData} {k' : Nat} (h : Sm bT 10 k' x) (hk : k' ≤ 3) : Gd1 t x := fun b n k h1 h2 h3 => by
  have := bT_pos
  exact h.mono (by omega) (by omega) (by omega)
theorem Gd1.str {t : PyData} {s s' : Str} (hs : isSq t) (hm : .str s ∈ itemsD t) (h1 : s'.length ≤ 3 * s.length + 10) (h2 : s'.length ≤ 3 * s.length ∨ s'.length ≤ s.length + 10) (h3 : asc s = true → asc s' = true) : Gd1 t (.str s') := fun b n k e1 e2 e3 => by
  obtain ⟨k', rfl, i1, i2⟩ := sm_items e1 hs
  cases i2 _ hm with
  | str q1 q2 => exact .str (by omega) (h3 q2)
theorem Gd1.int {t : PyData} {i i' : Int} (hs : isSq t) (hm : .int i ∈ itemsD t) (h1 : i' ≤ i + 300 ∨ i' ≤ 2 * i ∨ i' ≤ -i + 300) (h2 : i - 300 ≤ i' ∨ 2 * i ≤ i' ∨ -i - 300 ≤ i') : Gd1 t (.int i') := fun b n k e1 e2 e3 => by
  obtain ⟨k', rfl, i1, i2⟩ := sm_items e1 hs
  have := bT_pos
  cases i2 _ hm with
  | int q1 q2 => exact .int (by omega) (by omega)
theorem Gd1.same {t x : PyData} (hs : isSq t) (hm : x ∈ itemsD t) : Gd1 t x := fun b n k e1 e2 e3 => by
  obtain ⟨k', rfl, i1, i2⟩ := sm_items e1 hs
  have := bT_pos
  exact (i2 _ hm).mono (by omega) (by omega) (by omega)
theorem Gd1.lst {t : PyData} {ds : List PyData} (hs : isSq t) (hm : .tuple ds ∈ itemsD t) : Gd1 t (.list ds) := fun b n k e1 e2 e3 => by
  obtain ⟨k', rfl, i1, i2⟩ := sm_items e1 hs
  have := bT_pos
  cases i2 _ hm with
  | tuple q1 q2 => exact (Sm.list q1 q2).mono (by omega) (by omega) (by omega)
theorem Gd1.deep {t x y : PyData} (hs : isSq t) (hm : x ∈ itemsD t) (h : GdR x y) : Gd1 t y := fun b n k e1 e2 e3 => by
  obtain ⟨k', rfl, i1, i2⟩ := sm_items e1 hs
  exact (h b n k' (i2 _ hm) e2 e3).mono (Int.le_refl _) (Nat.le_refl _) (by omega)
/-- a pick of a list -/
abbrev spOf {K : PySem.W.Frag} {α : Type} (A : Ty K α) : Sp := spD (fun ds : List α => [tv (tLst A) ds]) A (fun ds => 0 < ds.length ∧ ds.length < 100000) (fun ds r => r ∈ ds)
/-- a thing of any kind -/
abbrev spThing (K : PySem.W.Frag) (m : Nat) : Sp := spD (fun n : Int => [tv (tInt (K := K)) n]) (tAny (K := K)) (fun n => n = m) (fun _ r => Sm bT 10 (m + 1) r)
/-- a thing spoilt at a place -/
abbrev spOther (K : PySem.W.Frag) (m : Nat) : Sp := spD (fun i : PyData × Int => [tv (tAny (K := K)) i.1, tv (tInt (K := K)) i.2]) (tAny (K := K))
  (fun i => i.2 = m ∧ isSq i.1 ∧ ∃ n k, Sm (2 ^ 400) n k i.1 ∧ n ≤ 1000 ∧ k ≤ 40)
  (fun i r => isSq r ∧ GdR i.1 r)
end Px
/-! Px, fourteenth part: texts; all(..); len(set(..)); in a tuple of things. -/
namespace Px
open PySem PySem.Spec PyProof.Rows L2
def sg (c : Nat) : Str := ⟨#[c]⟩
def signs (s : Str) : List Str := s.cps.toList.map sg
theorem signs_len (s : Str) : (signs s).length = s.length := by unfold signs; rw [List.length_map]; rfl
/-! ### len(set(..)) -/
def dedup (ns : List Int) : List Int := PyProof.Rows.firstMet (fun i => ns.getD i 0) ns.length
theorem mem_first {f : Nat → Int} {x : Int} : ∀ {n : Nat}, x ∈ PyProof.Rows.firstMet f n ↔ ∃ i, i < n ∧ f i = x
  | 0 => by rw [PyProof.Rows.firstMet_zero]; simp
  | n + 1 => by
    have ih := mem_first (f := f) (x := x) (n := n)
    rw [PyProof.Rows.firstMet_succ]
    unfold step_dedup
    split
    · rename_i h
      rw [ih]
      constructor
      · rintro ⟨i, h1, h2⟩; exact ⟨i, by omega, h2⟩
      · rintro ⟨i, h1, h2⟩
        by_cases z : i = n
        · subst z
          obtain ⟨y, hy, e⟩ := List.any_eq_true.mp h
          have e' : y = f i := eq_of_beq e
          rw [e', h2] at hy
          exact ih.mp hy
        · exact ⟨i, by omega, h2⟩
    · rw [List.mem_append, ih, List.mem_singleton]
      constructor
      · rintro (⟨i, h1, h2⟩ | h)
        · exact ⟨i, by omega, h2⟩
        · exact ⟨n, by omega, h.symm⟩
      · rintro ⟨i, h1, h2⟩
        by_cases z : i = n
        · subst z; exact .inr h2.symm
        · exact .inl ⟨i, by omega, h2⟩
theorem first_const {f : Nat → Int} {y : Int} : ∀ {n : Nat}, (∀ i, i < n + 1 → f i = y) → PyProof.Rows.firstMet f (n + 1) = [y]
  | 0, h => by
    rw [PyProof.Rows.firstMet_succ, PyProof.Rows.firstMet_zero, h 0 (by omega)]
    rfl
  | n + 1, h => by
    rw [PyProof.Rows.firstMet_succ, first_const (n := n) (fun i hi => h i (by omega)), h (n + 1) (by omega)]
    unfold step_dedup
    simp
/-- the numbers of a list are one alone just where they are all alike -/
theorem dedup_one {n : Int} {ns : List Int} : (dedup (n :: ns)).length = 1 ↔ ∀ m, m ∈ ns → m = n := by
  unfold dedup
  constructor
  · intro h m hm
    obtain ⟨y, hy⟩ := List.length_eq_one_iff.mp h
    have e : ∀ x, x ∈ n :: ns → x = y := fun x hx => by
      obtain ⟨i, hi, ei⟩ := List.getElem_of_mem hx
      have : x ∈ PyProof.Rows.firstMet (fun i => (n :: ns).getD i 0) (n :: ns).length := mem_first.mpr ⟨i, hi, by rw [← ei]; simp [List.getD_eq_getElem?_getD, List.getElem?_eq_getElem hi]⟩
      rw [hy] at this
      simpa using this
    rw [e m (List.mem_cons_of_mem _ hm), e n List.mem_cons_self]
  · intro h
    rw [List.length_cons, first_const (y := n)]
    · rfl
    · intro i hi
      cases i with
      | zero => rfl
      | succ i =>
        have hi' : i < ns.length := by omega
        have : (n :: ns).getD (i + 1) 0 = ns[i] := by simp [List.getD_eq_getElem?_getD, List.getElem?_eq_getElem hi']
        show (n :: ns).getD (i + 1) 0 = n
        rw [this]
        exact h _ (List.getElem_mem hi')
def tLenSetG (K : PySem.W.Frag) (ta : TE) : TE := fun σ H Q => ta σ H fun x H1 => ∃ (l : Addr) (ns : List Int), x = .ref l ∧ SqL K H1 l (ns.map V.int) ∧ ns.length ≤ 4000 ∧ Q (.int ((dedup ns).length : Nat)) H1
theorem pe_lenSetG {X : Cx} {a : Expr} {ta : TE} {p p2 q pos : Pos} (hg : Gl X "len") (hm : X.mg "len" = none) (hg2 : Gl X "set") (hm2 : X.mg "set" = none) (ha : PE X a ta) (hc : X.calm = true)
    (na : starEach [a] X.env = (false, eval a X.env) :: starEach [] X.env) : PE X (.Call (.Name "len" p) [.Call (.Name "set" p2) [a] [] q] [] pos) (tLenSetG X.K ta) := by
  refine ⟨fun pins s σ H Q I h => ?_⟩
  refine Call_ (ld_blt I hg hm PySem.boot_len ?_)
  refine PyProof.Rows.callWith_builtin1 (PyProof.Rows.args_cons ?_ rfl) rfl rfl
  refine Call_ (ld_blt I hg2 hm2 PyProof.Rows.boot_set ?_)
  refine PyProof.Rows.callWith_type1 (PyProof.Rows.args_cons (thn (ha.run pins s σ H _ I h) fun v s1 ⟨x, H1, I1, r1, q1⟩ => PyProof.Rows.args_nil ?_) na) na rfl
  obtain ⟨l, ns, rfl, hq, hl, q1⟩ := q1
  cases r1
  obtain ⟨its, r, pl, hz⟩ := I1.list hq
  have hlen : its.toArray.size = ns.length := by rw [List.size_toArray, ← r.length, List.length_map]
  refine call_set_list (I1.ok.hd hc) pl.isList (ns := ns) (by simpa using r.ints) (by rw [hlen]; unfold scanBound; omega) fun h' tk hS hk => ?_
  refine PyProof.Rows.args_nil ?_
  rw [hlen] at hS
  have hdl : (dedup ns).length ≤ ns.length := PyProof.Rows.firstMet_length_le _ _
  obtain ⟨o, es, ep, t, ho, hex, hd, _, _, _, hf, hn⟩ := hS
  have I2 : Inv X pins σ H1 { s1 with heap := h', toks := tk } := I1.kept fun b o e => hk b o (Heap.lt_size e) e
  exact call_len_set ho hex hd hf (by rw [hn]; show ((dedup ns).length : Int) < _; omega) ⟨.int (dedup ns).length, H1, I2.tok _, ⟨_, by rw [hn]; rfl⟩, q1⟩
/-! ### a text so many times -/
def repS (s : Str) (n : Nat) : Str := ⟨(List.replicate n s.cps).foldl (· ++ ·) #[]⟩
theorem rep_size (a : Array Nat) : ∀ (n : Nat) (i : Array Nat), ((List.replicate n a).foldl (· ++ ·) i).size = i.size + n * a.size
  | 0, i => by simp
  | n + 1, i => by
    rw [List.replicate_succ, List.foldl_cons, rep_size a n, Array.size_append, Nat.succ_mul]
    omega
theorem repS_len (s : Str) (n : Nat) : (repS s n).length = n * s.length := by
  have := rep_size s.cps n #[]
  show ((List.replicate n s.cps).foldl (· ++ ·) #[]).size = n * s.cps.size
  rw [this]
  simp
theorem rep_all (p : Nat → Bool) (a : Array Nat) (h : a.all p = true) : ∀ (n : Nat) (i : Array Nat), i.all p = true → ((List.replicate n a).foldl (· ++ ·) i).all p = true
  | 0, i, hi => by simpa using hi
  | n + 1, i, hi => by
    rw [List.replicate_succ, List.foldl_cons]
    exact rep_all p a h n _ (by rw [Array.all_append, hi, h]; rfl)
theorem asc_rep {s : Str} (n : Nat) (h : asc s = true) : asc (repS s n) = true := rep_all _ s.cps h n #[] (by simp)
def rRepS : R2 := fun x y H Q => ∃ s n, x = .str s ∧ y = .int n ∧ 2 ≤ n ∧ n ≤ 1000 ∧ s.length ≠ 0 ∧ s.length ≤ 1000 ∧ Q (.str (repS s n.toNat)) H
theorem op_repS {X : Cx} : OpR X (binaryOp .Mult) rRepS := by
  intro pins s σ H x y v u Q I rx ry h
  obtain ⟨z, n, rfl, rfl, h1, h2, h3, h4, q⟩ := h
  obtain ⟨t, rfl⟩ := rx
  obtain ⟨t', rfl⟩ := ry
  refine PySem.P.mul_str (by simp; omega) (fun _ _ => ?_) (fun _ _ => ?_) ?_
  · have : (z.length : Int) ≤ (2 ^ 63 - 1) / n := (Int.le_ediv_iff_mul_le (by omega)).mpr (by
      have : (z.length : Int) * n ≤ 1000 * 1000 := Int.mul_le_mul (by omega) h2 (by omega) (by omega)
      omega)
    omega
  · refine PyProof.Rows.short24 ?_
    have : z.length * n.toNat ≤ 1000 * 1000 := Nat.mul_le_mul h4 (by omega)
    omega
  · have e1 : ¬ n < 1 := by omega
    have e2 : ¬ (n == 1 || z.length == 0) = true := by simp; omega
    rw [if_neg e1, if_neg e2]
    refine ⟨?_, .str _, H, I.tok _, ⟨_, rfl⟩, q⟩
    have h6 := repS_len z n.toNat
    have h7 : n.toNat * z.length ≤ 1000 * 1000 := Nat.mul_le_mul (by omega) h4
    have h8 : 1000 * 1000 ≤ sizeLine := by decide +kernel
    exact Nat.le_trans (Nat.le_of_eq h6) (Nat.le_trans h7 h8)
/-! ### drawings -/
def low (s : Str) : Prop := ∀ z, z ∈ s.cps.toList → 97 ≤ z ∧ z ≤ 122
structure IsDr (n : Int) (rows : List Str) : Prop where
  h1 : 1 ≤ rows.length
  h2 : (rows.length : Int) ≤ n
  wd : ∃ m : Nat, 1 ≤ m ∧ (m : Int) ≤ n ∧ ∀ r, r ∈ rows → r.length = m ∧ low r
theorem asc_low {s : Str} (h : low s) : asc s = true := by
  unfold asc
  rw [Array.all_eq_true_iff_forall_mem]
  intro z hz
  have := h z (by simpa using hz)
  simp
  omega
def one1 (y : Str) : Prop := ∃ z, y = sg z ∧ 97 ≤ z ∧ z ≤ 122
theorem glue_one : ∀ (ys : List Str) (acc : Array Nat), (∀ y, y ∈ ys → one1 y) → (∀ z, z ∈ acc.toList → 97 ≤ z ∧ z ≤ 122) → ((ys.foldl (fun acc p => acc ++ (#[] : Array Nat) ++ p.cps) acc).size = acc.size + ys.length ∧ ∀ z, z ∈ (ys.foldl (fun acc p => acc ++ (#[] : Array Nat) ++ p.cps) acc).toList → 97 ≤ z ∧ z ≤ 122)
  | [], acc, _, h => ⟨rfl, h⟩
  | y :: ys, acc, hy, h => by
    obtain ⟨z, rfl, z1, z2⟩ := hy y List.mem_cons_self
    have ih := glue_one ys (acc ++ (#[] : Array Nat) ++ (sg z).cps) (fun y h => hy y (List.mem_cons_of_mem _ h)) (fun t ht => by
      have : t ∈ acc.toList ∨ t = z := by simpa [sg] using ht
      rcases this with q | q
      · exact h t q
      · omega)
    rw [List.foldl_cons]
    refine ⟨?_, ih.2⟩
    rw [ih.1]
    simp [sg]
    omega
theorem join_one {ys : List Str} (h : ∀ y, y ∈ ys → one1 y) : (Txt.join "" ys).length = ys.length ∧ low (Txt.join "" ys) := by
  cases ys with
  | nil => exact ⟨rfl, fun z hz => by simp [Txt.join, Builtin.Str.glued, Str.empty] at hz⟩
  | cons y ys =>
    obtain ⟨z, rfl, z1, z2⟩ := h y List.mem_cons_self
    have := glue_one ys (sg z).cps (fun y hy => h y (List.mem_cons_of_mem _ hy)) (fun t ht => by
      have : t = z := by simpa [sg] using ht
      omega)
    refine ⟨?_, this.2⟩
    have e := this.1
    show (ys.foldl (fun acc p => acc ++ (#[] : Array Nat) ++ p.cps) (sg z).cps).size = ys.length + 1
    rw [e]
    simp [sg]
    omega
abbrev spOfS (K : PySem.W.Frag) : Sp := spD (fun s : Str => [tv (tStr (K := K)) s]) (tStr (K := K)) (fun s => 0 < s.length ∧ s.length < 100000) (fun s r => ∃ z, r = sg z ∧ z ∈ s.cps.toList)
/-! ### not in a tuple of things -/
def rNotInTD (K : PySem.W.Frag) : R2 := fun x y H Q => ∃ d ds, Dp K H x d ∧ Dp K H y (.tuple ds) ∧ SeqAt.shaped d = true ∧ SeqAt.shaped (.tuple ds) = true ∧ Q (.bl (!ds.any fun z => PyData.eqv z d)) H
theorem op_notInTD {X : Cx} (hu : X.A.units + 66 < cLine) : OpR X (compareOp .NotIn) (rNotInTD X.K) := by
  intro pins s σ H x y v u Q I rx ry h
  obtain ⟨d, ds, hd, he, sd, se, q⟩ := h
  obtain ⟨as, r1⟩ := Dp.reads I d x v hd rx
  obtain ⟨bs, r2⟩ := Dp.reads I (.tuple ds) y u he ry
  have h1 := SeqAt.depth_of_shaped sd
  have h2 := SeqAt.canLay_of_shaped se
  rw [PyData.canLay0] at h2
  exact SeqAt.notIn_tuple_reads r2 r1 h2 (SeqAt.canLay_of_shaped sd) (by have := Nat.min_le_right (PyData.depthAll ds) d.depth; omega) ⟨.bl _, H, I, rfl, q⟩
section
variable {P : Program} {w : World} {K : PySem.W.Frag} {mg : Str → Option Value} {base : Heap} {lv : Nat} {N : List Str} {sc : Scope} {fn : Str → Bool}
variable {α β γ δ ρ : Type}
variable {c : Ctx P w K mg base lv N sc fn} {Γ : Gm} {e a b d tg iter elt f e1 e2 : Expr} {lo hi : Option Expr} {es ts ifs : List Expr} {pos pos' p p2 pt px q2 : Pos} {T : Ty K α} {A : Ty K α} {B' : Ty K β} {C : Ty K γ} {D' : Ty K δ}
theorem ew_lenS (bi : Bi mg) {k : Gm → Int → Prop} (hg : glB sc "len" = true) (h : EW c Γ a tStr fun Γ1 s => s.length ≤ sizeLine ∧ k Γ1 s.length) (he : ∀ env, starEach [a] env = (false, eval a env) :: starEach [] env := by intro _; rfl) : EW c Γ (.Call (.Name "len" p) [a] [] pos) tInt k :=
  ew_B (id := "len") (r := rLen K) (fun hK _ => by rw [← hK]; exact call_len) hg bi.len boot_len_ (ews_cons (h.imp fun _ x hx => ews_nil (fun F H xs S r Q q => match xs, r with
    | [v], ⟨r, _⟩ => by
      obtain rfl : v = .str x := r
      exact ⟨_, x.length, rfl, ⟨hx.1, rfl⟩, q _ F H _ (Step.refl S) rfl hx.2⟩)) he) (he := he)
theorem ew_lenSet (bi : Bi mg) {k : Gm → Int → Prop} (hg : glB sc "len" = true) (hg2 : glB sc "set" = true) (h : EW c Γ a (tLst tInt) fun Γ1 ns => ns.length ≤ 4000 ∧ k Γ1 (dedup ns).length) (he : ∀ env, starEach [a] env = (false, eval a env) :: starEach [] env := by intro _; rfl) : EW c Γ (.Call (.Name "len" p) [.Call (.Name "set" p2) [a] [] q2] [] pos) tInt k := fun B σ F H S Q q => by
  obtain ⟨X, rfl, rfl, rfl, rfl, rfl, rfl, nd, rfl, rfl, calm, room, pas⟩ := c
  refine of_pe (pe_lenSetG (glB_gl hg) bi.len (glB_gl hg2) bi.set peW calm (he _)) (h B σ F H S _ fun v ns Γ1 F1 H1 S1 e1 ⟨l, vs, ev, hl, hr⟩ h1 => ?_)
  have ev2 : vs = ns.map V.int := All2.eq_map (fun _ _ r => r) hr
  subst ev2
  exact ⟨l, ns, ev, .inl (.inl (S1.sub _ _ hl)), h1.1, q _ _ Γ1 F1 H1 S1 e1 rfl h1.2⟩
theorem ew_all (bi : Bi mg) {k : Gm → Bool → Prop} (hg : glB sc "all" = true) (h : EW c Γ a (tLst tBool) fun Γ1 bs => k Γ1 (bs.all id)) (he : ∀ env, starEach [a] env = (false, eval a env) :: starEach [] env := by intro _; rfl) : EW c Γ (.Call (.Name "all" p) [a] [] pos) tBool k :=
  ew_B (id := "all") (r := rAll K) (fun hK hc => by rw [← hK]; exact cr_all hc) hg bi.all (by decide +kernel) (ews_cons (h.imp fun _ bs hx => ews_nil (fun F H xs S r Q q => match xs, r with
    | [v], ⟨⟨l, vs, ev, hl, hr⟩, _⟩ => by
      have ev2 : vs = bs.map V.bl := All2.eq_map (fun _ _ r => r) hr
      subst ev2
      exact ⟨l, bs, by rw [ev], .inl (.inl (S _ _ hl)), q _ F H _ (Step.refl S) rfl hx⟩)) he) (he := he)
theorem ew_ixS {k : Gm → Str → Prop} (h : EW c Γ a tStr fun Γ1 s => EW c Γ1 b tInt fun Γ2 i => s.length ≤ sizeLine ∧ ∃ z, atI s.cps.toList i = some z ∧ k Γ2 (sg z)) (hs : PlainIx b := by intro _ _; rfl) : EW c Γ (.Subscript a b pos) tStr k :=
  ew_ixG (r := rIxS) (fun hK => ix_str) (h.imp fun _ s h => h.imp fun _ i ⟨h0, x, h1, h2⟩ => fun F H u v S eu ev Q q => ⟨s, i, x, eu, ev, h0, h1, q _ F H _ (Step.refl S) rfl h2⟩) hs
theorem ew_repS {k : Gm → Str → Prop} (h : EW c Γ a tStr fun Γ1 s => EW c Γ1 b tInt fun Γ2 n => (2 ≤ n ∧ n ≤ 1000 ∧ s.length ≠ 0 ∧ s.length ≤ 1000) ∧ k Γ2 (repS s n.toNat)) : EW c Γ (.BinOp a .Mult b pos) tStr k :=
  ew_bin (fun _ => op_repS) (h.imp fun _ s h => h.imp fun _ n ⟨⟨h1, h2, h3, h4⟩, h5⟩ => fun F H x y S hx hy Q q => ⟨s, n, hx, hy, h1, h2, h3, h4, q _ F H _ (Step.refl S) rfl h5⟩)
theorem ew_inS {k : Gm → Bool → Prop} (h : EW c Γ a tStr fun Γ1 s => EW c Γ1 b tStr fun Γ2 z => ∃ i, s = sg i ∧ k Γ2 (decide (i ∈ z.cps.toList))) (hm : behindInMarks .In b = false := by with_unfolding_all rfl) : EW c Γ (.Compare a [.In] [b] pos) tBool k :=
  ew_cmp (fun _ => op_in_sign) (h.imp fun _ s h => h.imp fun _ z ⟨i, h1, h2⟩ => fun F H x y S hx hy Q q => ⟨i, z, by rw [show x = .str s from hx, h1]; rfl, hy, q _ F H _ (Step.refl S) rfl h2⟩) hm
theorem tw_notInS {k : Gm → Bool → Prop} (h : EW c Γ a tStr fun Γ1 s => EW c Γ1 b tStr fun Γ2 z => ∃ i, s = sg i ∧ k Γ2 (!decide (i ∈ z.cps.toList))) (hm : behindInMarks .NotIn b = false := by with_unfolding_all rfl) : TW c Γ (.Compare a [.NotIn] [b] pos) k :=
  tw_cmp (fun _ => op_notIn_sign) (h.imp fun _ s h => h.imp fun _ z ⟨i, h1, h2⟩ => fun F H x y S hx hy Q q => ⟨i, z, by rw [show x = .str s from hx, h1]; rfl, hy, q _ F H _ (Step.refl S) rfl h2⟩) hm
theorem tw_notInTD {k : Gm → Bool → Prop} (h : EW c Γ a tAny fun Γ1 x => EW c Γ1 b (tTup tAny) fun Γ2 ys => (SeqAt.shaped x = true ∧ SeqAt.shaped (.tuple ys) = true) ∧ k Γ2 (!ys.any fun z => PyData.eqv z x)) (hm : behindInMarks .NotIn b = false := by with_unfolding_all rfl) : TW c Γ (.Compare a [.NotIn] [b] pos) k := fun B σ F H S Q q => by
  have hu : c.X.A.units + 66 < cLine := by have := c.room.un; omega
  obtain ⟨X, rfl, rfl, rfl, rfl, rfl, rfl, nd, rfl, rfl, calm, room, pas⟩ := c
  refine of_pt (pt_cmpR (op_notInTD hu) peW peW hm) ?_
  refine h B σ F H S _ fun v x Γ1 F1 H1 S1 e1 r1 h1 => h1 B σ F1 H1 S1 _ fun u y Γ2 F2 H2 S2 e2 r2 ⟨⟨h2, h3⟩, h4⟩ => ?_
  exact ⟨x, y, dp_mono S2.sub _ (tAny.mono e2 r1), dp_mono S2.sub _ (tup_any r2), h2, h3, _, rfl, q _ Γ2 F2 H2 S2 (e1.trans e2) h4⟩
theorem ew_isBl {k : Gm → Bool → Prop} (h : EW c Γ a tBool fun Γ1 x => EW c Γ1 b tBool fun Γ2 y => k Γ2 (decide (x = y))) : EW c Γ (.Compare a [.Is] [b] pos) tBool k :=
  ew_cmp (fun _ => op_isBl) (h.imp fun _ x h => h.imp fun _ y h1 => fun F H u v S hx hy Q q => ⟨x, y, hx, hy, q _ F H _ (Step.refl S) rfl h1⟩) (nomark _)
/-- a <= b <= d as a test -/
theorem tw_leLe {k : Gm → Bool → Prop} (h : EW c Γ a tInt fun Γ1 i => EW c Γ1 b tInt fun Γ2 j => (i ≤ j → EW c Γ2 d tInt fun Γ3 l => k Γ3 (decide (j ≤ l))) ∧ (¬ i ≤ j → k Γ2 false)) (hm : lastMarks [.LtE, .LtE] [b, d] = false := by with_unfolding_all rfl) : TW c Γ (.Compare a [.LtE, .LtE] [b, d] pos) k := fun B σ F H S Q q => by
  refine of_pt (pt_chain op_le op_le peW peW peW hm) ?_
  refine h B σ F H S _ fun v i Γ1 F1 H1 S1 e1 r1 h1 => h1 B σ F1 H1 S1 _ fun u j Γ2 F2 H2 S2 e2 r2 ⟨h2, h3⟩ => ⟨i, j, r1, r2, decide (i ≤ j), rfl, ?_⟩
  by_cases z : i ≤ j
  · rw [if_pos (decide_eq_true z)]
    exact h2 z B σ F2 H2 S2 _ fun t l Γ3 F3 H3 S3 e3 r3 h4 => ⟨j, l, r2, r3, _, rfl, q _ Γ3 F3 H3 S3 ((e1.trans e2).trans e3) h4⟩
  · rw [if_neg (fun e => z (of_decide_eq_true e))]
    exact ⟨_, rfl, q _ Γ2 F2 H2 S2 (e1.trans e2) (h3 z)⟩
/-- things of one type, as a test -/
theorem tw_eqD {f : α → PyData} (hT : AsD T f) {k : Gm → Bool → Prop} (h : EW c Γ a T fun Γ1 x => EW c Γ1 b T fun Γ2 y => (SeqAt.shaped (f x) = true ∧ SeqAt.shaped (f y) = true) ∧ k Γ2 (PyData.eqv (f x) (f y))) : TW c Γ (.Compare a [.Eq] [b] pos) k := fun B σ F H S Q q => by
  have hu := uni c
  obtain ⟨X, rfl, rfl, rfl, rfl, rfl, rfl, nd, rfl, rfl, calm, room, pas⟩ := c
  refine of_pt (pt_cmpR (op_eqD hu) peW peW (nomark _)) ?_
  refine h B σ F H S _ fun v x Γ1 F1 H1 S1 e1 r1 h1 => h1 B σ F1 H1 S1 _ fun u y Γ2 F2 H2 S2 e2 r2 ⟨⟨h2, h3⟩, h4⟩ => ?_
  exact ⟨f x, f y, dp_mono S2.sub _ (hT _ _ _ (T.mono e2 r1)), dp_mono S2.sub _ (hT _ _ _ r2), h2, h3, _, rfl, q _ Γ2 F2 H2 S2 (e1.trans e2) h4⟩
theorem tw_neD {f : α → PyData} (hT : AsD T f) {k : Gm → Bool → Prop} (h : EW c Γ a T fun Γ1 x => EW c Γ1 b T fun Γ2 y => (SeqAt.shaped (f x) = true ∧ SeqAt.shaped (f y) = true) ∧ k Γ2 (!PyData.eqv (f x) (f y))) : TW c Γ (.Compare a [.NotEq] [b] pos) k := fun B σ F H S Q q => by
  have hu := uni c
  obtain ⟨X, rfl, rfl, rfl, rfl, rfl, rfl, nd, rfl, rfl, calm, room, pas⟩ := c
  refine of_pt (pt_cmpR (op_neD hu) peW peW (nomark _)) ?_
  refine h B σ F H S _ fun v x Γ1 F1 H1 S1 e1 r1 h1 => h1 B σ F1 H1 S1 _ fun u y Γ2 F2 H2 S2 e2 r2 ⟨⟨h2, h3⟩, h4⟩ => ?_
  exact ⟨f x, f y, dp_mono S2.sub _ (hT _ _ _ (T.mono e2 r1)), dp_mono S2.sub _ (hT _ _ _ r2), h2, h3, _, rfl, q _ Γ2 F2 H2 S2 (e1.trans e2) h4⟩
/-- for c in text -/
theorem iw_str {k : Gm → List Str → Prop} (h : EW c Γ iter tStr fun Γ1 s => k Γ1 (signs s)) : IW c Γ tg iter tStr k := fun B σ F H S R q => by
  refine of_pi (pi_str peW) (h B σ F H S _ fun v s Γ1 F1 H1 S1 e1 r1 h1 => ⟨s, r1, q _ (signs s) Γ1 F1 H1 S1 e1 ⟨fun i F2 H2 s1 s2 hi => ?_, fun i F2 H2 s1 s2 hi => ?_, fun i F2 H2 x H' s1 s2 hy a ha => ?_⟩ h1⟩)
  · rw [signs_len] at hi; exact hi
  · rw [signs_len] at hi; exact hi
  · obtain ⟨rfl, z, hz, rfl⟩ := hy
    unfold signs at ha
    rw [List.getElem?_map] at ha
    have hz' : s.cps.toList[i]? = some z := by rw [← hz]; simp
    rw [hz'] at ha
    have e2 : a = sg z := (Option.some.inj ha).symm
    exact ⟨F2, Step.refl s2, by rw [e2]; rfl⟩
/-- text.join(list) -/
theorem ew_join {ap : Pos} {k : Gm → Str → Prop} (h : EW c Γ a tStr fun Γ1 s => EW c Γ1 b (tLst tStr) fun Γ2 ys => (ys.map (·.length)).sum + ys.length * s.length ≤ 16777216 ∧ k Γ2 (Txt.join s ys))
    (hs : ∀ env, starEach [b] env = [(false, eval b env)] := by intro _; rfl) (hb : ∀ env, attributeBase a "join" env (eval a env) = eval a env := by intro _; rfl) (hl : (ap.endLine == pos.line) = true := by rfl) : EW c Γ (.Call (.Attribute a "join" ap) [b] [] pos) tStr k := fun B σ F H S Q q => by
  obtain ⟨X, rfl, rfl, rfl, rfl, rfl, rfl, nd, rfl, rfl, calm, room, pas⟩ := c
  refine of_pe (pe_join peW peW (hs _) (hb _) hl) (h B σ F H S _ fun v s Γ1 F1 H1 S1 e1 r1 h1 => ⟨⟨s, r1⟩, h1 B σ F1 H1 S1 _ fun u ys Γ2 F2 H2 S2 e2 ⟨l, vs, ev, hq, hr⟩ h2 => ?_⟩)
  have ev2 : vs = ys.map V.str := All2.eq_map (fun _ _ r => r) hr
  subst ev2
  exact ⟨s, l, ys, r1, by rw [ev], .inl (.inl (.inl (S2.sub _ _ hq))), h2.1, q _ _ Γ2 F2 H2 S2 (e1.trans e2) rfl h2.2⟩
theorem sw_cell {elt : Expr} {gs : List Comprehension} {scope : Scope} {pos py : Pos} {y : Str} {l : Nat} {env : Env} (hy : env.scope.names.lookup y = some .cell) : swapsWith (.ListComp elt gs scope pos) (some (.Name y py)) l env = pure false := by
  have ky : env.kindOf y = some .cell := hy
  unfold swapsWith
  simp only [ky, show ((some NameKind.cell : Option NameKind) == some .local) = false from rfl, Bool.and_false, Bool.false_and]
/-- x = [..], x a local that a comprehension reads -/
theorem w_setCell {R : Rs ρ} {rt : Gm → ρ → Prop} {nx bk ct : Gm → Prop} {i : Nat} {x : Str} {scope : Scope} {py : Pos} {gs : List Comprehension} (hs : slotOf N x 0 = some i) (hv : locB sc fn x = true) (hc : sc.names.lookup x = some .cell) (h : EL c Γ (.ListComp elt gs scope pos) T fun Γ1 z => i < Γ1.length ∧ nx (Γ1.set i (some (ownL T z)))) : S1 c Γ (.Assign [.Name x py] (.ListComp elt gs scope pos) pos') (⟨R, rt, nx, bk, ct⟩ : En ρ) := fun B σ F H hB S => by
  have hN := c.hN
  have hsc := c.hsc
  have hfn := c.hfn
  have hl := locB_loc hv
  refine of_ps (ps_set (i := i) (by rw [hN]; exact c.nd) (by rw [hN]; exact slotOf_at hs) (by rw [hsc]; exact hl.1) peW (sw_cell (by rw [hsc]; exact hc)) (by rw [hsc, hfn]; exact hl.2)) ?_
  exact h B σ F H S _ fun p vs as Γ1 F1 H1 S1 e1 b1 b2 b3 hp r1 h1 => ⟨Γ1.set i (some (ownL T as)), F1, S1.take h1.1 ⟨p, vs, rfl, fun q => Iff.rfl, hp, r1⟩ b2 (by rw [hp]; exact fun z => nomatch z) b1 b3, h1.2⟩
section
variable {R : Rs ρ} {rt : Gm → ρ → Prop} {nx bk ct : Gm → Prop} {x y z : Str} {i j l : Nat} {kt k2 : Nat} {px py pz pt2 : Pos}
/-- x, y = a, b -/
theorem w_par2 (hi : slotOf N x 0 = some i) (hj : slotOf N y 0 = some j) (hij : i ≠ j) (hx : sc.names.lookup x = some .local) (hy : sc.names.lookup y = some .local) (hk : sc.kind = .function)
    (h : EW c Γ a A fun Γ1 u => EW c Γ1 b B' fun Γ2 v => (i < Γ2.length ∧ j < Γ2.length) ∧ nx ((Γ2.set i (some (val A u))).set j (some (val B' v))))
    (hw : ∀ env : Env, env.blockKind = .function → env.kindOf x = some .local → env.kindOf y = some .local → swappedStores [.Tuple [.Name x px, .Name y py] kt pt] (.Tuple [a, b] k2 pt2) env = pure (some [x, y]) := by intro env h1 h2 h3; unfold swappedStores; simp only [List.filterMap, h1, h2, h3]; rfl)
    (hs : ∀ env, swapsWithSole [.Tuple [.Name x px, .Name y py] kt pt] (.Tuple [a, b] k2 pt2) pos.line env = pure false := by intro _; rfl) (he : ∀ env, starEach [a, b] env = (false, eval a env) :: starEach [b] env := by intro _; rfl) (he2 : ∀ env, starEach [b] env = (false, eval b env) :: starEach [] env := by intro _; rfl) :
    S1 c Γ (.Assign [.Tuple [.Name x px, .Name y py] kt pt] (.Tuple [a, b] k2 pt2) pos) (⟨R, rt, nx, bk, ct⟩ : En ρ) := fun B σ F H hB S => by
  obtain ⟨X, rfl, rfl, rfl, rfl, rfl, rfl, nd, rfl, rfl, calm, room, pas⟩ := c
  have hb : X.env.blockKind = .function := by unfold Env.blockKind; rw [hk]; rfl
  refine of_ps (ps_par calm nd (slotOf_at hi) (slotOf_at hj) hij hx hy (pa_cons peW (pa_cons peW pa_nil (he2 _)) (he _)) (hw _ hb hx hy) (hs _)) ?_
  refine h B σ F H S _ fun v1 u1 Γ1 F1 H1 S1 e1 r1 h1 => h1 B σ F1 H1 S1 _ fun v2 u2 Γ2 F2 H2 S2 e2 r2 ⟨⟨l1, l2⟩, h2⟩ => ⟨v1, v2, rfl, ?_⟩
  exact ⟨_, F2, (S2.set (e := val A u1) l1 ⟨fun _ z => z, A.mono e2 r1⟩).set (e := val B' u2) (by rw [List.length_set]; exact l2) ⟨fun _ z => z, r2⟩, h2⟩
theorem w_par3 (hi : slotOf N x 0 = some i) (hj : slotOf N y 0 = some j) (hl : slotOf N z 0 = some l) (hij : i ≠ j) (hil : i ≠ l) (hjl : j ≠ l) (hx : sc.names.lookup x = some .local) (hy : sc.names.lookup y = some .local) (hz : sc.names.lookup z = some .local) (hk : sc.kind = .function)
    (h : EW c Γ a A fun Γ1 u => EW c Γ1 b B' fun Γ2 v => EW c Γ2 d C fun Γ3 t => (i < Γ3.length ∧ j < Γ3.length ∧ l < Γ3.length) ∧ nx (((Γ3.set i (some (val A u))).set j (some (val B' v))).set l (some (val C t))))
    (hw : ∀ env : Env, env.blockKind = .function → env.kindOf x = some .local → env.kindOf y = some .local → env.kindOf z = some .local → swappedStores [.Tuple [.Name x px, .Name y py, .Name z pz] kt pt] (.Tuple [a, b, d] k2 pt2) env = pure (some [x, y, z]) := by intro env h1 h2 h3 h4; unfold swappedStores; simp only [List.filterMap, h1, h2, h3, h4]; rfl)
    (hs : ∀ env, swapsWithSole [.Tuple [.Name x px, .Name y py, .Name z pz] kt pt] (.Tuple [a, b, d] k2 pt2) pos.line env = pure false := by intro _; rfl) (he : ∀ env, starEach [a, b, d] env = (false, eval a env) :: starEach [b, d] env := by intro _; rfl) (he2 : ∀ env, starEach [b, d] env = (false, eval b env) :: starEach [d] env := by intro _; rfl) (he3 : ∀ env, starEach [d] env = (false, eval d env) :: starEach [] env := by intro _; rfl) :
    S1 c Γ (.Assign [.Tuple [.Name x px, .Name y py, .Name z pz] kt pt] (.Tuple [a, b, d] k2 pt2) pos) (⟨R, rt, nx, bk, ct⟩ : En ρ) := fun B σ F H hB S => by
  obtain ⟨X, rfl, rfl, rfl, rfl, rfl, rfl, nd, rfl, rfl, calm, room, pas⟩ := c
  have hb : X.env.blockKind = .function := by unfold Env.blockKind; rw [hk]; rfl
  refine of_ps (ps_par3 calm nd (slotOf_at hi) (slotOf_at hj) (slotOf_at hl) hij hil hjl hx hy hz (pa_cons peW (pa_cons peW (pa_cons peW pa_nil (he3 _)) (he2 _)) (he _)) (hw _ hb hx hy hz) (hs _)) ?_
  refine h B σ F H S _ fun v1 u1 Γ1 F1 H1 S1 e1 r1 h1 => h1 B σ F1 H1 S1 _ fun v2 u2 Γ2 F2 H2 S2 e2 r2 h2 => h2 B σ F2 H2 S2 _ fun v3 u3 Γ3 F3 H3 S3 e3 r3 ⟨⟨l1, l2, l3⟩, h3⟩ => ⟨v1, v2, v3, rfl, ?_⟩
  exact ⟨_, F3, ((S3.set (e := val A u1) l1 ⟨fun _ z => z, A.mono (e2.trans e3) r1⟩).set (e := val B' u2) (by rw [List.length_set]; exact l2) ⟨fun _ z => z, B'.mono e3 r2⟩).set (e := val C u3) (by rw [List.length_set, List.length_set]; exact l3) ⟨fun _ z => z, r3⟩, h3⟩
end
end
end Px
/-! Px, fifteenth part: a tuple's reverse; zip of tuples; sorted ints. -/
namespace Px
open PySem PySem.Spec PyProof.Rows L2
theorem rev_places (n : Nat) : Builtin.Slice.slicePlaces ((n : Int) - 1) (-1) (-1) = n := by
  unfold Builtin.Slice.slicePlaces
  rw [if_neg (by decide)]
  by_cases h : n = 0
  · subst h; rfl
  · rw [if_pos (by omega)]
    have e : -(-1 : Int) = 1 := rfl
    rw [e, Int.ediv_one]
    omega
theorem rev_pick (xs : Array Value) : ((List.range xs.size).filterMap fun (k : Nat) => xs[((xs.size : Int) - 1 + (k : Int) * (-1)).toNat]?).toArray = xs.toList.reverse.toArray := by
  have e : (fun (k : Nat) => xs[((xs.size : Int) - 1 + (k : Int) * (-1)).toNat]?) = (fun k => xs[k]?) ∘ fun k => xs.size - 1 - k := by
    funext k
    show _ = xs[xs.size - 1 - k]?
    rw [show ((xs.size : Int) - 1 + (k : Int) * (-1)).toNat = xs.size - 1 - k by omega]
  have e2 : (List.range xs.size).map (fun k => xs.size - 1 - k) = (List.range xs.size).reverse := List.ext_getElem (by simp) (by intro i h1 h2; simp)
  rw [e, ← List.filterMap_map, e2, List.filterMap_reverse, PySem.W.krv_all]
theorem sorted_one : ∀ {xs ys : List Int}, xs.Perm ys → xs.Pairwise (· ≤ ·) → ys.Pairwise (· ≤ ·) → xs = ys
  | [], ys, h, _, _ => (List.Perm.nil_eq h)
  | x :: xs, [], h, _, _ => (List.Perm.eq_nil h)
  | x :: xs, y :: ys, h, hx, hy => by
    have hx' := List.pairwise_cons.mp hx
    have hy' := List.pairwise_cons.mp hy
    have e : x = y := by
      have h1 : x ∈ y :: ys := h.subset List.mem_cons_self
      have h2 : y ∈ x :: xs := h.symm.subset List.mem_cons_self
      have a1 : y ≤ x := by
        rcases List.mem_cons.mp h1 with q | q
        · omega
        · exact hy'.1 x q
      have a2 : x ≤ y := by
        rcases List.mem_cons.mp h2 with q | q
        · omega
        · exact hx'.1 y q
      omega
    subst e
    rw [sorted_one (List.Perm.cons_inv h) hx'.2 hy'.2]
/-- the sorted list of ints -/
def srt (ns : List Int) : List Int := ns.mergeSort (fun a b => decide (a ≤ b))
theorem srt_perm (ns : List Int) : (srt ns).Perm ns := List.mergeSort_perm ..
theorem srt_le (ns : List Int) : (srt ns).Pairwise (· ≤ ·) := by
  have := List.pairwise_mergeSort (le := fun a b : Int => decide (a ≤ b)) (by simp; omega) (by simp; omega) ns
  exact this.imp (by simp)
theorem srt_of {ns ns' : List Int} (h : ns'.Perm ns) (h2 : ns'.Pairwise (· ≤ ·)) : ns' = srt ns := sorted_one (h.trans (srt_perm ns).symm) h2 (srt_le ns)
theorem sh_ints (zs : List Int) : SeqAt.shaped (.list (zs.map .int)) = true := by
  have h1 : PyData.canLayAll0 (zs.map .int) = true := layAll_of fun d hd => by
    obtain ⟨z, _, rfl⟩ := List.mem_map.mp hd
    rfl
  have h2 : PyData.depthAll (zs.map .int) ≤ 0 := depthAll_of fun d hd => by
    obtain ⟨z, _, rfl⟩ := List.mem_map.mp hd
    exact Nat.le_refl _
  unfold SeqAt.shaped
  rw [PyData.canLay0, h1, PyData.depth]
  simp
  omega
section
open HT
variable {prog : Program} {w : World} {A : Around} {E : Value → Shared → Prop} {s : Shared}
theorem applied_rev {sl : Addr} {vl vu vs : Value} {n : Nat} {Q : Int × Int × Nat → Shared → Prop} (hs : s.heap.IsSliceOf sl vl vu vs) (pl : IsPart vl none) (pu : IsPart vu none) (ps : IsPart vs (some (-1)))
    (h : Q ((n : Int) - 1, -1, n) s) : wpAny (model prog w) A (Builtin.Slice.sliceApplied (.ref sl) (pure (n : Int))) Q E s := by
  obtain ⟨os, hos, hcs, hds⟩ := id hs
  unfold Builtin.Slice.sliceApplied Builtin.Slice.sliceFields
  refine wpAny_bind (wpAny_bind (wpAny_field hos hds (x := vl) rfl (wpAny_bind (wpAny_field hos hds (x := vu) rfl (wpAny_bind (wpAny_field hos hds (x := vs) rfl (wpAny_pure ?_)))))))
  refine wpAny_bind (slicePart_ ps ?_)
  show wpAny _ _ (if ((-1 : Int) == 0) = true then _ else _) _ _ s
  rw [if_neg (by decide)]
  refine wpAny_bind (slicePart_ pl (wpAny_bind (slicePart_ pu (wpAny_bind (wpAny_pure ?_)))))
  show wpAny _ _ (pure ((n : Int) - 1, (-1 : Int), Builtin.Slice.slicePlaces ((n : Int) - 1) (-1) (-1))) _ _ s
  rw [rev_places]
  exact wpAny_pure h
theorem getItem_tuple_rev {t sl : Addr} {items : Array Value} {vl vu vs : Value} {Q : Value → Shared → Prop} (ht : IsTup s.heap t items) (hs : s.heap.IsSliceOf sl vl vu vs) (pl : IsPart vl none) (pu : IsPart vu none) (ps : IsPart vs (some (-1)))
    (h : Q (.ref s.heap.objs.size) { s with heap := s.heap.push { cls := .type "tuple", data := .seq items.toList.reverse.toArray } }) (hsz : items.size ≤ sizeLine) : wpAny (model prog w) A (getItem (.ref t) (.ref sl)) Q E s := by
  have htake : sizeOk (.seq items.toList.reverse.toArray) := by
    show items.toList.reverse.toArray.size ≤ sizeLine
    simpa using hsz
  obtain ⟨os, hos, hcs, hds⟩ := id hs
  have hTs : s.TypeIs (.ref sl) "slice" := ⟨os, hos, hcs⟩
  unfold getItem
  try with_reducible refine wpAny_holding ?_
  first | refine wpAny_bind (wpAny_pure ?_) | skip
  refine wpAny_bind (wpAny_sequenceKey ht.typeIs (by decide) ?_)
  refine wpAny_bind (wpAny_callSpecial?_slot (name := Str.ofString "__getitem__") ht.typeIs PyProof.Rows.slot_tuple_getitem
    (wpAny_call_entry PyProof.Rows.slot_tuple_getitem ht.typeIs entry_tuple_getitem ?_ (args_tuple_getitem _ _)))
  show wpAny _ _ (Builtin.Tuple.tupleItemsOf (.ref t) >>= _) _ _ s
  refine wpAny_bind (tupleItemsOf_ ht ?_)
  refine wpAny_bind (wpAny_typeOf hTs ?_)
  rw [if_pos (by decide)]
  refine wpAny_bind (applied_rev hs pl pu ps ?_)
  have hno : ¬ ((((items.size : Int) - 1) == 0 && (-1 : Int) == 1 && items.size == items.size) = true) := by
    intro q
    rw [Bool.and_eq_true, Bool.and_eq_true] at q
    exact absurd q.1.2 (by decide)
  show wpAny _ _ (if (((items.size : Int) - 1) == 0 && (-1 : Int) == 1 && items.size == items.size) = true then _ else _) _ _ s
  rw [if_neg hno, rev_pick]
  first
    | exact wpAny_bind (m := Builtin.Tuple.tupleExact _) (wpAny_newObj_type (wpAny_pure ⟨_, rfl, wpAny_pure h⟩) htake)
    | exact wpAny_bind (m := Builtin.Tuple.tupleExact _) (wpAny_newObj_type (wpAny_bind (wpAny_pure (wpAny_pure ⟨_, rfl, wpAny_pure h⟩))) htake)
    | exact wpAny_bind (wpAny_bind (m := Builtin.Tuple.tupleExact _) (wpAny_newObj_type (wpAny_pure (wpAny_pure ⟨_, rfl, wpAny_pure h⟩)) htake))
    | exact wpAny_bind (wpAny_bind (m := Builtin.Tuple.tupleExact _) (wpAny_newObj_type (wpAny_pure ⟨_, rfl, wpAny_pure h⟩) htake))
end
section
variable {X : Cx} {e : Expr} {te : TE}
def tRevT (K : PySem.W.Frag) (te : TE) : TE := fun σ H Q => te σ H fun x H1 => ∃ a xs, x = .ref a ∧ SqT K H1 a xs ∧ ∀ p, H1 p = none → Q (.ref p) (upd H1 p (.tup xs.reverse))
theorem pe_revT {k : Nat} {p1 p2 p3 pos : Pos} (he : PE X e te) : PE X (.Subscript e (.Slice none none (some (.UnaryOp .USub (.Constant (.int 1) k p1) p2)) p3) pos) (tRevT X.K te) := by
  refine ⟨fun pins s σ H Q I h => ?_⟩
  refine Subscript_ (thn (he.run pins s σ H _ I h) fun v s1 ⟨x, H1, I1, r1, q1⟩ => ?_)
  obtain ⟨a, xs, ex, hx, q⟩ := q1
  subst ex
  cases r1
  have hst : PO X (some (.UnaryOp .USub (.Constant (.int 1) k p1) p2)) (tPart (tUn (rU fun i => .int (-i)) (tC (.int 1)))) := po_some (pe_un un_neg pe_int)
  refine wpAny_Slice (thn (po_none.run pins s1 σ H1 (fun o H2 => o = none ∧ H2 = H1) I1 ⟨rfl, rfl⟩) fun vl s2 ⟨l, H2, I2, pl, el, e2⟩ => ?_)
  subst el e2
  refine thn (po_none.run pins s2 σ H2 (fun o H3 => o = none ∧ H3 = H2) I2 ⟨rfl, rfl⟩) fun vu s3 ⟨u, H3, I3, pu, eu, e3⟩ => ?_
  subst eu e3
  refine thn (hst.run pins s3 σ H3 (fun o H4 => o = some (-1) ∧ H4 = H3) I3 ⟨1, rfl, -1, rfl, rfl, rfl⟩) fun vs s4 ⟨o, H4, I4, ps, eo, e4⟩ => ?_
  subst eo e4
  have I5 : Inv X pins σ H4 { s4 with heap := s4.heap.push { cls := .type "slice", data := .fields #[vl, vu, vs] } } := I4.kept (t' := s4.toks) fun b ob q => Heap.get?_push_of_some _ q
  obtain ⟨its, r, ht, hz⟩ := I5.tuple hx
  have hlen : its.toArray.size = xs.length := by rw [List.size_toArray]; exact r.length.symm
  show wpAny (model X.prog X.w) X.A (subscriptTail e (.Slice none none (some (.UnaryOp .USub (.Constant (.int 1) k p1) p2)) p3) (.ref a) (.ref s4.heap.objs.size)) (EP X pins σ Q) X.xe { s4 with heap := s4.heap.push { cls := .type "slice", data := .fields #[vl, vu, vs] } }
  refine tail_any (ops := [.ref a, .ref s4.heap.objs.size]) ht.typeIs (PyProof.Rows.slot_tuple_getitem.lookup) ?_ (by with_unfolding_all rfl)
  refine getItem_tuple_rev ht (Heap.IsSliceOf.new _ vl vu vs) pl pu ps ?_ (by rw [hlen]; exact hz)
  refine ⟨.ref _, _, I5.laid (t' := s4.toks) (o := .tup xs.reverse) (fun b ob q => Heap.get?_push_of_some _ q) (Nat.le_refl _) ?_, rfl, q _ (I5.hok.fresh (Nat.le_refl _))⟩
  exact ⟨by rw [List.length_reverse]; exact hz, _, r.reverse, IsTup.new _ _⟩
end
section
variable {P : Program} {w : World} {K : PySem.W.Frag} {mg : Str → Option Value} {base : Heap} {lv : Nat} {N : List Str} {sc : Scope} {fn : Str → Bool}
variable {α β γ δ ρ : Type}
variable {c : Ctx P w K mg base lv N sc fn} {Γ : Gm} {e a b d tg iter elt f e1 e2 : Expr} {lo hi : Option Expr} {es ts ifs : List Expr} {pos pos' p p2 pt px q2 : Pos} {T : Ty K α} {A : Ty K α} {B' : Ty K β} {C : Ty K γ} {D' : Ty K δ}
theorem ew_revT {k : Gm → List α → Prop} {j1} {p1 p3 p4 : Pos} (h : EW c Γ a (tTup T) fun Γ1 xs => k Γ1 xs.reverse) : EW c Γ (.Subscript a (.Slice none none (some (.UnaryOp .USub (.Constant (.int 1) j1 p1) p3)) p4) pos) (tTup T) k := fun B σ F H S Q q => by
  obtain ⟨X, rfl, rfl, rfl, rfl, rfl, rfl, nd, rfl, rfl, calm, room, pas⟩ := c
  refine of_pe (pe_revT peW) (h B σ F H S _ fun v xs Γ1 F1 H1 S1 e1 r1 h1 => ?_)
  obtain ⟨q1, vs, rfl, hq, hv⟩ := r1
  refine ⟨q1, vs, rfl, sqT_mono S1.sub hq, fun l hl => ?_⟩
  have st := Step.frozen (o := .tup vs.reverse) S1.sub hl
  exact q _ _ Γ1 _ _ (S1.step st) (e1.trans st.ff) ⟨l, _, rfl, .inl (.inl upd_same), All2.imp (fun _ _ => T.mono st.ff) (All2.reverse hv)⟩ h1
/-- sorted(list of ints) -/
theorem el_sorted (bi : Bi mg) {k : Gm → List Int → Prop} (hg : glB sc "sorted" = true) (h : EW c Γ a (tLst tInt) fun Γ1 ns => ns.length < 64 ∧ k Γ1 (srt ns)) (he : ∀ env, starEach [a] env = (false, eval a env) :: starEach [] env := by intro _; rfl) : EL c Γ (.Call (.Name "sorted" p) [a] [] pos) tInt k := fun B σ F H S Q q => by
  obtain ⟨X, rfl, rfl, rfl, rfl, rfl, rfl, nd, rfl, rfl, calm, room, pas⟩ := c
  refine of_pe (pe_callB cr_sorted (glB_gl hg) bi.sorted (by decide +kernel) (pa_cons peW pa_nil (he _)) (by decide +kernel) (by decide +kernel) (he _) rfl) (h B σ F H S _ fun v ns Γ1 F1 H1 S1 e1 ⟨l, vs, ev, hl, hr⟩ h1 => ?_)
  have ev2 : vs = ns.map V.int := All2.eq_map (fun _ _ r => r) hr
  subst ev2
  refine ⟨l, ns, by rw [ev], .inl (.inl (S1.sub _ _ hl)), h1.1, fun ns' p g1 g2 hp => ?_⟩
  obtain rfl := srt_of g1 g2
  obtain ⟨S4, b1, b2, b3⟩ := S1.make (o := .lst ((srt ns).map V.int)) hp
  exact q p _ _ Γ1 _ _ S4 e1 b1 b3 b2 upd_same (all2_ints _ _) h1.2
/-- list(range(n)) -/
theorem el_range1 (bi : Bi mg) {k : Gm → List Int → Prop} {rp rq : Pos} (hg : glB sc "list" = true) (hg2 : glB sc "range" = true) (h : EW c Γ a tInt fun Γ1 n => (0 ≤ n ∧ n ≤ 16777216) ∧ k Γ1 (ups 0 n)) (he : ∀ env, starEach [a] env = (false, eval a env) :: starEach [] env := by intro _; rfl)
    (he2 : ∀ env, starEach [.Call (.Name "range" rp) [a] [] rq] env = (false, eval (.Call (.Name "range" rp) [a] [] rq) env) :: starEach [] env := by intro _; rfl) : EL c Γ (.Call (.Name "list" p) [.Call (.Name "range" rp) [a] [] rq] [] pos) tInt k := fun B σ F H S Q q => by
  obtain ⟨X, rfl, rfl, rfl, rfl, rfl, rfl, nd, rfl, rfl, calm, room, pas⟩ := c
  refine of_pe (pe_listRg calm (glB_gl hg) bi.list (prg_1 (glB_gl hg2) bi.range peW (he _)) (he2 _)) (h B σ F H S _ fun v n Γ1 F1 H1 S1 e1 r1 ⟨⟨n1, n2⟩, h1⟩ => ⟨n, r1, RgOk.of_le (by omega) n2 (by omega) n1, fun p hp => ?_⟩)
  obtain ⟨S4, b1, b2, b3⟩ := S1.make (o := .lst (rgV 0 n)) hp
  refine q p _ (ups 0 n) Γ1 _ _ S4 e1 b1 b3 b2 upd_same ?_ h1
  have e : rgV 0 n = (ups 0 n).map V.int := by unfold rgV ups; rw [List.map_map]; rfl
  rw [e]
  exact all2_ints _ _
/-- a or b, lists -/
theorem pe_orW {X : Cx} {a b : Expr} {rest : List Expr} {pos : Pos} {ta tb : TE} (ha : PE X a ta) (hb : PE X (.BoolOp .Or (b :: rest) pos) tb) : PE X (.BoolOp .Or (a :: b :: rest) pos) (fun σ H Q => ta σ H fun x H1 => ∃ k, TruV X.K x H1 k ∧ (if k = true then Q x H1 else tb σ H1 Q)) := by
  refine ⟨fun pins s σ H Q I h => ?_⟩
  refine PyProof.Rows.BoolOp_or (thn (ha.run pins s σ H _ I h) fun v s1 ⟨x, H1, I1, r1, k, hk, q1⟩ => ?_)
  refine thn (tru_ok pins s1 σ H1 x v (fun j H2 => j = k ∧ H2 = H1) I1 r1 ⟨k, hk, rfl, rfl⟩) fun j s2 hj => ?_
  obtain ⟨H2, I2, ej, eh⟩ := hj
  subst ej; subst eh
  cases j with
  | true => exact iteT ⟨x, H2, I2, r1, q1⟩
  | false => exact iteF (hb.run pins s2 σ H2 Q I2 q1)
theorem ew_orL {rest : List Expr} {k : Gm → List α → Prop} (h : EW c Γ a (tLst T) fun Γ1 xs => (xs = [] → EW c Γ1 (.BoolOp .Or (b :: rest) pos) (tLst T) k) ∧ (xs ≠ [] → k Γ1 xs)) : EW c Γ (.BoolOp .Or (a :: b :: rest) pos) (tLst T) k := fun B σ F H S Q q => by
  refine of_pe (pe_orW peW peW) (h B σ F H S _ fun v xs Γ1 F1 H1 S1 e1 r1 ⟨h1, h2⟩ => ?_)
  obtain ⟨l, vs, rfl, hl, hr⟩ := id r1
  have hK := c.hK
  refine ⟨!vs.isEmpty, .inl ⟨vs, .inl (.inl (S1.sub _ _ hl)), rfl⟩, ?_⟩
  cases vs with
  | nil =>
    have e : xs = [] := List.eq_nil_of_length_eq_zero (All2.length hr).symm
    exact iteF (h1 e B σ F1 H1 S1 Q fun v y Γ2 F2 H2 S2 e2 r2 h3 => q v y Γ2 F2 H2 S2 (e1.trans e2) r2 h3)
  | cons w vs =>
    have e : xs ≠ [] := fun z => by subst z; exact hr
    exact iteT (q _ _ Γ1 F1 H1 S1 e1 r1 (h2 e))
/-! ### something or None -/
theorem eo_some {k : Gm → Option α → Prop} (hn : ∀ F v a, T.r F v a → v ≠ .non) (h : EW c Γ e T fun Γ1 x => k Γ1 (some x)) : EW c Γ e (tOpt T) k := EW.as some h fun F v a r => ⟨hn F v a r, r⟩
theorem as_some {k : Gm → α → Prop} (h : EW c Γ e (tOpt T) fun Γ1 z => ∃ x, z = some x ∧ k Γ1 x) : EW c Γ e T k := fun B σ F H S Q q => h B σ F H S Q fun v z Γ' F' H' S' e' r' ⟨s, z1, z2⟩ => q v s Γ' F' H' S' e' (by subst z1; exact r'.2) z2
theorem non_lst : ∀ F v a, (tLst T).r F v a → v ≠ .non := fun F v a ⟨l, vs, e, _⟩ z => by rw [e] at z; cases z
theorem non_tup : ∀ F v a, (tTup T).r F v a → v ≠ .non := fun F v a ⟨l, vs, e, _⟩ z => by rw [e] at z; cases z
theorem as_P2 {k : Gm → α × α → Prop} (h : EW c Γ e (tTup T) fun Γ1 z => ∃ x y, z = [x, y] ∧ k Γ1 (x, y)) : EW c Γ e (tT2 T T) k := fun B σ F H S Q q => h B σ F H S Q fun v z Γ' F' H' S' e' r' ⟨x, y, z1, z2⟩ => by
  subst z1
  obtain ⟨p, vs, e, hp, hr⟩ := r'
  match vs, hr with
  | [u, w], ⟨h1, h2, _⟩ => exact q v (x, y) Γ' F' H' S' e' ⟨p, _, e, hp, u, w, rfl, h1, h2⟩ z2
theorem p2_as {k : Gm → List α → Prop} (h : EW c Γ e (tT2 T T) fun Γ1 z => k Γ1 [z.1, z.2]) : EW c Γ e (tTup T) k := EW.as (fun z : α × α => [z.1, z.2]) h fun F v z ⟨p, vs, e, hp, u, w, e2, h1, h2⟩ => by subst e2; exact ⟨p, _, e, hp, h1, h2, trivial⟩
/-- text not in a tuple of texts -/
theorem inV_strs (s : Str) : ∀ zs : List Str, inV (.str s) (zs.map V.str) = decide (s ∈ zs)
  | [] => rfl
  | z :: zs => by
    have ih := inV_strs s zs
    unfold inV at ih ⊢
    rw [List.map_cons, List.any_cons, ih]
    show ((z == s) || decide (s ∈ zs)) = _
    by_cases h : z = s
    · subst h
      rw [decide_eq_true (List.mem_cons_self), show (z == z) = true from beq_self_eq_true z]; rfl
    · rw [show (z == s) = false from beq_eq_false_iff_ne.mpr h, Bool.false_or]
      exact decide_eq_decide.mpr ⟨fun q => List.mem_cons_of_mem _ q, fun q => (List.mem_cons.mp q).resolve_left fun e => h e.symm⟩
theorem flat_strs : ∀ zs : List Str, (zs.map V.str).all flatV = true
  | [] => rfl
  | z :: zs => by rw [List.map_cons, List.all_cons, flat_strs zs]; rfl
theorem tw_notInStrs {k : Gm → Bool → Prop} (h : EW c Γ a tStr fun Γ1 s => EW c Γ1 b (tTup tStr) fun Γ2 zs => k Γ2 (!decide (s ∈ zs))) (hm : behindInMarks .NotIn b = false := by with_unfolding_all rfl) : TW c Γ (.Compare a [.NotIn] [b] pos) k :=
  tw_cmp (r := rIn K true) (fun hK => by rw [← hK]; exact op_notIn_seq) (h.imp fun _ s h => h.imp fun _ zs h2 => fun F H x y S hx hy Q q => by
    obtain ⟨l, vs, ev, hl, hr⟩ := hy
    have ev2 : vs = zs.map V.str := All2.eq_map (fun _ _ r => r) hr
    subst ev2
    obtain rfl : x = .str s := hx
    refine ⟨l, _, ev, .inr (sqT_mono S hl), rfl, flat_strs zs, ?_⟩
    rw [inV_strs]
    exact q _ F H _ (Step.refl S) rfl h2) hm
theorem as_LI {k : Gm → List Int → Prop} (h : EW c Γ e (tLst tAny) fun Γ1 z => ∃ zs : List Int, z = zs.map .int ∧ k Γ1 zs) : EW c Γ e (tLst tInt) k := fun B σ F H S Q q => h B σ F H S Q fun v z Γ' F' H' S' e' r' ⟨zs, z1, z2⟩ => by
  subst z1
  obtain ⟨p, vs, e, hp, hr⟩ := r'
  refine q v zs Γ' F' H' S' e' ⟨p, vs, e, hp, ?_⟩ z2
  have go : ∀ (zs : List Int) (vs : List V), All2 ((tAny (K := K)).r F') vs (zs.map .int) → All2 ((tInt (K := K)).r F') vs zs := fun zs => by
    induction zs with
    | nil => intro vs h; cases vs with
      | nil => trivial
      | cons _ _ => exact h.elim
    | cons z zs ih => intro vs h; cases vs with
      | nil => exact h.elim
      | cons v vs => exact ⟨any_int h.1, ih vs h.2⟩
  exact go zs vs hr
end
end Px
/-! Px, sixteenth part: sorted(set(list of texts)). -/
namespace Px
open PySem PySem.Spec PyProof.Rows L2
abbrev tord (w : World) (t : SetTable) : Prop := w.params.followText "set-order" = true ∨ t.led = true
def tkey (e : Int × Value) : Str := strOf e.2
def TGood (P : Program) (w : World) (e : Int × Value) : Prop := ∃ k u, e.2 = Value.str k u ∧ e.1 = (PySem.strKind P w).hash k
structure TSet (P : Program) (w : World) (S : Str → Prop) (es : Array (Int × Value)) (t : SetTable) : Prop where
  good : ∀ e ∈ es.toList, TGood P w e
  nd : (es.toList.map tkey).Nodup
  mem : ∀ k, S k ↔ k ∈ es.toList.map tkey
  few : es.size < scanBound
  fit : t.fits es.size = true
  ris : Ris t.place.toList
  led : tord w t
def TSetAt (P : Program) (w : World) (h : Heap) (a : Addr) (S : Str → Prop) (n : Nat) : Prop :=
  ∃ o es ep t, h.get? a = some o ∧ o.ExactSet ∧ o.data = .set es ep t ∧ es.size = n ∧ TSet P w S es t
section
variable {P : Program} {w : World} {A : Around} {E : Value → Shared → Prop} {s : Shared} {a : Addr} {S : Str → Prop} {n : Nat}
theorem TSetAt.keep {h h' : Heap} (R : TSetAt P w h a S n) (k : ∀ o, h.get? a = some o → h'.get? a = some o) : TSetAt P w h' a S n := by
  obtain ⟨o, es, ep, t, q, r⟩ := R
  exact ⟨o, es, ep, t, k o q, r⟩
theorem tgood_el {l : List (Int × Value)} (g : ∀ e ∈ l, TGood P w e) : ElemsOf (PySem.strKind P w) l := fun e m => by
  obtain ⟨k, u, h1, h2⟩ := g e m
  exact ⟨⟨k, by rw [h1]; exact PySem.strKind_is P w k u, h2⟩, by rw [h1] <;> rfl⟩
theorem tgood_is {e : Int × Value} (g : TGood P w e) (k : Str) : (PySem.strKind P w).is k e.2 = true ↔ tkey e = k := by
  obtain ⟨j, u, h1, _⟩ := g
  unfold tkey
  rw [h1]
  constructor
  · intro q
    exact (PySem.strKind P w).inj (.str j u) j k (PySem.strKind_is P w j u) q
  · intro q
    have q' : j = k := q
    subst q'
    exact PySem.strKind_is P w j u
theorem tgood_mem {l : List (Int × Value)} (g : ∀ e ∈ l, TGood P w e) (k : Str) : k ∈ l.map tkey ↔ ∃ e ∈ l, (PySem.strKind P w).is k e.2 = true := by
  rw [List.mem_map]
  exact ⟨fun ⟨e, m, q⟩ => ⟨e, m, (tgood_is (g e m) k).2 q⟩, fun ⟨e, m, q⟩ => ⟨e, m, (tgood_is (g e m) k).1 q⟩⟩
theorem tset_tail {g : Bool → Sem Unit} (hg : ∀ (b : Bool) (s₁ : Shared) (Q' : Unit → Shared → Prop), Q' () s₁ → wpAny (model P w) A (g b) Q' E s₁)
    {o : Obj} {es : Array (Int × Value)} {ep : Nat} {t : SetTable} (ho : s.heap.get? a = some o) (hx : o.ExactSet) (hd : o.data = .set es ep t)
    {es1 : Array (Int × Value)} {t2 : SetTable} (Z : TSet P w S es1 t2) {wd : Bool} {R : Option Bool → Shared → Prop}
    (hR : ∀ h', Heap.SameBut a s.heap h' → TSetAt P w h' a S es1.size → R (some true) { s with heap := h' }) :
    wpAny (model P w) A (do
        storeSet a es1 t2
        if (!wd && t2.tooFull) = true then do
            g (relayAll t2 es1 (SetTable.grown es1.size)).2.2
            storeSet a (relayAll t2 es1 (SetTable.grown es1.size)).1 (relayAll t2 es1 (SetTable.grown es1.size)).2.1
            pure (some true)
          else pure (some true)) R E s := by
  have st1 := store_at (es' := es1) (t' := t2) ho hd
  have sb1 := Heap.SameBut.update s.heap a (Obj.putSet es1 t2)
  refine wpAny_bind (wpAny_storeSet_of ho hd ?_ (fits_of_scanBound Z.few)); split
  · have z1 := relayAll_perm t2 es1 (SetTable.grown es1.size); have z2 := relayAll_fits t2 es1 (SetTable.grown es1.size)
    have z3 := relayAll_ris t2 es1 (SetTable.grown es1.size); have z4 := relayAll_led t2 es1 (SetTable.grown es1.size)
    generalize relayAll t2 es1 (SetTable.grown es1.size) = Y at z1 z2 z3 z4 ⊢
    obtain ⟨es2, t3, gv⟩ := Y
    dsimp only at z1 z2 z3 z4 ⊢
    have z5 : es2.size = es1.size := by rw [← Array.length_toList, z1.length_eq, Array.length_toList]
    refine wpAny_bind (hg _ _ _ ?_); refine wpAny_bind (wpAny_storeSet_of st1 rfl ?_ (fits_of_scanBound (by rw [z5]; exact Z.few)))
    refine wpAny_pure (hR _ (sb1.trans (Heap.SameBut.update _ a _)) ⟨_, es2, _, t3, store_at (es' := es2) (t' := t3) st1 rfl, hx, rfl, z5, ?_⟩)
    exact ⟨fun e m => Z.good e (z1.mem_iff.mp m), (z1.map tkey).nodup_iff.mpr Z.nd, fun k => (Z.mem k).trans (z1.map tkey).mem_iff.symm, by rw [z5]; exact Z.few, z2, z3, Z.led.imp id fun q => by rw [z4]; exact q⟩
  · exact wpAny_pure (hR _ sb1 ⟨_, es1, _, t2, st1, hx, rfl, rfl, Z⟩)
theorem tset_add {k : Str} {tk : Tok} {Q : Bool → Shared → Prop} (R : TSetAt P w s.heap a S n) (room : n + 1 < scanBound)
    (hQ : ∀ h' m b, m ≤ n + 1 → Heap.SameBut a s.heap h' → TSetAt P w h' a (fun j => S j ∨ j = k) m → Q b { s with heap := h' }) :
    wpAny (model P w) A (setAddHashed a (.str k tk) ((PySem.strKind P w).hash k)) Q E s := by
  obtain ⟨o, es, ep, t, ho, hx, hd, hn, Z⟩ := R
  have hkey := PySem.strKind_is P w k tk
  have hsc : (Value.str k tk).scannable = true := rfl
  have hel : ElemsOf (PySem.strKind P w) es.toList := tgood_el Z.good
  unfold setAddHashed setAddHashedIn; refine wpAny_holding (wpAny_bind (wpAny_setState_of ho hd Z.fit ?_)); dsimp only
  rw [byScan_of hsc Z.few hel]; simp only [↓reduceIte]; unfold setAddByScan
  refine wpAny_bind ?_; refine wpAny_bind (wpAny_rule ?_); refine wpAny_bind (wpAny_setScan_of hkey ho hd Z.fit hel ?_)
  cases hfi : List.findIdx? (fun e => (PySem.strKind P w).is k e.2) es.toList with
  | some j =>
    dsimp only
    obtain ⟨hj, pj, _⟩ := List.findIdx?_eq_some_iff_getElem.mp hfi
    have hSk : S k := (Z.mem k).2 ((tgood_mem (P := P) (w := w) Z.good k).2 ⟨es.toList[j], List.getElem_mem hj, pj⟩)
    refine wpAny_pure (wpAny_pure ?_)
    exact hQ s.heap n _ (Nat.le_succ _) (Heap.SameBut.refl a s.heap) ⟨o, es, ep, t, ho, hx, hd, hn, Z.good, Z.nd, fun i => ⟨fun z => (Z.mem i).1 (z.elim id fun e => e ▸ hSk), fun z => .inl ((Z.mem i).2 z)⟩, Z.few, Z.fit, Z.ris, Z.led⟩
  | none =>
    dsimp only
    have hnk : k ∉ es.toList.map tkey := fun z => by
      obtain ⟨e, m, q⟩ := (tgood_mem (P := P) (w := w) Z.good k).1 z
      have c := List.findIdx?_eq_none_iff.mp hfi e m
      rw [q] at c
      cases c
    have hgw : ∀ (b : Bool) {s₁ : Shared} {Q' : Unit → Shared → Prop}, Q' () s₁ → wpAny (model P w) A (match b with | true => rule "set.scan.the-table-gave-way" | false => pure ()) Q' E s₁ := fun b s₁ Q' q => by
      cases b
      · exact wpAny_pure q
      · exact wpAny_rule q
    have z1 := layNew_perm t es ((PySem.strKind P w).hash k) (.str k tk)
    have z2 := layNew_fits t es ((PySem.strKind P w).hash k) (.str k tk)
    have z3 := layNew_ris t es ((PySem.strKind P w).hash k) (.str k tk) Z.ris
    have z4 := layNew_led t es ((PySem.strKind P w).hash k) (.str k tk)
    generalize layNew t es ((PySem.strKind P w).hash k) (.str k tk) = Y at z1 z2 z3 z4 ⊢
    obtain ⟨es1, t1, wd, gv⟩ := Y
    dsimp only at z1 z2 z3 z4 ⊢
    rw [Array.toList_push] at z1
    have y1 : es1.toList.Perm (((PySem.strKind P w).hash k, Value.str k tk) :: es.toList) := z1.trans (List.perm_append_singleton _ _)
    have y2 : (es1.toList.map tkey).Perm (k :: es.toList.map tkey) := y1.map tkey
    have y3 : es1.size = n + 1 := by rw [← Array.length_toList, y1.length_eq, List.length_cons, Array.length_toList, hn]
    have y4 : tord w t1 := Z.led.imp id fun q => by rw [z4]; exact q
    have mk : ∀ t2 : SetTable, t2.fits es1.size = true → Ris t2.place.toList → tord w t2 → TSet P w (fun j => S j ∨ j = k) es1 t2 := fun t2 f1 f2 f3 => ⟨fun e m => by
      rcases List.mem_cons.mp (y1.mem_iff.mp m) with q | q
      · rw [q]; exact ⟨k, tk, rfl, rfl⟩
      · exact Z.good e q, y2.nodup_iff.mpr (List.nodup_cons.mpr ⟨hnk, Z.nd⟩), fun i => by
        rw [y2.mem_iff, List.mem_cons, ← Z.mem i]
        exact Or.comm, by rw [y3]; exact room, f1, f2, f3⟩
    have fin : ∀ h' b, Heap.SameBut a s.heap h' → TSetAt P w h' a (fun j => S j ∨ j = k) es1.size → Q b { s with heap := h' } := fun h' b sb r => hQ h' es1.size b (by rw [y3]; exact Nat.le_refl _) sb r
    refine wpAny_bind (hgw _ ?_); split
    · refine wpAny_bind ?_
      rw [hashByValue_scannable 8 hsc]; refine wpAny_pure ?_
      refine tset_tail ?_ ho hx hd (mk _ ?_ ?_ ?_) ?_
      · intro b s₁ Q' q; cases b; exact wpAny_pure q; exact wpAny_rule q
      · first | (split <;> first | exact z2 | exact SetTable.fits_plain_off z2) | exact z2
      · first | (split <;> exact z3) | exact z3
      · first | (split <;> exact y4) | exact y4
      · intro h' sb r; dsimp only; exact wpAny_pure (fin h' _ sb r)
    · refine wpAny_bind (wpAny_pure ?_); simp only [↓reduceIte]
      refine tset_tail ?_ ho hx hd (mk _ z2 z3 y4) ?_
      · intro b s₁ Q' q; cases b; exact wpAny_pure q; exact wpAny_rule q
      · intro h' sb r; dsimp only; exact wpAny_pure (fin h' _ sb r)
end
section
variable {P : Program} {w : World} {A : Around} {R : Result → Shared → Prop} {I : Addr} {fp wr : List Addr} {G : Array GenState → Array GenState → Prop} {n : Nat} {Pv : Nat → Value → Prop} {St : Nat → Shared → Prop}
theorem tset_loop (W : WalksS P w A.in1 I fp wr G n Pv St) (a : Addr) (haf : a ∉ fp) (xs : List Str) (hsz : xs.length = n) (room : n + 1 < scanBound) (hv : ∀ i v, Pv i v → ∃ x t, xs[i]? = some x ∧ v = .str x t) :
    ∀ (k i : Nat) (s : Shared), n - i = k → i ≤ n → St i s → (∃ m, m ≤ i ∧ TSetAt P w s.heap a (fun j => j ∈ xs.take i) m) →
      (∀ s' m, Moved (a :: wr) G s s' → m ≤ n → TSetAt P w s'.heap a (fun j => j ∈ xs) m → R (.ok (.ret .none)) s') → codeAny (model P w) A (.builtin "set.update.loop" ⟨[.ref a, .ref I], []⟩) R s := by
  have haw : a ∉ wr := fun h => haf (W.sub _ h)
  have up : ∀ b ∈ wr, b ∈ a :: wr := fun b hb => List.mem_cons_of_mem _ hb
  intro k
  induction k with
  | zero =>
    intro i s hk hi hst ⟨m, m1, hS⟩ hR
    obtain rfl : i = n := by omega
    rw [show xs.take i = xs from List.take_of_length_le (by omega)] at hS
    refine codeAny_builtin PyProof.Rows.F.entry_set_update_loop ?_; rw [Around.under_plainId PyProof.Rows.F.plain_set_update_loop _]
    show wpAny _ A.in1 (pyNext (.ref I) >>= _) _ _ s; refine wpAny_bind (W.done s _ _ hst fun s' hm => ?_)
    show wpAny _ A.in1 (ret Value.none) _ _ s'; exact wpAny_pure (hR s' m (hm.mono up) m1 (hS.keep fun o e => hm.heap a o haw e))
  | succ k ih =>
    intro i s hk hi hst ⟨m, m1, hS⟩ hR
    have hlt : i < n := by omega
    refine codeAny_builtin PyProof.Rows.F.entry_set_update_loop ?_; rw [Around.under_plainId PyProof.Rows.F.plain_set_update_loop _]
    show wpAny _ A.in1 (pyNext (.ref I) >>= _) _ _ s; refine wpAny_bind (W.item i s _ _ hlt hst fun v s' hP hst' hm => ?_)
    obtain ⟨x, t, ex, rfl⟩ := hv i v hP
    have hS' : TSetAt P w s'.heap a (fun j => j ∈ xs.take i) m := hS.keep fun o e => hm.heap a o haw e
    show wpAny _ A.in1 (holding [Value.str x t] (setAdd a (.str x t)) >>= _) _ _ s'; refine wpAny_bind (wpAny_holding ?_); unfold setAdd
    refine wpAny_holding ?_; refine wpAny_bind ((PySem.strKind P w).pyHash (k := x) (PySem.strKind_is _ _ _ _) ?_)
    refine tset_add (s := { s' with toks := s'.toks + 1 }) hS' (by omega) fun h' m2 b g1 sb g2 => ?_
    have e1 : (fun j => j ∈ xs.take i ∨ j = x) = fun j => j ∈ xs.take (i + 1) := funext fun j => propext (by
      rw [List.take_add_one, ex]
      simp)
    rw [e1] at g2
    refine wpAny_pure ⟨plainId_quiet PyProof.Rows.F.plain_set_update_loop _, ih (i + 1) _ (by omega) hlt (W.frame _ s' _ _ hst' (Nat.le_succ _) fun b hb o e => ?_) ⟨m2, by omega, g2⟩ fun s2 m3 hm2 l2 hS2 => ?_⟩
    · rw [sb.2 b (fun z : b = a => haf (by rw [← z]; exact hb))]; exact e
    · refine hR s2 m3 (Moved.trans W.gtrans ((hm.mono up).then_heap (Nat.le_succ _) fun b o hb e => ?_) hm2) l2 hS2
      rw [sb.2 b (fun z : b = a => hb (by rw [z]; exact List.mem_cons_self))]; exact e
end
abbrev bare (w : World) : Obj := { cls := .type "set", dict := none, data := .set #[] 0 (.fresh 0 0 (!w.params.followText "set-order")) }
theorem tset_bare {P : Program} {w : World} {h : Heap} {a : Addr} (e : h.get? a = some (bare w)) : TSetAt P w h a (fun j => j ∈ ([] : List Str)) 0 :=
  ⟨_, #[], 0, _, e, ⟨rfl, rfl, rfl⟩, rfl, rfl, (fun e m => by simp at m), (by simp), (fun k => by simp), (by decide), (by rfl), List.Pairwise.nil, by
    show _ ∨ (!w.params.followText "set-order") = true
    cases w.params.followText "set-order"
    · exact .inr rfl
    · exact .inl rfl⟩
section
variable {P : Program} {w : World} {A : Around} {E : Value → Shared → Prop} {s : Shared}
set_option maxHeartbeats 3200000 in
theorem tset_call {l : Addr} {items : Array Value} {xs : List Str} {Q : Value → Shared → Prop} (hh : A.handled = none) (hl : s.heap.IsList l items) (hi : PyProof.Rows.StrsAre items.toList xs) (room : xs.length + 1 < scanBound)
    (h : ∀ (h' : Heap) (tk m : Nat), TSetAt P w h' s.heap.objs.size (fun j => j ∈ xs) m → m ≤ xs.length → (∀ b o, b < s.heap.objs.size → s.heap.get? b = some o → h'.get? b = some o) → s.heap.objs.size < h'.objs.size → Q (.ref s.heap.objs.size) { s with heap := h', toks := tk }) :
    wpAny (model P w) A (call (.type "set") [.ref l]) Q E s := by
  obtain ⟨c, tl, hmro⟩ := PySem.F.called_set.mro
  have hmade := PySem.F.called_set.made; have hsub := PySem.F.called_set.sub
  refine wpAny_call (codeAny_of_tree ?_); show wpAny _ _ (callAny (.type "set") _) _ _ _
  refine wpAny_pure ⟨Code.quiet_builtin _ (by decide +kernel), codeAny_builtin PySem.F.entry_type_call ?_⟩; rw [Around.under_plain (weight_type_call_type "set" [.ref l] []) rfl]
  have h1 := PySem.F.called_set.notType; have h2 := PySem.F.called_set.canCreate; have hct := PySem.F.typeCall_set_1 (.ref l)
  repeat (any_goals (first | assumption | wp_step))
  refine codeAny_mono (code_set_led1 (.ref l) (E := E) (Q₁ := fun obj s₁ => obj = .ref s.heap.objs.size ∧ s₁ = { s with heap := s.heap.push (bare w) }) ⟨rfl, rfl⟩) fun r s₁ hr => ?_
  cases r with
  | error e => exact hr
  | ok fl =>
    cases fl with
    | ret obj =>
      obtain ⟨rfl, rfl⟩ := hr
      have hS : (s.heap.push (bare w)).get? s.heap.objs.size = some (bare w) := Heap.get?_push_size _ rfl
      have hT : Shared.TypeIs { s with heap := s.heap.push (bare w) } (.ref s.heap.objs.size) "set" := ⟨_, hS, rfl⟩
      have hli := PySem.F.called_set.init.lookup; have hbi := PySem.F.called_set.init.bind (.ref s.heap.objs.size)
      repeat (any_goals (first | assumption | wp_step))
      refine codeAny_mono (codeAny_call_builtin (R := wants (fun r s₂ => r = .none ∧ ∃ h' tk m, s₂ = { s with heap := h', toks := tk } ∧ TSetAt P w h' s.heap.objs.size (fun j => j ∈ xs) m ∧ m ≤ xs.length ∧ (∀ b o, b < s.heap.objs.size → s.heap.get? b = some o → h'.get? b = some o)) E) PySem.F.called_set.init.plain PySem.F.entry_set_init (check_set_init_1 hT ?_)) fun r₂ s₂ hr₂ => ?_
      · obtain ⟨ol, hol, hcl, nl, hdl⟩ := hl
        obtain ⟨ocls, odict, odata, oslots⟩ := ol
        simp only at hcl hdl; subst hcl; subst hdl
        have hol' : (s.heap.push (bare w)).get? l = some { cls := .type "list", dict := odict, data := .seq items nl, slots := oslots } := Heap.get?_push_of_some _ hol
        have hsls := PySem.F.sub_list_set; have hslf := PySem.F.sub_list_frozenset
        have hne : (Value.type "list" == Value.type "dict") = false := by decide
        have hl1 : (s.heap.push (bare w)).IsList l items := ⟨_, hol', rfl, nl, rfl⟩
        unfold Builtin.«set.__init__» noKeywords Builtin.Frozenset.updateFrom; generalize hPI : pyIter = PI; wp_walk; subst hPI
        refine wpAny_pyIter_list hl1 ?_; refine wpAny_bind (wpAny_runValue ?_)
        have hlS : l < s.heap.objs.size := Heap.lt_size hol
        have hh3 : A.in1.in1.in1.handled = none := by simp [hh]
        have hneI : l ≠ (s.heap.push (bare w)).objs.size := by rw [Heap.size_push]; exact Nat.ne_of_lt (Nat.lt_succ_of_lt hlS)
        have hSf : s.heap.objs.size ∉ [(s.heap.push (bare w)).objs.size, l] := by
          rw [Heap.size_push]; simp only [List.mem_cons, List.mem_singleton, List.not_mem_nil, or_false, not_or]; exact ⟨Nat.ne_of_lt (Nat.lt_succ_self _), Nat.ne_of_gt hlS⟩
        have hsz : xs.length = items.size := by rw [← StrsAre.len_eq hi, Array.length_toList]
        have hval : ∀ (i : Nat) (v : Value), items[i]? = some v → ∃ x t, xs[i]? = some x ∧ v = .str x t := fun i v hv => by
          have hv' : items.toList[i]? = some v := by rw [Array.getElem?_toList]; exact hv
          obtain ⟨t, e⟩ := SS.strs_at hi i v hv'
          have il : i < xs.length := by
            have := (List.getElem?_eq_some_iff.mp hv').1
            rw [Array.length_toList] at this
            omega
          exact ⟨xs.getD i Str.empty, t, by rw [List.getD_eq_getElem?_getD, List.getElem?_eq_getElem il]; rfl, e⟩
        refine tset_loop ((Walks.list hh3 _ l hneI items).toS) s.heap.objs.size hSf xs hsz (by rw [← hsz]; exact room) hval (items.size - 0) 0 _ (by omega) (Nat.zero_le _) ⟨⟨_, Heap.get?_push_size _ rfl, rfl, rfl⟩, (hl1.push _)⟩ ?hS0 ?hR
        case hS0 => exact ⟨0, Nat.le_refl _, tset_bare (Heap.get?_push_of_some _ hS)⟩
        case hR =>
          intro s' m hm m1 hS'
          obtain ⟨h', g', d', tk', os'⟩ := s'
          have eg : g' = s.gens := hm.gens; have ed : d' = s.drawn := hm.drawn; have eo : os' = s.os := hm.os
          subst eg; subst ed; subst eo
          show wpAny _ _ _ _ _ _; refine wpAny_pure ?_; show wpAny _ _ (ret Value.none) _ _ _
          refine wpAny_pure ⟨rfl, h', tk', m, rfl, hS', by rw [hsz]; exact m1, fun b o hb e => ?_⟩
          have hb2 : b ≠ (s.heap.push (bare w)).objs.size := by rw [Heap.size_push]; exact Nat.ne_of_lt (Nat.lt_succ_of_lt hb)
          exact hm.heap b o (by simp only [List.mem_cons, List.mem_singleton, List.not_mem_nil, or_false, not_or]; exact ⟨Nat.ne_of_lt hb, hb2⟩) (Heap.get?_push_of_some _ (Heap.get?_push_of_some _ e))
      · cases r₂ with
        | error e => exact hr₂
        | ok fl₂ =>
          cases fl₂ with
          | ret r =>
            obtain ⟨rfl, h', tk, m, rfl, hS', m1, hk'⟩ := hr₂
            repeat (any_goals (first | assumption | wp_step))
            refine h _ _ m hS' m1 hk' ?_
            obtain ⟨o, _, _, _, e, _⟩ := hS'
            exact Heap.lt_size e
          | _ => exact hr₂.elim
    | _ => exact hr.elim
theorem tset_sorted {a : Addr} {S : Str → Prop} {n : Nat} {Q : Value → Shared → Prop} (R : TSetAt P w s.heap a S n) (hh : A.handled = none) (h64 : n < 64)
    (hQ : ∀ s' p (out : Array Value) (c : Nat) (ys : List Str), (∀ b o, s.heap.get? b = some o → s'.heap.get? b = some o) → s'.gens = s.gens → s'.os = s.os → s.heap.objs.size ≤ p →
      s'.heap.get? p = some (seqObj "list" out c) → StrsAre out.toList ys → sortedS ys = true → ys.Nodup → (∀ k, k ∈ ys ↔ S k) → ys.length = n → Q (.ref p) s') :
    wpAny (model P w) A (call (.builtin "sorted") [.ref a]) Q E s := by
  obtain ⟨o, es, ep, t, ho, hx, hd, hn, Z⟩ := R
  refine Calls.call_function_entry kind_sorted plain_sorted entry_sorted (args_sorted1 _) ?_; unfold Builtin.«sorted»
  refine wpAny_bind (m := checkCount "sorted" 1 1 _) (wpAny_pure ?_)
  refine wpAny_bind (collect_set (A := A.in1) hh ⟨o, ho, hx.1, hd⟩ Z.fit Z.few Z.ris Z.led fun s1 vs k1 hz g1 o1 pm => ?_)
  have vl : vs.length = n := by rw [pm.length_eq, List.length_map, Array.length_toList]; exact hn
  have hI : StrsAre vs (vs.map strOf) := strsAre_map vs fun v hv => by
    obtain ⟨e, he, q⟩ := List.mem_map.mp (pm.mem_iff.mp hv)
    obtain ⟨k, tk, h1, _⟩ := Z.good e he
    exact ⟨k, tk, by rw [← q]; exact h1⟩
  have pk : (vs.map strOf).Perm (es.toList.map tkey) := by
    have q := pm.map strOf
    rwa [List.map_map] at q
  refine wpAny_bind (wpAny_newList ?_ (by rw [vl, sizeLine_eq]; omega))
  have hoL : (s1.heap.push (seqObj "list" vs.toArray 0)).get? s1.heap.objs.size = some (seqObj "list" vs.toArray 0) := Heap.get?_push_size _ rfl
  refine wpAny_bind (wpAny_holding (wpAny_call_entry slot_list_sort ⟨_, hoL, rfl⟩ entry_list_sort (list_sort_treeK PyProof.Rows.strKind_oneLt hoL hI.keysOf (fun v₁ v₂ rest e => keyKind_strs (by rw [← e]; exact hI)) (by rw [vl]; exact h64) fun st' hp hs => ?_) (args_list_sort _)))
  obtain ⟨ys, a1, a2, a3⟩ := sorted_out_str hI hp hs
  obtain ⟨c, hc⟩ := sortedHeap_at (vs := vs) (out := (arrOf st').map (·.2)) hoL
  have pn : ys.Perm (es.toList.map tkey) := a2.trans pk
  refine ⟨_, rfl, wpAny_pure ⟨_, rfl, hQ _ s1.heap.objs.size _ c ys (fun b u e => ?_) g1 o1 hz hc a1 a3 (pn.nodup_iff.mpr Z.nd) (fun k => by rw [pn.mem_iff, ← Z.mem k]) ?_⟩⟩
  · have q := k1 b u e; have hlt := Heap.lt_size q
    show (sortedHeap (s1.heap.push (seqObj "list" vs.toArray 0)) s1.heap.objs.size vs _).get? b = some u
    rw [sortedHeap_old (Nat.ne_of_lt hlt) (by rw [size_push']; exact Nat.lt_succ_of_lt hlt)]; exact Heap.get?_push_of_some _ q
  · rw [pn.length_eq, List.length_map, Array.length_toList]; exact hn
end
section
variable {X : Cx}
def tSortedSet (K : PySem.W.Frag) (ta : TE) : TE := fun σ H Q => ta σ H fun x H1 => ∃ l, ∃ xs : List Str, x = .ref l ∧ SqL K H1 l (xs.map V.str) ∧ xs.length < 64 ∧
  ∀ (ys : List Str) p, sortedS ys = true → ys.Nodup → (∀ k, k ∈ ys ↔ k ∈ xs) → ys.length ≤ xs.length → H1 p = none → Q (.ref p) (upd H1 p (.lst (ys.map V.str)))
theorem pe_sortedSet {a : Expr} {ta : TE} {p p2 q pos : Pos} (hc : X.calm = true) (hg : Gl X "sorted") (hm : X.mg "sorted" = none) (hg2 : Gl X "set") (hm2 : X.mg "set" = none) (ha : PE X a ta)
    (na : starEach [a] X.env = (false, eval a X.env) :: starEach [] X.env) (nb : starEach [.Call (.Name "set" p2) [a] [] q] X.env = (false, eval (.Call (.Name "set" p2) [a] [] q) X.env) :: starEach [] X.env) : PE X (.Call (.Name "sorted" p) [.Call (.Name "set" p2) [a] [] q] [] pos) (tSortedSet X.K ta) := by
  refine ⟨fun pins s σ H Q I h => ?_⟩
  refine Call_ (ld_blt I hg hm boot_sorted ?_); refine PyProof.Rows.callWith_builtin1 (PyProof.Rows.args_cons ?_ nb) nb rfl
  refine Call_ (ld_blt I hg2 hm2 PyProof.Rows.boot_set ?_)
  refine PyProof.Rows.callWith_type1 (PyProof.Rows.args_cons (thn (ha.run pins s σ H _ I h) fun v s1 ⟨x, H1, I1, r1, q1⟩ => PyProof.Rows.args_nil ?_) na) na rfl
  obtain ⟨l, xs, rfl, hq, h1, q1⟩ := q1
  cases r1
  obtain ⟨its, r, pl, hz⟩ := I1.list hq
  refine tset_call (I1.ok.hd hc) pl.isList (by simpa using strsAre_of r) (by unfold scanBound; omega) fun h' tk m hS hm hk hlt => PyProof.Rows.args_nil ?_
  have I2 : Inv X pins σ H1 { s1 with heap := h', toks := tk } := I1.kept fun b o e => hk b o (Heap.lt_size e) e
  refine tset_sorted (s := { s1 with heap := h', toks := tk }) hS (I2.ok.hd hc) (by omega) fun s' p out c ys k g o hp hg' hi hs hnd hmm hlen => ?_
  have hl2 : (ys.map V.str).length ≤ sizeLine := by rw [List.length_map, hlen, sizeLine_eq]; omega
  have hn : H1 p = none := I2.hok.fresh hp
  have J : Inv X pins σ (upd H1 p (.lst (ys.map V.str))) { ({ s1 with heap := h', toks := tk } : Shared) with heap := s'.heap, gens := s'.gens, drawn := s'.drawn, toks := s'.toks } := I2.call (ch := []) (Un.laid k hp hn) (I2.hok.laid k hp ⟨hl2, out.toList, c, vals_of_strs hi, hg'⟩) (by rw [g]; exact I2.bare) (fun _ z => nomatch z)
  have e : s' = { ({ s1 with heap := h', toks := tk } : Shared) with heap := s'.heap, gens := s'.gens, drawn := s'.drawn, toks := s'.toks } := by
    cases s'; cases s1; cases o; rfl
  rw [e]
  exact ⟨.ref p, _, J, rfl, q1 ys p hs hnd hmm (by omega) hn⟩
end
section
variable {P : Program} {w : World} {K : PySem.W.Frag} {mg : Str → Option Value} {base : Heap} {lv : Nat} {N : List Str} {sc : Scope} {fn : Str → Bool}
variable {α β γ δ ρ : Type}
variable {c : Ctx P w K mg base lv N sc fn} {Γ : Gm} {e a b d tg iter elt f e1 e2 : Expr} {lo hi : Option Expr} {es ts ifs : List Expr} {pos pos' p p2 pt px q2 : Pos} {T : Ty K α} {A : Ty K α} {B' : Ty K β} {C : Ty K γ} {D' : Ty K δ}
/-- sorted(set(list of texts)) -/
theorem el_sortedSet (bi : Bi mg) {k : Gm → List Str → Prop} (hg : glB sc "sorted" = true) (hg2 : glB sc "set" = true) (h : EW c Γ a (tLst tStr) fun Γ1 xs => xs.length < 64 ∧ ∀ ys : List Str, sortedS ys = true → ys.Nodup → (∀ k, k ∈ ys ↔ k ∈ xs) → ys.length ≤ xs.length → k Γ1 ys)
    (he : ∀ env, starEach [a] env = (false, eval a env) :: starEach [] env := by intro _; rfl) (he2 : ∀ env, starEach [.Call (.Name "set" p2) [a] [] q2] env = (false, eval (.Call (.Name "set" p2) [a] [] q2) env) :: starEach [] env := by intro _; rfl) : EL c Γ (.Call (.Name "sorted" p) [.Call (.Name "set" p2) [a] [] q2] [] pos) tStr k := fun B σ F H S Q q => by
  obtain ⟨X, rfl, rfl, rfl, rfl, rfl, rfl, nd, rfl, rfl, calm, room, pas⟩ := c
  refine of_pe (pe_sortedSet calm (glB_gl hg) bi.sorted (glB_gl hg2) bi.set peW (he _) (he2 _)) (h B σ F H S _ fun v xs Γ1 F1 H1 S1 e1 ⟨l, vs, ev, hl, hr⟩ ⟨h0, h1⟩ => ?_)
  have ev2 : vs = xs.map V.str := All2.eq_map (fun _ _ r => r) hr
  subst ev2
  refine ⟨l, xs, by rw [ev], .inl (.inl (S1.sub _ _ hl)), h0, fun ys p g1 g2 g3 g4 hp => ?_⟩
  obtain ⟨S4, b1, b2, b3⟩ := S1.make (o := .lst (ys.map V.str)) hp
  exact q p _ _ Γ1 _ _ S4 e1 b1 b3 b2 upd_same (All2.of_map (f := V.str) (fun _ => rfl) ys) (h1 ys g1 g2 g3 g4)
end
end Px
/-! Px, seventeenth part: the order of texts; zip. -/
namespace Px
open PySem PySem.Spec PyProof.Rows L2
section
variable {P : Program} {w : World} {K : PySem.W.Frag} {mg : Str → Option Value} {base : Heap} {lv : Nat} {N : List Str} {sc : Scope} {fn : Str → Bool}
variable {α β γ δ ρ : Type}
variable {c : Ctx P w K mg base lv N sc fn} {Γ : Gm} {e a b d tg iter elt f e1 e2 : Expr} {lo hi : Option Expr} {es ts ifs : List Expr} {pos pos' p p2 pt px q2 : Pos} {T : Ty K α} {A : Ty K α} {B' : Ty K β} {C : Ty K γ} {D' : Ty K δ}
theorem ew_ltS {k : Gm → Bool → Prop} (h : EW c Γ a tStr fun Γ1 s => EW c Γ1 b tStr fun Γ2 t => k Γ2 (decide (s.cps.toList < t.cps.toList))) : EW c Γ (.Compare a [.Lt] [b] pos) tBool k :=
  ew_cmp (fun _ => op_lt_str) (h.imp fun _ s h => h.imp fun _ t hx => fun F H x y S hx' hy Q q => ⟨s, t, hx', hy, q _ F H _ (Step.refl S) rfl hx⟩) (nomark _)
theorem tw_leS {k : Gm → Bool → Prop} (h : EW c Γ a tStr fun Γ1 s => EW c Γ1 b tStr fun Γ2 t => k Γ2 (!decide (t.cps.toList < s.cps.toList))) : TW c Γ (.Compare a [.LtE] [b] pos) k :=
  tw_cmp (fun _ => op_le_str) (h.imp fun _ s h => h.imp fun _ t hx => fun F H x y S hx' hy Q q => ⟨s, t, hx', hy, q _ F H _ (Step.refl S) rfl hx⟩) (nomark _)
theorem zip_get {xs : List α} {ys : List β} {i : Nat} {z : α × β} (h : (xs.zip ys)[i]? = some z) : xs[i]? = some z.1 ∧ ys[i]? = some z.2 := by
  rw [List.getElem?_zip_eq_some] at h
  exact h
theorem it_zipT {F : Hp} {p q : Addr} {vs us : List V} {xs : List α} {ys : List β} (hp : SqT K F p vs) (hq : SqT K F q us) (hv : All2 (A.r F) vs xs) (hu : All2 (B'.r F) us ys) : ItOk (K := K) (RZ.ItzT K p q) (tT2 A B') F (xs.zip ys) := by
  have l1 := All2.length hv
  have l2 := All2.length hu
  refine ⟨fun i F1 H s1 s2 hi => ?_, fun i F1 H s1 s2 hi => ?_, fun i F1 H x H' s1 s2 ⟨T, a, b, e1, e2, e3, e4, e5⟩ z hz => ?_⟩
  · rw [List.length_zip] at hi
    have i1 : i < vs.length := by omega
    have i2 : i < us.length := by omega
    exact ⟨vs, us, vs[i], us[i], sqT_mono (s1.trans s2) hp, sqT_mono (s1.trans s2) hq, List.getElem?_eq_getElem i1, List.getElem?_eq_getElem i2⟩
  · rw [List.length_zip] at hi
    exact ⟨vs, us, sqT_mono (s1.trans s2) hp, sqT_mono (s1.trans s2) hq, by omega⟩
  · obtain ⟨h1, h2⟩ := zip_get hz
    obtain ⟨x1, g1, r1⟩ := All2.getR hv h1
    obtain ⟨x2, g2, r2⟩ := All2.getR hu h2
    have f1 := e4 vs (sqT_mono (s1.trans s2) hp)
    have f2 := e5 us (sqT_mono (s1.trans s2) hq)
    rw [g1] at f1
    rw [g2] at f2
    have y1 := Option.some.inj f1
    have y2 := Option.some.inj f2
    subst y1
    subst y2
    subst e1
    subst e3
    have st := Step.frozen (o := .tup [x1, x2]) s2 e2
    exact ⟨_, st, T, [x1, x2], rfl, .inl (.inl upd_same), x1, x2, rfl, A.mono (s1.trans st.ff) r1, B'.mono (s1.trans st.ff) r2⟩
/-- for .. in zip(tuple, tuple) -/
theorem iw_zipT (bi : Bi mg) {k : Gm → List (α × β) → Prop} {tpos : Pos} {elts : List Expr} {kk : Nat} (hg : glB sc "zip" = true) (h : EW c Γ a (tTup A) fun Γ1 xs => EW c Γ1 b (tTup B') fun Γ2 ys => k Γ2 (xs.zip ys))
    (hs : ∀ env, starEach [a, b] env = (false, eval a env) :: starEach [b] env := by intro _; rfl) (hs2 : ∀ env, starEach [b] env = (false, eval b env) :: starEach [] env := by intro _; rfl) (hpl : ∀ env, (backTo pos (starEach [b] env)).any (·.1) = false := by intro _; rfl) :
    IW c Γ (.Tuple elts kk tpos) (.Call (.Name "zip" p) [a, b] [] pos) (tT2 A B') k := fun B σ F H S R q => by
  obtain ⟨X, rfl, rfl, rfl, rfl, rfl, rfl, nd, rfl, rfl, calm, room, pas⟩ := c
  refine of_pi (RZ.pi_zipA (glB_gl hg) bi.zip (pa_cons peW (pa_cons peW pa_nil (hs2 _)) (hs _)) (hs _) (hpl _)) (h B σ F H S _ fun v xs Γ1 F1 H1 S1 e1 r1 h1 => h1 B σ F1 H1 S1 _ fun u ys Γ2 F2 H2 S2 e2 r2 h2 => ?_)
  obtain ⟨p1, vs, rfl, hp, hv⟩ := (tTup A).mono e2 r1
  obtain ⟨p2, us, rfl, hq, hu⟩ := r2
  exact ⟨p1, p2, vs, us, rfl, .inr ⟨sqT_mono S2.sub hp, sqT_mono S2.sub hq, q _ _ Γ2 F2 H2 S2 (e1.trans e2) (it_zipT hp hq hv hu) h2⟩⟩
end
end Px
/-! Px, eighteenth part: objects of the program's own classes, owned by one slot, their fields typed. -/
namespace Px
open PySem PySem.Spec PyProof.Rows L2
section
variable {K : PySem.W.Frag}
def Flds (F : Hp) (vs : List (Str × V)) (fs : List (Str × TV K)) : Prop := All2 (fun (a : Str × V) (b : Str × TV K) => a.1 = b.1 ∧ b.2.r F a.2) vs fs
theorem Flds.mono {F F' : Hp} {vs : List (Str × V)} {fs : List (Str × TV K)} (e : Same F F') (h : Flds F vs fs) : Flds F' vs fs := All2.imp (fun _ b q => ⟨q.1, b.2.mono e q.2⟩) h
theorem Flds.get {F : Hp} {f : Str} {t : TV K} : ∀ {vs : List (Str × V)} {fs : List (Str × TV K)}, Flds F vs fs → fs.lookup f = some t → ∃ v, vs.lookup f = some v ∧ t.r F v
  | [], [], _, h => by cases h
  | (g, v) :: vs, (g', t') :: fs, h, e => by
    obtain ⟨⟨e1, r1⟩, h2⟩ := h
    have e1' : g = g' := e1
    subst e1'
    rw [List.lookup_cons] at e ⊢
    cases q : f == g with
    | true => rw [q] at e; cases e; exact ⟨v, rfl, r1⟩
    | false => rw [q] at e; exact Flds.get h2 e
theorem Flds.no {F : Hp} {f : Str} : ∀ {vs : List (Str × V)} {fs : List (Str × TV K)}, Flds F vs fs → fs.lookup f = none → vs.lookup f = none
  | [], [], _, _ => rfl
  | (g, v) :: vs, (g', t') :: fs, h, e => by
    obtain ⟨⟨e1, r1⟩, h2⟩ := h
    have e1' : g = g' := e1
    subst e1'
    rw [List.lookup_cons] at e ⊢
    cases q : f == g with
    | true => rw [q] at e; cases e
    | false => rw [q] at e; exact Flds.no h2 e
def putT (f : Str) (t : TV K) : List (Str × TV K) → List (Str × TV K)
  | [] => [(f, t)]
  | (g, x) :: r => if g = f then (g, t) :: r else (g, x) :: putT f t r
theorem Flds.put {F : Hp} {f : Str} {t : TV K} {v : V} (hr : t.r F v) : ∀ {vs : List (Str × V)} {fs : List (Str × TV K)}, Flds F vs fs → Flds F (putF f v vs) (putT f t fs)
  | [], [], _ => ⟨⟨rfl, hr⟩, trivial⟩
  | (g, x) :: vs, (g', t') :: fs, h => by
    obtain ⟨⟨e1, r1⟩, h2⟩ := h
    have e1' : g = g' := e1
    subst e1'
    unfold putF putT
    by_cases q : g = f
    · rw [if_pos q, if_pos q]; exact ⟨⟨rfl, hr⟩, h2⟩
    · rw [if_neg q, if_neg q]; exact ⟨⟨rfl, r1⟩, Flds.put hr h2⟩
def ObAt (C : Addr) (fs : List (Str × TV K)) (F H : Hp) (p : Addr) : Prop := ∃ dx vs, H p = some (.ins C dx vs) ∧ Flds F vs fs
theorem ObAt.ne {C : Addr} {fs : List (Str × TV K)} {F H : Hp} {p : Addr} (h : ObAt C fs F H p) : H p ≠ none := by
  obtain ⟨dx, vs, e, _⟩ := h
  rw [e]
  exact fun z => nomatch z
/-- the object at p, of the class at C, with these fields -/
def obj (C p : Addr) (fs : List (Str × TV K)) : Ent := ⟨fun v ps F H => v = .ref p ∧ (∀ q, ps q ↔ q = p) ∧ ObAt C fs F H p, false, true, fun ⟨h1, h2, dx, vs, h3, h4⟩ e k => ⟨h1, h2, dx, vs, by rw [k p ((h2 p).mpr rfl)]; exact h3, h4.mono e⟩, fun h => nomatch h⟩
/-- a method's promise: of the object ahead and behind -/
def spO {τ ι ρ : Type} (C : Addr) (fo : τ → List (Str × TV K)) (args : ι → List (TV K)) (T : Ty K ρ) (pre : τ → ι → Prop) (post : τ → ι → ρ → τ → Prop) : Sp := fun vs H Q _ =>
  ∃ F s i p va, vs = .ref p :: va ∧ Same F H ∧ F p = none ∧ ObAt C (fo s) F H p ∧ All2 (fun v (t : TV K) => t.r F v) va (args i) ∧ pre s i ∧
    ∀ v r s' F' H', Same F F' → Same F' H' → (∀ b o, b ≠ p → H b = some o → H' b = some o) → (∀ b, H b ≠ none → F b = none → F' b = none) → ObAt C (fo s') F' H' p → T.r F' v r → post s i r s' → Q v H'
end
/-- a method of the class at C, and its promise -/
structure MProm (P : Program) (w : World) (K : PySem.W.Frag) (mg : Str → Option Value) (base : Heap) (C : Addr) (m : Str) (lv : Nat) (ps : List Str) (sp : Sp) : Prop where
  cl : Cls K C
  ex : ∃ f fd, Meth K C m f ∧ Binds K fd ps [] ∧ FnOk P w K mg base CX0 lv f fd ps sp
theorem MProm.mono {P : Program} {w : World} {K : PySem.W.Frag} {mg : Str → Option Value} {base : Heap} {C : Addr} {m : Str} {l l' : Nat} {ps : List Str} {sp : Sp} (h : MProm P w K mg base C m l ps sp) (hl : l ≤ l') : MProm P w K mg base C m l' ps sp := by
  obtain ⟨c, f, fd, h1, h2, h3⟩ := h
  exact ⟨c, f, fd, h1, h2, h3.mono hl⟩
/-- a def of a class as the top has left it -/
def MAt (K : PySem.W.Frag) (C : Addr) (m qual : Str) (st : Stmt) (ps : List Str) : Prop := ∃ f fd, Fun K m qual st f fd ∧ Meth K C m f ∧ Binds K fd ps []
theorem MAt.prom {P : Program} {w : World} {K : PySem.W.Frag} {mg : Str → Option Value} {base : Heap} {C : Addr} {m qual : Str} {st : Stmt} {ps : List Str} {sp : Sp} {l : Nat} (c : Cls K C) (h : MAt K C m qual st ps) (k : ∀ f fd, Fun K m qual st f fd → FnOk P w K mg base CX0 l f fd ps sp) : MProm P w K mg base C m l ps sp := by
  obtain ⟨f, fd, F, h1, h2⟩ := h
  exact ⟨c, f, fd, h1, h2, k f fd F⟩
section
variable {P : Program} {w : World} {K : PySem.W.Frag} {mg : Str → Option Value} {base : Heap} {lv : Nat} {N : List Str} {sc : Scope} {fn : Str → Bool}
variable {α β γ δ ρ τ ι : Type}
variable {c : Ctx P w K mg base lv N sc fn} {Γ : Gm} {e a b d tg iter elt f e1 e2 : Expr} {lo hi : Option Expr} {es ts ifs : List Expr} {pos pos' p p2 pt px q2 : Pos} {T : Ty K α} {A : Ty K α} {B' : Ty K β} {R : Ty K ρ} {D' : Ty K δ}
theorem gm_same {i : Nat} {x : Ent} (h : Γ[i]? = some (some x)) : Γ.set i (some x) = Γ := by
  apply List.ext_getElem?
  intro n
  by_cases hn : n = i
  · subst hn
    rw [List.getElem?_set_self (List.getElem?_eq_some_iff.mp h).1, h]
  · rw [List.getElem?_set_ne (Ne.symm hn)]
/-- the callee has changed the slot's object -/
theorem Sta.obj_upd {B : Base} {σ : L2.St} {F H F2 H2 : Hp} {i : Nat} {C p : Addr} {fs fs' : List (Str × TV K)} (S : Sta B Γ σ F H) (hx : Γ[i]? = some (some (obj C p fs))) (s1 : Same F F2) (s2 : Same F2 H2) (s3 : ∀ b o, b ≠ p → H b = some o → H2 b = some o) (s4 : ∀ b, H b ≠ none → F b = none → F2 b = none) (d3 : ObAt C fs' F2 H2 p) :
    Sta B (Γ.set i (some (obj C p fs'))) σ F2 H2 := by
  refine S.own_upd (F' := F2) (H' := H2) (e' := obj C p fs') hx rfl fun v3 ps3 hv3 ⟨e3, hq3, d4⟩ own3 => ?_
  refine ⟨ps3, s2, s1, fun b o hb nb => s3 b o (fun z => nb ((hq3 b).mpr z)) hb, fun b nb => ?_, s4, fun q hq => ?_, e3, hq3, d3⟩
  · by_cases z : b = p
    · rw [z]; exact d3.ne
    · cases y : H b with
      | none => exact absurd y nb
      | some o => rw [s3 b o z y]; exact fun z => nomatch z
  · obtain rfl : q = p := (hq3 q).mp hq
    have o3 := own3 q hq
    exact ⟨.inl hq, s4 q o3.2.1 o3.1, d3.ne, o3.2.2.2⟩
/-- x.m(e, ..) of the slot's object -/
theorem ew_meth {C o : Addr} {fo : τ → List (Str × TV K)} {args : ι → List (TV K)} {pre : τ → ι → Prop} {post : τ → ι → ρ → τ → Prop} {m x : Str} {ps : List Str} {l i : Nat} {k : Gm → ρ → Prop} {apos : Pos} {s : τ} {pl : Env → Sem Bool} (G : MProm P w K mg base C m l ps (spO C fo args R pre post)) (hl : l ≤ lv)
    (hs : slotOf N x 0 = some i) (hv : visB sc x = true) (hx : Γ[i]? = some (some (obj C o (fo s)))) (hn : (fo s).lookup m = none)
    (h : EWs c Γ (e :: es) fun Γ1 ts => Γ1[i]? = some (some (obj C o (fo s))) ∧ ∃ j, ts = args j ∧ pre s j ∧ ∀ r s', post s j r s' → k (Γ1.set i (some (obj C o (fo s')))) r) (hd : (x == ("__debug__" : Str)) = false := by decide +kernel) (hcd : (x == ("__classdict__" : Str)) = false := by decide +kernel)
    (he : ∀ env, starEach (e :: es) env = (false, eval e env) :: starEach es env := by intro _; rfl) (hpl : ∀ env, (backTo pos (starEach es env)).any (·.1) = false := by intro _; rfl)
    (ht : ∀ env, eval (.Call (.Attribute (.Name x px) m apos) (e :: es) [] pos) env = (do
      let ov ← eval (.Name x px) env
      standAt apos.atName
      let (f, first) ← holding [ov] (getMethod ov m (pl env))
      callWith pos f first (backTo pos (starEach (e :: es) env)) (backToKw pos (keywordEach [] env))) := by intro _; rfl) :
    EW c Γ (.Call (.Attribute (.Name x px) m apos) (e :: es) [] pos) R k := by
  intro B σ F H S Q q
  obtain ⟨X, rfl, rfl, rfl, rfl, rfl, rfl, nd, rfl, rfl, calm, room, pas⟩ := c
  obtain ⟨cl, f, fd, g1, g3, g4⟩ := G
  refine of_pe (pe_meth (pl := pl X.env) (pe_var (slotOf_at hs) (visB_vis hv) hd hcd) cl g1 g4 (room.mono hl) g3 .nil pass0 paW (he _) (hpl _) (ht _)) ?_
  obtain ⟨v, ps0, hv1, ⟨rfl, hq1, dx, vs0, h3, h4⟩, _⟩ := S.get hx
  refine ⟨_, hv1, o, dx, vs0, rfl, h3, h4.no hn, h B σ F H S _ fun vs ts Γ1 F1 H1 S1 e1 r1 ⟨hx1, j, ej, hp, hk⟩ => ?_⟩
  subst ej
  obtain ⟨v', ps1, hv2, ⟨rfl, hq2, d2⟩, own⟩ := S1.get hx1
  show spO C fo args R pre post (V.ref o :: (vs ++ [])) H1 Q E0
  rw [List.append_nil]
  exact ⟨F1, s, j, o, vs, rfl, S1.sub, (own o ((hq2 o).mpr rfl)).1, d2, r1, hp, fun v r s' F2 H2 s1 s2 s3 s4 d3 rr hr => q v r _ F2 H2 (S1.obj_upd hx1 s1 s2 s3 s4 d3) (e1.trans s1) rr (hk r s' hr)⟩
/-- x.m() of the slot's object -/
theorem ew_meth0 {C o : Addr} {fo : τ → List (Str × TV K)} {args : ι → List (TV K)} {pre : τ → ι → Prop} {post : τ → ι → ρ → τ → Prop} {m x : Str} {ps : List Str} {l i : Nat} {k : Gm → ρ → Prop} {apos : Pos} {s : τ} {pl : Env → Sem Bool} (G : MProm P w K mg base C m l ps (spO C fo args R pre post)) (hl : l ≤ lv)
    (hs : slotOf N x 0 = some i) (hv : visB sc x = true) (hx : Γ[i]? = some (some (obj C o (fo s)))) (hn : (fo s).lookup m = none)
    (h : ∃ j, args j = [] ∧ pre s j ∧ ∀ r s', post s j r s' → k (Γ.set i (some (obj C o (fo s')))) r) (hd : (x == ("__debug__" : Str)) = false := by decide +kernel) (hcd : (x == ("__classdict__" : Str)) = false := by decide +kernel)
    (ht : ∀ env, eval (.Call (.Attribute (.Name x px) m apos) [] [] pos) env = (do
      let ov ← eval (.Name x px) env
      standAt apos.atName
      let (f, first) ← holding [ov] (getMethod ov m (pl env))
      callWith pos f first (backTo pos (starEach [] env)) (backToKw pos (keywordEach [] env))) := by intro _; rfl) :
    EW c Γ (.Call (.Attribute (.Name x px) m apos) [] [] pos) R k := by
  intro B σ F H S Q q
  obtain ⟨X, rfl, rfl, rfl, rfl, rfl, rfl, nd, rfl, rfl, calm, room, pas⟩ := c
  obtain ⟨cl, f, fd, g1, g3, g4⟩ := G
  refine of_pe (pe_meth0 (pl := pl X.env) (pe_var (slotOf_at hs) (visB_vis hv) hd hcd) cl g1 g4 (room.mono hl) g3 .nil pass0 (ht _)) ?_
  obtain ⟨v, ps0, hv1, ⟨rfl, hq1, dx, vs0, h3, h4⟩, own⟩ := S.get hx
  obtain ⟨j, ej, hp, hk⟩ := h
  refine ⟨_, hv1, o, dx, vs0, rfl, h3, h4.no hn, ?_⟩
  exact ⟨F, s, j, o, [], rfl, S.sub, (own o ((hq1 o).mpr rfl)).1, ⟨dx, vs0, h3, h4⟩, by rw [ej]; trivial, hp, fun v r s' F2 H2 s1 s2 s3 s4 d3 rr hr => q v r _ F2 H2 (S.obj_upd hx s1 s2 s3 s4 d3) s1 rr (hk r s' hr)⟩
/-- x.f of the slot's object -/
theorem ew_fld {C o : Addr} {fs : List (Str × TV K)} {x fl : Str} {i : Nat} {z : α} {k : Gm → α → Prop} (cl : Cls K C) (na : NoAttr K C fl) (hs : slotOf N x 0 = some i) (hv : visB sc x = true) (hx : Γ[i]? = some (some (obj C o fs))) (hf : fs.lookup fl = some (tv T z)) (h : k Γ z)
    (hd : (x == ("__debug__" : Str)) = false := by decide +kernel) (hcd : (x == ("__classdict__" : Str)) = false := by decide +kernel) (hb : ∀ env, attributeBase (.Name x px) fl env (eval (.Name x px) env) = eval (.Name x px) env := by intro _; rfl) : EW c Γ (.Attribute (.Name x px) fl pos) T k := by
  intro B σ F H S Q q
  obtain ⟨X, rfl, rfl, rfl, rfl, rfl, rfl, nd, rfl, rfl, calm, room, pas⟩ := c
  refine of_pe (pe_fld (pe_var (slotOf_at hs) (visB_vis hv) hd hcd) (hb _)) ?_
  obtain ⟨v, ps0, hv1, ⟨rfl, hq1, dx, vs0, h3, h4⟩, own⟩ := S.get hx
  obtain ⟨u, hu, ru⟩ := h4.get hf
  exact ⟨_, hv1, o, C, dx, vs0, u, rfl, h3, cl, na, hu, q u z Γ F H S (Same.refl _) ru h⟩
/-- x.f = e -/
theorem s1_fld {D : En ρ} {C o : Addr} {fs : List (Str × TV K)} {x fl : Str} {i : Nat} (cl : Cls K C) (na : NoAttr K C fl) (hs : slotOf N x 0 = some i) (hv : visB sc x = true) (h : EW c Γ e T fun Γ1 z => Γ1[i]? = some (some (obj C o fs)) ∧ fs.length < 1000 ∧ D.nx (Γ1.set i (some (obj C o (putT fl (tv T z) fs)))))
    (hd : (x == ("__debug__" : Str)) = false := by decide +kernel) (hcd : (x == ("__classdict__" : Str)) = false := by decide +kernel) (hsw : ∀ env, swapsWith e (some (.Attribute (.Name x px) fl pos')) pos.line env = pure false := by intro _; rfl) : S1 c Γ (.Assign [.Attribute (.Name x px) fl pos'] e pos) D := fun B σ F H hB S => by
  obtain ⟨X, rfl, rfl, rfl, rfl, rfl, rfl, nd, rfl, rfl, calm, room, pas⟩ := c
  refine of_ps (ps_fld (pe_var (slotOf_at hs) (visB_vis hv) hd hcd) peW (hsw _)) (h B σ F H S _ fun v z Γ1 F1 H1 S1 e1 r1 ⟨hx, hl, hk⟩ => ?_)
  obtain ⟨v0, ps0, hv1, ⟨rfl, hq1, dx, vs0, h3, h4⟩, own⟩ := S1.get hx
  have hlen := All2.length h4
  refine ⟨_, hv1, o, C, dx, vs0, rfl, h3, cl, na, by omega, _, F1, S1.obj_upd hx (Same.refl _) (fun b x q => ?_) (fun b x nb q => by rw [upd_ne nb]; exact q) (fun b _ n2 => n2) ⟨dx, _, upd_same, h4.put r1⟩, hk⟩
  have ho := (own o ((hq1 o).mpr rfl)).1
  rw [upd_ne (ne_of_none q ho)]
  exact S1.sub b x q
/-- x.f op= e, on ints -/
theorem s1_fldaug {D : En ρ} {C o : Addr} {fs : List (Str × TV K)} {x fl : Str} {i : Nat} {z : Int} (cl : Cls K C) (na : NoAttr K C fl) (hs : slotOf N x 0 = some i) (hv : visB sc x = true) (hx : Γ[i]? = some (some (obj C o fs))) (hf : fs.lookup fl = some (tv (tInt (K := K)) z))
    (h : EW c Γ e tInt fun Γ1 u => Γ1[i]? = some (some (obj C o fs)) ∧ fs.length < 1000 ∧ D.nx (Γ1.set i (some (obj C o (putT fl (tv (tInt (K := K)) (z + u)) fs)))))
    (hd : (x == ("__debug__" : Str)) = false := by decide +kernel) (hcd : (x == ("__classdict__" : Str)) = false := by decide +kernel) : S1 c Γ (.AugAssign (.Attribute (.Name x px) fl pos') .Add e pos) D := fun B σ F H hB S => by
  obtain ⟨X, rfl, rfl, rfl, rfl, rfl, rfl, nd, rfl, rfl, calm, room, pas⟩ := c
  obtain ⟨v0, ps0, hv1, ⟨rfl, hq1, dx, vs0, h3, h4⟩, own⟩ := S.get hx
  obtain ⟨u, hu, ru⟩ := h4.get hf
  refine of_ps (ps_fldaug (pe_var (slotOf_at hs) (visB_vis hv) hd hcd) peW in_add) ⟨_, hv1, o, C, dx, vs0, u, rfl, h3, cl, na, hu, h B σ F H S _ fun y n Γ1 F1 H1 S1 e1 r1 ⟨hx1, hl, hk⟩ => ⟨z, n, ru, r1, ?_⟩⟩
  obtain ⟨v1, ps1, hv2, ⟨rfl, hq2, dx', vs1, g3, g4⟩, own1⟩ := S1.get hx1
  have hlen := All2.length g4
  refine ⟨dx', vs1, g3, by omega, _, F1, S1.obj_upd hx1 (Same.refl _) (fun b x q => ?_) (fun b x nb q => by rw [upd_ne nb]; exact q) (fun b _ n2 => n2) ⟨dx', _, upd_same, g4.put rfl⟩, hk⟩
  have ho := (own1 o ((hq2 o).mpr rfl)).1
  rw [upd_ne (ne_of_none q ho)]
  exact S1.sub b x q
/-- a class that can be made -/
structure MkAt (P : Program) (w : World) (K : PySem.W.Frag) (mg : Str → Option Value) (base : Heap) (C : Addr) (name : Str) (lv : Nat) (ps : List Str) (sp : Sp) : Prop where
  at_ : mg name = some (.ref C)
  ex : ∃ f fd, Mk K C f ∧ Binds K fd ps [] ∧ FnOk P w K mg base CX0 lv f fd ps sp
/-- x = C(e, ..) -/
theorem s1_make {D : En δ} {C : Addr} {fo : τ → List (Str × TV K)} {args : ι → List (TV K)} {pre : τ → ι → Prop} {post : τ → ι → Unit → τ → Prop} {name x : Str} {ps : List Str} {l i : Nat} {cpos : Pos} {s0 : τ} (G : MkAt P w K mg base C name l ps (spO C fo args tNon pre post)) (hl : l + 1 ≤ lv) (hg : glB sc name = true) (hs : slotOf N x 0 = some i) (hv : locB sc fn x = true) (h0 : fo s0 = [])
    (h : EWs c Γ (e :: es) fun Γ1 ts => i < Γ1.length ∧ ∃ j, ts = args j ∧ pre s0 j ∧ ∀ o s', post s0 j () s' → D.nx (Γ1.set i (some (obj C o (fo s'))))) (hdb : (name == ("__debug__" : Str)) = false := by decide +kernel)
    (he : ∀ env, starEach (e :: es) env = (false, eval e env) :: starEach es env := by intro _; rfl) (hpl : ∀ env, (backTo cpos (starEach es env)).any (·.1) = false := by intro _; rfl)
    (hsw : ∀ env, swapsWith (.Call (.Name name p) (e :: es) [] cpos) (some (.Name x pos')) pos.line env = pure false := by intro _; rfl) : S1 c Γ (.Assign [.Name x pos'] (.Call (.Name name p) (e :: es) [] cpos) pos) D := fun B σ F H hB S => by
  obtain ⟨X, rfl, rfl, rfl, rfl, rfl, rfl, nd, rfl, rfl, calm, room, pas⟩ := c
  obtain ⟨g1, f, fd, g2, g3, g4⟩ := G
  have hl' := locB_loc hv
  refine of_ps (ps_set (i := i) nd (slotOf_at hs) hl'.1 (pe_make g2 g4 (room.mono hl) (glB_gl hg) g1 g3 .nil pass0 paW hdb (he _) (hpl _)) (hsw _) hl'.2) ?_
  refine h B σ F H S _ fun vs ts Γ1 F1 H1 S1 e1 r1 ⟨hil, j, ej, hp, hk⟩ => ?_
  subst ej
  intro o dx no ndx ndo
  show spO C fo args tNon pre post (V.ref o :: (vs ++ [])) _ _ E0
  rw [List.append_nil]
  have s0' : Same H1 (upd (upd H1 dx (.own o)) o (.ins C dx [])) := fun b x q => by
    rw [upd_ne (ne_of_none q no), upd_ne (ne_of_none q ndx)]
    exact q
  have fo0 : F1 o = none := S1.sub.free no
  refine ⟨F1, s0, j, o, vs, rfl, S1.sub.trans s0', fo0, ⟨dx, [], upd_same, by rw [h0]; trivial⟩, r1, hp, fun v r s' F2 H2 s1 s2 s3 s4 d3 rr hr => ⟨rr, ?_⟩⟩
  have st : Step F1 H1 F2 H2 := ⟨s1, fun b x q => s3 b x (ne_of_none q no) (s0' b x q), s2, fun b n1 n2 => s4 b (Same.dom s0' n1) n2⟩
  have f2 : F2 o = none := s4 o (by rw [upd_same]; exact fun z => nomatch z) fo0
  obtain ⟨S2, b1, b2⟩ := S1.fresh st no f2 d3.ne
  exact ⟨_, F2, Sta.take (e := obj C o (fo s')) (B := B) S2 hil ⟨rfl, fun q => Iff.rfl, d3⟩ f2 d3.ne b1 b2, hk o s' hr⟩
/-- a method keeps its promise -/
theorem fn_obj {C : Addr} {fo : τ → List (Str × TV K)} {args : ι → List (TV K)} {pre : τ → ι → Prop} {post : τ → ι → ρ → τ → Prop} {x qual : Str} {st : Stmt} {f : Addr} {fd : FuncData} {ps : List Str} (F : Fun K x qual st f fd) (S : FnScope N ps (defScope st)) (hl : ∀ i, (args i).length + 1 = ps.length)
    (h : ∀ s i, pre s i → ∀ (o : Addr) (c : Ctx P w K mg base lv N (defScope st) (fun _ => true)), SW c (some (obj C o (fo s)) :: gmOf (N.length - 1) (args i)) (defBody st) ⟨rTy R, fun Γ r => ∃ s', Γ[0]? = some (some (obj C o (fo s'))) ∧ post s i r s', fun Γ => ∃ s', Γ[0]? = some (some (obj C o (fo s'))) ∧ ∃ r, (∀ F, R.r F .non r) ∧ post s i r s', fun _ => False, fun _ => False⟩) :
    FnOk P w K mg base CX0 (lv + 1) f fd ps (spO C fo args R pre post) := by
  have hpl : ps.length ≤ N.length := by have := congrArg List.length S.pre; rw [List.length_take] at this; omega
  refine fn_px F S (fun vs H Q E ⟨F0, s, i, p, va, e, _, _, _, r, _⟩ => by subst e; exact (congrArg (· + 1) (All2.length r)).trans (hl i)) fun vs H Q E ⟨F0, s, i, p, va, e, hs, hf, hd, r, hp, q⟩ => ?_
  subst e
  have hlen := All2.length r
  have hl' := hl i
  have fin : ∀ (v : V) (Γ' : Gm) (σ' : L2.St) (F' H' : Hp) (a : ρ) (s' : τ), Sta ⟨F0, H, fun q => q = p, fun _ => False, fun _ => False⟩ Γ' σ' F' H' → R.r F' v a → Γ'[0]? = some (some (obj C p (fo s'))) → post s i a s' → Q v H' := fun v Γ' σ' F' H' a s' S' ra h0 ha => by
    obtain ⟨v0, ps0, hv0, ⟨_, _, d0⟩, _⟩ := S'.get h0
    exact q v a s' F' H' S'.ext S'.sub (fun b o nb hb => S'.keep b o hb nb) S'.new d0 ra ha
  refine ⟨ρ, ⟨F0, H, fun q => q = p, fun _ => False, fun _ => False⟩, some (obj C p (fo s)) :: gmOf (N.length - 1) (args i), F0, rTy R, _, _, fun _ h => h, ?_, h s i hp p, fun v Γ' σ' F' H' a S' ra ⟨s', h0, ha⟩ => fin v Γ' σ' F' H' a s' S' ra h0 ha, fun Γ' σ' F' H' S' ⟨s', h0, a, ra, ha⟩ => fin .non Γ' σ' F' H' a s' S' (ra F') h0 ha⟩
  refine ⟨?_, hs, Same.refl _, fun _ _ h _ => h, fun _ h => h, fun _ _ h => h, fun _ h => h.elim, fun j q => j = 0 ∧ q = p, fun j q ⟨_, e⟩ => ⟨by rw [e]; exact hf, by rw [e]; exact hd.ne, .inr e, fun h => h⟩, fun j k q ⟨e1, _⟩ ⟨e2, _⟩ => e1.trans e2.symm, fun j x hx => ?_⟩
  · rw [start_len (by rw [List.length_cons]; omega)]
    unfold gmOf
    rw [List.length_cons, List.length_append, List.length_map, List.length_replicate]
    omega
  · cases j with
    | zero =>
      cases hx
      exact ⟨.ref p, start_get rfl, ⟨rfl, fun q => by simp, hd⟩, fun z => nomatch z⟩
    | succ j =>
      rw [List.getElem?_cons_succ] at hx
      obtain ⟨t, ht, rfl⟩ := gm_get hx
      obtain ⟨v, hv, rv⟩ := All2.getR r ht
      refine ⟨v, start_get (by rw [List.getElem?_cons_succ]; exact hv), ⟨?_, rv⟩, fun _ q hq => absurd hq.1 (Nat.succ_ne_zero j)⟩
      intro q hq
      exact Nat.succ_ne_zero j hq.1
end
/-! the same, for goals with the ends spelled out -/
section
variable {P : Program} {w : World} {K : PySem.W.Frag} {mg : Str → Option Value} {base : Heap} {lv : Nat} {N : List Str} {sc : Scope} {fn : Str → Bool}
variable {α β γ δ ρ τ ι : Type}
variable {c : Ctx P w K mg base lv N sc fn} {Γ : Gm} {e : Expr} {es : List Expr} {pos pos' p px : Pos} {T : Ty K α} {R : Rs ρ} {rt : Gm → ρ → Prop} {nx bk ct : Gm → Prop}
theorem w_fld {C o : Addr} {fs : List (Str × TV K)} {x fl : Str} {i : Nat} (cl : Cls K C) (na : NoAttr K C fl) (hs : slotOf N x 0 = some i) (hv : visB sc x = true) (h : EW c Γ e T fun Γ1 z => Γ1[i]? = some (some (obj C o fs)) ∧ fs.length < 1000 ∧ nx (Γ1.set i (some (obj C o (putT fl (tv T z) fs)))))
    (hd : (x == ("__debug__" : Str)) = false := by decide +kernel) (hcd : (x == ("__classdict__" : Str)) = false := by decide +kernel) (hsw : ∀ env, swapsWith e (some (.Attribute (.Name x px) fl pos')) pos.line env = pure false := by intro _; rfl) : S1 c Γ (.Assign [.Attribute (.Name x px) fl pos'] e pos) (⟨R, rt, nx, bk, ct⟩ : En ρ) := s1_fld cl na hs hv h hd hcd hsw
theorem w_fldaug {C o : Addr} {fs : List (Str × TV K)} {x fl : Str} {i : Nat} {z : Int} (cl : Cls K C) (na : NoAttr K C fl) (hs : slotOf N x 0 = some i) (hv : visB sc x = true) (hx : Γ[i]? = some (some (obj C o fs))) (hf : fs.lookup fl = some (tv (tInt (K := K)) z))
    (h : EW c Γ e tInt fun Γ1 u => Γ1[i]? = some (some (obj C o fs)) ∧ fs.length < 1000 ∧ nx (Γ1.set i (some (obj C o (putT fl (tv (tInt (K := K)) (z + u)) fs)))))
    (hd : (x == ("__debug__" : Str)) = false := by decide +kernel) (hcd : (x == ("__classdict__" : Str)) = false := by decide +kernel) : S1 c Γ (.AugAssign (.Attribute (.Name x px) fl pos') .Add e pos) (⟨R, rt, nx, bk, ct⟩ : En ρ) := s1_fldaug cl na hs hv hx hf h hd hcd
theorem w_make {C : Addr} {fo : τ → List (Str × TV K)} {args : ι → List (TV K)} {pre : τ → ι → Prop} {post : τ → ι → Unit → τ → Prop} {name x : Str} {ps : List Str} {l i : Nat} {cpos : Pos} {s0 : τ} (G : MkAt P w K mg base C name l ps (spO C fo args tNon pre post)) (hl : l + 1 ≤ lv) (hg : glB sc name = true) (hs : slotOf N x 0 = some i) (hv : locB sc fn x = true) (h0 : fo s0 = [])
    (h : EWs c Γ (e :: es) fun Γ1 ts => i < Γ1.length ∧ ∃ j, ts = args j ∧ pre s0 j ∧ ∀ o s', post s0 j () s' → nx (Γ1.set i (some (obj C o (fo s'))))) (hdb : (name == ("__debug__" : Str)) = false := by decide +kernel)
    (he : ∀ env, starEach (e :: es) env = (false, eval e env) :: starEach es env := by intro _; rfl) (hpl : ∀ env, (backTo cpos (starEach es env)).any (·.1) = false := by intro _; rfl)
    (hsw : ∀ env, swapsWith (.Call (.Name name p) (e :: es) [] cpos) (some (.Name x pos')) pos.line env = pure false := by intro _; rfl) : S1 c Γ (.Assign [.Name x pos'] (.Call (.Name name p) (e :: es) [] cpos) pos) (⟨R, rt, nx, bk, ct⟩ : En ρ) := s1_make G hl hg hs hv h0 h hdb he hpl hsw
end
end Px
/-! Px, nineteenth part: texts: startswith at a place, split, join of a tuple, str(), int(), f-strings, a text no time or once. -/
namespace Px
open PySem PySem.Spec PyProof.Rows L2
def rRep01 : R2 := fun x y H Q => ∃ s n, x = .str s ∧ y = .int n ∧ ((n = 0 ∧ Q (.str Str.empty) H) ∨ (n = 1 ∧ Q (.str s) H))
theorem op_rep01 {X : Cx} : OpR X (binaryOp .Mult) rRep01 := by
  intro pins s σ H x y v u Q I rx ry h
  obtain ⟨z, n, rfl, rfl, q⟩ := h
  obtain ⟨t, rfl⟩ := rx
  obtain ⟨t', rfl⟩ := ry
  rcases q with ⟨rfl, q⟩ | ⟨rfl, q⟩
  · exact PySem.P.mul_str_none (by decide) (by decide) ⟨.str Str.empty, H, I.tok _, ⟨_, rfl⟩, q⟩
  · refine PySem.P.mul_str (by decide) (fun _ h => absurd h (by simp)) (fun _ h => absurd h (by simp)) ?_
    rw [if_neg (by decide), if_pos (by simp)]
    exact ⟨.str z, H, I, ⟨_, rfl⟩, q⟩
section
variable {P : Program} {w : World} {K : PySem.W.Frag} {mg : Str → Option Value} {base : Heap} {lv : Nat} {N : List Str} {sc : Scope} {fn : Str → Bool}
variable {α β γ δ ρ : Type}
variable {c : Ctx P w K mg base lv N sc fn} {Γ : Gm} {e a b d tg iter elt f e1 e2 : Expr} {lo hi : Option Expr} {es ts ifs : List Expr} {pos pos' p p2 pt px q2 ap : Pos} {T : Ty K α} {A : Ty K α} {B' : Ty K β} {C : Ty K γ} {D' : Ty K δ}
theorem ew_rep01 {k : Gm → Str → Prop} (h : EW c Γ a tStr fun Γ1 s => EW c Γ1 b tInt fun Γ2 n => (n = 0 ∧ k Γ2 Str.empty) ∨ (n = 1 ∧ k Γ2 s)) : EW c Γ (.BinOp a .Mult b pos) tStr k :=
  ew_bin (fun _ => op_rep01) (h.imp fun _ s h => h.imp fun _ n hx => fun F H x y S hx' hy Q q => ⟨s, n, hx', hy, hx.imp (fun z => ⟨z.1, q _ F H _ (Step.refl S) rfl z.2⟩) fun z => ⟨z.1, q _ F H _ (Step.refl S) rfl z.2⟩⟩)
theorem tw_inS {k : Gm → Bool → Prop} (h : EW c Γ a tStr fun Γ1 s => EW c Γ1 b tStr fun Γ2 z => ∃ i, s = sg i ∧ k Γ2 (decide (i ∈ z.cps.toList))) (hm : behindInMarks .In b = false := by with_unfolding_all rfl) : TW c Γ (.Compare a [.In] [b] pos) k :=
  tw_cmp (fun _ => op_in_sign) (h.imp fun _ s h => h.imp fun _ z ⟨i, h1, h2⟩ => fun F H x y S hx hy Q q => ⟨i, z, by rw [show x = .str s from hx, h1]; rfl, hy, q _ F H _ (Step.refl S) rfl h2⟩) hm
/-- text.startswith(text, place) -/
theorem ew_starts3 {k : Gm → Bool → Prop} (h : EW c Γ a tStr fun Γ1 s => EW c Γ1 b tStr fun Γ2 g => EW c Γ2 d tInt fun Γ3 i => k Γ3 (Txt.startswith3 s g i)) (ok : MOk a "startswith" ap b [d] pos) (h2 : ∀ env, starEach [d] env = (false, eval d env) :: starEach [] env := by intro _; rfl) : EW c Γ (.Call (.Attribute a "startswith" ap) [b, d] [] pos) tBool k := fun B σ F H S Q q => by
  refine of_pe (pe_bmW PySem.F.plainAttrs_str PySem.F.slot_str_startswith PySem.F.type_str_startswith mt_startswith3 ok peW (pa_cons peW (pa_cons peW pa_nil (h2 _)) (ok.star _))) ?_
  refine h B σ F H S _ fun v s Γ1 F1 H1 S1 e1 r1 h1 => ⟨by rw [show v = .str s from r1]; rfl, h1 B σ F1 H1 S1 _ fun u g Γ2 F2 H2 S2 e2 r2 h2 => h2 B σ F2 H2 S2 _ fun t i Γ3 F3 H3 S3 e3 r3 h3 => ?_⟩
  exact ⟨s, g, i, r1, by rw [show u = .str g from r2, show t = .int i from r3], q _ _ Γ3 F3 H3 S3 ((e1.trans e2).trans e3) rfl h3⟩
/-- text.split(text) -/
theorem el_split {k : Gm → List Str → Prop} (h : EW c Γ a tStr fun Γ1 s => EW c Γ1 b tStr fun Γ2 g => ((g.length == 0) = false ∧ s.length + 2 ≤ sizeLine) ∧ k Γ2 (Txt.split s g)) (hs : ∀ env, starEach [b] env = [(false, eval b env)] := by intro _; rfl) (hb : ∀ env, attributeBase a "split" env (eval a env) = eval a env := by intro _; rfl) (hl : (ap.endLine == pos.line) = true := by rfl) : EL c Γ (.Call (.Attribute a "split" ap) [b] [] pos) tStr k := fun B σ F H S Q q => by
  refine of_pe (pe_split peW peW (hs _) (hb _) hl) (h B σ F H S _ fun v s Γ1 F1 H1 S1 e1 r1 h1 => ⟨⟨s, r1⟩, h1 B σ F1 H1 S1 _ fun u g Γ2 F2 H2 S2 e2 r2 ⟨⟨h2, h3⟩, h4⟩ => ?_⟩)
  refine ⟨s, g, r1, by rw [show u = .str g from r2], h2, h3, fun p hp => ?_⟩
  obtain ⟨S4, b1, b2, b3⟩ := S2.make (o := .lst ((Txt.split s g).map V.str)) hp
  exact q p _ _ Γ2 _ _ S4 (e1.trans e2) b1 b3 b2 upd_same (All2.of_map (f := V.str) (fun _ => rfl) _) h4
/-- text.join(tuple) -/
theorem ew_joinT {k : Gm → Str → Prop} (h : EW c Γ a tStr fun Γ1 s => EW c Γ1 b (tTup tStr) fun Γ2 ys => (ys.map (·.length)).sum + ys.length * s.length ≤ 16777216 ∧ k Γ2 (Txt.join s ys))
    (hs : ∀ env, starEach [b] env = [(false, eval b env)] := by intro _; rfl) (hb : ∀ env, attributeBase a "join" env (eval a env) = eval a env := by intro _; rfl) (hl : (ap.endLine == pos.line) = true := by rfl) : EW c Γ (.Call (.Attribute a "join" ap) [b] [] pos) tStr k := fun B σ F H S Q q => by
  obtain ⟨X, rfl, rfl, rfl, rfl, rfl, rfl, nd, rfl, rfl, calm, room, pas⟩ := c
  refine of_pe (pe_join peW peW (hs _) (hb _) hl) (h B σ F H S _ fun v s Γ1 F1 H1 S1 e1 r1 h1 => ⟨⟨s, r1⟩, h1 B σ F1 H1 S1 _ fun u ys Γ2 F2 H2 S2 e2 ⟨l, vs, ev, hq, hr⟩ h2 => ?_⟩)
  have ev2 : vs = ys.map V.str := All2.eq_map (fun _ _ r => r) hr
  subst ev2
  exact ⟨s, l, ys, r1, by rw [ev], .inr (sqT_mono S2.sub hq), h2.1, q _ _ Γ2 F2 H2 S2 (e1.trans e2) rfl h2.2⟩
/-- str(int) -/
theorem ew_strI (bi : Bi mg) {k : Gm → Str → Prop} (hg : glB sc "str" = true) (h : EW c Γ a tInt fun Γ1 i => i.natAbs.log2 < 1920 ∧ k Γ1 (toString i)) (he : ∀ env, starEach [a] env = (false, eval a env) :: starEach [] env := by intro _; rfl) : EW c Γ (.Call (.Name "str" p) [a] [] pos) tStr k :=
  ew_Ty (i' := "str") (fun _ _ => call_str_int) hg bi.str (by decide +kernel) (ews_cons (h.imp fun _ i hx => ews_nil fun F H xs S r Q q => match xs, r with
    | [v], ⟨r, _⟩ => ⟨i, by rw [show v = .int i from r], hx.1, q _ F H _ (Step.refl S) rfl hx.2⟩) he) (he := he)
/-- int(text) -/
theorem ew_intS (bi : Bi mg) {k : Gm → Int → Prop} (hg : glB sc "int" = true) (h : EW c Γ a tStr fun Γ1 s => s.length ≤ 640 ∧ ∃ n, PySem.intText? s = some n ∧ k Γ1 n) (he : ∀ env, starEach [a] env = (false, eval a env) :: starEach [] env := by intro _; rfl) : EW c Γ (.Call (.Name "int" p) [a] [] pos) tInt k :=
  ew_Ty (i' := "int") (fun _ _ => call_int_str) hg bi.int (by decide +kernel) (ews_cons (h.imp fun _ s ⟨h1, n, h2, h3⟩ => ews_nil fun F H xs S r Q q => match xs, r with
    | [v], ⟨r, _⟩ => ⟨s, n, by rw [show v = .str s from r], h2, h1, q _ F H _ (Step.refl S) rfl h3⟩) he) (he := he)
/-! ### f-strings -/
def EJ (c : Ctx P w K mg base lv N sc fn) (Γ : Gm) (es : List Expr) (acc : Str) (k : Gm → Str → Prop) : Prop :=
  ∀ B σ F H, Sta B Γ σ F H → ∀ Q : Str → Hp → Prop, (∀ out Γ' F' H', Sta B Γ' σ F' H' → Same F F' → k Γ' out → Q out H') → tJs (es.map fun e => wE c.X e) acc σ H Q
theorem ej_nil {acc : Str} {k : Gm → Str → Prop} (h : k Γ acc) : EJ c Γ [] acc k := fun B σ F H S Q q => q acc Γ F H S (Same.refl _) h
theorem ej_cons {acc : Str} {k : Gm → Str → Prop} (h : EW c Γ e tStr fun Γ1 y => (acc ++ y).length ≤ sizeLine ∧ EJ c Γ1 es (acc ++ y) k) : EJ c Γ (e :: es) acc k := fun B σ F H S Q q =>
  h B σ F H S _ fun v y Γ1 F1 H1 S1 e1 r1 ⟨h1, h2⟩ => ⟨y, r1, h1, h2 B σ F1 H1 S1 Q fun out Γ2 F2 H2 S2 e2 h3 => q out Γ2 F2 H2 S2 (e1.trans e2) h3⟩
theorem pjW {X : Cx} : ∀ es : List Expr, PJ X es (es.map fun e => wE X e)
  | [] => .nil
  | e :: es => .cons peW (pjW es)
theorem ew_joined {v1 v2 : Expr} {rest : List Expr} {k : Gm → Str → Prop} (h : EJ c Γ (v1 :: v2 :: rest) Str.empty k) : EW c Γ (.JoinedStr (v1 :: v2 :: rest) pos) tStr k := fun B σ F H S Q q =>
  of_pe (pe_joined (pjW _)) (h B σ F H S _ fun out Γ1 F1 H1 S1 e1 h1 => q _ out Γ1 F1 H1 S1 e1 rfl h1)
theorem ew_fmtS {k : Gm → Str → Prop} (h : EW c Γ e tStr fun Γ1 y => y.length ≤ sizeLine ∧ k Γ1 y) : EW c Γ (.FormattedValue e (-1) none pos) tStr k := fun B σ F H S Q q =>
  of_pe (pe_fmt peW) (h B σ F H S _ fun v y Γ1 F1 H1 S1 e1 r1 ⟨h1, h2⟩ => .inl ⟨y, r1, h1, q _ y Γ1 F1 H1 S1 e1 rfl h2⟩)
theorem ew_fmtI {k : Gm → Str → Prop} (h : EW c Γ e tInt fun Γ1 i => i.natAbs.log2 < 1920 ∧ k Γ1 (toString i)) : EW c Γ (.FormattedValue e (-1) none pos) tStr k := fun B σ F H S Q q =>
  of_pe (pe_fmt peW) (h B σ F H S _ fun v y Γ1 F1 H1 S1 e1 r1 ⟨h1, h2⟩ => .inr ⟨y, r1, h1, q _ _ Γ1 F1 H1 S1 e1 rfl h2⟩)
end
end Px
/-! Px, twentieth part: tables of code objects owned beside a slot's value; lambdas with one parameter; min by key. -/
namespace Px
open PySem PySem.Spec PyProof.Rows L2
open LamX (CodeO TabB lamEnv)
/-- f is this very function object -/
def FunO (f : Addr) (o : Obj) : HO := .ext fun h => h.get? f = some o
def TabOk (F H : Hp) (P : Addr) (q : Str) : Prop := ∃ ps : Array Value, H P = some (.tbl ps) ∧ TriplesOk ps.toList ∧ ∀ (z : Pos) (cv : Value), codeAmong z ps.toList = some cv → ∃ d, cv = .ref d ∧ F d = some (CodeO d q)
theorem TabOk.ne {F H : Hp} {P : Addr} {q : Str} (h : TabOk F H P q) : H P ≠ none := by
  obtain ⟨ps, e, _⟩ := h
  rw [e]; exact fun z => nomatch z
theorem TabOk.st {F F' H H' : Hp} {P : Addr} {q : Str} (h : TabOk F H P q) (e : Same F F') (k : H' P = H P) : TabOk F' H' P q := by
  obtain ⟨ps, h1, h2, h3⟩ := h
  exact ⟨ps, k.trans h1, h2, fun z cv y => let ⟨d, e1, e2⟩ := h3 z cv y; ⟨d, e1, e _ _ e2⟩⟩
theorem TabOk.nil {F H : Hp} {P : Addr} {q : Str} (h : H P = some (.tbl #[])) : TabOk F H P q := ⟨#[], h, True.intro, fun z cv y => by
  have y' : codeAmong z [] = some cv := y
  simp [codeAmong] at y'⟩
section
variable {K : PySem.W.Frag} {α : Type}
/-- a frozen value; the slot owns the code table at P, too -/
def entT (t : TV K) (P : Addr) (q : Str) : Ent := ⟨fun v ps F H => (∀ b, ps b ↔ b = P) ∧ t.r F v ∧ TabOk F H P q, false, true, fun ⟨h1, h2, h3⟩ e k => ⟨h1, t.mono e h2, h3.st e (k P ((h1 P).mpr rfl))⟩, fun h => nomatch h⟩
abbrev valT (T : Ty K α) (a : α) (P : Addr) (q : Str) : Ent := entT (tv T a) P q
/-- the function that a lambda makes -/
def tLam (q : Str) (params : Arguments) (body : Expr) (scope : Scope) (cells : List (Str × Addr)) : Ty K Unit :=
  ⟨fun F v _ => ∃ (f d : Addr) (pm ctv : Value), v = .ref f ∧ F f = some (FunO f (PySem.W.kla_obj "<lambda>" q params body scope (cloFrom cells scope.names []) pm d ctv)) ∧ F d = some (CodeO d q),
   fun e ⟨f, d, pm, ctv, h1, h2, h3⟩ => ⟨f, d, pm, ctv, h1, e _ _ h2, e _ _ h3⟩⟩
/-- a promise that may fill the table -/
def spT {ι ρ : Type} (P : Addr) (q : Str) (args : ι → List (TV K)) (R : Ty K ρ) (pre : ι → Prop) (post : ι → ρ → Prop) : Sp := fun vs H Q _ =>
  ∃ F i, Same F H ∧ F P = none ∧ TabOk F H P q ∧ All2 (fun v (t : TV K) => t.r F v) vs (args i) ∧ pre i ∧
    ∀ v r F' H', Same F F' → Same F' H' → (∀ b o, b ≠ P → H b = some o → H' b = some o) → (∀ b, H b ≠ none → F b = none → F' b = none) → TabOk F' H' P q → R.r F' v r → post i r → Q v H'
end
/-! ### the names of a lambda -/
def lamB (sc scope : Scope) (x : Str) : Bool := decide (scope.kind = .function) && !scope.isCoroutine && !scope.isGenerator && decide (scope.names.lookup x = some .local) &&
  scope.names.all fun y => !decide (y.2 = .cell) && (!decide (y.2 = .local) || decide (y.1 = x)) && (!decide (y.2 = .free) || decide (sc.names.lookup y.1 = some .cell) || decide (sc.names.lookup y.1 = some .free))
structure LamN (sc scope : Scope) (x : Str) : Prop where
  kind : scope.kind = .function
  co : scope.isCoroutine = false
  gen : scope.isGenerator = false
  loc : scope.names.lookup x = some .local
  ncell : ∀ y ∈ scope.names, y.2 ≠ .cell
  own : ∀ y ∈ scope.names, y.2 = .local → y.1 = x
  free : ∀ y ∈ scope.names, y.2 = .free → sc.names.lookup y.1 = some .cell ∨ sc.names.lookup y.1 = some .free
theorem lamB_n {sc scope : Scope} {x : Str} (h : lamB sc scope x = true) : LamN sc scope x := by
  unfold lamB at h
  simp only [Bool.and_eq_true, Bool.or_eq_true, Bool.not_eq_true', decide_eq_true_eq, decide_eq_false_iff_not, List.all_eq_true] at h
  obtain ⟨⟨⟨⟨h1, h2⟩, h3⟩, h4⟩, h5⟩ := h
  refine ⟨h1, h2, h3, h4, fun y hy => (h5 y hy).1.1, fun y hy e => ?_, fun y hy e => ?_⟩
  · exact (h5 y hy).1.2.resolve_left fun z => z e
  · rcases (h5 y hy).2 with (z | z) | z
    · exact absurd e z
    · exact .inl z
    · exact .inr z
theorem LamN.has {X : Cx} {scope : Scope} {x : Str} (L : LamN X.env.scope scope x) (ok : X.Ok) : ∀ y ∈ scope.names, y.2 = .free → ∃ c, X.env.cells.lookup y.1 = some c := fun y hy e =>
  ok.has _ (L.free y hy e)
/-! ### the lambda is made -/
section
variable {X : Cx} {pins : List (Addr × Obj)} {σ : L2.St} {H : Hp} {s : Shared}
theorem lam_mk {c P : Addr} {q : Str} {ps : Array Value} {params : Arguments} {body : Expr} {scope : Scope} {z : Pos} {E : Value → Shared → Prop} {Q : Value → Shared → Prop} (I : Inv X pins σ H s) (TB : TabB X.base X.mg c P) (hcode : X.env.code = .ref c) (hq : X.env.qual ++ "<lambda>" = q)
    (hP : H P = some (.tbl ps)) (ht : TriplesOk ps.toList) (ha : ∀ (z : Pos) (cv : Value), codeAmong z ps.toList = some cv → ∃ d, cv = .ref d ∧ H d = some (CodeO d q)) (hdef : defaultsOf params X.env = ([], [])) (hfree : ∀ y ∈ scope.names, y.2 = .free → ∃ d, X.env.cells.lookup y.1 = some d)
    (h : ∀ (f d : Addr) (pm ctv : Value) (ps' : Array Value) (H1 : Hp) (s' : Shared), (H1 = H ∧ ps' = ps ∧ (∃ z, codeAmong z ps.toList = some (.ref d)) ∨ H d = none ∧ H1 = upd (upd H P (.tbl ps')) d (CodeO d q)) → TriplesOk ps'.toList → (∀ (z : Pos) (cv : Value), codeAmong z ps'.toList = some cv → codeAmong z ps.toList = some cv ∨ cv = .ref d) → H1 f = none →
      Inv X pins σ (upd H1 f (FunO f (PySem.W.kla_obj "<lambda>" q params body scope (cloFrom X.env.cells scope.names []) pm d ctv))) s' → Q (.ref f) s') :
    wpAny (model X.prog X.w) X.A (eval (.Lambda params body scope z) X.env) Q E s := by
  subst hq
  refine PySem.W.kla_eval hdef ?_
  have bP := TB.bm.keeps I.bk
  have oP : s.heap.get? P = some { cls := .none, data := .fields ps } := I.hok P _ hP
  have lay : ∀ {H1 : Hp} {h' : Heap} {tk : Tok} {o : Obj} (hf : o.isFreed = false) (J : Inv X pins σ H1 { s with heap := h', toks := tk }), H1 h'.objs.size = none ∧ Inv X pins σ (upd H1 h'.objs.size (FunO h'.objs.size o)) { s with heap := h'.push o, toks := tk } := fun {H1 h' tk o} hf J =>
    ⟨J.fresh, J.laid (a := h'.objs.size) (o := FunO h'.objs.size o) (t' := tk) (fun b u e => Heap.get?_push_of_some _ e) (Nat.le_refl _) ⟨Heap.get?_push_size _ hf, ⟨o, Heap.get?_push_size _ hf⟩, fun h1 h2 e k => k _ e⟩⟩
  cases hc : codeAmong z ps.toList with
  | some cv =>
    obtain ⟨d, rfl, hd⟩ := ha z cv hc
    refine PySem.W.kla_makeFunctionHit (mg := X.mg) (c := c) (P := P) (ps := ps) (closure_ok hfree) I.ok.glob (I.mod.glob.keeps I.bk) hcode (TB.code.keeps I.bk) oP ht hc bP fun ctv h' tk hx _ => ?_
    have J : Inv X pins σ H { s with heap := h', toks := tk } := I.kept hx
    obtain ⟨l1, l2⟩ := lay (o := PySem.W.kla_obj "<lambda>" (X.env.qual ++ "<lambda>") params body scope (cloFrom X.env.cells scope.names []) ((X.mg "__name__").getD .none) d ctv) rfl J
    exact h _ d _ ctv ps H _ (.inl ⟨rfl, rfl, z, hc⟩) ht (fun z' cv' y => .inl y) l1 l2
  | none =>
    refine PySem.W.kla_makeFunction (mg := X.mg) (c := c) (P := P) (ps := ps) (closure_ok hfree) I.ok.glob (I.mod.glob.keeps I.bk) hcode (TB.code.keeps I.bk) oP ht hc TB.gP bP fun d ctv h' tk hx hge hlt hrec htb => ?_
    obtain ⟨d2, oc, vs, t, e2, hoc, hdt, hv⟩ := hrec
    cases e2
    have J := LamX.inv_table (t' := tk) (more := #[rawInt z.line, rawInt z.col, .ref d]) (h' := h') I hP (fun b o hb e => hx b o hb e) htb hge ⟨oc, vs, t, hoc, hdt, hv⟩
    obtain ⟨l1, l2⟩ := lay (o := PySem.W.kla_obj "<lambda>" (X.env.qual ++ "<lambda>") params body scope (cloFrom X.env.cells scope.names []) ((X.mg "__name__").getD .none) d ctv) rfl J
    have eL : (ps ++ #[rawInt z.line, rawInt z.col, .ref d]).toList = ps.toList ++ [rawInt z.line, rawInt z.col, .ref d] := Array.toList_append
    refine h _ d _ ctv (ps ++ #[rawInt z.line, rawInt z.col, .ref d]) _ _ (.inr ⟨I.hok.fresh hge, rfl⟩) (by rw [eL]; exact PySem.TriplesOk_snoc _ _ _ _ ht) (fun z' cv' y => ?_) l1 l2
    rw [eL] at y
    exact LamX.among_app _ ht y
end
/-! ### the rules -/
section
variable {P : Program} {w : World} {K : PySem.W.Frag} {mg : Str → Option Value} {base : Heap} {lv : Nat} {N : List Str} {sc : Scope} {fn : Str → Bool}
variable {α β γ δ ρ ι : Type}
variable {c : Ctx P w K mg base lv N sc fn} {Γ : Gm} {e a b : Expr} {es : List Expr} {pos pos' p : Pos} {T : Ty K α} {R : Ty K ρ}
theorem Sta.tab_upd {B : Base} {σ : L2.St} {F H F2 H2 : Hp} {j : Nat} {t : TV K} {W : Addr} {q : Str} (S : Sta B Γ σ F H) (hx : Γ[j]? = some (some (entT t W q))) (s1 : Same F F2) (s2 : Same F2 H2) (s3 : ∀ b o, b ≠ W → H b = some o → H2 b = some o) (s4 : ∀ b, H b ≠ none → F b = none → F2 b = none) (s5 : TabOk F2 H2 W q) : Sta B Γ σ F2 H2 := by
  have := S.own_upd (F' := F2) (H' := H2) (e' := entT t W q) hx rfl fun v3 ps3 hv3 ⟨hq3, r3, _⟩ own3 => ?_
  · rwa [gm_same hx] at this
  · refine ⟨ps3, s2, s1, fun b o hb nb => s3 b o (fun z => nb ((hq3 b).mpr z)) hb, fun b nb => ?_, s4, fun y hy => ?_, hq3, t.mono s1 r3, s5⟩
    · by_cases z : b = W
      · rw [z]; exact s5.ne
      · cases y : H b with
        | none => exact absurd y nb
        | some o => rw [s3 b o z y]; exact fun z => nomatch z
    · obtain rfl : y = W := (hq3 y).mp hy
      have o3 := own3 y hy
      exact ⟨.inl hy, s4 y o3.2.1 o3.1, s5.ne, o3.2.2.2⟩
/-- a name whose slot owns the table, too -/
theorem ew_nameT {i : Nat} {x : Str} {x0 : α} {W : Addr} {q : Str} {k : Gm → α → Prop} (hs : slotOf N x 0 = some i) (hv : visB sc x = true) (hg : Γ[i]? = some (some (valT T x0 W q))) (hk : k Γ x0)
    (hd : (x == ("__debug__" : Str)) = false := by decide +kernel) (hcd : (x == ("__classdict__" : Str)) = false := by decide +kernel) : EW c Γ (.Name x pos) T k := by
  intro B σ F H S Q k2
  have hN := c.hN
  have hsc := c.hsc
  obtain ⟨v, ps, h1, h2, _⟩ := S.get hg
  exact of_pe (pe_var (by rw [hN]; exact slotOf_at hs) (by rw [hsc]; exact visB_vis hv) hd hcd) ⟨v, h1, k2 v x0 Γ F H S (Same.refl _) h2.2.1 hk⟩
/-- lambda x: body -/
theorem ew_lam {t : TV K} {W cT : Addr} {q : Str} {j : Nat} {params : Arguments} {body : Expr} {scope : Scope} {x : Str} {k : Gm → Unit → Prop} (TB : TabB base mg cT W) (hcode : c.X.env.code = .ref cT) (hq : c.X.env.qual ++ "<lambda>" = q) (hj : Γ[j]? = some (some (entT t W q))) (L : lamB sc scope x = true)
    (hk : k Γ ()) (hdef : ∀ env, defaultsOf params env = ([], []) := by intro _; rfl) : EW c Γ (.Lambda params body scope pos) (tLam q params body scope c.X.env.cells) k := by
  intro B σ F H S Q k2 pins s I
  have LL : LamN c.X.env.scope scope x := by rw [c.hsc]; exact lamB_n L
  obtain ⟨v, ps0, hv, ⟨hp, rv, ps, hP, ht, ha⟩, own⟩ := S.get hj
  refine lam_mk I (by rw [c.hbase, c.hmg]; exact TB) hcode hq hP ht (fun z cv y => let ⟨d, e1, e2⟩ := ha z cv y; ⟨d, e1, S.sub _ _ e2⟩) (hdef _) (LL.has I.ok) fun f d pm ctv ps' H1 s' hH hT hA hf J => ?_
  have key : ∃ F1, Sta B Γ σ F1 H1 ∧ Same F F1 ∧ F1 d = some (CodeO d q) := by
    rcases hH with ⟨rfl, _, z, hz⟩ | ⟨nd, rfl⟩
    · obtain ⟨d', e1, e2⟩ := ha z _ hz
      cases e1
      exact ⟨F, S, Same.refl _, e2⟩
    · have nW : W ≠ d := ne_of_none hP nd
      have fd := S.sub.free nd
      have ff : Same F (upd F d (CodeO d q)) := same_new fd
      have fW : F W = none := (own W ((hp W).mpr rfl)).1
      refine ⟨upd F d (CodeO d q), S.tab_upd hj ff (fun b o y => ?_) (fun b o nb y => ?_) (fun b n1 n2 => ?_) ⟨ps', by rw [upd_ne nW, upd_same], hT, fun z cv y => ?_⟩, ff, upd_same⟩
      · by_cases hb : b = d
        · rw [hb, upd_same] at y ⊢; exact y
        · rw [upd_ne hb] at y ⊢
          rw [upd_ne (ne_of_none y fW)]
          exact S.sub b o y
      · rw [upd_ne (ne_of_none y nd), upd_ne nb]; exact y
      · rw [upd_ne fun y => n1 (by rw [y]; exact nd)]; exact n2
      · rcases hA z cv y with y | y
        · obtain ⟨d', e1, e2⟩ := ha z cv y
          exact ⟨d', e1, ff _ _ e2⟩
        · exact ⟨d, y, upd_same⟩
  obtain ⟨F1, S1, e1, hd⟩ := key
  have st := Step.frozen (o := FunO f (PySem.W.kla_obj "<lambda>" q params body scope (cloFrom c.X.env.cells scope.names []) pm d ctv)) S1.sub hf
  exact ⟨.ref f, _, J, rfl, k2 _ () Γ _ _ (S1.step st) (e1.trans st.ff) ⟨f, d, pm, ctv, rfl, upd_same, st.ff _ _ hd⟩ hk⟩
/-- f(e, ..) of a def that may fill the table -/
theorem ew_callT {args : ι → List (TV K)} {pre : ι → Prop} {post : ι → ρ → Prop} {name : Str} {ps : List Str} {l : Nat} {k : Gm → ρ → Prop} {W : Addr} {q : Str} (G : Prom P w K mg base name l ps (spT W q args R pre post)) (hl : l ≤ lv) (hg : glB sc name = true)
    (h : EWs c Γ (e :: es) fun Γ1 ts => (∃ (j : Nat) (t : TV K), Γ1[j]? = some (some (entT t W q))) ∧ ∃ i, ts = args i ∧ pre i ∧ ∀ r, post i r → k Γ1 r) (hdb : (name == ("__debug__" : Str)) = false := by decide +kernel)
    (he : ∀ env, starEach (e :: es) env = (false, eval e env) :: starEach es env := by intro _; rfl) (hpl : ∀ env, (backTo pos (starEach es env)).any (·.1) = false := by intro _; rfl) : EW c Γ (.Call (.Name name p) (e :: es) [] pos) R k := by
  intro B σ F H S Q k2
  obtain ⟨X, rfl, rfl, rfl, rfl, rfl, rfl, nd, rfl, rfl, calm, room, pas⟩ := c
  obtain ⟨f, fd, g1, g2, g3, g4⟩ := G.ex
  refine of_pe (pe_call g4 (room.mono hl) (glB_gl hg) g1 g2 g3 .nil pass0 paW hdb (he _) (hpl _)) ?_
  refine h B σ F H S _ fun vs ts Γ1 F1 H1 S1 e1 r1 ⟨⟨j, t, hj⟩, i, ei, hp, hk⟩ => ?_
  subst ei
  obtain ⟨v', ps1, hv2, ⟨hq2, _, d2⟩, own⟩ := S1.get hj
  show spT W q args R pre post (vs ++ []) H1 Q E0
  rw [List.append_nil]
  exact ⟨F1, i, S1.sub, (own W ((hq2 W).mpr rfl)).1, d2, r1, hp, fun v r F2 H2 s1 s2 s3 s4 s5 rr hr => k2 v r _ F2 H2 (S1.tab_upd hj s1 s2 s3 s4 s5) (e1.trans s1) rr (hk r hr)⟩
/-- .. by keywords -/
theorem ew_callKT {args : ι → List (TV K)} {pre : ι → Prop} {post : ι → ρ → Prop} {name : Str} {st : Stmt} {ps ks : List Str} {perm : ∀ {β : Type}, List β → List β} {l : Nat} {k : Gm → ρ → Prop} {kws : List Keyword} {W : Addr} {q : Str} (G : FnAt K mg name name st ps) (G2 : ∀ f fd, Fun K name name st f fd → FnOk P w K mg base CX0 l f fd ps (spT W q args R pre post)) (hl : l ≤ lv) (kb : KwB K name st ps ks @perm) (hg : glB sc name = true)
    (h : EWk c Γ kws fun Γ1 ts => ts.length = ks.length ∧ (∃ (j : Nat) (t : TV K), Γ1[j]? = some (some (entT t W q))) ∧ ∃ i, perm ts = args i ∧ pre i ∧ ∀ r, post i r → k Γ1 r) (hperm : ∀ F vs (ts : List (TV K)), All2 (fun v (t : TV K) => t.r F v) vs ts → All2 (fun v (t : TV K) => t.r F v) (perm vs) (perm ts)) (hdb : (name == ("__debug__" : Str)) = false := by decide +kernel)
    (hall : ∀ env, (backToKw pos (keywordEach kws env)).all (·.1.isSome) = true := by intro _; rfl) (hks : ∀ env, (backToKw pos (keywordEach kws env)).filterMap (·.1) = ks := by intro _; rfl)
    (hpl : ∀ env, ((backTo pos (starEach [] env)).any (·.1) || (backToKw pos (keywordEach kws env)).any (·.1.isNone)) = false := by intro _; rfl) : EW c Γ (.Call (.Name name p) [] kws pos) R k := by
  intro B σ F H S Q k2
  obtain ⟨X, rfl, rfl, rfl, rfl, rfl, rfl, nd, rfl, rfl, calm, room, pas⟩ := c
  obtain ⟨f, fd, FF, hm, hb⟩ := G
  refine of_pe (run_kw (G2 f fd FF) (room.mono hl) (glB_gl hg) hm FF.kp (kb.to f fd FF) kb.rel pkW (hall _) (hks _) hdb (hpl _)) ?_
  refine h B σ F H S _ fun vs ts Γ1 F1 H1 S1 e1 r1 ⟨hl', ⟨j, t, hj⟩, i, ei, hp, hk⟩ => ⟨by rw [All2.length r1]; exact hl', ?_⟩
  obtain ⟨v', ps1, hv2, ⟨hq2, _, d2⟩, own⟩ := S1.get hj
  exact ⟨F1, i, S1.sub, (own W ((hq2 W).mpr rfl)).1, d2, by rw [← ei]; exact hperm _ _ _ r1, hp, fun v r F2 H2 s1 s2 s3 s4 s5 rr hr => k2 v r _ F2 H2 (S1.tab_upd hj s1 s2 s3 s4 s5) (e1.trans s1) rr (hk r hr)⟩
/-- the slots at the entry: the first one owns the table -/
def gmT (n : Nat) (W : Addr) (q : Str) : List (TV K) → Gm
  | [] => gmOf n ([] : List (TV K))
  | t :: ts => some (entT t W q) :: gmOf (n - 1) ts
theorem sta_startT {F H : Hp} {W : Addr} {q : Str} {ts : List (TV K)} {vs : List V} (hs : Same F H) (hf : F W = none) (hd : TabOk F H W q) (r : All2 (fun v (t : TV K) => t.r F v) vs ts) (hn : ts ≠ []) (hl : vs.length ≤ N.length) : Sta ⟨F, H, fun y => y = W, fun _ => False, fun _ => False⟩ (gmT N.length W q ts) (start N vs) F H := by
  cases ts with
  | nil => exact absurd rfl hn
  | cons t ts =>
    cases vs with
    | nil => exact r.elim
    | cons v vs =>
      obtain ⟨r0, r⟩ := r
      have hlen := All2.length r
      rw [List.length_cons] at hl
      refine ⟨?_, hs, Same.refl _, fun _ _ h _ => h, fun _ h => h, fun _ _ h => h, fun _ h => h.elim, fun j y => j = 0 ∧ y = W, fun j y ⟨_, e⟩ => ⟨by rw [e]; exact hf, by rw [e]; exact hd.ne, .inr e, fun h => h⟩, fun j k y ⟨e1, _⟩ ⟨e2, _⟩ => e1.trans e2.symm, fun j x hx => ?_⟩
      · rw [start_len (by rw [List.length_cons]; omega)]
        show (some (entT t W q) :: gmOf (N.length - 1) ts).length = _
        unfold gmOf
        rw [List.length_cons, List.length_append, List.length_map, List.length_replicate]
        omega
      · cases j with
        | zero =>
          cases hx
          exact ⟨v, start_get rfl, ⟨fun b => by simp, r0, hd⟩, fun z => nomatch z⟩
        | succ j =>
          have hx' : (gmOf (N.length - 1) ts)[j]? = some (some x) := hx
          obtain ⟨t', ht, rfl⟩ := gm_get hx'
          obtain ⟨v', hv, rv⟩ := All2.getR r ht
          refine ⟨v', start_get (by rw [List.getElem?_cons_succ]; exact hv), ⟨?_, rv⟩, fun _ y hy => absurd hy.1 (Nat.succ_ne_zero j)⟩
          intro y hy
          exact Nat.succ_ne_zero j hy.1
/-- a def that may fill the table; its first slot owns it -/
theorem fn_tab {args : ι → List (TV K)} {pre : ι → Prop} {post : ι → ρ → Prop} {x qual : Str} {st : Stmt} {f : Addr} {fd : FuncData} {ps : List Str} {W : Addr} {q : Str} (F : Fun K x qual st f fd) (S : FnScope N ps (defScope st)) (hl : ∀ i, (args i).length = ps.length) (hps : ps ≠ [])
    (h : ∀ i, pre i → ∀ c : Ctx P w K mg base lv N (defScope st) (fun _ => true), SW c (gmT N.length W q (args i)) (defBody st) ⟨rTy R, fun Γ r => (∃ (j : Nat) (t : TV K), Γ[j]? = some (some (entT t W q))) ∧ post i r, fun _ => False, fun _ => False, fun _ => False⟩) : FnOk P w K mg base CX0 (lv + 1) f fd ps (spT W q args R pre post) := by
  have hpl : ps.length ≤ N.length := by have := congrArg List.length S.pre; rw [List.length_take] at this; omega
  refine fn_px F S (fun vs H Q E ⟨F0, i, _, _, _, r, _⟩ => (All2.length r).trans (hl i)) fun vs H Q E ⟨F0, i, hs, hf, hd, r, hp, k2⟩ => ?_
  have hn : args i ≠ [] := fun z => hps (List.eq_nil_of_length_eq_zero (by rw [← hl i, z]; rfl))
  refine ⟨ρ, ⟨F0, H, fun y => y = W, fun _ => False, fun _ => False⟩, gmT N.length W q (args i), F0, rTy R, _, _, fun _ h => h, sta_startT hs hf hd r hn (by rw [All2.length r, hl i]; exact hpl), h i hp, fun v Γ' σ' F' H' a S' ra ⟨⟨j, t, hj⟩, ha⟩ => ?_, fun Γ' σ' F' H' S' z => z.elim⟩
  obtain ⟨v0, ps0, hv0, ⟨_, _, d0⟩, _⟩ := S'.get hj
  exact k2 v a F' H' S'.ext S'.sub (fun b o nb hb => S'.keep b o hb nb) S'.new d0 ra ha
/-- the same for the def that makes the lambda: its code object is known -/
theorem fn_mk {args : ι → List (TV K)} {pre : ι → Prop} {post : ι → ρ → Prop} {x qual : Str} {st : Stmt} {f : Addr} {fd : FuncData} {ps : List Str} {W cT : Addr} {q : Str} (F : Fun K x qual st f fd) (hcode : fd.code = .ref cT) (S : FnScope N ps (defScope st)) (hl : ∀ i, (args i).length = ps.length) (hps : ps ≠ [])
    (h : ∀ i, pre i → ∀ c : Ctx P w K mg base lv N (defScope st) (fun _ => true), c.X.env.code = .ref cT → c.X.env.qual = qual ++ ".<locals>." → SW c (gmT N.length W q (args i)) (defBody st) ⟨rTy R, fun Γ r => (∃ (j : Nat) (t : TV K), Γ[j]? = some (some (entT t W q))) ∧ post i r, fun _ => False, fun _ => False, fun _ => False⟩) : FnOk P w K mg base CX0 (lv + 1) f fd ps (spT W q args R pre post) := by
  have hpl : ps.length ≤ N.length := by have := congrArg List.length S.pre; rw [List.length_take] at this; omega
  obtain ⟨oc, od, kV, doc, pm, an, cdv, ct, osl, rfl, lk, hcd⟩ := F.ex
  obtain rfl : cdv = .ref cT := hcode
  refine fn_of lk hcd S (fun vs H Q E ⟨F0, i, _, _, _, r, _⟩ => (All2.length r).trans (hl i)) fun A outer s H vs Q E hr ⟨F0, i, hs, hf, hd, r, hp, k2⟩ => ?_
  have hn : args i ≠ [] := fun z => hps (List.eq_nil_of_length_eq_zero (by rw [← hl i, z]; rfl))
  have S0 := sta_startT (N := N) hs hf hd r hn (by rw [All2.length r, hl i]; exact hpl)
  refine ⟨_, (pssW (X := (cxOf CX0 P w K mg base N qual (defScope st) f (.ref cT) A outer s H E).nox)).nox, ?_⟩
  refine wSs_mono (h i hp ⟨(cxOf CX0 P w K mg base N qual (defScope st) f (.ref cT) A outer s H E).nox, rfl, rfl, rfl, rfl, rfl, rfl, S.nd, rfl, rfl, rfl, hr, PassesOwn.never⟩ rfl rfl _ (start N vs) F0 H (fun _ h => h) S0) (fun σ1 H1 ⟨Γ1, F1, S1, z⟩ => z.elim) (fun v H1 ⟨Γ1, σ1, F1, a, S1, ra, ⟨j, t, hj⟩, ha⟩ => ?_) (fun σ1 H1 ⟨Γ1, F1, S1, z⟩ => z.elim) fun σ1 H1 ⟨Γ1, F1, S1, z⟩ => z.elim
  obtain ⟨v0, ps0, hv0, ⟨_, _, d0⟩, _⟩ := S1.get hj
  exact k2 v a F1 H1 S1.ext S1.sub (fun b o nb hb => S1.keep b o hb nb) S1.new d0 ra ha
/-! ### the law's own promise, with the table -/
def spLawT (K : PySem.W.Frag) (W : Addr) : Sp := fun vs H Q _ => H W = some (.tbl #[]) ∧ spLaw K vs H Q E0
theorem fn_lawT {x qual : Str} {st : Stmt} {f : Addr} {fd : FuncData} {W : Addr} {q : Str} (F : Fun K x qual st f fd) (S : FnScope N ["script"] (defScope st))
    (h : ∀ ns : List Int, ns.length ≤ 63 → ∀ c : Ctx P w K mg base lv N (defScope st) (fun _ => true), SW c (gmT N.length W q [tv (tSeq (K := K) tInt) ns]) (defBody st) ⟨rTy (K := K) tBool, fun _ r => r = true, fun _ => False, fun _ => False, fun _ => False⟩) : FnOk P w K mg base CX0 (lv + 1) f fd ["script"] (spLawT K W) := by
  have hpl : 1 ≤ N.length := by have := congrArg List.length S.pre; rw [List.length_take] at this; simp at this; omega
  refine fn_px F S (fun vs H Q E ⟨_, a, ns, e, _⟩ => by rw [e]; rfl) fun vs H Q E ⟨hW, a, ns, e, hS, hl, k2⟩ => ?_
  subst e
  have key : ∃ F0 : Hp, Same F0 H ∧ F0 W = none ∧ SqL K F0 a (ns.map V.int) := by
    rcases hS with hS | hS
    · have hk : ∃ o, H a = some o ∧ SqL K (upd (fun _ => none) a o) a (ns.map V.int) ∧ W ≠ a := by
        rcases hS with h | ⟨o, h⟩
        · exact ⟨_, h, .inl (.inl upd_same), fun z => by rw [z, h] at hW; cases hW⟩
        · exact ⟨_, h, .inl (.inr ⟨o, upd_same⟩), fun z => by rw [z, h] at hW; cases hW⟩
      obtain ⟨o, ho, hq, hne⟩ := hk
      refine ⟨upd (fun _ => none) a o, fun b x z => ?_, by rw [upd_ne hne], hq⟩
      by_cases hb : b = a
      · rw [hb, upd_same] at z; rw [hb, ho]; exact z
      · rw [upd_ne hb] at z; cases z
    · exact ⟨fun _ => none, (fun _ _ z => nomatch z), rfl, .inr hS⟩
  obtain ⟨F0, hs, hf, hq⟩ := key
  refine ⟨Bool, ⟨F0, H, fun y => y = W, fun _ => False, fun _ => False⟩, gmT N.length W q [tv (tSeq (K := K) tInt) ns], F0, rTy (K := K) tBool, _, _, fun _ h => h, sta_startT hs hf (TabOk.nil hW) ⟨⟨a, ns.map V.int, rfl, hq, all2_ints _ ns⟩, trivial⟩ (by simp) hpl, h ns hl, fun v Γ' σ' F' H' z S' ra ha => ?_, fun Γ' σ' F' H' S' z => z.elim⟩
  obtain rfl : v = .bl z := ra
  rw [ha]; exact k2 H'
end
/-- the def that makes lambdas, as the top has left it: its code object at cT, the table at W -/
structure MakerAt (K : PySem.W.Frag) (mg : Str → Option Value) (base : Heap) (x qual : Str) (st : Stmt) (ps : List Str) (cT W : Addr) : Prop where
  ex : ∃ f fd, Fun K x qual st f fd ∧ mg x = some (.ref f) ∧ Binds K fd ps [] ∧ fd.code = .ref cT
  tb : TabB base mg cT W
theorem MakerAt.prom {P : Program} {w : World} {K : PySem.W.Frag} {mg : Str → Option Value} {base : Heap} {x qual : Str} {st : Stmt} {ps : List Str} {cT W : Addr} {sp : Sp} {l : Nat} (h : MakerAt K mg base x qual st ps cT W) (k : ∀ f fd, Fun K x qual st f fd → fd.code = .ref cT → FnOk P w K mg base CX0 l f fd ps sp) : Prom P w K mg base x l ps sp := by
  obtain ⟨f, fd, F, hm, hb, hc⟩ := h.ex
  exact ⟨f, fd, hm, F.kp, hb, k f fd F hc⟩
end Px
/-! Px, twenty-first part: a lambda run; min by key. -/
namespace Px
open PySem PySem.Spec PyProof.Rows L2
open LamX (CodeO TabB lamEnv)
/-- the context of the lambda's body -/
def lamC (X : Cx) (A : Around) (outer : List Env) (s : Shared) (H : Hp) (scope : Scope) (f d : Addr) : Cx := { LamX.lamCx X A outer s H (fun _ _ _ => False) scope f d with xe := fun _ _ => False }
section
variable {X : Cx} {pins : List (Addr × Obj)} {σ : L2.St} {H : Hp} {s : Shared}
theorem lam_start {A : Around} {scope : Scope} {f d : Addr} {x : Str} {i : Nat} {v : V} {u : Value} {h₁ : Heap} {tk : Nat} (I : Inv X pins σ H s) (L : LamN X.env.scope scope x) (hN : X.N[i]? = some x) (nd : X.N.Nodup) (e0 : Env0 X.prog X.w X.K X.mg X.base A X.stack s H) (hd : A.handled = none)
    (hns : h₁.Ns s.heap.objs.size fun y => ([(x, u)] : List (Str × Value)).reverse.lookup y) (kp : ∀ b o, s.heap.get? b = some o → h₁.get? b = some o) (r : RelV v u) :
    Inv (lamC X A X.stack s H scope f d) [] (σ.set i (some v)) H { s with heap := h₁, toks := tk } := by
  have hfree := L.has I.ok
  have cm : ∀ {y c}, (cloFrom X.env.cells scope.names []).lookup y = some c → X.env.cells.lookup y = some c := fun {y c} e => by
    rcases cloFrom_mem (PySem.mem_of_lookup e) with hm | ⟨h1, h2⟩
    · exact nomatch hm
    · obtain ⟨c1, hc⟩ := hfree _ h1 rfl
      have hc' : X.env.cells.lookup y = some c1 := hc
      rw [h2, hc']; rfl
  have look : ∀ {y}, scope.names.lookup y = some .free → ∃ c, (cloFrom X.env.cells scope.names []).lookup y = some c := fun {y} hl => by
    exact mem_lookup (cloFrom_has (cells := X.env.cells) (acc := []) (PySem.mem_of_lookup hl))
  have cellK : ∀ {c : Addr} {v : Option Value}, s.heap.IsCell c v → h₁.IsCell c v := fun {c v} ⟨o, ho, hd⟩ => ⟨o, kp _ _ ho, hd⟩
  have notC : ∀ {y}, scope.names.lookup y ≠ some .cell := fun {y} e => L.ncell _ (PySem.mem_of_lookup e) rfl
  have noA : ∀ b : Addr, b ∉ (lamC X A X.stack s H scope f d).ex := fun b z => nomatch (show b ∈ ([] : List Addr) from z)
  exact {
    ok := {
      mod := e0.mod, kind := L.kind, glob := rfl, blt := rfl, above := Nat.le_refl _
      inj := fun y z c e1 e2 => I.ok.inj y z c (cm e1) (cm e2)
      has := fun y hy => hy.elim (fun z => absurd z notC) look
      cab := fun y c z _ => nomatch (show false = true from z)
      hd := fun _ => hd
      frames := Around.frames_deeper e0.frames
      stk := .inr ⟨rfl, rfl⟩
      exf := fun b z => absurd z (noA b)
      bs := e0.bs, bsz := e0.bsz
      noex := fun b _ _ => noA b
      exfs := fun b z => absurd z (noA b)
      funs := e0.funs, frf := e0.frf }
    os := rfl
    bare := e0.bare
    base := Un.kept kp
    loc := ⟨_, hns, fun j y w e1 e2 e3 => by
      have e1' : X.N[j]? = some y := e1
      have e3' : Vis scope y := e3
      rcases e3' with k | k | k
      · obtain rfl : y = x := L.own _ (PySem.mem_of_lookup k) rfl
        have hij : j = i := by
          have h1 := (List.getElem?_eq_some_iff.mp e1')
          have h2 := (List.getElem?_eq_some_iff.mp hN)
          obtain ⟨a1, a2⟩ := h1
          obtain ⟨b1, b2⟩ := h2
          exact (List.getElem_inj nd).mp (a2.trans b2.symm)
        subst hij
        have hl : j < σ.length := by rw [I.len]; exact (List.getElem?_eq_some_iff.mp e1').1
        rw [List.getElem?_set_self hl] at e2
        cases e2
        exact ⟨u, r, .inl ⟨k, by simp⟩⟩
      · exact absurd k notC
      · have hji : j ≠ i := fun z => by
          subst z
          rw [hN] at e1'
          cases e1'
          have k' := L.loc
          have k2 : scope.names.lookup x = some .free := k
          rw [k'] at k2
          cases k2
        rw [List.getElem?_set_ne (Ne.symm hji)] at e2
        obtain ⟨m, hn, hl⟩ := I.loc
        have hvis : Vis X.env.scope y := (L.free _ (PySem.mem_of_lookup k) rfl).elim (fun k => .inr (.inl k)) (fun k => .inr (.inr k))
        obtain ⟨w', r', z⟩ := hl j y w e1' e2 hvis
        obtain ⟨c2, h2⟩ := look k
        refine ⟨w', r', .inr ⟨.inr k, c2, h2, ?_⟩⟩
        rcases z with ⟨k', _⟩ | ⟨_, c3, e', z⟩
        · have k1 : X.env.scope.names.lookup y = some .local := k'
          rcases L.free _ (PySem.mem_of_lookup k) rfl with k2 | k2 <;> rw [show X.env.scope.names.lookup y = _ from k2] at k1 <;> cases k1
        · rw [cm h2] at e'
          cases e'
          exact cellK z⟩
    cell := fun y c e => let ⟨w', z⟩ := I.cell y c (cm e); ⟨w', cellK z⟩
    free := e0.hok.fresh (Nat.le_refl _)
    freeC := fun y c e => I.freeC y c (cm e)
    pin := fun q hq => nomatch (show q ∈ ([] : List (Addr × Obj)) from hq)
    hok := e0.hok.kept kp
    len := by rw [List.length_set]; exact I.len }
end
/-- slots of frozen values, of those that Γ tells -/
def FrzOf (Γ Γl : Gm) : Prop := Γl.length = Γ.length ∧ ∀ (j : Nat) (e : Ent), Γl[j]? = some (some e) → e.frz = true ∧ Γ[j]? = some (some e)
theorem frz_nil : FrzOf [] [] := ⟨rfl, fun j e h => by simp at h⟩
theorem frz_none {x : Option Ent} {Γ Γl : Gm} (h : FrzOf Γ Γl) : FrzOf (x :: Γ) (none :: Γl) := ⟨congrArg (· + 1) h.1, fun j e z => by
  cases j with
  | zero => cases z
  | succ j => exact h.2 j e z⟩
theorem frz_val {x : Ent} {Γ Γl : Gm} (hx : x.frz = true) (h : FrzOf Γ Γl) : FrzOf (some x :: Γ) (some x :: Γl) := ⟨congrArg (· + 1) h.1, fun j e z => by
  cases j with
  | zero => cases z; exact ⟨hx, rfl⟩
  | succ j => exact h.2 j e z⟩
section
variable {P : Program} {w : World} {K : PySem.W.Frag} {mg : Str → Option Value} {base : Heap} {lv : Nat} {N : List Str} {sc : Scope} {fn : Str → Bool}
variable {α β γ δ ρ ι : Type}
variable {Γ Γl : Gm} {e a b : Expr} {es : List Expr} {pos pos' p : Pos} {T : Ty K α} {R : Ty K ρ}
theorem sta_lam {B : Base} {σ : L2.St} {F H : Hp} {i : Nat} {v : V} {x0 : α} (S : Sta B Γ σ F H) (hf : FrzOf Γ Γl) (hi : i < Γ.length) (r : T.r F v x0) : Sta ⟨F, H, fun _ => False, fun _ => False, fun _ => False⟩ (Γl.set i (some (val T x0))) (σ.set i (some v)) F H := by
  refine ⟨by rw [List.length_set, List.length_set, hf.1]; exact S.len, S.sub, Same.refl _, fun _ _ h _ => h, fun _ h => h, fun _ _ h => h, fun _ h => h.elim, fun _ _ => False, fun _ _ h => h.elim, fun _ _ _ h => h.elim, fun j y hy => ?_⟩
  by_cases hj : j = i
  · subst hj
    rw [List.getElem?_set_self (by rw [hf.1]; exact hi)] at hy
    cases hy
    exact ⟨v, List.getElem?_set_self (by rw [← S.len]; exact hi), ⟨fun _ h => h, r⟩, fun _ _ h => h.elim⟩
  · rw [List.getElem?_set_ne (Ne.symm hj)] at hy
    obtain ⟨h1, h2⟩ := hf.2 j y hy
    obtain ⟨v', ps, hv, ho, _⟩ := S.get h2
    refine ⟨v', by rw [List.getElem?_set_ne (Ne.symm hj)]; exact hv, ?_, fun _ _ h => h.elim⟩
    have e0 : ps = fun _ => False := by
      funext p
      exact propext ⟨fun z => y.fz h1 ho p z, fun z => z.elim⟩
    rw [e0] at ho
    exact ho
theorem lam_run {lvl : Nat} (c : Ctx P w K mg base lv N sc fn) {B : Base} {σ : L2.St} {F H : Hp} {pins : List (Addr × Obj)} {s : Shared} {q x : Str} {params : Arguments} {body : Expr} {scope : Scope} {f : Addr} {i : Nat} {x0 : α} {v : V} {u : Value} {post : ρ → Prop} {Q E : Value → Shared → Prop} (hr : lvl + 2 ≤ lv)
    (I : Inv c.X pins σ H s) (S : Sta B Γ σ F H) (hlam : (tLam (K := K) q params body scope c.X.env.cells).r F (.ref f) ()) (hq : c.X.env.qual ++ "<lambda>" = q) (hs : slotOf N x 0 = some i) (L : lamB sc scope x = true) (hf : FrzOf Γ Γl)
    (hbind : ∀ (cl : List (Str × Addr)) (pm cv ctv : Value) (u : Value), bindArgs (PySem.W.kla_fn "<lambda>" q params body scope cl pm cv ctv) ⟨[u], []⟩ = pure [(x, u)])
    (rv : RelV v u) (ra : T.r F v x0) (hbody : ∀ cl : Ctx P w K mg base lvl N scope (fun _ => false), EW cl (Γl.set i (some (val T x0))) body R fun _ r => post r)
    (hQ : ∀ (z : V) (y : Value) (r : ρ) (F' H' : Hp) (s' : Shared), Inv c.X pins σ H' s' → Sta B Γ σ F' H' → Same F F' → RelV z y → R.r F' z r → post r → (∀ b o, s.heap.get? b = some o → H b = none → H' b = none ∧ (b ∉ frs c.X.stack → s'.heap.get? b = some o)) → Q y s') :
    wpAny (model c.X.prog c.X.w) c.X.A.in1 (call (.ref f) [u]) Q E s := by
  obtain ⟨X, rfl, rfl, rfl, rfl, rfl, rfl, nd, rfl, rfl, calm, room, pas⟩ := c
  obtain ⟨f', d, pm, ctv, ef, h1, h2⟩ := hlam
  cases ef
  subst hq
  have LL : LamN X.env.scope scope x := lamB_n L
  have hil : i < Γ.length := by rw [S.len, I.len]; exact (List.getElem?_eq_some_iff.mp (slotOf_at hs)).1
  have ofn : s.heap.get? f = some (PySem.W.kla_obj "<lambda>" (X.env.qual ++ "<lambda>") params body scope (cloFrom X.env.cells scope.names []) pm d ctv) := (I.hok f _ (S.sub _ _ h1)).1
  obtain ⟨⟨oc, vs, t, hoc, hdc, hvc⟩, _, _⟩ := I.hok d _ (S.sub _ _ h2)
  have r0 : Room (lvl + 1) X.A.in1 := (room.mono (show lvl + 1 + 1 ≤ lv from hr)).in1
  have run : codeAny (model X.prog X.w) X.A.in1 (.call (.ref f) ⟨[u], []⟩) (CR CX0 X.stack X.prog X.w H s (fun z H' => ∃ r F', Sta ⟨F, H, fun _ => False, fun _ => False, fun _ => False⟩ [] [] F' H' ∧ Same F F' ∧ R.r F' z r ∧ post r) E0) s := by
    refine PySem.W.kla_callFunE r0.depth ofn rfl LL.co LL.gen rfl ⟨d, oc, vs, t, rfl, hoc, hdc, hvc⟩ ?_
    rw [hbind]
    refine wpAny_pure (wpAny_newFunctionEnv LL.ncell (fun y hy => ?_) (fun h₁ hns hsb => ⟨I.nolimit.fresh _ hsb, ?_⟩) LL.kind)
    · obtain rfl : y = (x, u) := by simpa using hy
      exact LL.loc
    show codeAny _ _ (.expr body (lamEnv X scope s.heap.objs.size f d)) _ _
    have kp : ∀ b o, s.heap.get? b = some o → h₁.get? b = some o := fun b o e => hsb.extBut b o (Nat.ne_of_lt (Heap.lt_size e)) (Heap.get?_push_of_some _ e)
    have J := lam_start (f := f) (d := d) (tk := s.toks + ([(x, u)] : List (Str × Value)).length) I LL (slotOf_at hs) nd I.env0.in1 r0.hd hns kp rv
    have cl : Ctx X.prog X.w X.K X.mg X.base lvl X.N scope (fun _ => false) := ⟨lamC X X.A.in1 X.stack s H scope f d, rfl, rfl, rfl, rfl, rfl, rfl, nd, rfl, rfl, rfl, r0.deeper _, PassesOwn.never⟩
    refine PySem.W.kla_codeExpr (wpAny_mono ((hbody ⟨lamC X X.A.in1 X.stack s H scope f d, rfl, rfl, rfl, rfl, rfl, rfl, nd, rfl, rfl, rfl, r0.deeper _, PassesOwn.never⟩ _ _ F H (sta_lam S hf hil ra)
      (fun z H' => ∃ r F', Sta ⟨F, H, fun _ => False, fun _ => False, fun _ => False⟩ [] [] F' H' ∧ Same F F' ∧ R.r F' z r ∧ post r) fun z r Γ' F' H' S' e' rr hp => ⟨r, F', ⟨rfl, S'.sub, S'.ext, S'.keep, S'.dom, S'.new, fun _ h => h.elim, fun _ _ => False, fun _ _ h => h.elim, fun _ _ _ h => h.elim, fun j x hx => by simp at hx⟩, e', rr, hp⟩) [] _ J) (fun v s' hq => ?_) fun e s' hq => False.elim hq)
    obtain ⟨w', H', J', rv', z⟩ := hq
    exact ⟨w', H', J'.os, J'.bare, J'.base, J'.hok, rv', z⟩
  refine wpAny_call (codeAny_mono run fun rr s' hq => ?_)
  cases rr with
  | error e => exact False.elim hq
  | ok fl =>
    cases fl with
    | next => exact False.elim hq
    | brk => exact False.elim hq
    | cont => exact False.elim hq
    | ret y =>
      obtain ⟨z, H', os, bare, un, hok, rz, r, F', S', e', hr', hp⟩ := hq
      obtain ⟨hh, g, d', t', os'⟩ := s'
      obtain rfl : os' = s.os := os
      exact hQ z y r F' H' _ (I.call (h' := hh) (g' := g) (d' := d') (t' := t') (ch := []) un hok bare (fun b z => nomatch z)) (S.step (sta_step S' fun _ z => z)) e' rz hr' hp fun b o q1 q2 => ⟨un.free b o q1 q2 (fun z => nomatch z), fun q3 => un.keep b o q1 q2 q3 (fun z => nomatch z)⟩
/-! ### min by key -/
theorem walk_tupV {prog : Program} {w : World} {A : Around} (hh : A.handled = none) (I ax : Addr) (hne : ax ≠ I) (xs : List V) :
    WalksS prog w A I [I, ax] [I] (fun a b => b = a) xs.length (fun i v => ∃ x, xs[i]? = some x ∧ RelV x v) (fun i s => s.heap.IsTupleIter I ax i ∧ ∃ its : List Value, Vals xs its ∧ s.heap.IsTuple ax its.toArray) where
  sub := fun b hb => by simp at hb; simp [hb]
  grefl := fun _ => rfl
  gtrans := fun _ _ _ h1 h2 => h2.trans h1
  frame := fun i s h' tk ⟨a, its, r, b⟩ _ k => ⟨a.at fun o e => k I (by simp) o e, its, r, b.at fun o e => k ax (by simp) o e⟩
  item := fun i s Q E hi ⟨a, its, r, b⟩ hQ => by
    obtain ⟨u, hu, ru⟩ := r.get (List.getElem?_eq_getElem hi)
    exact wpAny_pyNext_tuple_item a b (x := u) (by simpa using hu) fun h' hit' hs' => hQ u _ ⟨_, List.getElem?_eq_getElem hi, ru⟩ ⟨hit', its, r, b.extBut hs'.extBut hne⟩ ⟨fun b o hb e => hs'.extBut b o (fun z => hb (by simp [z])) e, rfl, rfl, rfl, Nat.le_refl _⟩
  done := fun s Q E ⟨a, its, r, b⟩ hQ => wpAny_pyNext_tuple_end hh a b (by simp [r.length]) fun h' he' => hQ _ ⟨fun b o hb e => he' b o (fun z => hb (by simp [z])) e, rfl, rfl, rfl, Nat.le_refl _⟩
  self := fun _ _ _ _ ⟨a, _⟩ hQ => wpAny_pyIter_tupleiter a hQ
theorem argBest_first (gs : Nat → Int) : ∀ k, argBest (fun i j => decide (gs i < gs j)) k ≤ k ∧ (∀ j, j < argBest (fun i j => decide (gs i < gs j)) k → gs (argBest (fun i j => decide (gs i < gs j)) k) < gs j) ∧ ∀ j, j ≤ k → gs (argBest (fun i j => decide (gs i < gs j)) k) ≤ gs j
  | 0 => ⟨Nat.le_refl _, fun j h => absurd h (Nat.not_lt_zero _), fun j h => by obtain rfl : j = 0 := by omega
                                                                                exact Int.le_refl _⟩
  | k + 1 => by
    obtain ⟨h1, h2, h3⟩ := argBest_first gs k
    unfold argBest
    by_cases hb : gs (k + 1) < gs (argBest (fun i j => decide (gs i < gs j)) k)
    · rw [if_pos (by simpa using hb)]
      refine ⟨Nat.le_refl _, fun j hj => Int.lt_of_lt_of_le hb (h3 j (by omega)), fun j hj => ?_⟩
      by_cases e : j = k + 1
      · rw [e]; exact Int.le_refl _
      · exact Int.le_of_lt (Int.lt_of_lt_of_le hb (h3 j (by omega)))
    · rw [if_neg (by simpa using hb)]
      refine ⟨by omega, h2, fun j hj => ?_⟩
      by_cases e : j = k + 1
      · rw [e]; omega
      · exact h3 j (by omega)
theorem vals_one {F : Hp} {t : TV K} : ∀ {vs : List V} {us : List Value}, All2 (fun v (t : TV K) => t.r F v) vs [t] → Vals vs us → ∃ v u, vs = [v] ∧ us = [u] ∧ t.r F v ∧ RelV v u
  | [v], _, ⟨h, _⟩, .cons r .nil => ⟨v, _, rfl, rfl, h, r⟩
/-- x is the first of the least -/
def FirstMin {α : Type} (g : α → Int) (as : List α) (x : α) : Prop := ∃ i : Nat, as[i]? = some x ∧ (∀ j y, j < i → as[j]? = some y → g x < g y) ∧ ∀ (j : Nat) y, as[j]? = some y → g x ≤ g y
theorem FirstMin.uniq {α : Type} {g : α → Int} {as : List α} {x y : α} (hx : FirstMin g as x) (hy : FirstMin g as y) : x = y := by
  obtain ⟨i, i1, i2, i3⟩ := hx
  obtain ⟨j, j1, j2, j3⟩ := hy
  rcases Nat.lt_trichotomy i j with h | rfl | h
  · have a := j2 i x h i1
    have b := i3 j y j1
    omega
  · rw [i1] at j1; exact Option.some.inj j1
  · have a := i2 j y h j1
    have b := j3 i x i1
    omega
/-- min(xs, key=lambda x: body), xs a tuple -/
theorem ew_minKey {lvl i : Nat} {c : Ctx P w K mg base lv N sc fn} {q x : Str} {params : Arguments} {body : Expr} {scope : Scope} {lpos kpos px : Pos} {k : Gm → α → Prop} (bi : Bi mg) (hr : lvl + 2 ≤ lv) (hgm : glB sc "min" = true) (hq : c.X.env.qual ++ "<lambda>" = q) (hs : slotOf N x 0 = some i) (L : lamB sc scope x = true)
    (h : EW c Γ e (tTup T) fun Γ1 as => EW c Γ1 (.Lambda params body scope lpos) (tLam q params body scope c.X.env.cells) fun Γ2 _ => as ≠ [] ∧ ∃ (Γl : Gm) (g : α → Int), FrzOf Γ2 Γl ∧ (∀ x0 ∈ as, ∀ cl : Ctx P w K mg base lvl N scope (fun _ => false), EW cl (Γl.set i (some (val T x0))) body tInt fun _ r => r = g x0) ∧ ∀ x0, FirstMin g as x0 → k Γ2 x0)
    (hbind : ∀ (cl : List (Str × Addr)) (pm cv ctv : Value) (u : Value), bindArgs (PySem.W.kla_fn "<lambda>" q params body scope cl pm cv ctv) ⟨[u], []⟩ = pure [(x, u)] := by intro _ _ _ _ _; rfl)
    (he : ∀ env, starEach [e] env = (false, eval e env) :: starEach [] env := by intro _; rfl) (he2 : ∀ env, backTo pos (starEach [e] env) = (false, eval e env) :: backTo pos (starEach [] env) := by intro _; rfl) (hpl : ∀ env, (backTo pos (starEach [e] env)).any (·.1) = false := by intro _; rfl)
    (hall : ∀ env, (backToKw pos (keywordEach [⟨some "key", .Lambda params body scope lpos, kpos⟩] env)).all (·.1.isSome) = true := by intro _; rfl) (hnone : ∀ env, (backToKw pos (keywordEach [⟨some "key", .Lambda params body scope lpos, kpos⟩] env)).any (·.1.isNone) = false := by intro _; rfl)
    (hks : ∀ env, (backToKw pos (keywordEach [⟨some "key", .Lambda params body scope lpos, kpos⟩] env)).filterMap (·.1) = [Str.ofString "key"] := by intro _; rfl) : EW c Γ (.Call (.Name "min" px) [e] [⟨some "key", .Lambda params body scope lpos, kpos⟩] pos) T k := by
  intro B σ F H S Q k2 pins s I
  have hh : c.X.A.handled = none := c.room.hd
  refine wpAny_Call_Name_kw (ld_blt I (by show c.X.env.scope.names.lookup _ = _; rw [c.hsc]; exact glB_gl hgm) (by rw [c.hmg]; exact bi.min) (show bootBuiltins "min" = some (.builtin "min") by decide +kernel) ?_)
  refine PyProof.Rows.callWith_kw ?_ (he2 _) (hpl _) (hall _) (hnone _)
  rw [hks]
  have hes : EWs c Γ [e] fun Γ1 ts => ∃ as, ts = [tv (tTup T) as] ∧ EW c Γ1 (.Lambda params body scope lpos) (tLam q params body scope c.X.env.cells) fun Γ2 _ => as ≠ [] ∧ ∃ (Γl : Gm) (g : α → Int), FrzOf Γ2 Γl ∧ (∀ x0 ∈ as, ∀ cl : Ctx P w K mg base lvl N scope (fun _ => false), EW cl (Γl.set i (some (val T x0))) body tInt fun _ r => r = g x0) ∧ ∀ x0, FirstMin g as x0 → k Γ2 x0 :=
    ews_cons (h.imp fun _ as h1 => ews_nil ⟨as, rfl, h1⟩) he
  refine thn (hes B σ F H S (fun vs H1 => ∀ us s1, Inv c.X pins σ H1 s1 → Vals vs us → wpAny (model c.X.prog c.X.w) c.X.A (evalAll ((backToKw pos (keywordEach [⟨some "key", .Lambda params body scope lpos, kpos⟩] c.X.env)).map (·.2))) (fun kvs s2 => wpAny (model c.X.prog c.X.w) c.X.A (call (.builtin "min") us (List.zip [Str.ofString "key"] kvs)) (EP c.X pins σ Q) c.X.xe s2) c.X.xe s1) (fun vs ts Γ1 F1 H1 S1 e1 r1 ⟨as, ets, h1⟩ us s1 I1 rus => ?_) pos pins s I) fun us s1 ⟨vs, H1, I1, rus, z⟩ => z us s1 I1 rus
  subst ets
  have hek : EWk c Γ1 [⟨some "key", .Lambda params body scope lpos, kpos⟩] fun Γ2 ts => ts = [tv (tLam q params body scope c.X.env.cells) ()] ∧ as ≠ [] ∧ ∃ (Γl : Gm) (g : α → Int), FrzOf Γ2 Γl ∧ (∀ x0 ∈ as, ∀ cl : Ctx P w K mg base lvl N scope (fun _ => false), EW cl (Γl.set i (some (val T x0))) body tInt fun _ r => r = g x0) ∧ ∀ x0, FirstMin g as x0 → k Γ2 x0 :=
    ewk_cons (h1.imp fun _ _ z => ewk_nil ⟨rfl, z⟩)
  refine thn (hek B σ F1 H1 S1 (fun zs H2 => ∀ ws s2, Inv c.X pins σ H2 s2 → Vals zs ws → wpAny (model c.X.prog c.X.w) c.X.A (call (.builtin "min") us (List.zip [Str.ofString "key"] ws)) (EP c.X pins σ Q) c.X.xe s2) (fun zs ts Γ2 F2 H2 S2 e2 r2 ⟨ets, hne, Γl, g, hF, hb, hk⟩ ws s2 I2 rws => ?_) pos pins s1 I1) fun ws s2 ⟨zs, H2, I2, rws, z⟩ => z ws s2 I2 rws
  subst ets
  obtain ⟨v, u, rfl, rfl, ⟨ax, xs, rfl, hT, hxs⟩, ru⟩ := vals_one r1 rus
  obtain ⟨z, y, rfl, rfl, ⟨f, d, pm, ctv, rfl, hz1, hz2⟩, rw'⟩ := vals_one r2 rws
  obtain rfl : u = .ref ax := ru
  obtain rfl : y = .ref f := rw'
  have hlam : (tLam (K := K) q params body scope c.X.env.cells).r F2 (.ref f) () := ⟨f, d, pm, ctv, rfl, hz1, hz2⟩
  have hT2 : SqT K F2 ax xs := sqT_mono e2 hT
  have hxs2 : All2 (T.r F2) xs as := All2.imp (fun _ _ => T.mono e2) hxs
  have hlen : xs.length = as.length := All2.length hxs
  obtain ⟨its, rv, tp, _⟩ := I2.tuple (a := ax) (xs := xs) (by rw [c.hK]; exact sqT_mono S2.sub hT2)
  have tp' : s2.heap.IsTuple ax its.toArray := tp
  have hax : ax < s2.heap.objs.size := by obtain ⟨o, ho, _⟩ := tp'; exact Heap.lt_size ho
  refine call_min_walkK (wpAny_pyIter_tuple tp' ?_)
  have I3 : Inv c.X pins σ H2 { s2 with heap := s2.heap.push { cls := .type "tuple_iterator", data := .fields #[.ref ax, .int 0 0] } } := I2.kept (t' := s2.toks) fun b o e => Heap.get?_push_of_some _ e
  have fI : ∀ H', H' s2.heap.objs.size = none → FpOk c.X pins H' s2.heap.objs.size := fun H' n => I2.fpOk (Nat.le_refl _) n
  have fS : ∀ H', H' (s2.heap.push { cls := .type "tuple_iterator", data := .fields #[.ref ax, .int 0 0] }).objs.size = none → FpOk c.X pins H' (s2.heap.push { cls := .type "tuple_iterator", data := .fields #[.ref ax, .int 0 0] }).objs.size := fun H' n => I3.fpOk (Nat.le_refl _) n
  let gs : Nat → Int := fun i => (as[i]?.map g).getD 0
  have W := walk_tupV (prog := c.X.prog) (w := c.X.w) (A := c.X.A.in1) hh s2.heap.objs.size ax (Nat.ne_of_lt hax) xs
  refine ⟨s2.heap.objs.size, [s2.heap.objs.size, ax], [s2.heap.objs.size], _, xs.length, _, _, (fun s' => ∃ F' H', Inv c.X pins σ H' s' ∧ Sta B Γ2 σ F' H' ∧ Same F2 F' ∧ H' s2.heap.objs.size = none ∧ H' (s2.heap.push { cls := .type "tuple_iterator", data := .fields #[.ref ax, .int 0 0] }).objs.size = none),
    (fun i kv _ => ∃ t, kv = .int (gs i) t), (fun i j => decide (gs i < gs j)), rfl, W, ⟨⟨_, Heap.get?_push_size _ rfl, rfl, rfl⟩, its, rv, tp'.push _⟩, fun b hb => ?_, ?_, ⟨?_, fun _ _ _ _ z _ => z, ?_, ?_⟩, ⟨F2, H2, I3, S2, Same.refl _, I2.fresh, I3.fresh⟩, ?_⟩
  · show b < (s2.heap.push _).objs.size
    rw [Heap.size_push]
    rcases List.mem_cons.mp hb with rfl | hb
    · exact Nat.lt_succ_self _
    · obtain rfl : b = ax := by simpa using hb
      exact Nat.lt_succ_of_lt hax
  · rw [hlen]
    exact List.length_pos_iff.mpr hne
  · rintro t t' ⟨F', H', I', S', e', n1, n2⟩ mv
    obtain ⟨m1, m2, m3, m4, m5⟩ := mv
    obtain ⟨th, tg, td, tt, tos⟩ := t'
    obtain rfl : tg = t.gens := m2
    obtain rfl : td = t.drawn := m3
    obtain rfl : tos = t.os := m4
    refine ⟨F', H', I'.turnedL (h' := th) (t' := tt) (ch := [(s2.heap.push { cls := .type "tuple_iterator", data := .fields #[.ref ax, .int 0 0] }).objs.size, s2.heap.objs.size]) m1 (fun b hb => ?_), S', e', n1, n2⟩
    rcases List.mem_cons.mp hb with rfl | hb
    · exact fS _ n2
    · obtain rfl : b = s2.heap.objs.size := by simpa using hb
      exact fI _ n1
  · rintro j v t o Q' E' hj ⟨xv, hxv, rxv⟩ ⟨F', H', I', S', e', n1, n2⟩ ⟨hit, _⟩ hSo hQ'
    obtain ⟨x0, hx0, rx0⟩ := All2.get hxs2 hxv
    have nf : ∀ b, FpOk c.X pins H' b → b ∉ frs c.X.stack := fun b hb z => (List.mem_cons.mp (I'.stkSub b z)).elim hb.2.1 hb.2.2.1
    obtain ⟨oi, hoi, hi2⟩ := hit
    refine lam_run c hr I' S' ((tLam (K := K) q params body scope c.X.env.cells).mono e' hlam) hq hs L hF hbind rxv (T.mono e' rx0) (hb x0 (List.mem_of_getElem? hx0)) fun z y r F'' H'' s'' I'' S'' e'' rz hz hr' kp => ?_
    obtain rfl : z = .int r := hz
    obtain ⟨ty, rfl⟩ := rz
    obtain ⟨a1, a2⟩ := kp _ _ hoi n1
    obtain ⟨b1, b2⟩ := kp _ _ hSo n2
    obtain ⟨its', rv', tp2, _⟩ := I''.tuple (a := ax) (xs := xs) (by rw [c.hK]; exact sqT_mono S''.sub (sqT_mono (e'.trans e'') hT2))
    refine hQ' _ _ ⟨F'', H'', I'', S'', e'.trans e'', a1, b1⟩ ⟨⟨oi, a2 (nf _ (fI _ n1)), hi2⟩, its', rv', tp2⟩ (b2 (nf _ (fS _ n2))) ⟨ty, ?_⟩ fun _ _ z => z
    show Value.int r ty = Value.int ((as[j]?.map g).getD 0) ty
    rw [hx0, hr']; rfl
  · rintro a b ka kb t Q' E' _ ⟨ta, rfl⟩ ⟨tb, rfl⟩ hQ'
    exact CmpOf.ints_lt (P := fun i v => ∃ t, v = .int (gs i) t) gs (fun _ _ z => z) a b _ _ t _ _ ⟨ta, rfl⟩ ⟨tb, rfl⟩ hQ'
  · rintro v t ⟨xv, hxv, rxv⟩ ⟨F', H', I', S', e', _, _⟩
    obtain ⟨x0, hx0, rx0⟩ := All2.get hxs2 hxv
    obtain ⟨b1, b2, b3⟩ := argBest_first gs (xs.length - 1)
    have hg0 : gs (argBest (fun i j => decide (gs i < gs j)) (xs.length - 1)) = g x0 := by show (as[_]?.map g).getD 0 = _; rw [hx0]; rfl
    have hgj : ∀ {j y}, as[j]? = some y → gs j = g y := fun {j y} e => by show (as[j]?.map g).getD 0 = _; rw [e]; rfl
    refine ⟨xv, H', I', rxv, k2 xv x0 Γ2 F' H' S' ((e1.trans e2).trans e') (T.mono e' rx0) (hk x0 ⟨_, hx0, fun j y hj hy => ?_, fun j y hy => ?_⟩)⟩
    · have := b2 j hj
      rw [hg0, hgj hy] at this
      exact this
    · have hjl := (List.getElem?_eq_some_iff.mp hy).1
      have := b3 j (by omega)
      rw [hg0, hgj hy] at this
      exact this
/-! ### sum, min, max of lists of ints; tuples with one head -/
section
variable {c : Ctx P w K mg base lv N sc fn} {A : Ty K α} {B' : Ty K β}
theorem ew_sumL (bi : Bi mg) {k : Gm → Int → Prop} (hg : glB sc "sum" = true) (h : EW c Γ a (tLst tInt) fun Γ1 xs => k Γ1 xs.sum) (he : ∀ env, starEach [a] env = (false, eval a env) :: starEach [] env := by intro _; rfl) : EW c Γ (.Call (.Name "sum" p) [a] [] pos) tInt k :=
  ew_B (id := "sum") (i' := "sum") (r := rSum K) (fun hK hc => by rw [← hK]; exact cr_sum hc) hg bi.sum (by decide +kernel) (ews_cons (h.imp fun _ xs hx => ews_nil fun F H vs S r Q q => match vs, r with
    | [v], ⟨⟨p, us, ev, hp, hu⟩, _⟩ => ⟨p, xs, by rw [ev], .inl (.inl (S _ _ (by rw [hp, All2.eq_map (f := V.int) (fun _ _ e => e) hu]))), q _ F H xs.sum (Step.refl S) rfl hx⟩) he) (he := he) (hpl := fun _ => rfl)
theorem ew_minL (bi : Bi mg) {k : Gm → Int → Prop} (hg : glB sc "min" = true) (h : EW c Γ a (tLst tInt) fun Γ1 xs => 0 < xs.length ∧ ∀ m, m ∈ xs → (∀ y, y ∈ xs → m ≤ y) → k Γ1 m) (he : ∀ env, starEach [a] env = (false, eval a env) :: starEach [] env := by intro _; rfl) : EW c Γ (.Call (.Name "min" p) [a] [] pos) tInt k :=
  ew_B (id := "min") (i' := "min") (r := rMin K) (fun hK hc => by rw [← hK]; exact cr_min hc) hg bi.min (by decide +kernel) (ews_cons (h.imp fun _ xs hx => ews_nil fun F H vs S r Q q => match vs, r with
    | [v], ⟨⟨p, us, ev, hp, hu⟩, _⟩ => ⟨p, xs, by rw [ev], .inl (.inl (S _ _ (by rw [hp, All2.eq_map (f := V.int) (fun _ _ e => e) hu]))), hx.1, fun m h1 h2 => q _ F H m (Step.refl S) rfl (hx.2 m h1 h2)⟩) he) (he := he) (hpl := fun _ => rfl)
theorem ew_maxL (bi : Bi mg) {k : Gm → Int → Prop} (hg : glB sc "max" = true) (h : EW c Γ a (tLst tInt) fun Γ1 xs => 0 < xs.length ∧ ∀ m, m ∈ xs → (∀ y, y ∈ xs → y ≤ m) → k Γ1 m) (he : ∀ env, starEach [a] env = (false, eval a env) :: starEach [] env := by intro _; rfl) : EW c Γ (.Call (.Name "max" p) [a] [] pos) tInt k :=
  ew_B (id := "max") (i' := "max") (r := rMax K) (fun hK hc => by rw [← hK]; exact cr_max hc) hg bi.max (by decide +kernel) (ews_cons (h.imp fun _ xs hx => ews_nil fun F H vs S r Q q => match vs, r with
    | [v], ⟨⟨p, us, ev, hp, hu⟩, _⟩ => ⟨p, xs, by rw [ev], .inl (.inl (S _ _ (by rw [hp, All2.eq_map (f := V.int) (fun _ _ e => e) hu]))), hx.1, fun m h1 h2 => q _ F H m (Step.refl S) rfl (hx.2 m h1 h2)⟩) he) (he := he) (hpl := fun _ => rfl)
/-- a law's outer loop, where script's slot owns the table -/
theorem w_turnsT {W : Addr} {q : Str} {R : Rs ρ} {rt : Gm → ρ → Prop} {nx bk ct : Gm → Prop} {body : List Stmt} {tg : Expr} {x : Str} {i : Nat} {ns : List Int} {m : Int} {j1 j2} {p1 p2 p3 p4 p5 p6 p7 p8 p9 : Pos} (bi : Bi mg) (hm : 0 ≤ m) (hm2 : m < 64) (g1 : glB sc "range" = true) (g2 : glB sc "max" = true) (g3 : glB sc "min" = true) (g4 : glB sc "len" = true)
    (hs : slotOf N x 0 = some i) (hv : visB sc x = true) (hg : Γ[i]? = some (some (valT (tSeq (K := K) tInt) ns W q))) (hn : ns.length ≤ 63)
    (step : ∀ a : Int, 0 ≤ a → a < 64 → GW c (fun _ => True) Γ tg (tInt (K := K)) a fun Γ3 => SW c Γ3 body ⟨R, rt, fun G => G = Γ, nx, fun G => G = Γ⟩) (fin : nx Γ) (hd : (x == ("__debug__" : Str)) = false := by decide +kernel) (hcd : (x == ("__classdict__" : Str)) = false := by decide +kernel) :
    S1 c Γ (.For tg (.Call (.Name "range" p1) [.Call (.Name "max" p2) [.Constant (.int 1) j1 p3, .Call (.Name "min" p4) [.Constant (.int m) j2 p5, .Call (.Name "len" p6) [.Name x p7] [] p8] [] p9] [] pos'] [] p) body [] pos) (⟨R, rt, nx, bk, ct⟩ : En ρ) := by
  refine w_for (A := tInt) (iw_range1 bi g1 (ew_max2 bi g2 (ew_int (ew_min2 bi g3 (ew_int (ew_lenQ (A := tInt) bi g4 (ew_nameT hs hv hg ?_ hd hcd)))))))
  refine ⟨by split <;> split <;> omega, by split <;> split <;> omega, fun _ G => G = Γ, rfl, fun i a ha G e => ?_, fun G e => by rw [e]; exact fin⟩
  subst e
  obtain ⟨a1, a2⟩ := ups_get ha
  refine step a (by omega) ?_
  rw [a1]
  split at a2 <;> split at a2 <;> omega
/-- a tuple, its first item and all others -/
def tTail (A : Ty K α) (B' : Ty K β) : Ty K (α × List β) := tupTy (fun F xs z => ∃ x ys, xs = x :: ys ∧ A.r F x z.1 ∧ All2 (B'.r F) ys z.2) fun e ⟨x, ys, h, h1, h2⟩ => ⟨x, ys, h, A.mono e h1, All2.imp (fun _ _ => B'.mono e) h2⟩
theorem tail4 : ∀ F v (z : α × β × β × β), (tT4 A B' B' B').r F v z → (tTail A B').r F v (z.1, [z.2.1, z.2.2.1, z.2.2.2]) := fun F v z ⟨p, xs, h1, h2, x, y, u, t, e, r1, r2, r3, r4⟩ => ⟨p, xs, h1, h2, x, [y, u, t], e, r1, r2, r3, r4, trivial⟩
/-- z[1:] -/
theorem ew_slTail {p2 p3 : Pos} {j} {k : Gm → List β → Prop} (h : EW c Γ a (tTail A B') fun Γ1 z => k Γ1 z.2) : EW c Γ (.Subscript a (.Slice (some (.Constant (.int 1) j p3)) none none p2) pos) (tTup B') k := fun B σ F H S Q q => by
  obtain ⟨X, rfl, rfl, rfl, rfl, rfl, rfl, nd, rfl, rfl, calm, room, pas⟩ := c
  refine of_pe (pe_slice sl_tupA peW poW poW) (h B σ F H S _ fun v z Γ1 F1 H1 S1 e1 r1 h1 => ?_)
  refine (ow_some (k := fun Γ o => o = some 1 ∧ Γ = Γ1) (ew_int ⟨rfl, rfl⟩)) B σ F1 H1 S1 _ fun l Γ2 F2 H2 S2 e2 h2 => ow_none (k := fun Γ o => o = none ∧ Γ = Γ2) ⟨rfl, rfl⟩ B σ F2 H2 S2 _ fun u Γ3 F3 H3 S3 e3 h3 => ?_
  obtain ⟨eu, e4⟩ := h3
  subst eu
  subst e4
  obtain ⟨el, e5⟩ := h2
  subst el
  subst e5
  obtain ⟨q1, vs, rfl, hq, x, ys, rfl, rx, ry⟩ := (tTail A B').mono (e2.trans e3) r1
  have ec : cutV (x :: ys) (some 1) none = ys := by
    unfold cutV
    simp [HT.sIx]
  refine ⟨q1, x :: ys, rfl, sqT_mono S3.sub hq, fun hw => ?_, fun hw p hp => ?_⟩
  · exfalso
    have := hw.1
    simp [HT.sIx] at this
  · rw [ec]
    have st := Step.frozen (o := .tup ys) S3.sub hp
    exact q _ _ Γ3 _ _ (S3.step st) (((e1.trans e2).trans e3).trans st.ff) ⟨p, _, rfl, .inl (.inl upd_same), All2.imp (fun _ _ => B'.mono st.ff) ry⟩ h1
/-- z[1 + i] -/
theorem ew_ixTail {k : Gm → β → Prop} (h : EW c Γ a (tTail A B') fun Γ1 z => EW c Γ1 b tInt fun Γ2 i => ∃ (n : Nat) (y : β), i = 1 + (n : Int) ∧ z.2[n]? = some y ∧ k Γ2 y) (hs : PlainIx b := by intro _ _; rfl) : EW c Γ (.Subscript a b pos) B' k :=
  ew_ixG (r := rIxT K) (fun hK => by rw [← hK]; exact ix_tup) (h.imp fun _ z h => h.imp fun _ i ⟨n, y, h1, h2, h3⟩ => fun F H u v S ⟨p, vs, e1, hp, x, ys, e2, rx, ry⟩ ev Q q => by
    obtain ⟨w', hw, rw'⟩ := All2.getR ry h2
    refine ⟨p, vs, i, w', e1, ev, sqT_mono S hp, ?_, q w' F H y (Step.refl S) rw' h3⟩
    have hn := (List.getElem?_eq_some_iff.mp hw).1
    subst e2
    subst h1
    unfold atI ixN
    rw [if_pos (by omega), if_pos (by simp only [List.length_cons]; omega)]
    show (x :: ys)[(1 + (n : Int)).toNat]? = some w'
    rw [show (1 + (n : Int)).toNat = n + 1 by omega]
    exact hw) hs
end
end
end Px
/-! Px, twenty-second part: enumerate of tuples. -/
namespace Px
open PySem PySem.Spec PyProof.Rows L2
abbrev tupIt (l : Addr) : Obj := { cls := .type "tuple_iterator", data := .fields #[.ref l, .int 0 0] }
abbrev enumO (i : Addr) : Obj := { cls := .type "enumerate", data := .fields #[.none, .bool false, .ref i, rawInt 0, .none, .none] }
theorem meets_enumT (l : Addr) : Meets (Builtin.«enumerate.__new__» ⟨[.type "enumerate", .ref l], []⟩) (fun _ R s => (∃ items, s.heap.IsTuple l items) ∧ R (.ok (.ret (.ref (s.heap.push (tupIt l)).objs.size))) { s with heap := (s.heap.push (tupIt l)).push (enumO s.heap.objs.size) }) :=
  .of_wp fun prog w A R s h => by
    obtain ⟨hp, g, d, tk, os⟩ := s
    obtain ⟨⟨items, ht⟩, h⟩ := h
    have hsub := sub_enumerate
    have q1 : ∀ {A' : Around} {E : Value → Shared → Prop} {Q : Value → Shared → Prop}, Q (.ref hp.objs.size) ⟨hp.push (tupIt l), g, d, tk, os⟩ → wpAny (model prog w) A' (pyIter (.ref l)) Q E ⟨hp, g, d, tk, os⟩ := fun q => wpAny_pyIter_tuple (s := ⟨hp, g, d, tk, os⟩) ht q
    wp_walk using q1
    refine wpAny_stack_any fun st => wpAny_pure ?_
    split
    · rename_i c _ _ _ _ _
      cases (c == Value.type "enumerate") <;> (wp_walk using q1; exact ⟨_, rfl, h⟩)
    · wp_walk using q1
      exact ⟨_, rfl, h⟩
theorem call_enumT {prog : Program} {w : World} {A : Around} {E : Value → Shared → Prop} {s : Shared} {l : Addr} {items : Array Value} {Q : Value → Shared → Prop} (ht : s.heap.IsTuple l items)
    (h : ∀ h', IsEnum h' (s.heap.objs.size + 1) s.heap.objs.size 0 .none → h'.IsTupleIter s.heap.objs.size l 0 → (∀ b o, s.heap.get? b = some o → h'.get? b = some o) → Q (.ref (s.heap.objs.size + 1)) { s with heap := h' }) :
    wpAny (model prog w) A (call (.type "enumerate") [.ref l]) Q E s := by
  refine callType_new F.called_enumerate (by decide) (F.typeCall_enumerate_1 _) (F.newCall_enumerate_1 _) (fun obj => F.args_object_init_2 obj _) F.entry_enumerate_new (meets_enumT l) ⟨⟨items, ht⟩, ?_⟩
  have hz : (s.heap.push (tupIt l)).objs.size = s.heap.objs.size + 1 := Heap.size_push ..
  show _ ∧ _
  rw [hz]
  have he : IsEnum ((s.heap.push (tupIt l)).push (enumO s.heap.objs.size)) (s.heap.objs.size + 1) s.heap.objs.size 0 .none := by
    have z := Heap.get?_push_size (s.heap.push (tupIt l)) (o := enumO s.heap.objs.size) rfl
    rw [hz] at z
    exact z
  exact ⟨⟨_, he, rfl⟩, h _ he ⟨_, Heap.get?_push_of_some _ (Heap.get?_push_size _ rfl), rfl, rfl⟩ fun b o x => Heap.get?_push_of_some _ (Heap.get?_push_of_some _ x)⟩
/-- the tuple at a, each item in a new pair -/
def IteT (K : PySem.W.Frag) (a : Addr) : It :=
  ⟨fun i H => ∃ (xs : List V) (x : V), SqT K H a xs ∧ xs[i]? = some x, fun i H v H' => ∃ T x, v = .ref T ∧ H T = none ∧ H' = upd H T (.tup [.int (i : Nat), x]) ∧ ∀ xs, SqT K H a xs → xs[i]? = some x, fun i H => ∃ xs : List V, SqT K H a xs ∧ xs.length ≤ i⟩
theorem turn_enumT {P : Program} {w : World} {K : PySem.W.Frag} {elts : List Expr} {kk : Nat} {tpos : Pos} (a e it : Addr) :
    Turn P w K (.Tuple elts kk tpos) (IteT K a) [e, it] e (fun i h => (∃ old, IsEnum h e it ((i : Nat) : Int) old) ∧ h.IsTupleIter it a i ∧ e ≠ it ∧ a ≠ it ∧ e ≠ a) where
  mem := by simp
  obj := fun i h st b hb => by
    obtain ⟨⟨old, he⟩, ⟨o, ho, hc, hd⟩, _⟩ := st
    have e' : b = e ∨ b = it := by simpa using hb
    rcases e' with z | z
    · rw [z]; exact ⟨_, he, fun v q => nomatch q⟩
    · rw [z]; exact ⟨o, ho, fun v q => by rw [hd] at q; cases q⟩
  keep := fun i h h' ⟨⟨old, he⟩, hi, hne⟩ k => ⟨⟨old, k e (by simp) _ he⟩, hi.at fun o q => k it (by simp) o q, hne⟩
  item := by
    intro X hP hw hK hc i pins s σ H E I hf st hg
    subst hP hw hK
    obtain ⟨⟨old, he⟩, hit, hne, hai, hea⟩ := st
    obtain ⟨xs, x, hq, hx⟩ := hg
    obtain ⟨its, rv, p, hz⟩ := I.tuple hq
    obtain ⟨u, hu, ru⟩ := rv.get hx
    have hu' : its.toArray[i]? = some u := by simpa using hu
    have hil' : i < its.toArray.size := by simpa using (List.getElem?_eq_some_iff.mp hu).1
    have hel : e < s.heap.objs.size := Heap.lt_size he
    have hil : it < s.heap.objs.size := by obtain ⟨_, q, _⟩ := hit; exact Heap.lt_size q
    have D := Draws.tuple (prog := X.prog) (w := X.w) (A := X.A.in1) (show X.A.in1.handled = none from I.ok.hd hc) it a hai its.toArray
    have hef : e ∉ [it, a] := fun z => by
      rcases List.mem_cons.mp z with z | z
      · exact hne z
      · exact hea (by simpa using z)
    refine wpAny_pyNext_enum_itemD D he ⟨hit, p⟩ hil' hne hef fun v h' tk hv ho hst' hT hsz hk => ?_
    obtain rfl : v = u := Option.some.inj ((hv : its.toArray[i]? = some v).symm.trans hu')
    refine ⟨_, rfl, wpAny_letOwnedTupleGo_enum (s := { s with heap := h', toks := tk + 1 }) ho fun h'' he' sb => ?_⟩
    have hT2 : h''.get? s.heap.objs.size = some { cls := .type "tuple", data := .seq #[.int i tk, v] } := (sb.2 _ (Nat.ne_of_gt hel)).trans hT
    have new : ObjOk X.prog X.w (upd H s.heap.objs.size (.tup [.int (i : Nat), x])) h'' s.heap.objs.size (.tup [.int (i : Nat), x]) :=
      ⟨by show 2 ≤ sizeLine; decide, [.int i tk, v], .cons ⟨_, rfl⟩ (.cons ru .nil), ⟨_, hT2, rfl, _, rfl⟩⟩
    have I1 := I.turnedNew (t' := tk + 1) (ch := [e, it]) (fun b ob hb q => (sb.2 b (fun z => hb (by simp [z]))).trans (hk b ob (fun z => hb (by simp [z])) (fun z => hb (by simp [z])) q)) hf (Nat.le_refl _) new
    refine ⟨.ref s.heap.objs.size, _, I1, rfl, ⟨_, x, rfl, I.hok.fresh (Nat.le_refl _), rfl, fun ys hy => by rw [I.tuple_inj hy hq]; exact hx⟩, ⟨⟨v, ?_⟩, hst'.1.at fun o q => (sb.2 it (Ne.symm hne)).trans q, hne, hai, hea⟩, fun b hb => ?_⟩
    · have e1 : ((i + 1 : Nat) : Int) = (i : Int) + 1 := by omega
      rw [e1]; exact he'
    · have hb' : b < s.heap.objs.size := by
        have e' : b = e ∨ b = it := by simpa using hb
        rcases e' with z | z
        · rw [z]; exact hel
        · rw [z]; exact hil
      rw [upd_ne (Nat.ne_of_lt hb')]
      exact (hf b hb).1
  done := by
    intro X hP hw hK hc i pins s σ H E I hf st hg
    subst hP hw hK
    obtain ⟨⟨old, he⟩, hit, hne, hai, hea⟩ := st
    obtain ⟨xs, hq, hx⟩ := hg
    obtain ⟨its, rv, p, hz⟩ := I.tuple hq
    obtain ⟨f0, f1, f2, f3, f4, f5⟩ := hf it (by simp)
    have hl := rv.length
    have hh : X.A.handled = none := I.ok.hd hc
    have D : Draws X.prog X.w X.A.in1 it [it, a] i (fun _ _ => False) (fun j h => j = i ∧ h.IsTupleIter it a i ∧ h.IsTuple a its.toArray) :=
      { live := fun _ _ st => let ⟨_, ⟨o, ho, _⟩, _⟩ := st; ⟨o, ho⟩
        frame := fun _ _ _ st k => ⟨st.1, st.2.1.at fun o q => k it (by simp) o q, st.2.2.at fun o q => k a (by simp) o q⟩
        item := fun j s Q E hj st => absurd st.1 (Nat.ne_of_lt hj)
        done := fun s Q E st hE => wpAny_nextOf_tuple_end hh st.2.1 st.2.2 (by simp; omega) hE }
    exact wpAny_pyNext_enum_endD D he ⟨rfl, hit, p⟩ fun h' eb => ⟨rfl, I.turned (t' := s.toks) (fun b o hb q => eb b o hb q) f0 f1 f3 f4 f5⟩
  self := fun A i s Q E st h => let ⟨⟨_, he⟩, _⟩ := st; wpAny_pyIter_enum he h
theorem pi_enumT {X : Cx} {e : Expr} {ta : TA} {p pos tpos : Pos} {elts : List Expr} {kk : Nat} (hg : Gl X "enumerate") (hm : X.mg "enumerate" = none) (ha : PA X [e] ta) (hs : starEach [e] X.env = [(false, eval e X.env)]) :
    PI X (.Tuple elts kk tpos) (.Call (.Name "enumerate" p) [e] [] pos) (fun σ H R => ta σ H fun vs H1 => ∃ a xs, vs = [.ref a] ∧ SqT X.K H1 a xs ∧ R (IteT X.K a) H1) := by
  refine ⟨fun pins s σ H R I h => ?_⟩
  refine Call_ (ld_blt I hg hm boot_enumerate (PyProof.Rows.callWith_type1 (thn (ha.run pos pins s σ H _ I h) fun us s1 ⟨vs, H1, I1, r1, q1⟩ => ?_) hs rfl))
  obtain ⟨a, xs, ex, hq, q⟩ := q1
  subst ex
  cases r1 with
  | cons r rr =>
    cases rr
    cases r
    obtain ⟨its, rv, p', hz⟩ := I1.tuple hq
    have ha' : a < s1.heap.objs.size := by obtain ⟨o, ho, _⟩ := p'; exact Heap.lt_size ho
    refine call_enumT p' fun h' he hit hk => wpAny_pyIter_enum he ?_
    have I2 : Inv X pins σ H1 { s1 with heap := h' } := I1.kept (t' := s1.toks) hk
    refine ⟨s1.heap.objs.size + 1, [s1.heap.objs.size + 1, s1.heap.objs.size], _, _, H1, rfl, I2, turn_enumT a (s1.heap.objs.size + 1) s1.heap.objs.size, ⟨⟨.none, he⟩, hit, Nat.succ_ne_self _, Nat.ne_of_lt ha', Nat.ne_of_gt (Nat.lt_succ_of_lt ha')⟩, fun b hb => ?_, q⟩
    have hle : s1.heap.objs.size ≤ b := by
      have e' : b = s1.heap.objs.size + 1 ∨ b = s1.heap.objs.size := by simpa using hb
      rcases e' with z | z
      · rw [z]; exact Nat.le_add_right _ _
      · rw [z]; exact Nat.le_refl _
    exact I1.fpOk hle (I1.hok.fresh hle)
section
variable {P : Program} {w : World} {K : PySem.W.Frag} {mg : Str → Option Value} {base : Heap} {lv : Nat} {N : List Str} {sc : Scope} {fn : Str → Bool}
variable {α β γ δ ρ ι : Type}
variable {c : Ctx P w K mg base lv N sc fn} {Γ : Gm} {e a b : Expr} {es : List Expr} {pos pos' p : Pos} {T : Ty K α} {A : Ty K α} {B' : Ty K β} {R : Ty K ρ}
/-- the places, with what stands there -/
def enumL {α : Type} (xs : List α) : List (Int × α) := ((List.range xs.length).zip xs).map fun z => ((z.1 : Nat), z.2)
theorem enumL_len {α : Type} (xs : List α) : (enumL xs).length = xs.length := by simp [enumL]
theorem enumL_get {α : Type} {xs : List α} {i : Nat} {z : Int × α} (h : (enumL xs)[i]? = some z) : z.1 = (i : Int) ∧ xs[i]? = some z.2 := by
  unfold enumL at h
  rw [List.getElem?_map, Option.map_eq_some_iff] at h
  obtain ⟨⟨n, x⟩, h1, rfl⟩ := h
  obtain ⟨h2, h3⟩ := zip_get h1
  obtain ⟨h4, h5⟩ := List.getElem?_eq_some_iff.mp h2
  rw [List.getElem_range] at h5
  exact ⟨by rw [h5], h3⟩
theorem it_enumT {F : Hp} {p : Addr} {vs : List V} {xs : List α} (hp : SqT K F p vs) (hv : All2 (A.r F) vs xs) : ItOk (K := K) (IteT K p) (tT2 tInt A) F (enumL xs) := by
  have l1 := All2.length hv
  refine ⟨fun i F1 H s1 s2 hi => ?_, fun i F1 H s1 s2 hi => ?_, fun i F1 H x H' s1 s2 ⟨T, a, e1, e2, e3, e4⟩ z hz => ?_⟩
  · rw [enumL_len] at hi
    have i1 : i < vs.length := by omega
    exact ⟨vs, vs[i], sqT_mono (s1.trans s2) hp, List.getElem?_eq_getElem i1⟩
  · rw [enumL_len] at hi
    exact ⟨vs, sqT_mono (s1.trans s2) hp, by omega⟩
  · obtain ⟨h1, h2⟩ := enumL_get hz
    obtain ⟨x1, g1, r1⟩ := All2.getR hv h2
    have f1 := e4 vs (sqT_mono (s1.trans s2) hp)
    rw [g1] at f1
    have y1 := Option.some.inj f1
    subst y1
    subst e1
    subst e3
    have st := Step.frozen (o := .tup [.int (i : Nat), x1]) s2 e2
    exact ⟨_, st, T, [.int (i : Nat), x1], rfl, .inl (.inl upd_same), .int (i : Nat), x1, rfl, by show V.int _ = V.int _; rw [h1], A.mono (s1.trans st.ff) r1⟩
/-- for .. in enumerate(tuple) -/
theorem iw_enumT (bi : Bi mg) {k : Gm → List (Int × α) → Prop} {tpos : Pos} {elts : List Expr} {kk : Nat} (hg : glB sc "enumerate" = true) (h : EW c Γ a (tTup A) fun Γ1 xs => k Γ1 (enumL xs))
    (hs : ∀ env, starEach [a] env = (false, eval a env) :: starEach [] env := by intro _; rfl) (hs2 : ∀ env, starEach [a] env = [(false, eval a env)] := by intro _; rfl) :
    IW c Γ (.Tuple elts kk tpos) (.Call (.Name "enumerate" p) [a] [] pos) (tT2 tInt A) k := fun B σ F H S R q => by
  obtain ⟨X, rfl, rfl, rfl, rfl, rfl, rfl, nd, rfl, rfl, calm, room, pas⟩ := c
  refine of_pi (pi_enumT (glB_gl hg) bi.enumerate (pa_cons peW pa_nil (hs _)) (hs2 _)) (h B σ F H S _ fun v xs Γ1 F1 H1 S1 e1 r1 h1 => ?_)
  obtain ⟨p1, vs, rfl, hp, hv⟩ := r1
  exact ⟨p1, vs, rfl, sqT_mono S1.sub hp, q _ _ Γ1 F1 H1 S1 e1 (it_enumT hp hv) h1⟩
end
end Px
/-! Px, twenty-third part: own dicts whose keys are pairs of ints. -/
namespace Px
open PySem PySem.Spec PyProof.Rows L2
section
variable {K : PySem.W.Frag} {α : Type}
/-- a pair of ints, made in the run -/
def tPr : Ty K (Int × Int) := ⟨fun F v a => ∃ p, v = .ref p ∧ F p = some (.tup [.int a.1, .int a.2]), fun e ⟨p, h1, h2⟩ => ⟨p, h1, e _ _ h2⟩⟩
theorem pr_T2 : ∀ F v (a : Int × Int), (tPr (K := K)).r F v a → (tT2 (tInt (K := K)) tInt).r F v a := fun F v a ⟨p, h1, h2⟩ => ⟨p, _, h1, .inl (.inl h2), _, _, rfl, rfl, rfl⟩
def OptR (T : Ty K α) (F : Hp) : Option V → Option α → Prop
  | some v, some a => T.r F v a
  | none, none => True
  | _, _ => False
theorem OptR.mono {T : Ty K α} {F F' : Hp} (e : Same F F') : ∀ {o : Option V} {a : Option α}, OptR T F o a → OptR T F' o a
  | some _, some _, h => T.mono e h
  | none, none, h => h
  | some _, none, h => h
  | none, some _, h => h
abbrev pk (r c : Int) : List Key := [.inl r, .inl c]
def GAt (T : Ty K α) (n : Nat) (g : Int → Int → Option α) (F H : Hp) (p : Addr) : Prop := ∃ kvs : List (List Key × V), H p = some (.dT kvs) ∧ kvs.length ≤ n ∧ ∀ r c, OptR T F (valV kvs (pk r c)) (g r c)
/-- an own dict of at most n pairs: what stands at each -/
def ownG (T : Ty K α) (n : Nat) (g : Int → Int → Option α) : Ent :=
  ⟨fun v ps F H => ∃ p, v = .ref p ∧ (∀ q, ps q ↔ q = p) ∧ GAt T n g F H p, false, false, fun ⟨p, h1, h2, kvs, h3, h4, h5⟩ e k => ⟨p, h1, h2, kvs, by rw [k p ((h2 p).mpr rfl)]; exact h3, h4, fun r c => (h5 r c).mono e⟩, fun h => nomatch h⟩
def updG (g : Int → Int → Option α) (z : Int × Int) (u : α) : Int → Int → Option α := fun r c => if r = z.1 ∧ c = z.2 then some u else g r c
theorem pk_inj {r c r' c' : Int} (h : pk r c = pk r' c') : r = r' ∧ c = c' := by
  have h1 := List.cons.inj h
  have h2 := List.cons.inj h1.2
  exact ⟨Sum.inl.inj h1.1, Sum.inl.inj h2.1⟩
theorem putK_len {κ : Type} [DecidableEq κ] (kvs : List (κ × V)) (k : κ) (v : V) : (putK kvs k v).length ≤ kvs.length + 1 := by
  unfold putK
  split
  · rw [List.length_map]; omega
  · rw [List.length_append]; simp
theorem GAt.put {T : Ty K α} {n : Nat} {g : Int → Int → Option α} {F H' : Hp} {p : Addr} {kvs : List (List Key × V)} {z : Int × Int} {v : V} {u : α} (h2 : kvs.length ≤ n) (h3 : ∀ r c, OptR T F (valV kvs (pk r c)) (g r c)) (hr : T.r F v u) (hp : H' p = some (.dT (putK kvs (pk z.1 z.2) v))) : GAt T (n + 1) (updG g z u) F H' p := by
  refine ⟨_, hp, Nat.le_trans (putK_len _ _ _) (by omega), fun r c => ?_⟩
  rw [valV_put]
  unfold updG
  by_cases h : r = z.1 ∧ c = z.2
  · rw [if_pos (by rw [h.1, h.2]), if_pos h]; exact hr
  · rw [if_neg (fun e => h (pk_inj e)), if_neg h]; exact h3 r c
end
section
variable {P : Program} {w : World} {K : PySem.W.Frag} {mg : Str → Option Value} {base : Heap} {lv : Nat} {N : List Str} {sc : Scope} {fn : Str → Bool}
variable {α β γ δ ρ ι : Type}
variable {c : Ctx P w K mg base lv N sc fn} {Γ : Gm} {e f a b ix : Expr} {es : List Expr} {pos pos' p px py pz pt : Pos} {T : Ty K α} {A : Ty K α} {B' : Ty K β}
theorem ew_pr {x1} {k : Gm → Int × Int → Prop} (h : EW c Γ a tInt fun Γ1 i => EW c Γ1 b tInt fun Γ2 j => k Γ2 (i, j)) (hs : ∀ env, starEach [a, b] env = (false, eval a env) :: starEach [b] env := by intro _; rfl) (hs2 : ∀ env, starEach [b] env = (false, eval b env) :: starEach [] env := by intro _; rfl) : EW c Γ (.Tuple [a, b] x1 pos) tPr k := fun B σ F H S Q q => by
  have h' : EWs c Γ [a, b] fun Γ2 ts => ∃ i j, ts = [tv (tInt (K := K)) i, tv (tInt (K := K)) j] ∧ k Γ2 (i, j) := ews_cons (h.imp fun _ i hi => ews_cons (hi.imp fun _ j hj => ews_nil ⟨i, j, rfl, hj⟩) hs2) hs
  refine of_pe (pe_tup paW) (h' B σ F H S _ fun vs ts Γ1 F1 H1 S1 e1 r1 ⟨i, j, et, hk⟩ => ?_)
  subst et
  match vs, r1 with
  | [u, v], ⟨ru, rv, _⟩ =>
    obtain rfl : u = .int i := ru
    obtain rfl : v = .int j := rv
    refine ⟨by show 2 ≤ sizeLine; decide, fun p hp => ?_⟩
    have st := Step.frozen (o := .tup [.int i, .int j]) S1.sub hp
    exact q _ (i, j) Γ1 _ _ (S1.step st) (e1.trans st.ff) ⟨p, rfl, upd_same⟩ hk
/-- x.get(pair, e), x an own dict -/
theorem ew_getG {x : Str} {i n : Nat} {g : Int → Int → Option α} {k : Gm → α → Prop} {apos : Pos} (hs : slotOf N x 0 = some i) (hv : visB sc x = true) (hx : Γ[i]? = some (some (ownG T n g))) (h : EW c Γ e tPr fun Γ1 z => EW c Γ1 f T fun Γ2 d => Γ2[i]? = some (some (ownG T n g)) ∧ k Γ2 ((g z.1 z.2).getD d))
    (hd : (x == ("__debug__" : Str)) = false := by decide +kernel) (hcd : (x == ("__classdict__" : Str)) = false := by decide +kernel) (m1 : ∀ env, attributeBase (.Name x px) "get" env (eval (.Name x px) env) = eval (.Name x px) env := by intro _; rfl)
    (m2 : ∀ env, ((backTo pos (starEach [e, f] env)).all (fun x => !x.1) && (backToKw pos (keywordEach [] env)).all (fun x => x.1.isSome) && decide (([e, f] : List Expr).length + ([] : List Keyword).length + (if ([] : List Keyword).isEmpty then 0 else 1) < 30)) = true := by intro _; rfl)
    (m3 : (apos.endLine == pos.line) = true := by rfl) (m4 : ∀ env, backTo pos (starEach [e, f] env) = [(false, eval e env), (false, eval f env)] := by intro _; rfl) : EW c Γ (.Call (.Attribute (.Name x px) "get" apos) [e, f] [] pos) T k := by
  intro B σ F H S Q q
  obtain ⟨X, rfl, rfl, rfl, rfl, rfl, rfl, nd, rfl, rfl, calm, room, pas⟩ := c
  refine of_pe (pe_dget2 (hu_of room) (pe_var (slotOf_at hs) (visB_vis hv) hd hcd) peW peW ⟨m1 _, m2 _, m3, m4 _⟩) ?_
  obtain ⟨v, ps0, hv1, ⟨p, rfl, hq1, kvs, h3, h4, h5⟩, own⟩ := S.get hx
  refine ⟨_, hv1, p, rfl, .inr ⟨kvs, .inl h3⟩, h B σ F H S _ fun y z Γ1 F1 H1 S1 e1 r1 h1 => h1 B σ F1 H1 S1 _ fun u d Γ2 F2 H2 S2 e2 r2 ⟨hx2, hk⟩ => ?_⟩
  obtain ⟨v', ps2, hv2, ⟨p', ev, hq2, kvs', g3, g4, g5⟩, own2⟩ := S2.get hx2
  have epp : p' = p := by
    rw [hv1] at hv2
    have := Option.some.inj (Option.some.inj hv2)
    rw [ev] at this
    cases this; rfl
  subst epp
  obtain ⟨b, rfl, hb⟩ := tPr.mono e2 r1
  refine ⟨_, DGet.t (k := pk z.1 z.2) g3 (S2.sub _ _ hb), ?_⟩
  have g6 := g5 z.1 z.2
  have hr : T.r F2 ((valV kvs' (pk z.1 z.2)).getD u) ((g z.1 z.2).getD d) := by
    cases h1 : valV kvs' (pk z.1 z.2) with
    | none =>
      cases h2 : g z.1 z.2 with
      | none => exact r2
      | some a => rw [h1, h2] at g6; exact g6.elim
    | some v =>
      cases h2 : g z.1 z.2 with
      | none => rw [h1, h2] at g6; exact g6.elim
      | some a => rw [h1, h2] at g6; exact g6
  exact q _ _ Γ2 F2 H2 S2 (e1.trans e2) hr hk
end
section
variable {P : Program} {w : World} {K : PySem.W.Frag} {mg : Str → Option Value} {base : Heap} {lv : Nat} {N : List Str} {sc : Scope} {fn : Str → Bool}
variable {α β γ δ ρ ι : Type}
variable {c : Ctx P w K mg base lv N sc fn} {Γ : Gm} {e f a b ix : Expr} {es : List Expr} {pos pos' p px py pz pt : Pos} {T : Ty K α} {A : Ty K α} {B' : Ty K β} {R : Rs ρ} {rt : Gm → ρ → Prop} {nx bk ct : Gm → Prop}
/-- x[pair] = e, x an own dict -/
theorem w_putG {x : Str} {i n : Nat} {g : Int → Int → Option α} (hs : slotOf N x 0 = some i) (hv : visB sc x = true) (h : EW c Γ e T fun Γ1 u => EW c Γ1 ix tPr fun Γ2 z => Γ2[i]? = some (some (ownG T n g)) ∧ n < 10000 ∧ nx (Γ2.set i (some (ownG T (n + 1) (updG g z u)))))
    (hx : ∃ n g, Γ[i]? = some (some (ownG (K := K) T n g))) (hd : (x == ("__debug__" : Str)) = false := by decide +kernel) (hcd : (x == ("__classdict__" : Str)) = false := by decide +kernel) (hsw : ∀ env, swapsWith e (some (.Subscript (.Name x px) ix pos')) pos.line env = pure false := by intro _; rfl) :
    S1 c Γ (.Assign [.Subscript (.Name x px) ix pos'] e pos) (⟨R, rt, nx, bk, ct⟩ : En ρ) := fun B σ F H hB S => by
  obtain ⟨X, rfl, rfl, rfl, rfl, rfl, rfl, nd, rfl, rfl, calm, room, pas⟩ := c
  obtain ⟨n0, g0, hx⟩ := hx
  obtain ⟨v0, ps0, hv1, ⟨p, rfl, _⟩, _⟩ := S.get hx
  refine of_ps (ps_dput (hu_of room) (pe_var (slotOf_at hs) (visB_vis hv) hd hcd) peW peW (hsw _)) (h B σ F H S _ fun v u Γ1 F1 H1 S1 e1 r1 h1 => ⟨_, hv1, h1 B σ F1 H1 S1 _ fun y z Γ2 F2 H2 S2 e2 r2 ⟨hx2, hn, hk⟩ => ?_⟩)
  obtain ⟨v', ps2, hv2, ⟨p', ev, hq2, kvs', g3, g4, g5⟩, own2⟩ := S2.get hx2
  have epp : p' = p := by
    rw [hv1] at hv2
    have := Option.some.inj (Option.some.inj hv2)
    rw [ev] at this
    cases this; rfl
  subst epp
  obtain ⟨b, rfl, hb⟩ := r2
  have hsz : 10000 < sizeLine := by decide
  refine ⟨p', _, rfl, DPut.t (k := pk z.1 z.2) g3 (S2.sub _ _ hb) (by omega), _, F2, S2.own_upd (F' := F2) (H' := upd H2 p' (.dT (putK kvs' (pk z.1 z.2) v))) (e' := ownG T (n + 1) (updG g z u)) hx2 rfl fun v3 ps3 hv3 ⟨p3, e3, hq3, kvs3, d3, d4, d5⟩ own3 => ?_, hk⟩
  have e33 : p3 = p' := by
    rw [hv1] at hv3
    have := Option.some.inj (Option.some.inj hv3)
    rw [e3] at this
    cases this; rfl
  subst e33
  have o3 := own3 p3 ((hq3 p3).mpr rfl)
  refine ⟨ps3, fun d o q => by rw [upd_ne (ne_of_none q o3.1)]; exact S2.sub d o q, Same.refl _, fun d o q nd => by rw [upd_ne fun y => nd ((hq3 d).mpr y)]; exact q, fun d n1 => ?_, fun _ _ n2 => n2, fun d hd => ?_, p3, e3, hq3, GAt.put g4 g5 (T.mono e2 r1) upd_same⟩
  · by_cases y : d = p3
    · rw [y, upd_same]; exact fun y => nomatch y
    · rw [upd_ne y]; exact n1
  · obtain rfl : d = p3 := (hq3 d).mp hd
    exact ⟨.inl hd, o3.1, (by rw [upd_same]; exact fun y => nomatch y), o3.2.2.2⟩
/-- x += e, on texts -/
theorem w_addS {i : Nat} {x : Str} {z : Str} (hs : slotOf N x 0 = some i) (hv : locB sc fn x = true) (hg : Γ[i]? = some (some (val (K := K) tStr z))) (h : EW c Γ e tStr fun Γ1 u => i < Γ1.length ∧ z.length + u.length ≤ sizeLine ∧ nx (Γ1.set i (some (val (K := K) tStr (z ++ u))))) : S1 c Γ (.AugAssign (.Name x pos') .Add e pos) (⟨R, rt, nx, bk, ct⟩ : En ρ) := fun B σ F H hB S => by
  have hN := c.hN
  have hsc := c.hsc
  have hfn := c.hfn
  have hl := locB_loc hv
  have ho : PIp c.X .Add rAddS := fun pins s σ H x y v u Q I r1 r2 h => in_addS pins s σ H x y v u Q I r1 r2 h
  refine of_ps (ps_aug (i := i) (by rw [hN]; exact c.nd) (by rw [hN]; exact slotOf_at hs) (by rw [hsc]; exact hl.1) peW ho (by rw [hsc, hfn]; exact hl.2)) ?_
  obtain ⟨v, ps, h1, h2, _⟩ := S.get hg
  refine ⟨v, h1, h B σ F H S _ fun u a Γ1 F1 H1 S1 e1 r1 ⟨h3, h4, h5⟩ => ⟨z, a, h2.2, r1, h4, ?_⟩⟩
  exact ⟨Γ1.set i (some (val (K := K) tStr (z ++ a))), F1, S1.set h3 ⟨fun _ y => y, rfl⟩, h5⟩
theorem Sta.swapPin {B : Base} {σ : L2.St} {F H : Hp} {p q : Addr} (S : Sta { B with pin := fun y => y = q ∨ (y = p ∨ B.pin y) } Γ σ F H) : Sta { B with pin := fun y => y = p ∨ (y = q ∨ B.pin y) } Γ σ F H := by
  have e : (fun y => y = q ∨ (y = p ∨ B.pin y)) = fun y => y = p ∨ (y = q ∨ B.pin y) := by
    funext y
    exact propext ⟨fun h => h.elim (fun h => .inr (.inl h)) (fun h => h.elim .inl fun h => .inr (.inr h)), fun h => h.elim (fun h => .inr (.inl h)) (fun h => h.elim .inl fun h => .inr (.inr h))⟩
  rw [e] at S
  exact S
/-- x, y, z = {}, name, [] -/
theorem w_parDVL {i j l m : Nat} {x y z o : Str} {kt k2} {pt2 pd pl po : Pos} {TL : Ty K γ} {u : β} (hi : slotOf N x 0 = some i) (hj : slotOf N y 0 = some j) (hl : slotOf N z 0 = some l) (hij : i ≠ j) (hil : i ≠ l) (hjl : j ≠ l) (hx : sc.names.lookup x = some .local) (hy : sc.names.lookup y = some .local) (hz : sc.names.lookup z = some .local) (hk : sc.kind = .function)
    (hm : slotOf N o 0 = some m) (hv : visB sc o = true) (hg : Γ[m]? = some (some (val B' u))) (h : (i < Γ.length ∧ j < Γ.length ∧ l < Γ.length) ∧ nx (((Γ.set i (some (ownG T 0 fun _ _ => none))).set j (some (val B' u))).set l (some (ownL TL []))))
    (hd : (o == ("__debug__" : Str)) = false := by decide +kernel) (hcd : (o == ("__classdict__" : Str)) = false := by decide +kernel)
    (hw : ∀ env : Env, env.blockKind = .function → env.kindOf x = some .local → env.kindOf y = some .local → env.kindOf z = some .local → swappedStores [.Tuple [.Name x px, .Name y py, .Name z pz] kt pt] (.Tuple [.Dict [] [] pd, .Name o po, .List [] pl] k2 pt2) env = pure (some [x, y, z]) := by intro env h1 h2 h3 h4; unfold swappedStores; simp only [List.filterMap, h1, h2, h3, h4]; rfl)
    (hs : ∀ env, swapsWithSole [.Tuple [.Name x px, .Name y py, .Name z pz] kt pt] (.Tuple [.Dict [] [] pd, .Name o po, .List [] pl] k2 pt2) pos.line env = pure false := by intro _; rfl) (he : ∀ env, starEach [.Dict [] [] pd, .Name o po, .List [] pl] env = (false, eval (.Dict [] [] pd) env) :: starEach [.Name o po, .List [] pl] env := by intro _; rfl) (he2 : ∀ env, starEach [.Name o po, .List [] pl] env = (false, eval (.Name o po) env) :: starEach [.List [] pl] env := by intro _; rfl) (he3 : ∀ env, starEach [.List [] pl] env = (false, eval (.List [] pl) env) :: starEach [] env := by intro _; rfl) :
    S1 c Γ (.Assign [.Tuple [.Name x px, .Name y py, .Name z pz] kt pt] (.Tuple [.Dict [] [] pd, .Name o po, .List [] pl] k2 pt2) pos) (⟨R, rt, nx, bk, ct⟩ : En ρ) := fun B σ F H hB S => by
  obtain ⟨X, rfl, rfl, rfl, rfl, rfl, rfl, nd, rfl, rfl, calm, room, pas⟩ := c
  have hb : X.env.blockKind = .function := by unfold Env.blockKind; rw [hk]; rfl
  refine of_ps (ps_par3 calm nd (slotOf_at hi) (slotOf_at hj) (slotOf_at hl) hij hil hjl hx hy hz (pa_cons pe_dnewT (pa_cons (pe_var (slotOf_at hm) (visB_vis hv) hd hcd) (pa_cons (pe_lst pa_nil) pa_nil (he3 _)) (he2 _)) (he _)) (hw _ hb hx hy hz) (hs _)) ?_
  obtain ⟨v, ps, hv1, ⟨hn1, rv⟩, _⟩ := S.get hg
  obtain ⟨⟨l1, l2, l3⟩, h⟩ := h
  intro p hp
  obtain ⟨S1, b1, b2, b3⟩ := S.make (o := .dT []) hp
  refine ⟨v, hv1, ⟨by show 0 ≤ sizeLine; omega, fun q hq => ⟨.ref p, v, .ref q, rfl, ?_⟩⟩⟩
  obtain ⟨S2, c1, c2, c3⟩ := S1.make (o := .lst []) hq
  have hpq : p ≠ q := fun z => by rw [← z, upd_same] at hq; cases hq
  have hpH : upd (upd H p (.dT [])) q (.lst []) p = some (.dT []) := by rw [upd_ne hpq, upd_same]
  have S2' := Sta.swapPin (B := B) (p := p) (q := q) S2
  have S3 := Sta.take (B := { B with pin := fun y => y = q ∨ B.pin y }) (e := ownG T 0 fun _ _ => none) S2' l1 ⟨p, rfl, fun _ => Iff.rfl, [], hpH, Nat.le_refl _, fun r c => trivial⟩ b3 (by rw [hpH]; exact fun z => nomatch z) b1 (fun z => (show p = q ∨ B.pin p from z).elim (fun z => hpq z) b2)
  have S4 := S3.set (i := j) (v := v) (e := val B' u) (by rw [List.length_set]; exact l2) ⟨fun _ z => z, rv⟩
  have S5 := S4.take (i := l) (p := q) (e := ownL TL []) (by rw [List.length_set, List.length_set]; exact l3) ⟨q, [], rfl, fun _ => Iff.rfl, upd_same, trivial⟩ c3 (by rw [upd_same]; exact fun z => nomatch z) c1 (fun z => c2 (.inr z))
  exact ⟨_, F, S5, h⟩
end
end Px
/-! Px, twenty-fourth part: dict(pairs) with text keys, that stays as it is; a head put ahead of a tuple; len(set(tuples of ints)). -/
namespace Px
open PySem PySem.Spec PyProof.Rows L2
section
variable {K : PySem.W.Frag} {α : Type}
/-- a dict of texts that nobody changes -/
def tDk (T : Ty K α) : Ty K (Str → Option α) := ⟨fun F v g => ∃ p kvs, v = .ref p ∧ F p = some (.dK kvs) ∧ ∀ s : Str, OptR T F (valV kvs (.inr s)) (g s), fun e ⟨p, kvs, h1, h2, h3⟩ => ⟨p, kvs, h1, e _ _ h2, fun s => (h3 s).mono e⟩⟩
/-- the last pair that has the key -/
def lastV (ps : List (Str × α)) (s : Str) : Option α := ps.foldl (fun o p => if s = p.1 then some p.2 else o) none
theorem merge_last {T : Ty K α} {F : Hp} : ∀ {kvs : List (Str × V)} {ps : List (Str × α)}, All2 (fun (kv : Str × V) (p : Str × α) => kv.1 = p.1 ∧ T.r F kv.2 p.2) kvs ps → ∀ (acc : List (Key × V)) (o : Option α) (s : Str), OptR T F (valV acc (.inr s)) o →
    OptR T F (valV (mergeK acc (kvs.map fun kv => ((.inr kv.1 : Key), kv.2))) (.inr s)) (ps.foldl (fun o p => if s = p.1 then some p.2 else o) o)
  | [], [], _, acc, o, s, h => h
  | kv :: kvs, p :: ps, ⟨⟨h1, h2⟩, h3⟩, acc, o, s, h => by
    show OptR T F (valV (mergeK (putK acc (.inr kv.1) kv.2) (kvs.map fun kv => ((.inr kv.1 : Key), kv.2))) (.inr s)) _
    rw [List.foldl_cons]
    refine merge_last h3 _ _ s ?_
    rw [valV_put]
    by_cases e : s = p.1
    · rw [if_pos e, if_pos (by rw [e, h1])]; exact h2
    · rw [if_neg e, if_neg (fun z => e (by rw [← h1]; exact Sum.inr.inj z))]; exact h
theorem pairs_at {T : Ty K α} {F H : Hp} (S : Same F H) : ∀ {vs : List V} {ps : List (Str × α)}, All2 ((tT2 tStr T).r F) vs ps → ∃ (as : List Addr) (kvs : List (Str × V)), vs = as.map V.ref ∧ Paired (fun p (kv : Key × V) => SqT K H p [kV kv.1, kv.2]) as (kvs.map fun kv => ((.inr kv.1 : Key), kv.2)) ∧ All2 (fun (kv : Str × V) (p : Str × α) => kv.1 = p.1 ∧ T.r F kv.2 p.2) kvs ps
  | [], [], _ => ⟨[], [], rfl, .nil, trivial⟩
  | v :: vs, p :: ps, hh => by
    obtain ⟨⟨a, xs, rfl, h1, x, y, rfl, hx, hy⟩, h⟩ := hh
    obtain ⟨as, kvs, rfl, i2, i3⟩ := pairs_at S h
    obtain rfl : x = .str p.1 := hx
    exact ⟨a :: as, (p.1, y) :: kvs, rfl, .cons (sqT_mono S h1) i2, ⟨rfl, hy⟩, i3⟩
theorem lastV_mem {ps : List (Str × α)} {s : Str} {x : α} (hn : (ps.map (·.1)).Nodup) (h : (s, x) ∈ ps) : lastV ps s = some x := by
  have key : ∀ (ps : List (Str × α)) (o : Option α), (ps.map (·.1)).Nodup → (((s, x) ∈ ps) ∨ (o = some x ∧ s ∉ ps.map (·.1))) → ps.foldl (fun o p => if s = p.1 then some p.2 else o) o = some x := by
    intro ps
    induction ps with
    | nil =>
      intro o _ h
      rcases h with h | h
      · exact nomatch h
      · exact h.1
    | cons p ps ih =>
      intro o hn h
      rw [List.map_cons, List.nodup_cons] at hn
      rw [List.foldl_cons]
      refine ih _ hn.2 ?_
      rcases h with h | ⟨h, h'⟩
      · rcases List.mem_cons.mp h with e | h
        · right
          rw [← e] at hn ⊢
          exact ⟨if_pos rfl, hn.1⟩
        · exact .inl h
      · right
        rw [List.map_cons, List.mem_cons, not_or] at h'
        exact ⟨by rw [if_neg h'.1]; exact h, h'.2⟩
  exact key ps none hn (.inl h)
end
section
variable {X : Cx}
def tLenSetT (K : PySem.W.Frag) (ta : TE) : TE := fun σ H Q => ta σ H fun x H1 => ∃ (l : Addr) (ks : List (Addr × List Int)), x = .ref l ∧ SqL K H1 l (ks.map fun p => V.ref p.1) ∧ (∀ p ∈ ks, SqT K H1 p.1 (p.2.map V.int)) ∧ ks.length < 64 ∧
  ∀ L : List (Addr × List Int), (L.map (·.2)).Nodup → (∀ p ∈ L, p ∈ ks) → (∀ p ∈ ks, p.2 ∈ L.map (·.2)) → Q (.int (L.length : Nat)) H1
theorem pe_lenSetT {a : Expr} {ta : TE} {p p2 q pos : Pos} (hu : X.A.units + 3 < cLine) (hg : Gl X "len") (hm : X.mg "len" = none) (hg2 : Gl X "set") (hm2 : X.mg "set" = none) (ha : PE X a ta) (hc : X.calm = true)
    (na : starEach [a] X.env = (false, eval a X.env) :: starEach [] X.env) : PE X (.Call (.Name "len" p) [.Call (.Name "set" p2) [a] [] q] [] pos) (tLenSetT X.K ta) := by
  refine ⟨fun pins s σ H Q I h => ?_⟩
  refine Call_ (ld_blt I hg hm PySem.boot_len ?_)
  refine PyProof.Rows.callWith_builtin1 (PyProof.Rows.args_cons ?_ rfl) rfl rfl
  refine Call_ (ld_blt I hg2 hm2 PyProof.Rows.boot_set ?_)
  refine PyProof.Rows.callWith_type1 (PyProof.Rows.args_cons (thn (ha.run pins s σ H _ I h) fun v s1 ⟨x, H1, I1, r1, q1⟩ => PyProof.Rows.args_nil ?_) na) na rfl
  obtain ⟨l, ks, rfl, hq, hk, hl, q1⟩ := q1
  cases r1
  obtain ⟨its, r, pl, hz⟩ := I1.list hq
  have ei : its = ks.map fun p => Value.ref p.1 := by
    have := refs_at (ps := ks.map (·.1)) (us := its) (by rw [List.map_map]; exact r)
    rw [this, List.map_map]; rfl
  refine call_set_tups ks (I1.ok.hd hc) pl.isList (by rw [ei]) (fun p hp => I1.isT (hk p hp)) hl hu fun h' tk L es ep t hS g hkp => ?_
  refine PyProof.Rows.args_nil ?_
  have I2 : Inv X pins σ H1 { s1 with heap := h', toks := tk } := I1.kept hkp
  obtain ⟨o, ho, hex, hd⟩ := hS.ob
  have hsz := SetTR.size (s := { s1 with heap := h' }) hS
  have g1 : ∀ p ∈ L, p ∈ ks := fun p hp => by have := g.sub p hp; rw [List.take_length] at this; exact this
  have g2 : ∀ p ∈ ks, p.2 ∈ L.map (·.2) := fun p hp => g.all p (by rw [List.take_length]; exact hp)
  have hlen : L.length ≤ ks.length := g.len
  have hll : (64 : Int) < sizeLine := by decide
  exact call_len_set ho hex hd (SetTR.fits (s := { s1 with heap := h' }) hS) (by rw [hsz]; omega) ⟨.int L.length, H1, I2.tok _, ⟨_, by rw [hsz]⟩, q1 L hS.nd g1 g2⟩
end
theorem nd_len {α : Type} [DecidableEq α] : ∀ {D xs : List α}, D.Nodup → (∀ x, x ∈ D → x ∈ xs) → D.length ≤ xs.length
  | [], xs, _, _ => Nat.zero_le _
  | d :: D, xs, hn, hs => by
    rw [List.nodup_cons] at hn
    have h1 : d ∈ xs := hs d List.mem_cons_self
    have h2 := nd_len (D := D) (xs := xs.erase d) hn.2 fun x hx => (List.mem_erase_of_ne (by intro e; subst e; exact hn.1 hx)).mpr (hs x (List.mem_cons_of_mem _ hx))
    rw [List.length_erase_of_mem h1] at h2
    have h3 := List.length_pos_of_mem h1
    rw [List.length_cons]
    omega
theorem nd_of_len {α : Type} [DecidableEq α] : ∀ {xs D : List α}, D.Nodup → (∀ x, x ∈ D → x ∈ xs) → (∀ x, x ∈ xs → x ∈ D) → D.length = xs.length → xs.Nodup
  | [], _, _, _, _, _ => List.nodup_nil
  | x :: t, D, hn, h1, h2, hl => by
    have hx : x ∉ t := fun hx => by
      have := nd_len (D := D) (xs := t) hn fun y hy => (List.mem_cons.mp (h1 y hy)).elim (fun e => e ▸ hx) id
      rw [hl, List.length_cons] at this
      omega
    have hD : x ∈ D := h2 x List.mem_cons_self
    rw [List.nodup_cons]
    refine ⟨hx, nd_of_len (D := D.erase x) (hn.erase x) (fun y hy => ?_) (fun y hy => ?_) ?_⟩
    · have := (List.Nodup.mem_erase_iff hn).mp hy
      exact (List.mem_cons.mp (h1 y this.2)).resolve_left this.1
    · exact (List.Nodup.mem_erase_iff hn).mpr ⟨fun e => hx (e ▸ hy), h2 y (List.mem_cons_of_mem _ hy)⟩
    · rw [List.length_erase_of_mem hD, hl]; rfl
section
variable {P : Program} {w : World} {K : PySem.W.Frag} {mg : Str → Option Value} {base : Heap} {lv : Nat} {N : List Str} {sc : Scope} {fn : Str → Bool}
variable {α β γ δ ρ ι : Type}
variable {c : Ctx P w K mg base lv N sc fn} {Γ : Gm} {e f a b ix : Expr} {es : List Expr} {pos pos' p px py pz pt : Pos} {T : Ty K α} {A : Ty K α} {B' : Ty K β}
/-- dict(list of pairs), text keys -/
theorem ew_dict (bi : Bi mg) {k : Gm → (Str → Option α) → Prop} (hg : glB sc "dict" = true) (h : EW c Γ a (tLst (tT2 tStr T)) fun Γ1 ps => k Γ1 (lastV ps)) (he : ∀ env, starEach [a] env = (false, eval a env) :: starEach [] env := by intro _; rfl) : EW c Γ (.Call (.Name "dict" p) [a] [] pos) (tDk T) k := fun B σ F H S Q q => by
  obtain ⟨X, rfl, rfl, rfl, rfl, rfl, rfl, nd, rfl, rfl, calm, room, pas⟩ := c
  refine of_pe (pe_callTy (T := "dict") (call_dictP calm) (glB_gl hg) bi.dict (by decide +kernel) (pa_cons peW pa_nil (he _)) (by decide +kernel) (by decide +kernel) (he _) rfl) (h B σ F H S _ fun v ps Γ1 F1 H1 S1 e1 r1 h1 => ?_)
  obtain ⟨l, vs, rfl, hl, hv⟩ := r1
  obtain ⟨as, kvs, rfl, i2, i3⟩ := pairs_at S1.sub hv
  refine ⟨l, as, _, rfl, .inl (.inl (S1.sub _ _ hl)), i2, fun d hd => ?_⟩
  have st := Step.frozen (o := .dK (mergeK [] (kvs.map fun kv => ((.inr kv.1 : Key), kv.2)))) S1.sub hd
  exact q _ _ Γ1 _ _ (S1.step st) (e1.trans st.ff) ⟨d, _, rfl, upd_same, fun s => (merge_last i3 [] none s trivial).mono st.ff⟩ h1
/-- table[key] -/
theorem ew_ixDk {k : Gm → α → Prop} (h : EW c Γ a (tDk T) fun Γ1 g => EW c Γ1 b tStr fun Γ2 s => ∃ x, g s = some x ∧ k Γ2 x) (hs : NoSl b := by intro _ _; rfl) : EW c Γ (.Subscript a b pos) T k := fun B σ F H S Q q => by
  obtain ⟨X, rfl, rfl, rfl, rfl, rfl, rfl, nd, rfl, rfl, calm, room, pas⟩ := c
  refine of_pe (pe_dget (hu_of room) peW peW hs) (h B σ F H S _ fun v g Γ1 F1 H1 S1 e1 r1 h1 => h1 B σ F1 H1 S1 _ fun u s Γ2 F2 H2 S2 e2 r2 ⟨x, hx, hk⟩ => ?_)
  obtain ⟨d, kvs, rfl, hd, ho⟩ := (tDk T).mono e2 r1
  obtain rfl : u = .str s := r2
  have := ho s
  rw [hx] at this
  cases z : valV kvs (.inr s) with
  | none => rw [z] at this; exact this.elim
  | some y =>
    rw [z] at this
    have g1 : DGet H2 d (kV (.inr s)) (valV kvs (.inr s)) := DGet.k (S2.sub _ _ hd)
    rw [z] at g1
    exact ⟨d, y, rfl, g1, q y x Γ2 F2 H2 S2 (e1.trans e2) this hk⟩
/-- (x,) + tuple -/
theorem ew_catH {k : Gm → α × List β → Prop} (h : EW c Γ a (tT1 A) fun Γ1 x => EW c Γ1 b (tTup B') fun Γ2 ys => ys.length + 1 ≤ sizeLine ∧ k Γ2 (x, ys)) : EW c Γ (.BinOp a .Add b pos) (tTail A B') k :=
  ew_bin (r := rCatT K) (fun hK => by rw [← hK]; exact op_catT) (h.imp fun _ x h => h.imp fun _ ys ⟨h1, h2⟩ => fun F H u v S hu hv Q q => by
    obtain ⟨p1, xs1, rfl, q1, x1, rfl, r1⟩ := hu
    obtain ⟨p2, xs2, rfl, q2, r2⟩ := hv
    have hl := All2.length r2
    refine ⟨p1, p2, [x1], xs2, rfl, rfl, sqT_mono S q1, sqT_mono S q2, by simp, by rw [List.length_cons, List.length_nil, hl]; omega, fun e => ?_, fun e d hd => ?_⟩
    · subst e
      exact q (.ref p1) F H (x, ys) (Step.refl S) ⟨p1, [x1], rfl, q1, x1, [], rfl, r1, r2⟩ h2
    · have st := Step.frozen (o := .tup ([x1] ++ xs2)) S hd
      exact q (.ref d) _ _ (x, ys) st ⟨d, _, rfl, .inl (.inl upd_same), x1, xs2, rfl, A.mono st.ff r1, All2.imp (fun _ _ => B'.mono st.ff) r2⟩ h2)
/-- a head and three of one kind are four -/
theorem as_tail4 {k : Gm → α × β × β × β → Prop} (h : EW c Γ e (tTail A B') fun Γ1 z => ∃ u v w, z.2 = [u, v, w] ∧ k Γ1 (z.1, u, v, w)) : EW c Γ e (tT4 A B' B' B') k := fun B σ F H S Q q =>
  h B σ F H S Q fun v z Γ1 F1 H1 S1 e1 r1 ⟨u, v', w, e, hk⟩ => by
    obtain ⟨p1, xs, rfl, hp, x, ys, rfl, r2, r3⟩ := r1
    rw [e] at r3
    match ys, r3 with
    | [y1, y2, y3], ⟨r4, r5, r6, _⟩ => exact q _ _ Γ1 F1 H1 S1 e1 ⟨p1, _, rfl, hp, x, y1, y2, y3, rfl, r2, r4, r5, r6⟩ hk
theorem tups_at {F H : Hp} (S : Same F H) : ∀ {vs : List V} {ns : List (List Int)}, All2 ((tTup (tInt (K := K))).r F) vs ns → ∃ ks : List (Addr × List Int), vs = ks.map (fun p => V.ref p.1) ∧ ks.map (·.2) = ns ∧ ∀ p ∈ ks, SqT K H p.1 (p.2.map V.int)
  | [], [], _ => ⟨[], rfl, rfl, fun p h => nomatch h⟩
  | v :: vs, n :: ns, hh => by
    obtain ⟨⟨a, xs, rfl, h1, hx⟩, h⟩ := hh
    obtain ⟨ks, rfl, i2, i3⟩ := tups_at S h
    have ex : xs = n.map V.int := All2.eq_map (fun _ _ r => r) hx
    refine ⟨(a, n) :: ks, rfl, by rw [List.map_cons, i2], fun p hp => ?_⟩
    rcases List.mem_cons.mp hp with rfl | hp
    · rw [← ex]; exact sqT_mono S h1
    · exact i3 p hp
/-- len(set(tuples of ints)) -/
theorem ew_lenSetT (bi : Bi mg) {p2 q2 : Pos} {k : Gm → Int → Prop} (hg : glB sc "len" = true) (hg2 : glB sc "set" = true) (h : EW c Γ a (tLst (tTup tInt)) fun Γ1 ns => ns.length < 64 ∧ ∀ n : Nat, (n = ns.length → ns.Nodup) → k Γ1 n) (he : ∀ env, starEach [a] env = (false, eval a env) :: starEach [] env := by intro _; rfl) : EW c Γ (.Call (.Name "len" p) [.Call (.Name "set" p2) [a] [] q2] [] pos) tInt k := fun B σ F H S Q q => by
  have hu : c.X.A.units + 3 < cLine := by have := c.room.un; omega
  obtain ⟨X, rfl, rfl, rfl, rfl, rfl, rfl, nd, rfl, rfl, calm, room, pas⟩ := c
  refine of_pe (pe_lenSetT hu (glB_gl hg) bi.len (glB_gl hg2) bi.set peW calm (he _)) (h B σ F H S _ fun v ns Γ1 F1 H1 S1 e1 ⟨l, vs, ev, hl, hr⟩ h1 => ?_)
  obtain ⟨ks, rfl, i2, i3⟩ := tups_at S1.sub hr
  have hkl : ks.length = ns.length := by rw [← i2, List.length_map]
  refine ⟨l, ks, ev, .inl (.inl (S1.sub _ _ hl)), i3, by rw [hkl]; exact h1.1, fun L l1 l2 l3 => ?_⟩
  refine q _ _ Γ1 F1 H1 S1 e1 rfl (h1.2 L.length fun hn => ?_)
  refine nd_of_len l1 (fun x hx => ?_) (fun x hx => ?_) (by rw [List.length_map]; exact hn)
  · obtain ⟨p, hp, rfl⟩ := List.mem_map.mp hx
    rw [← i2]; exact List.mem_map_of_mem (l2 p hp)
  · rw [← i2] at hx
    obtain ⟨p, hp, rfl⟩ := List.mem_map.mp hx
    exact l3 p hp
end
end Px
/-! Px, twenty-fifth part: max of a tuple of ints. -/
namespace Px
open PySem PySem.Spec PyProof.Rows L2
section
variable {prog : Program} {w : World} {A : Around} {E : Value → Shared → Prop} {s : Shared} {l : Addr} {its : List Value} {ns : List Int} {Q : Value → Shared → Prop}
theorem max_tup (hh : A.handled = none) (hl : s.heap.IsTuple l its.toArray) (hi : IntsAre its ns) (hne : 0 < ns.length)
    (h : ∀ h' tk M t', (∀ b o, s.heap.get? b = some o → h'.get? b = some o) → M ∈ ns → (∀ a, a ∈ ns → a ≤ M) → Q (.int M t') { s with heap := h', toks := tk }) : wpAny (model prog w) A (call (.builtin "max") [.ref l]) Q E s := by
  obtain ⟨xs, e⟩ := hi.allInts.items
  have hn : numsOf (intItems xs).toList = ns := by rw [← e]; exact hi.numsOf
  rw [nums_intItems] at hn
  subst hn
  rw [e] at hl
  have hsz : 0 < xs.size := by simpa using hne
  have hlt : l < s.heap.objs.size := by obtain ⟨_, q, _⟩ := hl; exact Heap.lt_size q
  refine call_max_walk (wpAny_pyIter_tuple hl ?_)
  refine ⟨s.heap.objs.size, _, _, _, _, _, _, rfl, Walks.tuple (A := A.in1) hh _ l (Nat.ne_of_lt hlt) (intItems xs), ⟨⟨_, Heap.get?_push_size _ rfl, rfl, rfl⟩, hl.push _⟩, fun b hb => ?_, by simpa [intItems] using hsz, CmpOf.ints_gt (numAt xs) (fun _ _ => intItems_at), fun v h' tk hP hk => ?_⟩
  · show b < (s.heap.push _).objs.size
    rw [Heap.size_push]
    rcases List.mem_cons.mp hb with rfl | hb
    · exact Nat.lt_succ_self _
    · obtain rfl : b = l := by simpa using hb
      exact Nat.lt_succ_of_lt hlt
  · have hP' : (intItems xs)[argBest (fun i j => decide (numAt xs i > numAt xs j)) (xs.size - 1)]? = some v := by simpa [intItems] using hP
    obtain ⟨t, rfl⟩ := intItems_at hP'
    obtain ⟨h1, h2⟩ := argBest_gt (numAt xs) (xs.size - 1)
    refine h h' tk _ t (fun b o q => hk b o (fun hm => ?_) (Heap.get?_push_of_some _ q)) ?_ fun a ha => ?_
    · obtain rfl : b = s.heap.objs.size := by simpa using hm
      exact Nat.lt_irrefl _ (Heap.lt_size q)
    · rw [numAt_eq]; exact PySem.getD_mem (by rw [List.length_map, Array.length_toList]; omega)
    · obtain ⟨j, hj, rfl⟩ := mem_getD ha
      rw [List.length_map, Array.length_toList] at hj
      rw [← numAt_eq]; exact h2 j (by omega)
end
theorem all2_one {α β : Type} {R : α → β → Prop} {b : β} : ∀ {vs : List α}, All2 R vs [b] → ∃ v, vs = [v] ∧ R v b
  | [], h => h.elim
  | [v], h => ⟨v, rfl, h.1⟩
  | _ :: _ :: _, h => h.2.elim
def rMaxT (K : PySem.W.Frag) : List V → Hp → VK → Prop := fun vs H Q => ∃ (a : Addr) (ns : List Int), vs = [V.ref a] ∧ SqT K H a (ns.map V.int) ∧ 0 < ns.length ∧ ∀ m, m ∈ ns → (∀ y, y ∈ ns → y ≤ m) → Q (.int m) H
theorem cr_maxT {X : Cx} (hc : X.calm = true) : CallR X (.builtin "max") (rMaxT X.K) := by
  intro pins s σ H vs us Q I r h
  obtain ⟨a, ns, rfl, hs, hne, q⟩ := h
  obtain ⟨its, rv, hl, _⟩ := I.tuple hs
  rw [Vals.ref1 r]
  exact max_tup (I.ok.hd hc) hl rv.ints hne fun h' tk m t' hk h1 h2 => ⟨.int _, H, I.kept hk, ⟨_, rfl⟩, q m h1 h2⟩
section
variable {P : Program} {w : World} {K : PySem.W.Frag} {mg : Str → Option Value} {base : Heap} {lv : Nat} {N : List Str} {sc : Scope} {fn : Str → Bool}
variable {c : Ctx P w K mg base lv N sc fn} {Γ : Gm} {a : Expr} {pos p : Pos}
/-- max(tuple of ints) -/
theorem ew_maxT (bi : Bi mg) {k : Gm → Int → Prop} (hg : glB sc "max" = true) (h : EW c Γ a (tTup tInt) fun Γ1 xs => 0 < xs.length ∧ ∀ m, m ∈ xs → (∀ y, y ∈ xs → y ≤ m) → k Γ1 m) (he : ∀ env, starEach [a] env = (false, eval a env) :: starEach [] env := by intro _; rfl) : EW c Γ (.Call (.Name "max" p) [a] [] pos) tInt k :=
  ew_B (id := "max") (i' := "max") (r := rMaxT K) (fun hK hc => by rw [← hK]; exact cr_maxT hc) hg bi.max (by decide +kernel) (ews_cons (h.imp fun _ xs hx => ews_nil fun F H vs S r Q q => by
      obtain ⟨v, rfl, h1⟩ := all2_one r
      obtain ⟨p, us, ev, hp, hu⟩ := h1
      have eu : us = xs.map V.int := All2.eq_map (fun _ _ r => r) hu
      subst eu
      exact ⟨p, xs, by rw [ev], sqT_mono S hp, hx.1, fun m h1 h2 => q _ F H m (Step.refl S) rfl (hx.2 m h1 h2)⟩) he) (he := he) (hpl := fun _ => rfl)
end
/-! ### "".join is one text behind the other -/
theorem glued_app : ∀ (ys : List Str) (acc : Array Nat) (z : Str), ((ys ++ [z]).foldl (fun acc p => acc ++ (#[] : Array Nat) ++ p.cps) acc) = (ys.foldl (fun acc p => acc ++ (#[] : Array Nat) ++ p.cps) acc) ++ z.cps := fun ys acc z => by
  rw [List.foldl_append]
  show _ ++ #[] ++ z.cps = _
  rw [Array.append_empty]
theorem join_snoc (ys : List Str) (z : Str) : Txt.join "" (ys ++ [z]) = Txt.join "" ys ++ z := by
  cases ys with
  | nil =>
    obtain ⟨a⟩ := z
    show (⟨a⟩ : Str) = ⟨#[] ++ a⟩
    rw [Array.empty_append]
  | cons y ys =>
    show (⟨(ys ++ [z]).foldl (fun acc p => acc ++ (#[] : Array Nat) ++ p.cps) y.cps⟩ : Str) = ⟨ys.foldl (fun acc p => acc ++ (#[] : Array Nat) ++ p.cps) y.cps ++ z.cps⟩
    rw [glued_app]
end Px
/-! Px, twenty-sixth part: an own dict of pairs whose values are own lists of ints; its walk; a law's own statements, at which all tuples may be frozen. -/
namespace Px
open PySem PySem.Spec PyProof.Rows L2
/-! ### freezing all tuples -/
def fzT (F H : Hp) : Hp := fun b => match H b with
  | some (.tup xs) => some (.tup xs)
  | _ => F b
theorem fzT_tup {F H : Hp} {b : Addr} {xs : List V} (h : H b = some (.tup xs)) : fzT F H b = some (.tup xs) := by
  unfold fzT
  rw [h]
theorem fzT_no {F H : Hp} {b : Addr} (h : ∀ xs, H b ≠ some (.tup xs)) : fzT F H b = F b := by
  unfold fzT
  split
  · rename_i xs e
    exact absurd e (h xs)
  · rfl
theorem fzT_ext {F H : Hp} (S : Same F H) : Same F (fzT F H) := fun b o e => by
  by_cases h : ∃ xs, H b = some (.tup xs)
  · obtain ⟨xs, h⟩ := h
    rw [fzT_tup h]
    have := S b o e
    rw [h] at this
    exact this
  · rw [fzT_no fun xs y => h ⟨xs, y⟩]; exact e
theorem fzT_sub {F H : Hp} (S : Same F H) : Same (fzT F H) H := fun b o e => by
  by_cases h : ∃ xs, H b = some (.tup xs)
  · obtain ⟨xs, h⟩ := h
    rw [fzT_tup h] at e
    rw [h]; exact e
  · rw [fzT_no fun xs y => h ⟨xs, y⟩] at e; exact S b o e
/-- what a slot owns is no tuple -/
def NT (e : Ent) : Prop := ∀ v ps F H, e.ok v ps F H → ∀ p, ps p → ∀ xs, H p ≠ some (.tup xs)
def NTs (Γ : Gm) : Prop := ∀ (i : Nat) (e : Ent), Γ[i]? = some (some e) → NT e
theorem nts_nil : NTs [] := fun i e h => by simp at h
theorem nts_none {Γ : Gm} (h : NTs Γ) : NTs (none :: Γ) := fun i e z => by
  cases i with
  | zero => cases z
  | succ i => exact h i e z
theorem nts_some {x : Ent} {Γ : Gm} (hx : NT x) (h : NTs Γ) : NTs (some x :: Γ) := fun i e z => by
  cases i with
  | zero => cases z; exact hx
  | succ i => exact h i e z
section
variable {K : PySem.W.Frag} {α : Type}
theorem nt_val {T : Ty K α} {a : α} : NT (val T a) := fun v ps F H h p hp => absurd hp (h.1 p)
theorem nt_ownL {T : Ty K α} {as : List α} : NT (ownL T as) := fun v ps F H ⟨p, vs, h1, h2, h3, h4⟩ q hq xs e => by
  obtain rfl := (h2 q).mp hq
  rw [h3] at e; cases e
theorem nt_drw {p : Addr} : NT (drw p) := fun v ps F H ⟨h1, h2, a, b, h3, _⟩ q hq xs e => by
  obtain rfl := (h2 q).mp hq
  rw [h3] at e; cases e
theorem nt_entT {t : TV K} {W : Addr} {q : Str} : NT (entT t W q) := fun v ps F H ⟨h1, h2, ps', h3, _⟩ p hp xs e => by
  obtain rfl := (h1 p).mp hp
  rw [h3] at e; cases e
end
def TupB (W : Addr) (B : Base) : Prop := (∀ p, ¬ B.pin p) ∧ (∀ b, B.vol b → b = W) ∧ ∀ b xs, B.H b = some (.tup xs) → B.F b = some (.tup xs)
theorem sta_fzT {K : PySem.W.Frag} {B : Base} {Γ : Gm} {σ : L2.St} {F H : Hp} {W : Addr} (S : Sta B Γ σ F H) (tB : TupB W B) (hn : NTs Γ) (hW : ∃ (j : Nat) (t : TV K) (q : Str), Γ[j]? = some (some (entT t W q))) : Sta B Γ σ (fzT F H) H := by
  have hWt : ∀ xs, H W ≠ some (.tup xs) := by
    obtain ⟨j, t, q, hj⟩ := hW
    obtain ⟨v, ps, hv, ho, _⟩ := S.get hj
    exact nt_entT v ps F H ho W ((ho.1 W).mpr rfl)
  obtain ⟨O, h1, h2, h3⟩ := S.own
  refine ⟨S.len, fzT_sub S.sub, S.ext.trans (fzT_ext S.sub), S.keep, S.dom, fun b n1 n2 => ?_, fun b z => absurd z (tB.1 b), fun i p => O i p ∧ ∃ e, Γ[i]? = some (some e), fun i p ⟨hp, e, he⟩ => ?_, fun i j p hp hq => h2 i j p hp.1 hq.1, fun i e he => ?_⟩
  · by_cases hv : B.vol b
    · rw [tB.2.1 b hv] at n1 n2 ⊢
      rw [fzT_no hWt]
      exact S.new W n1 n2
    · cases q : B.H b with
      | none => exact absurd q n1
      | some o =>
        have hb := S.keep b o q hv
        rw [fzT_no fun xs y => ?_]
        · exact S.new b n1 n2
        · rw [hb] at y
          cases y
          rw [tB.2.2 b xs q] at n2
          cases n2
  · obtain ⟨a1, a2, a3, a4⟩ := h1 i p hp
    obtain ⟨v, hv, ho, _⟩ := h3 i e he
    exact ⟨by rw [fzT_no (hn i e he v _ F H ho p hp)]; exact a1, a2, a3, a4⟩
  · obtain ⟨v, hv, ho, hz⟩ := h3 i e he
    refine ⟨v, hv, ?_, fun b p hp => hz b p hp.1⟩
    have e0 : (fun p => O i p ∧ ∃ e, Γ[i]? = some (some e)) = O i := by
      funext p
      exact propext ⟨fun h => h.1, fun h => ⟨h, e, he⟩⟩
    show e.ok v (fun p => O i p ∧ ∃ e, Γ[i]? = some (some e)) (fzT F H) H
    rw [e0]
    exact e.st ho (fzT_ext S.sub) fun _ _ => rfl
/-! ### the entries -/
def kvM (ad : Int × Int → Addr) (ks : List (Int × Int)) : List (List Key × V) := ks.map fun z => (pk z.1 z.2, V.ref (ad z))
theorem pk_pair {z y : Int × Int} (h : pk z.1 z.2 = pk y.1 y.2) : z = y := by
  obtain ⟨h1, h2⟩ := pk_inj h
  exact Prod.ext h1 h2
theorem kvM_get {ad : Int × Int → Addr} {z : Int × Int} : ∀ {ks : List (Int × Int)}, z ∈ ks → valV (kvM ad ks) (pk z.1 z.2) = some (.ref (ad z))
  | y :: ks, h => by
    show valV ((pk y.1 y.2, V.ref (ad y)) :: kvM ad ks) _ = _
    by_cases e : pk y.1 y.2 = pk z.1 z.2
    · rw [valV_pos (p := (pk y.1 y.2, V.ref (ad y))) e, pk_pair e]
    · rw [valV_neg (p := (pk y.1 y.2, V.ref (ad y))) e]
      refine kvM_get ((List.mem_cons.mp h).resolve_left fun y' => e (by rw [y']))
theorem kvM_put {ad : Int × Int → Addr} {z : Int × Int} {q : Addr} {ks : List (Int × Int)} (h : z ∉ ks) : putK (kvM ad ks) (pk z.1 z.2) (.ref q) = kvM (fun y => if y = z then q else ad y) (ks ++ [z]) := by
  unfold putK
  have hn : ((kvM ad ks).any fun kv => decide (kv.1 = pk z.1 z.2)) = false := by
    rw [List.any_eq_false]
    intro kv hkv
    obtain ⟨y, hy, rfl⟩ := List.mem_map.mp hkv
    intro e
    exact h (by rw [← pk_pair (of_decide_eq_true e)]; exact hy)
  rw [hn]
  show kvM ad ks ++ _ = kvM _ (ks ++ [z])
  unfold kvM
  rw [List.map_append]
  congr 1
  · refine List.map_congr_left fun y hy => ?_
    show (pk y.1 y.2, V.ref (ad y)) = (pk y.1 y.2, V.ref (if y = z then q else ad y))
    rw [if_neg (show ¬ y = z from by intro e; subst e; exact h hy)]
  · show _ = [(pk z.1 z.2, V.ref (if z = z then q else ad z))]
    rw [if_pos rfl]
structure Lsts (ks : List (Int × Int)) (s : Int → Int → List Int) (ad : Int × Int → Addr) (p : Addr) (H : Hp) : Prop where
  at' : ∀ z, z ∈ ks → H (ad z) = some (.lst ((s z.1 z.2).map V.int))
  ne : ∀ z, z ∈ ks → ad z ≠ p
  inj : ∀ z, z ∈ ks → ∀ y, y ∈ ks → ad z = ad y → z = y
def ownM (ks : List (Int × Int)) (s : Int → Int → List Int) : Ent :=
  ⟨fun v ps F H => ∃ (p : Addr) (ad : Int × Int → Addr), v = .ref p ∧ (∀ q, ps q ↔ q = p ∨ ∃ z, z ∈ ks ∧ q = ad z) ∧ H p = some (.dT (kvM ad ks)) ∧ Lsts ks s ad p H, false, false,
   fun ⟨p, ad, h1, h2, h3, h4⟩ e k => ⟨p, ad, h1, h2, by rw [k p ((h2 p).mpr (.inl rfl))]; exact h3, ⟨fun z hz => by rw [k _ ((h2 _).mpr (.inr ⟨z, hz, rfl⟩))]; exact h4.at' z hz, h4.ne, h4.inj⟩⟩, fun h => nomatch h⟩
theorem nt_ownM {ks : List (Int × Int)} {s : Int → Int → List Int} : NT (ownM ks s) := fun v ps F H ⟨p, ad, h1, h2, h3, h4⟩ q hq xs e => by
  rcases (h2 q).mp hq with rfl | ⟨z, hz, rfl⟩
  · rw [h3] at e; cases e
  · rw [h4.at' z hz] at e; cases e
/-- the dict itself locked and frozen, its keys frozen -/
def lokM (ks : List (Int × Int)) (s : Int → Int → List Int) : Ent :=
  ⟨fun v ps F H => ∃ (p : Addr) (ad : Int × Int → Addr) (od : Obj) (es : Array DictEntry) (ep : Nat), v = .ref p ∧ (∀ q, ps q ↔ ∃ z, z ∈ ks ∧ q = ad z) ∧ F p = some (.frz od (.dT (kvM ad ks))) ∧ od.data = .dict es ep ∧
     (∀ (i : Nat) (z : Int × Int), ks[i]? = some z → ∃ (en : DictEntry) (q : Addr), es[i]? = some en ∧ en.key = .ref q ∧ F q = some (.tup [.int z.1, .int z.2])) ∧ Lsts ks s ad p H, false, false,
   fun ⟨p, ad, od, es, ep, h1, h2, h3, h5, h6, h4⟩ e k => ⟨p, ad, od, es, ep, h1, h2, e _ _ h3, h5, fun i z hz => let ⟨en, q, a, b, c⟩ := h6 i z hz; ⟨en, q, a, b, e _ _ c⟩, ⟨fun z hz => by rw [k _ ((h2 _).mpr ⟨z, hz, rfl⟩)]; exact h4.at' z hz, h4.ne, h4.inj⟩⟩, fun h => nomatch h⟩
theorem sta_lock {B : Base} {Γ : Gm} {σ : L2.St} {F H : Hp} {i : Nat} {ks : List (Int × Int)} {s : Int → Int → List Int} {p : Addr} {od : Obj} {es : Array DictEntry} {ep : Nat} {kvs : List (List Key × V)} (S : Sta B Γ σ F H) (hx : Γ[i]? = some (some (ownM ks s))) (hB : ∀ p, ¬ B.loc p) (hpin : ∀ p, ¬ B.pin p)
    (hv : σ[i]? = some (some (.ref p))) (hp : H p = some (.dT kvs)) (hod : od.data = .dict es ep) (hk : ∀ (i : Nat) (k : List Key) (v : V), kvs[i]? = some (k, v) → ∃ (en : DictEntry) (q : Addr), es[i]? = some en ∧ en.key = .ref q ∧ F q = some (.tup (k.map kV))) :
    Sta B (Γ.set i (some (lokM ks s))) σ (upd F p (.frz od (.dT kvs))) (upd H p (.frz od (.dT kvs))) := by
  obtain ⟨O, h1, h2, h3⟩ := S.own
  obtain ⟨v, hv', ⟨p', ad, ev, hq, hp', hl⟩, hz⟩ := h3 i _ hx
  rw [hv] at hv'
  cases hv'
  obtain rfl : p = p' := V.ref.inj ev
  rw [hp] at hp'
  have ek : kvs = kvM ad ks := HO.dT.inj (Option.some.inj hp')
  subst ek
  have hil : i < Γ.length := (List.getElem?_eq_some_iff.mp hx).1
  have hO : O i p := (hq p).mpr (.inl rfl)
  have hF : F p = none := (h1 i p hO).1
  have hBp : B.H p = none := (hz rfl p hO).resolve_right (hB p)
  have ff : Same F (upd F p (.frz od (.dT (kvM ad ks)))) := same_new hF
  have ow : ∀ {j q}, O j q → j ≠ i → q ≠ p := fun {j q} hj hne e => hne (h2 j i q hj (e ▸ hO))
  refine ⟨by rw [List.length_set]; exact S.len, fun b o e => ?_, S.ext.trans ff, fun b o e n => ?_, fun b n => ?_, fun b n1 n2 => ?_, fun b z => absurd z (hpin b), fun j q => if j = i then ∃ z, z ∈ ks ∧ q = ad z else O j q, fun j q hj => ?_, fun j l q hj hl' => ?_, fun j x hj => ?_⟩
  · by_cases hb : b = p
    · rw [hb, upd_same] at e ⊢; exact e
    · rw [upd_ne hb] at e ⊢; exact S.sub b o e
  · rw [upd_ne (ne_of_none e hBp)]; exact S.keep b o e n
  · by_cases hb : b = p
    · rw [hb, upd_same]; exact fun y => nomatch y
    · rw [upd_ne hb]; exact S.dom b n
  · have hb : b ≠ p := fun z => n1 (by rw [z]; exact hBp)
    rw [upd_ne hb]; exact S.new b n1 n2
  · by_cases hji : j = i
    · simp only [hji, if_true] at hj
      obtain ⟨z, hz', rfl⟩ := hj
      obtain ⟨a1, a2, a3, a4⟩ := h1 i (ad z) ((hq _).mpr (.inr ⟨z, hz', rfl⟩))
      exact ⟨by rw [upd_ne (hl.ne z hz')]; exact a1, by rw [upd_ne (hl.ne z hz')]; exact a2, a3, a4⟩
    · simp only [hji, if_false] at hj
      obtain ⟨a1, a2, a3, a4⟩ := h1 j q hj
      exact ⟨by rw [upd_ne (ow hj hji)]; exact a1, by rw [upd_ne (ow hj hji)]; exact a2, a3, a4⟩
  · by_cases hji : j = i
    · by_cases hli : l = i
      · rw [hji, hli]
      · simp only [hji, if_true] at hj
        simp only [hli, if_false] at hl'
        obtain ⟨z, hz', rfl⟩ := hj
        exact absurd (h2 l i _ hl' ((hq _).mpr (.inr ⟨z, hz', rfl⟩))) hli
    · by_cases hli : l = i
      · simp only [hji, if_false] at hj
        simp only [hli, if_true] at hl'
        obtain ⟨z, hz', rfl⟩ := hl'
        exact absurd (h2 j i _ hj ((hq _).mpr (.inr ⟨z, hz', rfl⟩))) hji
      · simp only [hji, if_false] at hj
        simp only [hli, if_false] at hl'
        exact h2 j l q hj hl'
  · by_cases hji : j = i
    · subst hji
      rw [List.getElem?_set_self hil] at hj
      cases hj
      refine ⟨.ref p, hv, ?_, fun _ q hq' => ?_⟩
      · simp only [if_true]
        refine ⟨p, ad, od, es, ep, rfl, fun q => Iff.rfl, upd_same, hod, fun n z hn => ?_, fun z hz' => by rw [upd_ne (hl.ne z hz')]; exact hl.at' z hz', hl.ne, hl.inj⟩
        obtain ⟨en, q, e1, e2, e3⟩ := hk n (pk z.1 z.2) (.ref (ad z)) (by unfold kvM; rw [List.getElem?_map, hn]; rfl)
        exact ⟨en, q, e1, e2, ff _ _ e3⟩
      · simp only [if_true] at hq'
        obtain ⟨z, hz', rfl⟩ := hq'
        exact hz rfl _ ((hq _).mpr (.inr ⟨z, hz', rfl⟩))
    · rw [List.getElem?_set_ne (Ne.symm hji)] at hj
      obtain ⟨u, hu, ho, hw⟩ := h3 j x hj
      refine ⟨u, hu, ?_, fun b q hq' => ?_⟩
      · simp only [hji, if_false]
        exact x.st ho ff fun q hq' => upd_ne (ow hq' hji)
      · simp only [hji, if_false] at hq'
        exact hw b q hq'
/-! ### the walk of the locked dict -/
def ItK (d : Addr) (o : Obj) (kvs : List (List Key × V)) (es : Array DictEntry) : It :=
  ⟨fun i H => H d = some (.frz o (.dT kvs)) ∧ i < kvs.length, fun i H x H' => H' = H ∧ ∃ (en : DictEntry) (q : Addr), es[i]? = some en ∧ en.key = .ref q ∧ x = .ref q, fun i H => H d = some (.frz o (.dT kvs)) ∧ kvs.length ≤ i⟩
theorem turn_keysK {P : Program} {w : World} {K : PySem.W.Frag} {tg : Expr} {d : Addr} {o : Obj} {es : Array DictEntry} {ep : Nat} {kvs : List (List Key × V)} (it : Addr) (hod : o.data = .dict es ep) : Turn P w K tg (ItK d o kvs es) [it] it (fun i h => h.IsKeyIter it d i kvs.length ep) where
  mem := by simp
  obj := fun i h st b hb => by
    have e : b = it := by simpa using hb
    subst e
    obtain ⟨oi, e, c, dd⟩ := st
    exact ⟨oi, e, fun v z => by rw [dd] at z; cases z⟩
  keep := fun i h h' st k => st.at fun oi e => k it (by simp) oi e
  item := by
    intro X hP hw hK hc i pins s σ H E I hf st hg
    subst hP hw hK
    obtain ⟨hd, hi⟩ := hg
    obtain ⟨f0, f1, f2, f3, f4, f5⟩ := hf it (by simp)
    obtain ⟨hs, hgd, hx, es', ep', hdt, hsz, ent⟩ := I.frzT hd
    obtain ⟨rfl, rfl⟩ := dict_ep hod hdt
    obtain ⟨⟨k, v⟩, hkv⟩ : ∃ p, kvs[i]? = some p := ⟨kvs[i], List.getElem?_eq_getElem hi⟩
    obtain ⟨en, q, hen, hkey, hq⟩ := ent i k v hkv
    refine next_key_item st hgd hdt hsz hen fun h' st' sb => ?_
    have I1 : Inv X pins σ H { s with heap := h' } := I.turned (t' := s.toks) (fun b ob hb e => (sb.2 b hb).trans e) f0 f1 f3 f4 f5
    obtain ⟨oi, e, c, dd⟩ := id st'
    exact ⟨en.key, rfl, go_of (s := { s with heap := h' }) e c dd (by decide) ⟨.ref q, H, I1, hkey, ⟨rfl, en, q, hen, hkey, rfl⟩, st', fun b hb => (hf b hb).1⟩⟩
  done := by
    intro X hP hw hK hc i pins s σ H E I hf st hg
    subst hP hw hK
    obtain ⟨hd, hi⟩ := hg
    obtain ⟨f0, f1, f2, f3, f4, f5⟩ := hf it (by simp)
    obtain ⟨hs, hgd, hx, es', ep', hdt, hsz, ent⟩ := I.frzT hd
    obtain ⟨rfl, rfl⟩ := dict_ep hod hdt
    exact next_key_end (I.ok.hd hc) st hgd hdt hsz hi fun h' eb => ⟨rfl, I.turned (t' := s.toks) (fun b ob hb e => eb b ob hb e) f0 f1 f3 f4 f5⟩
  self := fun A i s Q E st h => (turn_keysT (P := P) (w := w) (K := K) (tg := tg) it hod).self A i s Q E st h
theorem pi_keysK {X : Cx} {tg e : Expr} {td : TE} (he : PE X e td) : PI X tg e (fun σ H R => td σ H fun x H1 => ∃ (d : Addr) (o : Obj) (kvs : List (List Key × V)) (es : Array DictEntry) (ep : Nat), x = .ref d ∧ H1 d = some (.frz o (.dT kvs)) ∧ o.data = .dict es ep ∧ R (ItK d o kvs es) H1) := by
  refine ⟨fun pins s σ H R I h => ?_⟩
  refine thn (he.run pins s σ H _ I h) fun u s1 ⟨x, H1, I1, rx, d, o, kvs, es, ep, ex, hd, hod, q⟩ => ?_
  subst ex
  obtain rfl : u = Value.ref d := rx
  obtain ⟨hs, hgd, hx, es', ep', hdt, hsz, ent⟩ := I1.frzT hd
  obtain ⟨rfl, rfl⟩ := dict_ep hod hdt
  refine iter_keys hs hgd hx hdt (pi_one (tk := s1.toks) I1 _ (turn_keysK _ hdt) ⟨_, Heap.get?_push_size _ rfl, rfl, ?_⟩ q)
  rw [hsz] <;> rfl
/-! ### rules -/
section
variable {P : Program} {w : World} {K : PySem.W.Frag} {mg : Str → Option Value} {base : Heap} {lv : Nat} {N : List Str} {sc : Scope} {fn : Str → Bool}
variable {α ρ : Type} {c : Ctx P w K mg base lv N sc fn} {Γ : Gm} {e ix tg : Expr} {pos pos' px py pz pt pl : Pos} {R : Rs ρ} {rt : Gm → ρ → Prop} {nx bk ct : Gm → Prop} {ks : List (Int × Int)} {s : Int → Int → List Int}
/-- x = {} -/
theorem w_newM {i : Nat} {x : Str} {pd : Pos} (hs : slotOf N x 0 = some i) (hv : locB sc fn x = true) (h : i < Γ.length ∧ nx (Γ.set i (some (ownM [] s)))) (hsw : ∀ env, swapsWith (.Dict [] [] pd) (some (.Name x pos')) pos.line env = pure false := by intro _; rfl) :
    S1 c Γ (.Assign [.Name x pos'] (.Dict [] [] pd) pos) (⟨R, rt, nx, bk, ct⟩ : En ρ) := fun B σ F H hB S => by
  have hN := c.hN
  have hsc := c.hsc
  have hfn := c.hfn
  have hl := locB_loc hv
  refine of_ps (ps_set (i := i) (by rw [hN]; exact c.nd) (by rw [hN]; exact slotOf_at hs) (by rw [hsc]; exact hl.1) pe_dnewT (hsw _) (by rw [hsc, hfn]; exact hl.2)) ?_
  intro p hp
  obtain ⟨S1, b1, b2, b3⟩ := S.make (o := .dT []) hp
  exact ⟨Γ.set i (some (ownM [] s)), F, S1.take h.1 ⟨p, fun _ => 0, rfl, fun q => by simp, upd_same, ⟨(fun z hz => nomatch hz), (fun z hz => nomatch hz), (fun z hz => nomatch hz)⟩⟩ b3 (by rw [upd_same]; exact fun z => nomatch z) b1 b2, h.2⟩
/-- x[a, b] = [0, 0, 0] -/
theorem w_put0 {i j l : Nat} {x a b : Str} {r d : Int} {kt j1 j2 j3} {pa pb p1 p2 p3 : Pos} (hs : slotOf N x 0 = some i) (hv : visB sc x = true) (hx : Γ[i]? = some (some (ownM ks s))) (hsa : slotOf N a 0 = some j) (hva : visB sc a = true) (hga : Γ[j]? = some (some (val (K := K) tInt r)))
    (hsb : slotOf N b 0 = some l) (hvb : visB sc b = true) (hgb : Γ[l]? = some (some (val (K := K) tInt d))) (hnew : (r, d) ∉ ks) (hlen : ks.length < 10000) (hs0 : s r d = [0, 0, 0]) (h : nx (Γ.set i (some (ownM (ks ++ [(r, d)]) s))))
    (hd : (x == ("__debug__" : Str)) = false := by decide +kernel) (hcd : (x == ("__classdict__" : Str)) = false := by decide +kernel) (hda : (a == ("__debug__" : Str)) = false := by decide +kernel) (hca : (a == ("__classdict__" : Str)) = false := by decide +kernel) (hdb : (b == ("__debug__" : Str)) = false := by decide +kernel) (hcb : (b == ("__classdict__" : Str)) = false := by decide +kernel)
    (hsw : ∀ env, swapsWith (.List [.Constant (.int 0) j1 p1, .Constant (.int 0) j2 p2, .Constant (.int 0) j3 p3] pl) (some (.Subscript (.Name x px) (.Tuple [.Name a pa, .Name b pb] kt pt) pos')) pos.line env = pure false := by intro _; rfl)
    (he1 : ∀ env, starEach [.Constant (.int 0) j1 p1, .Constant (.int 0) j2 p2, .Constant (.int 0) j3 p3] env = (false, eval (.Constant (.int 0) j1 p1) env) :: starEach [.Constant (.int 0) j2 p2, .Constant (.int 0) j3 p3] env := by intro _; rfl) (he2 : ∀ env, starEach [.Constant (.int 0) j2 p2, .Constant (.int 0) j3 p3] env = (false, eval (.Constant (.int 0) j2 p2) env) :: starEach [.Constant (.int 0) j3 p3] env := by intro _; rfl) (he3 : ∀ env, starEach [.Constant (.int 0) j3 p3] env = (false, eval (.Constant (.int 0) j3 p3) env) :: starEach [] env := by intro _; rfl)
    (hf1 : ∀ env, starEach [.Name a pa, .Name b pb] env = (false, eval (.Name a pa) env) :: starEach [.Name b pb] env := by intro _; rfl) (hf2 : ∀ env, starEach [.Name b pb] env = (false, eval (.Name b pb) env) :: starEach [] env := by intro _; rfl) :
    S1 c Γ (.Assign [.Subscript (.Name x px) (.Tuple [.Name a pa, .Name b pb] kt pt) pos'] (.List [.Constant (.int 0) j1 p1, .Constant (.int 0) j2 p2, .Constant (.int 0) j3 p3] pl) pos) (⟨R, rt, nx, bk, ct⟩ : En ρ) := fun B σ F H hB S => by
  obtain ⟨X, rfl, rfl, rfl, rfl, rfl, rfl, nd, rfl, rfl, calm, room, pas⟩ := c
  refine of_ps (ps_dput (hu_of room) (pe_var (slotOf_at hs) (visB_vis hv) hd hcd) (pe_tup (pa_cons (pe_var (slotOf_at hsa) (visB_vis hva) hda hca) (pa_cons (pe_var (slotOf_at hsb) (visB_vis hvb) hdb hcb) pa_nil (hf2 _)) (hf1 _))) (pe_lst (pa_cons pe_int (pa_cons pe_int (pa_cons pe_int pa_nil (he3 _)) (he2 _)) (he1 _))) (hsw _)) ?_
  obtain ⟨v0, ps0, hv0, ⟨p, ad, rfl, hq, hp, hl⟩, own0⟩ := S.get hx
  obtain ⟨va, _, hva1, ⟨_, rfl⟩, _⟩ := S.get hga
  obtain ⟨vb, _, hvb1, ⟨_, rfl⟩, _⟩ := S.get hgb
  refine ⟨by show 3 ≤ sizeLine; decide, fun q hqn => ⟨_, hv0, _, hva1, _, hvb1, (by show 2 ≤ sizeLine; decide), fun t ht => ?_⟩⟩
  have hpq : p ≠ q := fun z => by rw [z, hqn] at hp; cases hp
  have hqt : t ≠ q := fun z => by rw [z, upd_same] at ht; cases ht
  have htH : H t = none := by rw [upd_ne hqt] at ht; exact ht
  have hpt : p ≠ t := fun z => by rw [z, htH] at hp; cases hp
  have hFt : F t = none := S.sub.free htH
  have hFq : F q = none := S.sub.free hqn
  have hsz : 10000 < sizeLine := by decide
  have hp3 : upd (upd H q (.lst [.int 0, .int 0, .int 0])) t (.tup [.int r, .int d]) p = some (.dT (kvM ad ks)) := by rw [upd_ne hpt, upd_ne hpq]; exact hp
  refine ⟨p, _, rfl, DPut.t (k := pk r d) hp3 upd_same (by unfold kvM; rw [List.length_map]; omega), _, upd F t (.tup [.int r, .int d]), S.own_upd (e' := ownM (ks ++ [(r, d)]) s) (F' := upd F t (.tup [.int r, .int d])) hx rfl fun v3 ps3 hv3 ⟨p3, ad3, e3, hq3, hp3', hl3⟩ own3 => ?_, h⟩
  rw [hv0] at hv3
  have ev := Option.some.inj (Option.some.inj hv3)
  rw [e3] at ev
  obtain rfl : p = p3 := V.ref.inj ev
  have ek : kvM ad ks = kvM ad3 ks := HO.dT.inj (Option.some.inj (hp.symm.trans hp3'))
  rw [ek]
  have hput := kvM_put (ad := ad3) (q := q) hnew
  show ∃ ps', _
  have hne : ∀ z, z ∈ ks → ad3 z ≠ q := fun z hz e => by have := hl3.at' z hz; rw [e, hqn] at this; cases this
  have hnt : ∀ z, z ∈ ks → ad3 z ≠ t := fun z hz e => by have := hl3.at' z hz; rw [e, htH] at this; cases this
  have hin : ∀ z, z ∈ ks → (if z = (r, d) then q else ad3 z) = ad3 z := fun z hz => if_neg (by intro e; subst e; exact hnew hz)
  refine ⟨fun u => ps3 u ∨ u = q, fun b o y => ?_, same_new hFt, fun b o hb nb => ?_, fun b nb => ?_, fun b n1 n2 => ?_, fun u hu => ?_, p, fun z => if z = (r, d) then q else ad3 z, e3, fun u => ?_, by rw [upd_same]; exact congrArg (fun k => some (HO.dT k)) hput, ⟨fun z hz => ?_, fun z hz => ?_, fun z hz y hy e => ?_⟩⟩
  · by_cases hb : b = t
    · rw [hb, upd_same] at y
      rw [hb, upd_ne hpt.symm, upd_same]; exact y
    · rw [upd_ne hb] at y
      have hbp : b ≠ p := fun z => by rw [z, (own3 p ((hq3 p).mpr (.inl rfl))).1] at y; cases y
      rw [upd_ne hbp, upd_ne hb, upd_ne (ne_of_none y hFq)]; exact S.sub b o y
  · have hbp : b ≠ p := fun z => nb ((hq3 b).mpr (.inl z))
    rw [upd_ne hbp, upd_ne (ne_of_none hb htH), upd_ne (ne_of_none hb hqn)]; exact hb
  · by_cases hbp : b = p
    · rw [hbp, upd_same]; exact fun z => nomatch z
    · have h1 : b ≠ t := fun z => nb (by rw [z]; exact htH)
      have h2 : b ≠ q := fun z => nb (by rw [z]; exact hqn)
      rw [upd_ne hbp, upd_ne h1, upd_ne h2]; exact nb
  · rw [upd_ne fun z => n1 (by rw [z]; exact htH)]; exact n2
  · rcases hu with hu | rfl
    · obtain ⟨a1, a2, a3, a4⟩ := own3 u hu
      refine ⟨.inl hu, by rw [upd_ne fun z => a2 (by rw [z]; exact htH)]; exact a1, ?_, a4⟩
      by_cases hbp : u = p
      · rw [hbp, upd_same]; exact fun z => nomatch z
      · have h1 : u ≠ t := fun z => a2 (by rw [z]; exact htH)
        have h2 : u ≠ q := fun z => a2 (by rw [z]; exact hqn)
        rw [upd_ne hbp, upd_ne h1, upd_ne h2]; exact a2
    · refine ⟨.inr hqn, by rw [upd_ne hqt.symm]; exact hFq, by rw [upd_ne hpq.symm, upd_ne hqt.symm, upd_same]; (exact fun z => nomatch z), fun z => (S.pnd _ z).1 hqn⟩
  · constructor
    · rintro (hu | rfl)
      · rcases (hq3 u).mp hu with rfl | ⟨z, hz, rfl⟩
        · exact .inl rfl
        · exact .inr ⟨z, List.mem_append_left _ hz, (hin z hz).symm⟩
      · exact .inr ⟨(r, d), List.mem_append_right _ List.mem_cons_self, (if_pos rfl).symm⟩
    · rintro (rfl | ⟨z, hz, rfl⟩)
      · exact .inl ((hq3 u).mpr (.inl rfl))
      · rcases List.mem_append.mp hz with hz | hz
        · exact .inl ((hq3 _).mpr (.inr ⟨z, hz, hin z hz⟩))
        · obtain rfl := List.mem_singleton.mp hz
          exact .inr (if_pos rfl)
  · rcases List.mem_append.mp hz with hz | hz
    · rw [hin z hz, upd_ne (hl3.ne z hz), upd_ne (hnt z hz), upd_ne (hne z hz)]
      exact hl3.at' z hz
    · obtain rfl := List.mem_singleton.mp hz
      rw [if_pos rfl, upd_ne hpq.symm, upd_ne hqt.symm, upd_same, hs0]
      rfl
  · rcases List.mem_append.mp hz with hz | hz
    · rw [hin z hz]; exact hl3.ne z hz
    · obtain rfl := List.mem_singleton.mp hz
      rw [if_pos rfl]; exact hpq.symm
  · rcases List.mem_append.mp hz with hz | hz
    · rw [hin z hz] at e
      rcases List.mem_append.mp hy with hy | hy
      · rw [hin y hy] at e; exact hl3.inj z hz y hy e
      · obtain rfl := List.mem_singleton.mp hy
        rw [if_pos rfl] at e
        exact absurd e (hne z hz)
    · obtain rfl := List.mem_singleton.mp hz
      rw [if_pos rfl] at e
      rcases List.mem_append.mp hy with hy | hy
      · rw [hin y hy] at e
        exact absurd e.symm (hne y hy)
      · exact (List.mem_singleton.mp hy).symm
/-- for .. in x, x locked -/
theorem iw_lokM {i : Nat} {x : Str} {k : Gm → List (Int × Int) → Prop} (hs : slotOf N x 0 = some i) (hv : visB sc x = true) (hx : Γ[i]? = some (some (lokM ks s))) (h : k Γ ks) (hd : (x == ("__debug__" : Str)) = false := by decide +kernel) (hcd : (x == ("__classdict__" : Str)) = false := by decide +kernel) : IW c Γ tg (.Name x px) tPr k := fun B σ F H S Q q => by
  obtain ⟨X, rfl, rfl, rfl, rfl, rfl, rfl, nd, rfl, rfl, calm, room, pas⟩ := c
  obtain ⟨v, ps, hv1, ⟨p, ad, od, es, ep, rfl, hq, hp, hod, hk, hl⟩, own⟩ := S.get hx
  refine of_pi (pi_keysK (pe_var (slotOf_at hs) (visB_vis hv) hd hcd)) ⟨_, hv1, p, od, _, es, ep, rfl, S.sub _ _ hp, hod, q _ ks Γ F H S (Same.refl _) ⟨fun i F1 H1 s1 s2 hi => ⟨s2 _ _ (s1 _ _ hp), by unfold kvM; rw [List.length_map]; exact hi⟩, fun i F1 H1 s1 s2 hi => ⟨s2 _ _ (s1 _ _ hp), by unfold kvM; rw [List.length_map]; exact hi⟩, fun i F1 H1 y H2 s1 s2 ⟨e2, en, u, h1, h2, h3⟩ z hz => ?_⟩ h⟩
  subst e2
  obtain ⟨en', u', g1, g2, g3⟩ := hk i z hz
  rw [h1] at g1
  obtain rfl : en = en' := Option.some.inj g1
  rw [h2] at g2
  obtain rfl : u = u' := Value.ref.inj g2
  exact ⟨F1, Step.refl s2, u, h3, s1 _ _ g3⟩
/-- x[pair][y] -/
theorem ew_getLk {i l : Nat} {x y : Str} {k : Gm → Int → Prop} (hs : slotOf N x 0 = some i) (hv : visB sc x = true) (hx0 : ∃ ks s, Γ[i]? = some (some (lokM ks s))) (hsy : slotOf N y 0 = some l) (hvy : visB sc y = true)
    (h : EW c Γ ix (tPr (K := K)) fun Γ1 z => Γ1[i]? = some (some (lokM ks s)) ∧ z ∈ ks ∧ ∃ n u, Γ1[l]? = some (some (val (K := K) tInt n)) ∧ atI (s z.1 z.2) n = some u ∧ k Γ1 u) (hns : NoSl ix := by intro _ _; rfl) (hp : PlainIx (.Name y py) := by intro _ _; rfl)
    (hd : (x == ("__debug__" : Str)) = false := by decide +kernel) (hcd : (x == ("__classdict__" : Str)) = false := by decide +kernel) (hdy : (y == ("__debug__" : Str)) = false := by decide +kernel) (hcy : (y == ("__classdict__" : Str)) = false := by decide +kernel) : EW c Γ (.Subscript (.Subscript (.Name x px) ix pt) (.Name y py) pos) tInt k := fun B σ F H S Q q => by
  obtain ⟨X, rfl, rfl, rfl, rfl, rfl, rfl, nd, rfl, rfl, calm, room, pas⟩ := c
  refine of_pe (pe_ix ix_list (pe_dget (hu_of room) (pe_var (slotOf_at hs) (visB_vis hv) hd hcd) peW hns) (pe_var (slotOf_at hsy) (visB_vis hvy) hdy hcy) hp) ?_
  obtain ⟨ks0, s0, hx0⟩ := hx0
  obtain ⟨v0, ps0, hv0, ⟨p0, _, _, _, _, rfl, _⟩, _⟩ := S.get hx0
  refine ⟨_, hv0, h B σ F H S _ fun v z Γ1 F1 H1 S1 e1 r1 ⟨hx, hz, n, u, hn, hu, hk⟩ => ?_⟩
  obtain ⟨v1, ps, hv1, ⟨p, ad, od, es, ep, ev, hq, hp1, hod, hky, hl⟩, own⟩ := S1.get hx
  rw [hv0] at hv1
  have ev' := Option.some.inj (Option.some.inj hv1)
  rw [ev] at ev'
  obtain rfl : p0 = p := V.ref.inj ev'
  obtain ⟨b, rfl, hb⟩ := r1
  obtain ⟨vn, _, hvn, ⟨_, rfl⟩, _⟩ := S1.get hn
  obtain ⟨t, ht, rt'⟩ := all2_at (all2_ints (K := X.K) F1 (s z.1 z.2)) hu
  obtain rfl : t = .int u := rt'
  refine ⟨p0, .ref (ad z), rfl, .inr ⟨_, pk z.1 z.2, b, .inr ⟨od, S1.sub _ _ hp1⟩, rfl, S1.sub _ _ hb, (kvM_get hz).symm⟩, _, hvn, ad z, _, n, _, rfl, rfl, .inl (.inl (hl.at' z hz)), ht, q _ u Γ1 F1 H1 S1 e1 rfl hk⟩
/-- x[pair][y] = e -/
theorem w_setLk {i l : Nat} {x y : Str} (hs : slotOf N x 0 = some i) (hv : visB sc x = true) (hx0 : ∃ ks s, Γ[i]? = some (some (lokM ks s))) (hsy : slotOf N y 0 = some l) (hvy : visB sc y = true)
    (h : EW c Γ e (tInt (K := K)) fun Γ0 u => EW c Γ0 ix (tPr (K := K)) fun Γ1 z => Γ1[i]? = some (some (lokM ks s)) ∧ z ∈ ks ∧ ∃ n j, Γ1[l]? = some (some (val (K := K) tInt n)) ∧ ixN (s z.1 z.2).length n = some j ∧ nx (Γ1.set i (some (lokM ks (fun r d => if r = z.1 ∧ d = z.2 then (s r d).set j u else s r d)))))
    (hns : NoSl ix := by intro _ _; rfl) (hd : (x == ("__debug__" : Str)) = false := by decide +kernel) (hcd : (x == ("__classdict__" : Str)) = false := by decide +kernel) (hdy : (y == ("__debug__" : Str)) = false := by decide +kernel) (hcy : (y == ("__classdict__" : Str)) = false := by decide +kernel)
    (hs1 : ∀ env, swapsWithSole [.Subscript (.Subscript (.Name x px) ix pz) (.Name y py) pt] e pos.line env = pure false := by intro _; rfl) (hw : ∀ env, swappedStores [.Subscript (.Subscript (.Name x px) ix pz) (.Name y py) pt] e env = pure none := by intro _; rfl)
    (ha : ∀ env v, assign (.Subscript (.Subscript (.Name x px) ix pz) (.Name y py) pt) env v = (do
      let ov ← holding [v] (eval (.Subscript (.Name x px) ix pz) env)
      let iv ← holding [v, ov] (eval (.Name y py) env)
      standAt pt
      holding [v, ov, iv] (setItem ov iv v)
      release [v, ov, iv] []) := by intro _ _; rfl) :
    S1 c Γ (.Assign [.Subscript (.Subscript (.Name x px) ix pz) (.Name y py) pt] e pos) (⟨R, rt, nx, bk, ct⟩ : En ρ) := fun B σ F H hB S => by
  obtain ⟨X, rfl, rfl, rfl, rfl, rfl, rfl, nd, rfl, rfl, calm, room, pas⟩ := c
  refine of_ps (ps_asg peW (pg_sub (pe_dget (hu_of room) (pe_var (slotOf_at hs) (visB_vis hv) hd hcd) peW hns) (pe_var (slotOf_at hsy) (visB_vis hvy) hdy hcy) set_list (ha _)) (hs1 _) (hw _)) ?_
  obtain ⟨ks0, s0, hx0⟩ := hx0
  obtain ⟨v0, ps0, hv0, ⟨p0, _, _, _, _, rfl, _⟩, _⟩ := S.get hx0
  refine h B σ F H S _ fun ve u Γ0 F0 H0 S0 e0 r0 h1 => ⟨_, hv0, h1 B σ F0 H0 S0 _ fun v z Γ1 F1 H1 S1 e1 r1 ⟨hx, hz, n, j, hn, hj, hk⟩ => ?_⟩
  obtain rfl : ve = .int u := r0
  obtain ⟨v1, ps, hv1, ⟨p, ad, od, es, ep, ev, hq, hp1, hod, hky, hl⟩, own⟩ := S1.get hx
  have hv1' := hv1
  rw [hv0] at hv1'
  have ev' := Option.some.inj (Option.some.inj hv1')
  rw [ev] at ev'
  obtain rfl : p0 = p := V.ref.inj ev'
  obtain ⟨b, rfl, hb⟩ := r1
  obtain ⟨vn, _, hvn, ⟨_, rfl⟩, _⟩ := S1.get hn
  have hat := hl.at' z hz
  refine ⟨p0, .ref (ad z), rfl, .inr ⟨_, pk z.1 z.2, b, .inr ⟨od, S1.sub _ _ hp1⟩, rfl, S1.sub _ _ hb, (kvM_get hz).symm⟩, _, hvn, ad z, _, n, j, rfl, rfl, hat, by rw [List.length_map]; exact hj, _, F1, S1.own_upd (F' := F1) (e' := lokM ks (fun r d => if r = z.1 ∧ d = z.2 then (s r d).set j u else s r d)) hx rfl fun v3 ps3 hv3 ⟨p3, ad3, od3, es3, ep3, e3, hq3, hp3, hod3, hky3, hl3⟩ own3 => ?_, hk⟩
  rw [hv0] at hv3
  have ev3 := Option.some.inj (Option.some.inj hv3)
  rw [e3] at ev3
  obtain rfl : p0 = p3 := V.ref.inj ev3
  have ek : kvM ad ks = kvM ad3 ks := by
    rw [hp1] at hp3
    have h9 := HO.frz.inj (Option.some.inj hp3)
    exact HO.dT.inj h9.2
  have eaz : ad z = ad3 z := by
    have h1 := kvM_get (ad := ad) hz
    rw [ek, kvM_get hz] at h1
    exact (V.ref.inj (Option.some.inj h1)).symm
  rw [eaz]
  have o3 := own3 (ad3 z) ((hq3 _).mpr ⟨z, hz, rfl⟩)
  refine ⟨ps3, fun b o q => by rw [upd_ne (ne_of_none q o3.1)]; exact S1.sub b o q, Same.refl _, fun b o q nb => by rw [upd_ne fun y => nb ((hq3 b).mpr ⟨z, hz, y⟩)]; exact q, fun b nb => ?_, fun _ _ n2 => n2, fun b hb' => ?_, p0, ad3, od3, es3, ep3, e3, hq3, hp3, hod3, hky3, ⟨fun y hy => ?_, hl3.ne, hl3.inj⟩⟩
  · by_cases y : b = ad3 z
    · rw [y, upd_same]; exact fun y => nomatch y
    · rw [upd_ne y]; exact nb
  · obtain ⟨a1, a2, a3, a4⟩ := own3 b hb'
    refine ⟨.inl hb', a1, ?_, a4⟩
    by_cases y : b = ad3 z
    · rw [y, upd_same]; exact fun y => nomatch y
    · rw [upd_ne y]; exact a2
  · by_cases yz : y = z
    · subst yz
      rw [upd_same]
      show some (HO.lst (((s y.1 y.2).map V.int).set j (V.int u))) = some (HO.lst ((if y.1 = y.1 ∧ y.2 = y.2 then (s y.1 y.2).set j u else s y.1 y.2).map V.int))
      rw [if_pos ⟨rfl, rfl⟩, List.map_set]
    · rw [upd_ne fun e => yz (hl3.inj y hy z hz e)]
      show _ = some (HO.lst ((if y.1 = z.1 ∧ y.2 = z.2 then (s y.1 y.2).set j u else s y.1 y.2).map V.int))
      rw [if_neg fun e => yz (Prod.ext e.1 e.2)]
      exact hl3.at' y hy
end
/-! ### a law's own statements -/
section
variable {P : Program} {w : World} {K : PySem.W.Frag} {mg : Str → Option Value} {base : Heap} {lv : Nat} {N : List Str} {sc : Scope} {fn : Str → Bool}
variable {α ρ : Type} {c : Ctx P w K mg base lv N sc fn} {Γ : Gm} {e iter tg : Expr} {st : Stmt} {ss rest body : List Stmt} {pos : Pos} {A : Ty K α} {R : Rs ρ} {rt : Gm → ρ → Prop} {nx bk ct : Gm → Prop} {W : Addr}
def SWt (W : Addr) (c : Ctx P w K mg base lv N sc fn) (Γ : Gm) (ss : List Stmt) (D : En ρ) : Prop := ∀ B σ F H, (∀ p, ¬ B.loc p) → TupB W B → Sta B Γ σ F H → wSs c.X ss (cD B D) σ H
def S1t (W : Addr) (c : Ctx P w K mg base lv N sc fn) (Γ : Gm) (st : Stmt) (D : En ρ) : Prop := ∀ B σ F H, (∀ p, ¬ B.loc p) → TupB W B → Sta B Γ σ F H → wS c.X st (cD B D) σ H
theorem wt_of (h : SW c Γ ss (⟨R, rt, nx, bk, ct⟩ : En ρ)) : SWt W c Γ ss (⟨R, rt, nx, bk, ct⟩ : En ρ) := fun B σ F H hB _ S => h B σ F H hB S
theorem wt_consT (h : S1t W c Γ st (⟨R, rt, fun Γ1 => SWt W c Γ1 rest ⟨R, rt, nx, bk, ct⟩, bk, ct⟩ : En ρ)) : SWt W c Γ (st :: rest) (⟨R, rt, nx, bk, ct⟩ : En ρ) := fun B σ F H hB tB S => by
  refine of_pss (pss_cons psW pssW) ?_
  refine wS_mono (h B σ F H hB tB S) (fun σ1 H1 ⟨Γ1, F1, S1, h1⟩ => ?_) (fun _ _ h => h) (fun _ _ h => h) (fun _ _ h => h)
  exact h1 B σ1 F1 H1 hB tB S1
theorem wt_cons (h : S1 c Γ st (⟨R, rt, fun Γ1 => SWt W c Γ1 rest ⟨R, rt, nx, bk, ct⟩, bk, ct⟩ : En ρ)) : SWt W c Γ (st :: rest) (⟨R, rt, nx, bk, ct⟩ : En ρ) := wt_consT fun B σ F H hB _ S => h B σ F H hB S
theorem wt_weak (Γ' : Gm) (hw : Wk Γ' Γ) (h : SWt W c Γ' ss (⟨R, rt, nx, bk, ct⟩ : En ρ)) : SWt W c Γ ss (⟨R, rt, nx, bk, ct⟩ : En ρ) := fun B σ F H hB tB S => h B σ F H hB tB (S.wk hw)
theorem wt_frz {T : Ty K α} (i : Nat) {as : List α} (hg : Γ[i]? = some (some (ownL T as))) (h : SWt W c (Γ.set i (some (val (tLst T) as))) ss (⟨R, rt, nx, bk, ct⟩ : En ρ)) : SWt W c Γ ss (⟨R, rt, nx, bk, ct⟩ : En ρ) := fun B σ F H hB tB S => by
  obtain ⟨v, F', hv, ff, r, S2⟩ := S.ownFrz hg hB
  exact h B σ F' H hB tB S2
theorem w_forT (h : IW c Γ tg iter A fun Γ1 as => ∃ I : Nat → Gm → Prop, I 0 Γ1 ∧ (∀ i a, as[i]? = some a → ∀ Γ2, I i Γ2 → GW c (fun _ => True) Γ2 tg A a fun Γ3 => SWt W c Γ3 body (⟨R, rt, I (i + 1), nx, I (i + 1)⟩ : En ρ)) ∧ ∀ Γ2, I as.length Γ2 → nx Γ2)
    (hs : ∀ env x, foldedSetIterable iter env x = pure x := by intro _ _; rfl) : S1t W c Γ (.For tg iter body [] pos) (⟨R, rt, nx, bk, ct⟩ : En ρ) := fun B σ F H hB tB S => by
  refine of_ps (ps_for c.pas c.calm piW pgW pssW (hs _)) (h B σ F H S _ fun J as Γ1 F1 H1 S1 e1 it ⟨I, i0, step, fin⟩ => ?_)
  have tB1 : TupB W { B with F := F1 } := ⟨tB.1, tB.2.1, fun b xs q => S1.ext _ _ (tB.2.2 b xs q)⟩
  refine ⟨fun i m σ' H' => m = as.length - i ∧ i ≤ as.length ∧ ∃ Γ2 F2, Sta { B with F := F1 } Γ2 σ' F2 H' ∧ I i Γ2, ⟨as.length, by simp, Nat.zero_le _, Γ1, F1, sta_reF S1, i0⟩, ?_⟩
  rintro i m σ' H' ⟨rfl, hi, Γ2, F2, S2, hI⟩
  by_cases hlt : i < as.length
  · refine .inr ⟨it.go i F2 H' S2.ext S2.sub hlt, fun σ3 H3 => ∃ Γ3 F3, Sta { B with F := F1 } Γ3 σ3 F3 H3 ∧ I (i + 1) Γ3, fun σ3 H3 q => ⟨as.length - (i + 1), by omega, rfl, hlt, q⟩, fun x H3 hy => ?_⟩
    obtain ⟨F3, st, rx⟩ := it.yld i F2 H' x H3 S2.ext S2.sub hy as[i] (List.getElem?_eq_getElem hlt)
    refine step i as[i] (List.getElem?_eq_getElem hlt) Γ2 hI _ σ' F3 H3 (S2.step st) x rx _ fun Γ4 σ4 S4 _ hb => ?_
    exact wSs_mono (hb { B with F := F1 } σ4 F3 H3 hB tB1 S4) (fun _ _ h => h) (fun _ _ ⟨G, s, F, a, S', r, q⟩ => ⟨G, s, F, a, sta_unF S1 S', r, q⟩) (fun _ _ ⟨G, F, S', q⟩ => ⟨G, F, sta_unF S1 S', q⟩) (fun _ _ h => h)
  · have e : i = as.length := by omega
    subst e
    exact .inl ⟨it.stop _ F2 H' S2.ext S2.sub (Nat.le_refl _), Γ2, F2, sta_unF S1 S2, fin Γ2 hI⟩
/-- from here on x is locked -/
theorem wt_lock {i : Nat} {ks : List (Int × Int)} {s : Int → Int → List Int} (hx : Γ[i]? = some (some (ownM ks s))) (hn : NTs Γ) (hW : ∃ (j : Nat) (t : TV K) (q : Str), Γ[j]? = some (some (entT t W q))) (h : SWt W c (Γ.set i (some (lokM ks s))) ss (⟨R, rt, nx, bk, ct⟩ : En ρ)) : SWt W c Γ ss (⟨R, rt, nx, bk, ct⟩ : En ρ) := fun B σ F H hB tB S pins st I => by
  have S2 := sta_fzT S tB hn hW
  obtain ⟨v, ps, hv, ⟨p, ad, rfl, hq, hp, hl⟩, own⟩ := S2.get hx
  obtain ⟨od, I'⟩ := I.lock hp trivial
  obtain ⟨hs, hgd, hxd, es, ep, hdt, hsz, ent⟩ := I'.frzT upd_same
  have S3 := sta_lock (od := od) S2 hx hB tB.1 hv hp hdt fun n k y hk => by
    obtain ⟨en, q, g1, g2, g3⟩ := ent n k y hk
    refine ⟨en, q, g1, g2, ?_⟩
    by_cases hqp : q = p
    · rw [hqp, upd_same] at g3; cases g3
    · rw [upd_ne hqp] at g3; exact fzT_tup g3
  exact h B σ _ _ hB tB S3 pins st I'
end
section
variable {P : Program} {w : World} {K : PySem.W.Frag} {mg : Str → Option Value} {base : Heap} {lv : Nat} {N : List Str} {sc : Scope} {fn : Str → Bool} {ρ : Type}
variable {c : Ctx P w K mg base lv N sc fn} {Γ : Gm}
theorem w_turnsTt {W : Addr} {q : Str} {R : Rs ρ} {rt : Gm → ρ → Prop} {nx bk ct : Gm → Prop} {body : List Stmt} {tg : Expr} {x : Str} {i : Nat} {ns : List Int} {m : Int} {j1 j2} {p p1 p2 p3 p4 p5 p6 p7 p8 p9 pos pos' : Pos} (bi : Bi mg) (hm : 0 ≤ m) (hm2 : m < 64) (g1 : glB sc "range" = true) (g2 : glB sc "max" = true) (g3 : glB sc "min" = true) (g4 : glB sc "len" = true)
    (hs : slotOf N x 0 = some i) (hv : visB sc x = true) (hg : Γ[i]? = some (some (valT (tSeq (K := K) tInt) ns W q))) (hn : ns.length ≤ 63)
    (step : ∀ a : Int, 0 ≤ a → a < 64 → GW c (fun _ => True) Γ tg (tInt (K := K)) a fun Γ3 => SWt W c Γ3 body (⟨R, rt, fun G => G = Γ, nx, fun G => G = Γ⟩ : En ρ)) (fin : nx Γ) (hd : (x == ("__debug__" : Str)) = false := by decide +kernel) (hcd : (x == ("__classdict__" : Str)) = false := by decide +kernel) :
    S1t W c Γ (.For tg (.Call (.Name "range" p1) [.Call (.Name "max" p2) [.Constant (.int 1) j1 p3, .Call (.Name "min" p4) [.Constant (.int m) j2 p5, .Call (.Name "len" p6) [.Name x p7] [] p8] [] p9] [] pos'] [] p) body [] pos) (⟨R, rt, nx, bk, ct⟩ : En ρ) := by
  refine w_forT (A := tInt) (iw_range1 bi g1 (ew_max2 bi g2 (ew_int (ew_min2 bi g3 (ew_int (ew_lenQ (A := tInt) bi g4 (ew_nameT hs hv hg ?_ hd hcd)))))))
  refine ⟨by split <;> split <;> omega, by split <;> split <;> omega, fun _ G => G = Γ, rfl, fun i a ha G e => ?_, fun G e => by rw [e]; exact fin⟩
  subst e
  obtain ⟨a1, a2⟩ := ups_get ha
  refine step a (by omega) ?_
  rw [a1]
  split at a2 <;> split at a2 <;> omega
theorem fn_lawTt {x qual : Str} {st : Stmt} {f : Addr} {fd : FuncData} {W : Addr} {q : Str} (F : Fun K x qual st f fd) (S : FnScope N ["script"] (defScope st))
    (h : ∀ ns : List Int, ns.length ≤ 63 → ∀ c : Ctx P w K mg base lv N (defScope st) (fun _ => true), SWt W c (gmT N.length W q [tv (tSeq (K := K) tInt) ns]) (defBody st) (⟨rTy (K := K) tBool, fun _ r => r = true, fun _ => False, fun _ => False, fun _ => False⟩ : En Bool)) : FnOk P w K mg base CX0 (lv + 1) f fd ["script"] (spLawT K W) := by
  have hpl : 1 ≤ N.length := by have := congrArg List.length S.pre; rw [List.length_take] at this; simp at this; omega
  obtain ⟨oc, od, kV, doc, pm, an, cdv, ct, osl, rfl, lk, hcd⟩ := F.ex
  refine fn_of lk hcd S (fun vs H Q E ⟨_, a, ns, e, _⟩ => by rw [e]; rfl) fun A outer s H vs Q E hr ⟨hW, a, ns, e, hS, hl, k2⟩ => ?_
  subst e
  have key : ∃ F0 : Hp, Same F0 H ∧ F0 W = none ∧ SqL K F0 a (ns.map V.int) := by
    rcases hS with hS | hS
    · have hk : ∃ o, H a = some o ∧ SqL K (upd (fun _ => none) a o) a (ns.map V.int) ∧ W ≠ a := by
        rcases hS with h | ⟨o, h⟩
        · exact ⟨_, h, .inl (.inl upd_same), fun z => by rw [z, h] at hW; cases hW⟩
        · exact ⟨_, h, .inl (.inr ⟨o, upd_same⟩), fun z => by rw [z, h] at hW; cases hW⟩
      obtain ⟨o, ho, hq, hne⟩ := hk
      refine ⟨upd (fun _ => none) a o, fun b x z => ?_, by rw [upd_ne hne], hq⟩
      by_cases hb : b = a
      · rw [hb, upd_same] at z; rw [hb, ho]; exact z
      · rw [upd_ne hb] at z; cases z
    · exact ⟨fun _ => none, (fun _ _ z => nomatch z), rfl, .inr hS⟩
  obtain ⟨F1, hs1, hf1, hq1⟩ := key
  have hs : Same (fzT F1 H) H := fzT_sub hs1
  have hf : fzT F1 H W = none := by rw [fzT_no fun xs y => by rw [hW] at y; cases y]; exact hf1
  have hq : SqL K (fzT F1 H) a (ns.map V.int) := sqL_mono (fzT_ext hs1) hq1
  have S0 := sta_startT (N := N) (W := W) (q := q) hs hf (TabOk.nil hW) (ts := [tv (tSeq (K := K) tInt) ns]) (vs := [.ref a]) ⟨⟨a, ns.map V.int, rfl, hq, all2_ints _ ns⟩, trivial⟩ (by simp) hpl
  have tB : TupB W ⟨fzT F1 H, H, fun y => y = W, fun _ => False, fun _ => False⟩ := ⟨fun _ z => z, fun _ z => z, fun b xs z => fzT_tup z⟩
  refine ⟨_, (pssW (X := (cxOf CX0 P w K mg base N qual (defScope st) f cdv A outer s H E).nox)).nox, ?_⟩
  refine wSs_mono (h ns hl ⟨(cxOf CX0 P w K mg base N qual (defScope st) f cdv A outer s H E).nox, rfl, rfl, rfl, rfl, rfl, rfl, S.nd, rfl, rfl, rfl, hr, PassesOwn.never⟩ _ (start N [.ref a]) (fzT F1 H) H (fun _ h => h) tB S0) (fun σ1 H1 ⟨Γ1, F1, S1, z⟩ => z.elim) (fun v H1 ⟨Γ1, σ1, F1, z, S1, ra, ha⟩ => ?_) (fun σ1 H1 ⟨Γ1, F1, S1, z⟩ => z.elim) fun σ1 H1 ⟨Γ1, F1, S1, z⟩ => z.elim
  obtain rfl : v = .bl z := ra
  rw [ha]; exact k2 H1
end
end Px
/-! Px, twenty-seventh part: a dict comprehension with three fors, its keys tuples (by hand, over the kit's own). -/
namespace Px
open PySem PySem.Spec PyProof.Rows L2
/-! ### the turns -/
section
variable (kx vx t0 i0 t1 i1 t2 i2 : Expr) (ifs0 ifs1 ifs2 : List Expr) (scope : Scope) (pos : Pos)
abbrev dc3E : Expr := .DictComp kx vx [⟨t0, i0, ifs0, 0⟩, ⟨t1, i1, ifs1, 0⟩, ⟨t2, i2, ifs2, 0⟩] scope pos
theorem turn3_0 (it acc : Value) (env : Env) : compTurn (dc3E kx vx t0 i0 t1 i1 t2 i2 ifs0 ifs1 ifs2 scope pos) 0 it acc env = (do
      standAt i0.pos
      match ← pyNext it with
      | none => pure (.done .next)
      | some v =>
        letOwnedTupleGo t0 it v
        assign t0 env v
        let mut ok := true
        for c in ifs0 do
          if ok then ok ← isTrue c env (eval c env)
        if ok then
          let x ← eval i1 env
          standAt i1.pos
          let x ← foldedSetIterable i1 env x
          let _ ← runOwn (.compStart (dc3E kx vx t0 i0 t1 i1 t2 i2 ifs0 ifs1 ifs2 scope pos) 1 (← holding [x] (pyIter x)) acc env) env
        again (.compLoop (dc3E kx vx t0 i0 t1 i1 t2 i2 ifs0 ifs1 ifs2 scope pos) 0 it acc env)) := by rfl
theorem turn3_1 (it acc : Value) (env : Env) : compTurn (dc3E kx vx t0 i0 t1 i1 t2 i2 ifs0 ifs1 ifs2 scope pos) 1 it acc env = (do
      standAt i1.pos
      match ← pyNext it with
      | none => pure (.done .next)
      | some v =>
        letOwnedTupleGo t1 it v
        assign t1 env v
        let mut ok := true
        for c in ifs1 do
          if ok then ok ← isTrue c env (eval c env)
        if ok then
          let x ← eval i2 env
          standAt i2.pos
          let x ← foldedSetIterable i2 env x
          let _ ← runOwn (.compStart (dc3E kx vx t0 i0 t1 i1 t2 i2 ifs0 ifs1 ifs2 scope pos) 2 (← holding [x] (pyIter x)) acc env) env
        again (.compLoop (dc3E kx vx t0 i0 t1 i1 t2 i2 ifs0 ifs1 ifs2 scope pos) 1 it acc env)) := by rfl
theorem turn3_2 (it : Value) (D : Addr) (env : Env) : compTurn (dc3E kx vx t0 i0 t1 i1 t2 i2 ifs0 ifs1 ifs2 scope pos) 2 it (.ref D) env = (do
      standAt i2.pos
      match ← pyNext it with
      | none => pure (.done .next)
      | some v =>
        letOwnedTupleGo t2 it v
        assign t2 env v
        let mut ok := true
        for c in ifs2 do
          if ok then ok ← isTrue c env (eval c env)
        if ok then
          (do
            let kv ← eval kx env
            let vv ← holding [kv] (eval vx env)
            standAt { kx.pos with endLine := vx.pos.endLine, endCol := vx.pos.endCol }
            holding [kv, vv] (dictSet D kv vv))
        again (.compLoop (dc3E kx vx t0 i0 t1 i1 t2 i2 ifs0 ifs1 ifs2 scope pos) 2 it (.ref D) env)) := by rfl
end
section
variable {prog : Program} {w : World} {A : Around} {R : Result → Shared → Prop} {s : Shared} {tg src nxt kx vx : Expr} {gs : List Comprehension} {scope : Scope} {pos : Pos} {ifs : List Expr} {lvl : Nat} {it acc : Value} {env : Env} {D : Addr}
/-- a clause's loop, behind which another one stands -/
theorem loopG_out (hT : ∀ it, compTurn (.DictComp kx vx gs scope pos) lvl it acc env = (do
      standAt src.pos
      match ← pyNext it with
      | none => pure (.done .next)
      | some v =>
        letOwnedTupleGo tg it v
        assign tg env v
        let mut ok := true
        for c in ifs do
          if ok then ok ← isTrue c env (eval c env)
        if ok then
          let x ← eval nxt env
          standAt nxt.pos
          let x ← foldedSetIterable nxt env x
          let _ ← runOwn (.compStart (.DictComp kx vx gs scope pos) (lvl + 1) (← holding [x] (pyIter x)) acc env) env
        again (.compLoop (.DictComp kx vx gs scope pos) lvl it acc env))) (hs : ∀ x, foldedSetIterable nxt env x = pure x) (I : Nat → Shared → Prop)
    (turn : ∀ n s, I n s → wpAny (model prog w) A (pyNext it) (fun r s₁ => match r with
      | none => R (.ok .next) s₁
      | some v => wpAny (model prog w) A (letOwnedTupleGo tg it v) (fun _ s₁' => wpAny (model prog w) A (assign tg env v) (fun _ s₂ =>
          wpAny (model prog w) A (forIn ifs true fun c r => if r = true then do let ok ← isTrue c env (eval c env); pure (ForInStep.yield ok) else pure (ForInStep.yield r)) (fun ok s₃ =>
            if ok = true then wpAny (model prog w) A (eval nxt env) (fun x s₄ => wpAny (model prog w) A (pyIter x) (fun it1 s₅ =>
              codeAny (model prog w) A (.compStart (.DictComp kx vx gs scope pos) (lvl + 1) it1 acc env) (fun r s' => match r with
                | .ok _ => ∃ m, m < n ∧ I m s'
                | .error _ => False) s₅) (notedBy (model prog w) A env fun e s' => R (.error e) s') s₄) (notedBy (model prog w) A env fun e s' => R (.error e) s') s₃
            else ∃ m, m < n ∧ I m s₃) (notedBy (model prog w) A env fun e s' => R (.error e) s') s₂) (notedBy (model prog w) A env fun e s' => R (.error e) s') s₁') (notedBy (model prog w) A env fun e s' => R (.error e) s') s₁) (notedBy (model prog w) A env fun e s' => R (.error e) s') s)
    (n : Nat) (h : I n s) : codeAny (model prog w) A (.compLoop (.DictComp kx vx gs scope pos) lvl it acc env) R s := by
  refine codeAny_loop rfl I (fun n s hI => ?_) n h
  show wpAny _ A ((compTurn (.DictComp kx vx gs scope pos) lvl it acc env).onRaise (fun x => do noteFrame x env; theTreesLotGoes x)) _ _ s
  refine wpAny_noted ?_
  rw [hT]
  refine wpAny_bind (wpAny_standAt (wpAny_bind (wpAny_mono (turn n s hI) (fun r s₁ h₁ => ?_) fun _ _ h' => h')))
  cases r with
  | none => exact wpAny_pure h₁
  | some v =>
    refine wpAny_bind (wpAny_mono h₁ (fun _ s₁' h₁' => ?_) fun _ _ h' => h')
    refine wpAny_bind (wpAny_mono h₁' (fun _ s₂ h₂ => wpAny_bind (wpAny_mono h₂ (fun ok s₃ h₃ => ?_) fun _ _ h' => h')) fun _ _ h' => h')
    cases ok with
    | false => exact wpAny_pure ⟨rfl, h₃⟩
    | true =>
      refine wpAny_bind (wpAny_mono h₃ (fun x s₄ h₄ => ?_) fun _ _ h' => h')
      refine wpAny_bind (wpAny_standAt (wpAny_bind (wpAny_of_eq (hs x) (wpAny_bind (wpAny_holding (wpAny_mono h₄ (fun it1 s₅ h₅ => ?_) fun _ _ h' => h'))))))
      refine wpAny_bind (wpAny_runOwn ?_)
      rw [Around.mark_none]
      refine codeAny_mono h₅ fun r s' hr => ?_
      cases r with
      | ok f =>
        first
          | exact wpAny_pure ⟨rfl, hr⟩
          | exact wpAny_bind (wpAny_pure (wpAny_pure ⟨rfl, hr⟩))
      | error e => exact hr.elim
/-- the last clause's loop -/
theorem loopG_in (hT : ∀ it, compTurn (.DictComp kx vx gs scope pos) lvl it (.ref D) env = (do
      standAt src.pos
      match ← pyNext it with
      | none => pure (.done .next)
      | some v =>
        letOwnedTupleGo tg it v
        assign tg env v
        let mut ok := true
        for c in ifs do
          if ok then ok ← isTrue c env (eval c env)
        if ok then
          (do
            let kv ← eval kx env
            let vv ← holding [kv] (eval vx env)
            standAt { kx.pos with endLine := vx.pos.endLine, endCol := vx.pos.endCol }
            holding [kv, vv] (dictSet D kv vv))
        again (.compLoop (.DictComp kx vx gs scope pos) lvl it (.ref D) env))) (I : Nat → Shared → Prop)
    (turn : ∀ n s, I n s → wpAny (model prog w) A (pyNext it) (fun r s₁ => match r with
      | none => R (.ok .next) s₁
      | some v => wpAny (model prog w) A (letOwnedTupleGo tg it v) (fun _ s₁' => wpAny (model prog w) A (assign tg env v) (fun _ s₂ =>
          wpAny (model prog w) A (forIn ifs true fun c r => if r = true then do let ok ← isTrue c env (eval c env); pure (ForInStep.yield ok) else pure (ForInStep.yield r)) (fun ok s₃ =>
            if ok = true then wpAny (model prog w) A (eval kx env) (fun kv s₄ => wpAny (model prog w) A (eval vx env) (fun vv s₅ =>
              wpAny (model prog w) A (dictSet D kv vv) (fun _ s₆ => ∃ m, m < n ∧ I m s₆) (notedBy (model prog w) A env fun e s' => R (.error e) s') s₅) (notedBy (model prog w) A env fun e s' => R (.error e) s') s₄) (notedBy (model prog w) A env fun e s' => R (.error e) s') s₃
            else ∃ m, m < n ∧ I m s₃) (notedBy (model prog w) A env fun e s' => R (.error e) s') s₂) (notedBy (model prog w) A env fun e s' => R (.error e) s') s₁') (notedBy (model prog w) A env fun e s' => R (.error e) s') s₁) (notedBy (model prog w) A env fun e s' => R (.error e) s') s)
    (n : Nat) (h : I n s) : codeAny (model prog w) A (.compLoop (.DictComp kx vx gs scope pos) lvl it (.ref D) env) R s := by
  refine codeAny_loop rfl I (fun n s hI => ?_) n h
  show wpAny _ A ((compTurn (.DictComp kx vx gs scope pos) lvl it (.ref D) env).onRaise (fun x => do noteFrame x env; theTreesLotGoes x)) _ _ s
  refine wpAny_noted ?_
  rw [hT]
  refine wpAny_bind (wpAny_standAt (wpAny_bind (wpAny_mono (turn n s hI) (fun r s₁ h₁ => ?_) fun _ _ h' => h')))
  cases r with
  | none => exact wpAny_pure h₁
  | some v =>
    refine wpAny_bind (wpAny_mono h₁ (fun _ s₁' h₁' => ?_) fun _ _ h' => h')
    refine wpAny_bind (wpAny_mono h₁' (fun _ s₂ h₂ => wpAny_bind (wpAny_mono h₂ (fun ok s₃ h₃ => ?_) fun _ _ h' => h')) fun _ _ h' => h')
    cases ok with
    | false => exact wpAny_pure ⟨rfl, h₃⟩
    | true =>
      exact wpAny_bind (wpAny_bind (wpAny_mono h₃ (fun kv s₄ h₄ => wpAny_bind (wpAny_holding (wpAny_mono h₄ (fun vv s₅ h₅ => wpAny_bind (wpAny_standAt (wpAny_holding (wpAny_mono h₅ (fun _ s₆ h₆ => wpAny_pure ⟨rfl, h₆⟩) fun _ _ h' => h')))) fun _ _ h' => h'))) fun _ _ h' => h'))
/-- a further clause's start -/
theorem startG (h1 : ((clausesOf (.DictComp kx vx gs scope pos))[lvl]?).elim false (·.is_async != 0) = false) (h0 : codeAny (model prog w) A (.compLoop (.DictComp kx vx gs scope pos) lvl it acc env) R s)
    (h : wpAny (model prog w) A (pyIter it) (fun it' s' => codeAny (model prog w) A (.compLoop (.DictComp kx vx gs scope pos) lvl it' acc env) R s') (notedBy (model prog w) A env fun x s' => R (.error x) s') s) :
    codeAny (model prog w) A (.compStart (.DictComp kx vx gs scope pos) lvl it acc env) R s := by
  refine codeAny_of_tree ?_
  show wpAny _ _ ((compStart (.DictComp kx vx gs scope pos) lvl it acc env).onRaise (fun x => do noteFrame x env; standAt theWindowsPlace)) _ _ s
  refine wpAny_notedAt ?_
  unfold compStart
  rw [h1]
  show wpAny _ _ (ask >>= _) _ _ s
  refine wpAny_bind (wpAny_askSetting (wpAny_ite ?_))
  split
  · first
      | exact wpAny_bind (wpAny_pure (wpAny_pure (And.intro rfl h0)))
      | exact wpAny_pure (And.intro rfl h0)
  · cases hg : (clausesOf (.DictComp kx vx gs scope pos))[lvl]? with
    | none => exact wpAny_bind (wpAny_rule (wpAny_bind (wpAny_mono h (fun it' s' h' => wpAny_pure (And.intro rfl h')) fun _ _ x => x)))
    | some g => exact wpAny_bind (wpAny_rule (wpAny_bind (wpAny_standAt (wpAny_bind (wpAny_mono h (fun it' s' h' => wpAny_pure (And.intro rfl h')) fun _ _ x => x)))))
end
/-- a comprehension's dict takes a pair whose key is a tuple -/
theorem d_setTup {X : Cx} {pins : List (Addr × Obj)} {σ : L2.St} {H : Hp} {s : Shared} {E : Value → Shared → Prop} {D b : Addr} {kvs : List (List Key × V)} {k : List Key} {v : V} {r : Value} {Q : Unit → Shared → Prop} (hu : X.A.units < cLine) (I : Inv X pins σ H s) (hD : H D = some (.dT kvs)) (hz : kvs.length < sizeLine)
    (hb : H b = some (.tup (k.map kV))) (rv : RelV v r) (h : ∀ s', Inv X pins σ (upd H D (.dT (putK kvs k v))) s' → Q () s') : wpAny (model X.prog X.w) X.A (dictSet D (.ref b) r) Q E s := by
  obtain ⟨z, hd, xs, rel, dd⟩ := dt_of I.hok hD
  have hzv : xs.length ≤ sizeLine := by rw [← Paired.length rel]; exact z
  have hl : (putK kvs k v).length ≤ sizeLine := by have := length_putK kvs k v; omega
  refine wpAny_dictSet_heap (hsz := hzv) hu (key_of I.hok hb) dd fun h' dd' hs => h _ ?_
  obtain ⟨q, es, ep, hq, h2, h3, h4, _, h5⟩ := dd'
  refine d_write I (by rw [hD]; exact True.intro) hs ⟨q, hq⟩ ⟨hl, hd, _, (rel.put k hb rv).keeps fun c ys ec => ?_, q, es, ep, hq, h2, h3, h4, h5⟩
  rw [upd_ne (ne_of ec hD (fun z => nomatch z))]
  exact ec
/-! ### a clause behind the first -/
/-- a further clause: what its source gives, its turns; Nx is reached behind it -/
def tIn (wi : TI) (g : TG) (tt : TT) (vs : List Nat) (body : L2.St → Hp → (Hp → Prop) → Prop) : L2.St → Hp → (Hp → Prop) → Prop := fun σ H3 Nx => wi σ H3 fun J1 H4 => ∃ W1 : Nat → Nat → Hp → Prop, (∃ m, W1 0 m H4) ∧ ∀ j k H, W1 j k H →
  (J1.stop j H ∧ Nx H) ∨ (J1.go j H ∧ ∃ Nx1 : Hp → Prop, (∀ H', Nx1 H' → ∃ k', k' < k ∧ W1 (j + 1) k' H') ∧ ∀ x H', J1.yld j H x H' → g x (wipe σ vs) H' fun σ3 H5 => wipe σ3 vs = wipe σ vs ∧ tt σ3 H5 fun b H6 =>
    if b = true then body σ3 H6 Nx1 else Nx1 H6)
/-- the pair of a turn -/
def tPut (D : Addr) (tk tv : TE) : L2.St → Hp → (Hp → Prop) → Prop := fun σ H Nx => tk σ H fun y H4 => tv σ H4 fun z H5 => ∃ (kvs : List (List Key × V)) (k : List Key) (b : Addr), y = .ref b ∧ H5 b = some (.tup (k.map kV)) ∧ H5 D = some (.dT kvs) ∧ kvs.length < sizeLine ∧ Nx (upd H5 D (.dT (putK kvs k z)))
abbrev Tests (M : Model) (A : Around) (ifs : List Expr) (env : Env) (Q : Bool → Shared → Prop) (E : Value → Shared → Prop) (s : Shared) : Prop :=
  wpAny M A (forIn ifs true fun c r => if r = true then do let ok ← isTrue c env (eval c env); pure (ForInStep.yield ok) else pure (ForInStep.yield r)) Q E s
section
variable {X : Cx}
/-- a clause's turn, whatever stands behind it -/
theorem clause_turn (hc : X.calm = true) (hx : X.xe = fun _ _ => False) {tg : Expr} {ifs : List Expr} {g : TG} {tt : TT} {vs vs' : List Nat} {body : L2.St → Hp → (Hp → Prop) → Prop} {J1 : It} {W1 : Nat → Nat → Hp → Prop} {Nx : Hp → Prop} {σ : L2.St} {pins : List (Addr × Obj)} {fp : List Addr} {it : Addr} {tn : Nat → Heap → Prop} {R : Result → Shared → Prop} {CODE : (Shared → Prop) → Shared → Prop} {E : Value → Shared → Prop}
    (T : Turn X.prog X.w X.K tg J1 fp it tn) (hg : PG X tg g) (ht : PTs X ifs tt) (hv : ∀ i ∈ vs', i ∈ vs) (hfp : ∀ b ∈ fp, ∀ H' : Hp, H' b = none → FpOk X pins H' b)
    (hR : ∀ s' H', Inv X pins (wipe σ vs) H' s' → Nx H' → R (.ok .next) s')
    (turn : ∀ j k H, W1 j k H → (J1.stop j H ∧ Nx H) ∨ (J1.go j H ∧ ∃ Nx1 : Hp → Prop, (∀ H', Nx1 H' → ∃ k', k' < k ∧ W1 (j + 1) k' H') ∧ ∀ x H', J1.yld j H x H' → g x (wipe σ vs) H' fun σ3 H5 => wipe σ3 vs = wipe σ vs ∧ tt σ3 H5 fun b H6 =>
      if b = true then body σ3 H6 Nx1 else Nx1 H6))
    (hb : ∀ (pins : List (Addr × Obj)) (σ : L2.St) (H : Hp) (s : Shared) (Nx : Hp → Prop) (Po : Shared → Prop), Inv X pins σ H s → body σ H Nx → (∀ s' H', Inv X pins (wipe σ vs') H' s' → Nx H' → Po s') → CODE Po s)
    (k : Nat) (s12 : Shared) (h : ∃ j H', Inv X pins (wipe σ vs) H' s12 ∧ tn j s12.heap ∧ (∀ b ∈ fp, H' b = none) ∧ W1 j k H') :
    wpAny (model X.prog X.w) X.A (pyNext (.ref it)) (fun r s₁ => match r with
      | none => R (.ok .next) s₁
      | some v => wpAny (model X.prog X.w) X.A (letOwnedTupleGo tg (.ref it) v) (fun _ s₁' => wpAny (model X.prog X.w) X.A (assign tg X.env v) (fun _ s₂ => Tests (model X.prog X.w) X.A ifs X.env (fun ok s₃ =>
            if ok = true then CODE (fun s' => ∃ m, m < k ∧ ∃ j H', Inv X pins (wipe σ vs) H' s' ∧ tn j s'.heap ∧ (∀ b ∈ fp, H' b = none) ∧ W1 j m H') s₃
            else ∃ m, m < k ∧ ∃ j H', Inv X pins (wipe σ vs) H' s₃ ∧ tn j s₃.heap ∧ (∀ b ∈ fp, H' b = none) ∧ W1 j m H') E s₂) E s₁') E s₁) E s12 := by
  obtain ⟨j, H12, I12, st12, n12, w12⟩ := h
  have stat1 : ∀ {H' : Hp}, (∀ b ∈ fp, H' b = none) → ∀ b ∈ fp, FpOk X pins H' b := fun hn b hb => hfp b hb _ (hn b hb)
  rcases turn j k H12 w12 with ⟨stop1, nx1⟩ | ⟨go1, Nx1, hNx1, step1⟩
  · refine thnF (T.done X rfl rfl rfl hc j _ s12 (wipe σ vs) H12 (fun _ _ => False) I12 (stat1 n12) st12 stop1) fun r s13 ⟨hr, I13⟩ => ?_
    subst hr
    exact hR s13 H12 I13 nx1
  · refine thnF (T.item X rfl rfl rfl hc j _ s12 (wipe σ vs) H12 (fun _ _ => False) I12 (stat1 n12) st12 go1) fun r s13 ⟨u1, hr, h13⟩ => ?_
    subst hr
    refine thnF h13 fun _ s14 ⟨x1, H14, I14, r14, y14, st14, n14⟩ => ?_
    have I14' := I14.pinned (stat1 n14) (T.obj _ _ st14)
    have pgr := hg.run _ s14 (wipe σ vs) H14 x1 u1 _ I14' r14 (step1 x1 H14 y14)
    rw [hx] at pgr
    refine thnF pgr fun _ s15 ⟨σ15, H15, I15, hw15, q15⟩ => ?_
    have ptr := ht.run _ s15 σ15 H15 _ I15 q15
    rw [hx] at ptr
    refine thnF ptr fun b1 s16 ⟨H16, I16, q16⟩ => ?_
    have hl8 : (wipe σ vs).length = σ15.length := by rw [← hw15, wipe_length]
    have fin1 : ∀ {σ9 : L2.St} {s' : Shared} {H' : Hp}, Inv X (pins ++ pinsAt fp s14.heap) σ9 H' s' → (wipe σ vs).length = σ9.length → (∀ (j : Nat) v, (wipe σ vs)[j]? = some (some v) → σ9[j]? = some (some v)) → Nx1 H' → ∃ m, m < k ∧ ∃ j H', Inv X pins (wipe σ vs) H' s' ∧ tn j s'.heap ∧ (∀ b ∈ fp, H' b = none) ∧ W1 j m H' := fun {σ9 s' H'} I' hl hk nx => by
      obtain ⟨m', hm, w'⟩ := hNx1 H' nx
      have pin' : ∀ b ∈ fp, ∀ o, s14.heap.get? b = some o → s'.heap.get? b = some o ∧ H' b = none := fun b hb o e =>
        let z := I'.pin (b, o) (List.mem_append_right _ (List.mem_append_right _ (mem_pinsAt hb e)))
        ⟨z.1, z.2.1⟩
      refine ⟨m', hm, j + 1, H', I'.unpinned.weak hl hk, T.keep _ _ _ st14 fun b hb o e => (pin' b hb o e).1, fun b hb => ?_, w'⟩
      obtain ⟨o, e, _⟩ := T.obj _ _ st14 b hb
      exact (pin' b hb o e).2
    cases b1 with
    | false =>
      simp only [Bool.false_eq_true, if_false] at q16 ⊢
      exact fin1 I16 hl8 (fun j v e => by rw [← hw15] at e; exact (wipe_some e).1) q16
    | true =>
      simp only [if_true] at q16 ⊢
      refine hb _ σ15 H16 s16 _ _ I16 q16 fun s17 H17 I17 nx => fin1 I17 (hl8.trans (wipe_length σ15 vs').symm) (fun j v e => ?_) nx
      rw [← hw15] at e
      obtain ⟨e1, e2⟩ := wipe_some e
      rw [wipe_out fun z => e2 (hv j z)]
      exact e1
variable {kx vx t0 i0 t1 i1 t2 i2 : Expr} {ifs0 ifs1 ifs2 : List Expr} {scope : Scope} {pos : Pos}
/-- a further clause, from its source on -/
def From (X : Cx) (src E : Expr) (lvl : Nat) (acc : Value) (Po : Shared → Prop) (er : Value → Shared → Prop) (s : Shared) : Prop := wpAny (model X.prog X.w) X.A (eval src X.env) (fun x s₄ => wpAny (model X.prog X.w) X.A (pyIter x) (fun it1 s₅ =>
  codeAny (model X.prog X.w) X.A (.compStart E lvl it1 acc X.env) (fun r s' => match r with
    | .ok _ => Po s'
    | .error _ => False) s₅) er s₄) er s
theorem last_ok (hc : X.calm = true) (hx : X.xe = fun _ _ => False) (hu : X.A.units < cLine) {D : Addr} {wi : TI} {g : TG} {tt : TT} {tk tv : TE} {vs : List Nat} (hi : PI X t2 i2 wi) (hg : PG X t2 g) (ht : PTs X ifs2 tt) (hk : PE X kx tk) (he : PE X vx tv)
    (pins : List (Addr × Obj)) (σ : L2.St) (H : Hp) (s : Shared) (Nx : Hp → Prop) (Po : Shared → Prop) (er : Value → Shared → Prop) (I : Inv X pins σ H s) (h : tIn wi g tt vs (tPut D tk tv) σ H Nx) (hP : ∀ s' H', Inv X pins (wipe σ vs) H' s' → Nx H' → Po s') :
    From X i2 (dc3E kx vx t0 i0 t1 i1 t2 i2 ifs0 ifs1 ifs2 scope pos) 2 (.ref D) Po er s := by
  have pir := hi.run pins s σ H _ I h
  rw [hx] at pir
  refine thnF pir fun xv s10 hx' => thnF hx' fun itv s11 h11 => ?_
  obtain ⟨it1, fp1, tn1, J1, H11, e1, I11, T1, st11, f11, W1, ⟨m1, w1⟩, turn1⟩ := h11
  subst e1
  have loop1 : codeAny (model X.prog X.w) X.A (.compLoop (dc3E kx vx t0 i0 t1 i1 t2 i2 ifs0 ifs1 ifs2 scope pos) 2 (.ref it1) (.ref D) X.env) (fun r s' => match r with
      | .ok _ => Po s'
      | .error _ => False) s11 := by
    refine loopG_in (turn3_2 kx vx t0 i0 t1 i1 t2 i2 ifs0 ifs1 ifs2 scope pos · D X.env) (fun k s' => ∃ j H', Inv X pins (wipe σ vs) H' s' ∧ tn1 j s'.heap ∧ (∀ b ∈ fp1, H' b = none) ∧ W1 j k H') (fun k s12 h12 => ?_) m1 ⟨0, H11, I11.weak (wipe_length _ _) (fun j v e => (wipe_some e).1), st11, fun b hb => (f11 b hb).1, w1⟩
    refine clause_turn (vs' := []) (R := fun r s' => match r with | .ok _ => Po s' | .error _ => False) (CODE := fun Po s => wpAny (model X.prog X.w) X.A (eval kx X.env) (fun kv s₄ => wpAny (model X.prog X.w) X.A (eval vx X.env) (fun vv s₅ => wpAny (model X.prog X.w) X.A (dictSet D kv vv) (fun _ s₆ => Po s₆) _ s₅) _ s₄) _ s) hc hx T1 hg ht (fun i hi => nomatch hi) (fun b hb H' hn => ⟨hn, (f11 b hb).2⟩) hP turn1 (fun pins σ H s Nx Po I q hP => ?_) k s12 h12
    have pkr := hk.run _ s σ H _ I q
    rw [hx] at pkr
    refine thnF pkr fun z s4 ⟨yk, H4, I4, r4, q4⟩ => ?_
    have per := he.run _ s4 σ H4 _ I4 q4
    rw [hx] at per
    refine thnF per fun z2 s5 ⟨yv, H5, I5, r5, kvs, k, b, ek, hb5, hD5, hz5, nx⟩ => ?_
    subst ek
    obtain rfl : z = Value.ref b := r4
    exact d_setTup hu I5 hD5 hz5 hb5 r5 fun s6 I6 => hP s6 _ I6 nx
  exact startG rfl loop1 (T1.self X.A 0 _ _ _ st11 loop1)
theorem mid_ok (hc : X.calm = true) (hx : X.xe = fun _ _ => False) (hu : X.A.units < cLine) {D : Addr} {wi wi2 : TI} {g g2 : TG} {tt tt2 : TT} {tk tv : TE} {vs vs2 : List Nat} (hv : ∀ i ∈ vs2, i ∈ vs) (hi : PI X t1 i1 wi) (hg : PG X t1 g) (ht : PTs X ifs1 tt) (hs2 : ∀ x, foldedSetIterable i2 X.env x = pure x)
    (hi2 : PI X t2 i2 wi2) (hg2 : PG X t2 g2) (ht2 : PTs X ifs2 tt2) (hk : PE X kx tk) (he : PE X vx tv)
    (pins : List (Addr × Obj)) (σ : L2.St) (H : Hp) (s : Shared) (Nx : Hp → Prop) (Po : Shared → Prop) (er : Value → Shared → Prop) (I : Inv X pins σ H s) (h : tIn wi g tt vs (tIn wi2 g2 tt2 vs2 (tPut D tk tv)) σ H Nx) (hP : ∀ s' H', Inv X pins (wipe σ vs) H' s' → Nx H' → Po s') :
    From X i1 (dc3E kx vx t0 i0 t1 i1 t2 i2 ifs0 ifs1 ifs2 scope pos) 1 (.ref D) Po er s := by
  have pir := hi.run pins s σ H _ I h
  rw [hx] at pir
  refine thnF pir fun xv s10 hx' => thnF hx' fun itv s11 h11 => ?_
  obtain ⟨it1, fp1, tn1, J1, H11, e1, I11, T1, st11, f11, W1, ⟨m1, w1⟩, turn1⟩ := h11
  subst e1
  have loop1 : codeAny (model X.prog X.w) X.A (.compLoop (dc3E kx vx t0 i0 t1 i1 t2 i2 ifs0 ifs1 ifs2 scope pos) 1 (.ref it1) (.ref D) X.env) (fun r s' => match r with
      | .ok _ => Po s'
      | .error _ => False) s11 := by
    refine loopG_out (turn3_1 kx vx t0 i0 t1 i1 t2 i2 ifs0 ifs1 ifs2 scope pos · (.ref D) X.env) hs2 (fun k s' => ∃ j H', Inv X pins (wipe σ vs) H' s' ∧ tn1 j s'.heap ∧ (∀ b ∈ fp1, H' b = none) ∧ W1 j k H') (fun k s12 h12 => ?_) m1 ⟨0, H11, I11.weak (wipe_length _ _) (fun j v e => (wipe_some e).1), st11, fun b hb => (f11 b hb).1, w1⟩
    exact clause_turn (vs' := vs2) (R := fun r s' => match r with | .ok _ => Po s' | .error _ => False) (CODE := fun Po s => From X i2 (dc3E kx vx t0 i0 t1 i1 t2 i2 ifs0 ifs1 ifs2 scope pos) 2 (.ref D) Po _ s) hc hx T1 hg ht hv (fun b hb H' hn => ⟨hn, (f11 b hb).2⟩) hP turn1 (fun pins σ H s Nx Po I q hP => last_ok hc hx hu hi2 hg2 ht2 hk he pins σ H s Nx Po _ I q hP) k s12 h12
  exact startG rfl loop1 (T1.self X.A 0 _ _ _ st11 loop1)
/-- {key: v for t0 in i0 for t1 in i1 for t2 in i2}, the keys tuples: D the new dict -/
def tDc3 (wi : TI) (g : TG) (tt : TT) (vs : List Nat) (body : Addr → L2.St → Hp → (Hp → Prop) → Prop) : TE := fun σ H Q => wi σ H fun J H1 => ∀ D, H1 D = none → ∃ W : Nat → Nat → Hp → Prop, (∃ m, W 0 m (upd H1 D (.dT []))) ∧ ∀ i m H, W i m H →
  (J.stop i H ∧ Q (.ref D) H) ∨ (J.go i H ∧ ∃ Nx : Hp → Prop, (∀ H', Nx H' → ∃ m', m' < m ∧ W (i + 1) m' H') ∧ ∀ x H', J.yld i H x H' → g x (wipe σ vs) H' fun σ2 H2 => wipe σ2 vs = wipe σ vs ∧ tt σ2 H2 fun b H3 =>
    if b = true then body D σ2 H3 Nx else Nx H3)
abbrev Blk (X : Cx) (scope : Scope) (Pd : Cx → Prop) : Prop := ∀ (s : Shared) (H : Hp) (C : Addr) (cl : List (Str × Addr)) (fp : List Addr), Pd (X.blk s H scope (compEnvC scope cl C X.env) fp)
theorem dc3_core {pins : List (Addr × Obj)} {s : Shared} {σ : L2.St} {H : Hp} {Q : VK} {own : List (Str × Nat)} {pos' : Pos} {wi wi1 wi2 : TI} {g g1 g2 : TG} {tt tt1 tt2 : TT} {tk tv : TE} {vs1 vs2 : List Nat} {use : Option (Value → Sem Unit)} {Qf : Value → Shared → Prop}
    (hc : X.calm = true) (hN : X.N.Nodup) (hu : X.A.units < cLine) (I : Inv X pins σ H s) (hi : PI X t0 i0 wi) (ok : BlkOk X.N X.env.scope scope own) (hv1 : ∀ i ∈ vs1, i ∈ own.map (·.2)) (hv2 : ∀ i ∈ vs2, i ∈ vs1)
    (hg : Blk X scope fun Y => PG Y t0 g) (ht : Blk X scope fun Y => PTs Y ifs0 tt) (hi1 : Blk X scope fun Y => PI Y t1 i1 wi1) (hg1 : Blk X scope fun Y => PG Y t1 g1) (ht1 : Blk X scope fun Y => PTs Y ifs1 tt1) (hi2 : Blk X scope fun Y => PI Y t2 i2 wi2) (hg2 : Blk X scope fun Y => PG Y t2 g2) (ht2 : Blk X scope fun Y => PTs Y ifs2 tt2)
    (hk : Blk X scope fun Y => PE Y kx tk) (he : Blk X scope fun Y => PE Y vx tv) (hs : ∀ x, foldedSetIterable i0 X.env x = pure x) (hs1 : ∀ env x, foldedSetIterable i1 env x = pure x) (hs2 : ∀ env x, foldedSetIterable i2 env x = pure x)
    (h : tDc3 wi g tt (own.map (·.2)) (fun D => tIn wi1 g1 tt1 vs1 (tIn wi2 g2 tt2 vs2 (tPut D tk tv))) σ H Q)
    (hRR : ∀ D C s' m H', Inv X pins σ H' s' → Q (.ref D) H' → s'.heap.Ns C m → FpOk X pins H' C → compPost (model X.prog X.w) X.A X.xe use Qf (.ref D) C (.ok .next) s') :
    wpAny (model X.prog X.w) X.A (comprehension (dc3E kx vx t0 i0 t1 i1 t2 i2 ifs0 ifs1 ifs2 scope pos) scope X.env pos' newDict false (eval i0 X.env) use) Qf X.xe s := by
  have hfree : ∀ y ∈ scope.names, y.2 = .free → ∃ c, X.env.cells.lookup y.1 = some c := fun y hy e => by
    rcases ok.free y hy e with k | k
    · exact I.ok.has _ (.inl k)
    · exact I.ok.has _ (.inr k)
  refine wpAny_comprehension_free (use := use) rfl hs (closure_ok hfree) ok.kind (fun y hy e => by rw [ok.uniq y hy, e])
    (thn (hi.run pins s σ H _ I h) fun xv s1 hx => thn hx fun itv s2 h2 => ?_)
  obtain ⟨it, fp, tn, J, H2, e, I2, T, st2, f2, q⟩ := h2
  subst e
  refine wpAny_newObj_type (newEnv_comp ?_)
  generalize hD : s2.heap.objs.size = D
  have hDn : H2 D = none := I2.hok.fresh (Nat.le_of_eq hD)
  obtain ⟨W, ⟨m0, w0⟩, turn⟩ := q D hDn
  generalize hs3 : ({ s2 with heap := s2.heap.push { cls := .type "dict", data := .dict #[] } } : Shared) = s3
  have I3 : Inv X pins σ (upd H2 D (.dT [])) s3 := by
    rw [← hs3]
    refine I2.laid (t' := s2.toks) (fun b o e => Heap.get?_push_of_some _ e) (Nat.le_of_eq hD) ?_
    rw [← hD]
    exact dt_empty s2.heap I2.big
  have h3 : s3.heap = s2.heap.push { cls := .type "dict", data := .dict #[] } := by rw [← hs3]
  have sz : ∀ b ∈ fp, b < s2.heap.objs.size := fun b hb => by
    obtain ⟨o, e, _⟩ := T.obj _ _ st2 b hb
    exact Heap.lt_size e
  have f3 : ∀ b ∈ fp, FpOk X pins (upd H2 D (.dT [])) b ∧ b < s3.heap.objs.size := fun b hb => by
    have hlt := sz b hb
    refine ⟨⟨?_, (f2 b hb).2⟩, by rw [h3, Heap.size_push]; exact Nat.lt_succ_of_lt hlt⟩
    rw [upd_ne (by rw [← hD]; exact Nat.ne_of_lt hlt)]
    exact (f2 b hb).1
  have st3 : tn 0 s3.heap := T.keep _ _ _ st2 fun b _ o e => by rw [h3]; exact Heap.get?_push_of_some _ e
  have I4 := block_start I3 ok hN f3
  have pg := hg s3 (upd H2 D (.dT [])) s3.heap.objs.size (cellsFrom (s3.heap.objs.size + 1) scope.names (cloFrom X.env.cells scope.names [])) fp
  have pt := ht s3 (upd H2 D (.dT [])) s3.heap.objs.size (cellsFrom (s3.heap.objs.size + 1) scope.names (cloFrom X.env.cells scope.names [])) fp
  have pi1 := hi1 s3 (upd H2 D (.dT [])) s3.heap.objs.size (cellsFrom (s3.heap.objs.size + 1) scope.names (cloFrom X.env.cells scope.names [])) fp
  have pg1 := hg1 s3 (upd H2 D (.dT [])) s3.heap.objs.size (cellsFrom (s3.heap.objs.size + 1) scope.names (cloFrom X.env.cells scope.names [])) fp
  have pt1 := ht1 s3 (upd H2 D (.dT [])) s3.heap.objs.size (cellsFrom (s3.heap.objs.size + 1) scope.names (cloFrom X.env.cells scope.names [])) fp
  have pi2 := hi2 s3 (upd H2 D (.dT [])) s3.heap.objs.size (cellsFrom (s3.heap.objs.size + 1) scope.names (cloFrom X.env.cells scope.names [])) fp
  have pg2 := hg2 s3 (upd H2 D (.dT [])) s3.heap.objs.size (cellsFrom (s3.heap.objs.size + 1) scope.names (cloFrom X.env.cells scope.names [])) fp
  have pt2 := ht2 s3 (upd H2 D (.dT [])) s3.heap.objs.size (cellsFrom (s3.heap.objs.size + 1) scope.names (cloFrom X.env.cells scope.names [])) fp
  have pk := hk s3 (upd H2 D (.dT [])) s3.heap.objs.size (cellsFrom (s3.heap.objs.size + 1) scope.names (cloFrom X.env.cells scope.names [])) fp
  have pe := he s3 (upd H2 D (.dT [])) s3.heap.objs.size (cellsFrom (s3.heap.objs.size + 1) scope.names (cloFrom X.env.cells scope.names [])) fp
  show codeAny _ _ (.compStart (dc3E kx vx t0 i0 t1 i1 t2 i2 ifs0 ifs1 ifs2 scope pos) 0 (.ref it) (.ref D) (compEnvC scope (cellsFrom (s3.heap.objs.size + 1) scope.names (cloFrom X.env.cells scope.names [])) s3.heap.objs.size X.env)) (compPost (model X.prog X.w) X.A X.xe use Qf (.ref D) s3.heap.objs.size) { s3 with heap := pushCells (s3.heap.push { cls := .type "dict", data := .dict #[] }) scope.names }
  have nfp : ∀ b ∈ fp, (upd H2 D (.dT [])) b = none := fun b hb => (f3 b hb).1.1
  generalize hce : compEnvC scope (cellsFrom (s3.heap.objs.size + 1) scope.names (cloFrom X.env.cells scope.names [])) s3.heap.objs.size X.env = ce at I4 pg pt pi1 pg1 pt1 pi2 pg2 pt2 pk pe ⊢
  have cL : ce.locals = s3.heap.objs.size := by subst hce; rfl
  generalize hH3 : upd H2 D (.dT []) = H3 at I3 I4 pg pt pi1 pg1 pt1 pi2 pg2 pt2 pk pe w0 nfp f3
  generalize hs4 : ({ s3 with heap := pushCells (s3.heap.push { cls := .type "dict", data := .dict #[] }) scope.names } : Shared) = s4 at I4 ⊢
  have st4 : tn 0 s4.heap := T.keep _ _ _ st3 fun b _ o e => by rw [← hs4]; exact pushCells_keeps _ _ _ _ (Heap.get?_push_of_some _ e)
  have stat : ∀ b ∈ fp, ∀ H' : Hp, H' b = none → FpOk (X.blk s3 H3 scope ce fp) [] H' b := fun b hb H' hn =>
    ⟨hn, (I4.ok.exf b hb).1, I4.ok.exfs b hb, .inl hb, fun x c e => (I4.ok.exf b hb).2 x c e, fun p hp => absurd (show p ∈ ([] : List (Addr × Obj)) ++ [] from hp) (by simp)⟩
  have loop : codeAny (model X.prog X.w) X.A (.compLoop (dc3E kx vx t0 i0 t1 i1 t2 i2 ifs0 ifs1 ifs2 scope pos) 0 (.ref it) (.ref D) ce) (compPost (model X.prog X.w) X.A X.xe use Qf (.ref D) s3.heap.objs.size) s4 := by
    refine loopG_out (turn3_0 kx vx t0 i0 t1 i1 t2 i2 ifs0 ifs1 ifs2 scope pos · (.ref D) ce) (hs1 ce) (fun n s' => ∃ i H', Inv (X.blk s3 H3 scope ce fp) [] (wipe σ (own.map (·.2))) H' s' ∧ tn i s'.heap ∧ (∀ b ∈ fp, H' b = none) ∧ W i n H') (fun n s5 h5 => ?_) m0 ⟨0, H3, I4, st4, nfp, w0⟩
    refine clause_turn (X := X.blk s3 H3 scope ce fp) (vs' := vs1) (R := compPost (model X.prog X.w) X.A X.xe use Qf (.ref D) s3.heap.objs.size) (Nx := fun H => Q (.ref D) H) (CODE := fun Po s => From (X.blk s3 H3 scope ce fp) i1 (dc3E kx vx t0 i0 t1 i1 t2 i2 ifs0 ifs1 ifs2 scope pos) 1 (.ref D) Po _ s) hc rfl T pg pt hv1 stat (fun s6 H5 I6 qq => ?_) turn (fun pins σ H s Nx Po I q hP => mid_ok (X := X.blk s3 H3 scope ce fp) hc rfl hu hv2 pi1 pg1 pt1 (hs2 ce) pi2 pg2 pt2 pk pe pins σ H s Nx Po _ I q hP) n s5 h5
    have I7 : Inv X pins σ H5 s6 := I3.call' (ch := fp) I6.os I6.base I6.hok I6.bare fun b hb => ⟨(f3 b hb).1.2.2.2.1, (f3 b hb).1.2.1, (f3 b hb).1.2.2.2.2.1, (f3 b hb).1.2.2.2.2.2⟩
    have nC : H5 s3.heap.objs.size = none := by
      have z : H5 ce.locals = none := I6.free
      rw [cL] at z
      exact z
    obtain ⟨m, hn, _⟩ := I6.loc
    have hn : s6.heap.Ns ce.locals m := hn
    rw [cL] at hn
    exact hRR D s3.heap.objs.size s6 m H5 I7 qq hn (I3.fpOk (Nat.le_refl _) nC)
  exact codeAny_compStart_dict loop (T.self X.A 0 _ _ _ st4 loop)
/-- as a value -/
theorem pe_dc3 {own : List (Str × Nat)} {wi wi1 wi2 : TI} {g g1 g2 : TG} {tt tt1 tt2 : TT} {tk tv : TE} {vs1 vs2 : List Nat} (hc : X.calm = true) (hN : X.N.Nodup) (hu : X.A.units < cLine) (hi : PI X t0 i0 wi) (ok : BlkOk X.N X.env.scope scope own) (hv1 : ∀ i ∈ vs1, i ∈ own.map (·.2)) (hv2 : ∀ i ∈ vs2, i ∈ vs1)
    (hg : Blk X scope fun Y => PG Y t0 g) (ht : Blk X scope fun Y => PTs Y ifs0 tt) (hi1 : Blk X scope fun Y => PI Y t1 i1 wi1) (hg1 : Blk X scope fun Y => PG Y t1 g1) (ht1 : Blk X scope fun Y => PTs Y ifs1 tt1) (hi2 : Blk X scope fun Y => PI Y t2 i2 wi2) (hg2 : Blk X scope fun Y => PG Y t2 g2) (ht2 : Blk X scope fun Y => PTs Y ifs2 tt2)
    (hk : Blk X scope fun Y => PE Y kx tk) (he : Blk X scope fun Y => PE Y vx tv) (hs : ∀ x, foldedSetIterable i0 X.env x = pure x := by intro _; rfl) (hs1 : ∀ env x, foldedSetIterable i1 env x = pure x := by intro _ _; rfl) (hs2 : ∀ env x, foldedSetIterable i2 env x = pure x := by intro _ _; rfl) :
    PE X (dc3E kx vx t0 i0 t1 i1 t2 i2 ifs0 ifs1 ifs2 scope pos) (tDc3 wi g tt (own.map (·.2)) fun D => tIn wi1 g1 tt1 vs1 (tIn wi2 g2 tt2 vs2 (tPut D tk tv))) := by
  refine ⟨fun pins s σ H Q I h => ?_⟩
  rw [arm_eval_DictComp]
  refine dc3_core hc hN hu I hi ok hv1 hv2 hg ht hi1 hg1 ht1 hi2 hg2 ht2 hk he hs hs1 hs2 h fun D C s' m H' I' q hn f => ⟨m, hn, fun h'' sb => ?_⟩
  obtain ⟨f0, f1, f2, f3, f4, f5⟩ := f
  exact ⟨.ref D, H', I'.turned (t' := s'.toks) (fun b o hb e => (sb.2 b hb).trans e) f0 f1 f3 f4 f5, rfl, q⟩
end
end Px
/-! Px, twenty-eighth part: comprehensions with several fors. -/
namespace Px
open PySem PySem.Spec PyProof.Rows L2
theorem wipe_mem {σ : L2.St} {i : Nat} : ∀ {vs : List Nat}, i ∈ vs → i < σ.length → (wipe σ vs)[i]? = some none := fun h hl => wipe_get h hl
theorem wipe_wipe {σ : L2.St} {vs1 vs : List Nat} (h : ∀ i ∈ vs1, i ∈ vs) : wipe (wipe σ vs1) vs = wipe σ vs := wipe_eq (wipe_length _ _) fun i hi => wipe_out fun z => hi (h i z)
theorem wipeG_get {Γ : Gm} {i : Nat} : ∀ {vs : List Nat}, i ∈ vs → i < Γ.length → (wipeG Γ vs)[i]? = some none
  | [], h, _ => by simp at h
  | v :: vs, h, hl => by
    unfold wipeG
    by_cases z : v = i
    · subst z
      rw [List.getElem?_set_self (by rw [wipeG_length]; exact hl)]
    · rw [List.getElem?_set_ne z]
      exact wipeG_get ((List.mem_cons.mp h).resolve_left fun y => z y.symm) hl
theorem wipeG_eq {Γ Γ' : Gm} {vs : List Nat} (hl : Γ'.length = Γ.length) (h : ∀ i, i ∉ vs → Γ'[i]? = Γ[i]?) : wipeG Γ' vs = wipeG Γ vs := by
  apply List.ext_getElem?
  intro i
  by_cases hi : i ∈ vs
  · by_cases hil : i < Γ.length
    · rw [wipeG_get hi (by rw [hl]; exact hil), wipeG_get hi hil]
    · rw [List.getElem?_eq_none (by rw [wipeG_length]; omega), List.getElem?_eq_none (by rw [wipeG_length]; omega)]
  · rw [wipeG_out hi, wipeG_out hi, h i hi]
theorem wipeG_wipeG {Γ : Gm} {vs1 vs : List Nat} (h : ∀ i ∈ vs1, i ∈ vs) : wipeG (wipeG Γ vs1) vs = wipeG Γ vs := wipeG_eq (wipeG_length _ _) fun i hi => wipeG_out fun z => hi (h i z)
theorem Sta.wipe {B : Base} {Γ : Gm} {σ : L2.St} {F H : Hp} (S : Sta B Γ σ F H) (vs : List Nat) : Sta B (wipeG Γ vs) (L2.wipe σ vs) F H := by
  obtain ⟨O, h1, h2, h3⟩ := S.own
  refine ⟨by rw [wipeG_length, wipe_length]; exact S.len, S.sub, S.ext, S.keep, S.dom, S.new, S.pnd, O, h1, h2, fun i x hx => ?_⟩
  by_cases hi : i ∈ vs
  · exact absurd hx (wipeG_in hi)
  · rw [wipeG_out hi] at hx
    obtain ⟨v, hv, ho⟩ := h3 i x hx
    exact ⟨v, by rw [wipe_out hi]; exact hv, ho⟩
/-- a block's own base, with one more thing pinned in it -/
theorem Sta.blockP {B : Base} {Γ : Gm} {σ : L2.St} {F H : Hp} (S : Sta B Γ σ F H) (vs : List Nat) (hf : frzAt Γ vs = true) : ∃ B2 : Base, B2.F = F ∧ B2.H = H ∧ B2.pin = B.pin ∧ Sta B2 (wipeG Γ vs) (L2.wipe σ vs) F H ∧
    ∀ D Γ4 σ4 F4 H4, B.H D = none → Sta { B2 with pin := fun q => q = D ∨ B2.pin q } Γ4 σ4 F4 H4 → wipeG Γ4 vs = wipeG Γ vs → (∀ j, j ∉ vs → σ4[j]? = σ[j]?) → Sta { B with pin := fun q => q = D ∨ B.pin q } Γ σ F4 H4 := by
  obtain ⟨O, h1, h2, h3⟩ := id S.own
  refine ⟨⟨F, H, fun p => ∃ i, O i p, B.pin, fun p => ∃ k x, Γ[k]? = some (some x) ∧ x.vol = false ∧ O k p⟩, rfl, rfl, rfl, ?_, fun D Γ4 σ4 F4 H4 hBD S4 hw ho => ?_⟩
  · refine ⟨by rw [wipeG_length, wipe_length]; exact S.len, S.sub, Same.refl _, fun _ _ h _ => h, fun _ h => h, fun _ _ h => h, S.pnd, fun i p => i ∉ vs ∧ O i p, fun i p hp => ?_, fun i j p hp hq => h2 i j p hp.2 hq.2, fun i x hx => ?_⟩
    · obtain ⟨a, b, c, d⟩ := h1 i p hp.2
      exact ⟨a, b, .inr ⟨i, hp.2⟩, d⟩
    · by_cases hi : i ∈ vs
      · exact absurd hx (wipeG_in hi)
      · rw [wipeG_out hi] at hx
        obtain ⟨v, hv, hok, _⟩ := h3 i x hx
        refine ⟨v, by rw [wipe_out hi]; exact hv, ?_, fun z p hp => .inr ⟨i, x, hx, z, hp.2⟩⟩
        have e0 : (fun p => i ∉ vs ∧ O i p) = O i := by funext p; simp [hi]
        show x.ok v (fun p => i ∉ vs ∧ O i p) F H
        rw [e0]
        exact hok
  · obtain ⟨O4, g1, g2, g3⟩ := S4.own
    refine ⟨S.len, S4.sub, S.ext.trans S4.ext, fun b o q n => S4.keep b o (S.keep b o q n) fun ⟨i, z⟩ => ?_, fun b n => S4.dom b (S.dom b n), fun b n1 n2 => S4.new b (S.dom b n1) (S.new b n1 n2), fun b z => S4.pnd b z, fun i p => i ∉ vs ∧ O4 i p, fun i p hp => ?_, fun i j p hp hq => g2 i j p hp.2 hq.2, fun i x hx => ?_⟩
    · rcases (h1 i b z).2.2.1 with y | y
      · rw [y] at q; cases q
      · exact n y
    · obtain ⟨a, b, c, d⟩ := g1 i p hp.2
      refine ⟨a, b, ?_, d⟩
      rcases c with c | ⟨j, c⟩
      · left
        cases q : B.H p with
        | none => rfl
        | some o => exact absurd c (S.dom p (by rw [q]; exact fun z => nomatch z))
      · exact (h1 j p c).2.2.1
    · by_cases hi : i ∈ vs
      · obtain ⟨v, hv, hok, hw'⟩ := h3 i x hx
        have hz := frzAt_of hf hi hx
        refine ⟨v, hv, ?_, fun _ p z => absurd hi z.1⟩
        have e0 : (fun p => i ∉ vs ∧ O4 i p) = O i := by
          funext p
          have := x.fz hz hok p
          simp [hi, this]
        show x.ok v (fun p => i ∉ vs ∧ O4 i p) F4 H4
        rw [e0]
        exact x.st hok S4.ext fun p hp => absurd hp (x.fz hz hok p)
      · have hx4 : Γ4[i]? = some (some x) := by
          rw [← wipeG_out (vs := vs) hi, hw, wipeG_out hi]; exact hx
        obtain ⟨v, hv, hok, hw4⟩ := g3 i x hx4
        refine ⟨v, by rw [← ho i hi]; exact hv, ?_, fun b p hp => ?_⟩
        rotate_left
        · rcases hw4 b p hp.2 with z | ⟨k, y, hy, yv, z⟩
          · left
            cases q : B.H p with
            | none => rfl
            | some o => exact absurd z (S.dom p (by rw [q]; exact fun z => nomatch z))
          · obtain ⟨_, _, _, hk⟩ := h3 k y hy
            exact hk yv p z
        have e0 : (fun p => i ∉ vs ∧ O4 i p) = O4 i := by funext p; simp [hi]
        show x.ok v (fun p => i ∉ vs ∧ O4 i p) F4 H4
        rw [e0]
        exact hok
section
variable {P : Program} {w : World} {K : PySem.W.Frag} {mg : Str → Option Value} {base : Heap} {lv : Nat} {N : List Str} {sc : Scope} {fn : Str → Bool}
variable {α β γ τ : Type} {c : Ctx P w K mg base lv N sc fn} {Γ G0 : Gm} {e tg iter : Expr} {ifs : List Expr} {T : Ty K α} {A : Ty K β} {D : Addr} {o : HO}
theorem wipeG_nil : wipeG Γ [] = Γ := rfl
/-- an expression that leaves the slots as they are leaves a pinned thing as it is -/
theorem ew_keep {Pz : α → Prop} (h : EW c Γ e T fun Γ1 z => Γ1 = Γ ∧ Pz z) {B : Base} {σ : L2.St} {F H : Hp} (S : Sta B Γ σ F H) (hp : B.pin D) (hD : H D = some o) {Q : VK} (q : ∀ v z F' H', Sta B Γ σ F' H' → Same F F' → T.r F' v z → Pz z → H' D = some o → Q v H') : wE c.X e σ H Q := by
  obtain ⟨B2, z1, z2, z3, S5, z5, back⟩ := S.block [] rfl
  refine h B2 σ F H S5 _ fun v z Γ1 F1 H1 S1 e1 r1 ⟨hG, hz⟩ => ?_
  subst hG
  exact q v z F1 H1 (back _ σ F1 H1 S1 rfl fun _ _ => rfl) e1 r1 hz (S1.keep D o (by rw [z2]; exact hD) (z5 D hp))
theorem iw_keep {Pz : List β → Prop} (h : IW c Γ tg iter A fun Γ1 as => Γ1 = Γ ∧ Pz as) {B : Base} {σ : L2.St} {F H : Hp} (S : Sta B Γ σ F H) (hp : B.pin D) (hD : H D = some o) {R : It → Hp → Prop} (q : ∀ J as F' H', Sta B Γ σ F' H' → Same F F' → ItOk J A F' as → Pz as → H' D = some o → R J H') : wI c.X tg iter σ H R := by
  obtain ⟨B2, z1, z2, z3, S5, z5, back⟩ := S.block [] rfl
  refine h B2 σ F H S5 _ fun J as Γ1 F1 H1 S1 e1 r1 ⟨hG, hz⟩ => ?_
  subst hG
  exact q J as F1 H1 (back _ σ F1 H1 S1 rfl fun _ _ => rfl) e1 r1 hz (S1.keep D o (by rw [z2]; exact hD) (z5 D hp))
theorem ts_keep {Pz : Bool → Prop} (h : TsW c Γ ifs fun Γ1 x => Γ1 = Γ ∧ Pz x) {B : Base} {σ : L2.St} {F H : Hp} (S : Sta B Γ σ F H) (hp : B.pin D) (hD : H D = some o) {Q : Bool → Hp → Prop} (q : ∀ x F' H', Sta B Γ σ F' H' → Same F F' → Pz x → H' D = some o → Q x H') : wTs c.X ifs σ H Q := by
  obtain ⟨B2, z1, z2, z3, S5, z5, back⟩ := S.block [] rfl
  refine h B2 σ F H S5 _ fun x Γ1 F1 H1 S1 e1 ⟨hG, hz⟩ => ?_
  subst hG
  exact q x F1 H1 (back _ σ F1 H1 S1 rfl fun _ _ => rfl) e1 hz (S1.keep D o (by rw [z2]; exact hD) (z5 D hp))
/-- how the thing in the making stands for a datum -/
structure Acc (τ : Type) where
  r : Hp → HO → τ → Prop
  mono : ∀ {F F' : Hp} {o : HO} {t : τ}, Same F F' → r F o t → r F' o t
  sz : τ → Nat
/-- a clause's body: what it makes of the datum, by at most n; vs: the names of the clause ahead -/
def Body (Ac : Acc τ) (n : Nat) (Γ : Gm) (G0 : Gm) (vs : List Nat) (D : Addr) (body : L2.St → Hp → (Hp → Prop) → Prop) (f : τ → τ) : Prop :=
  (∀ t, Ac.sz (f t) ≤ Ac.sz t + n) ∧ ∀ (B : Base) (σ : L2.St) (F H : Hp) (o : HO) (t : τ) (Nx : Hp → Prop), Ac.sz t + n < sizeLine → Sta B Γ σ F H → B.pin D → B.H D = none → H D = some o → Ac.r F o t →
    (∀ σ' Γ' F' H' o', Sta B Γ' σ' F' H' → Same F F' → wipeG Γ' vs = G0 → wipe σ' vs = wipe σ vs → H' D = some o' → Ac.r F' o' (f t) → Nx H') → body σ H Nx
def bI (c : Ctx P w K mg base lv N sc fn) (scope : Scope) (tg iter : Expr) : TI := fun σ H R => ∀ s H0 C cl fp, wI (c.blk s H0 scope cl C fp).X tg iter σ H R
theorem pi_b {scope : Scope} : ∀ (s : Shared) (H : Hp) (C : Addr) (cl : List (Str × Addr)) (fp : List Addr), PI (c.X.blk s H scope (compEnvC scope cl C c.X.env) fp) tg iter (bI c scope tg iter) := fun s H C cl fp => ⟨fun pins s1 σ1 H1 R1 I q => q s H C cl fp pins s1 I⟩
def foldC (p : β → Bool) (f : β → τ → τ) (bs : List β) (t : τ) : τ := bs.foldl (fun t b => if p b = true then f b t else t) t
theorem foldC_sz {Ac : Acc τ} {n : Nat} {p : β → Bool} {f : β → τ → τ} : ∀ {bs : List β} {t : τ}, (∀ b, b ∈ bs → p b = true → ∀ t, Ac.sz (f b t) ≤ Ac.sz t + n) → Ac.sz (foldC p f bs t) ≤ Ac.sz t + bs.length * n
  | [], t, _ => by show Ac.sz t ≤ _; omega
  | b :: bs, t, h => by
    have ih := foldC_sz (Ac := Ac) (n := n) (p := p) (f := f) (bs := bs) (t := if p b = true then f b t else t) fun b hb => h b (List.mem_cons_of_mem _ hb)
    have h1 : Ac.sz (if p b = true then f b t else t) ≤ Ac.sz t + n := by
      by_cases hp : p b = true
      · rw [if_pos hp]; exact h b List.mem_cons_self hp t
      · rw [if_neg hp]; omega
    show Ac.sz (foldC p f bs (if p b = true then f b t else t)) ≤ _
    rw [List.length_cons, Nat.succ_mul]
    omega
theorem foldC_take {p : β → Bool} {f : β → τ → τ} {bs : List β} {j : Nat} {b : β} {t : τ} (h : bs[j]? = some b) : foldC p f (bs.take (j + 1)) t = if p b = true then f b (foldC p f (bs.take j) t) else foldC p f (bs.take j) t := by
  have e : bs.take (j + 1) = bs.take j ++ [b] := by rw [List.take_add_one, h]; rfl
  unfold foldC
  rw [e, List.foldl_append]
  rfl
/-- what a clause asks -/
def Clause (c : Ctx P w K mg base lv N sc fn) (scope : Scope) (Ac : Acc τ) (n : Nat) (Γ : Gm) (vs1 : List Nat) (D : Addr) (tg : Expr) (ifs : List Expr) (A : Ty K β) (bs : List β) (p : β → Bool) (f : β → τ → τ) (body : L2.St → Hp → (Hp → Prop) → Prop) : Prop :=
  ∀ (i : Nat) (b : β), bs[i]? = some b → ∃ Γ2, (∀ c' : Ctx P w K mg base lv N (relS scope sc) (fnB scope), GW c' (fun j => j ∈ vs1) (wipeG Γ vs1) tg A b fun Γ3 => Γ3 = Γ2) ∧ wipeG Γ2 vs1 = wipeG Γ vs1 ∧
    (∀ c' : Ctx P w K mg base lv N (relS scope sc) (fnB scope), TsW c' Γ2 ifs fun Γ3 x => Γ3 = Γ2 ∧ x = p b) ∧ (p b = true → Body Ac n Γ2 (wipeG Γ vs1) vs1 D body (f b))
/-- one turn of a clause -/
theorem clause_step {scope : Scope} {Ac : Acc τ} {n : Nat} {vs1 : List Nat} {bs : List β} {p : β → Bool} {f : β → τ → τ} {body : L2.St → Hp → (Hp → Prop) → Prop} (hs : Clause c scope Ac n Γ vs1 D tg ifs A bs p f body)
    {B : Base} {σ : L2.St} {F3 H3 : Hp} {j : Nat} {b : β} {x : V} {o2 : HO} {t : τ} {Nx1 : Hp → Prop} (hb : bs[j]? = some b) (S3 : Sta B (wipeG Γ vs1) (wipe σ vs1) F3 H3) (rx : A.r F3 x b) (hp : B.pin D) (hBD : B.H D = none) (hD3 : H3 D = some o2) (ht : Ac.r F3 o2 t) (hz : Ac.sz t + n < sizeLine)
    (hNx : ∀ F' H' o', Sta B (wipeG Γ vs1) (wipe σ vs1) F' H' → Same F3 F' → H' D = some o' → Ac.r F' o' (if p b = true then f b t else t) → Nx1 H') :
    bG c scope tg x (wipe σ vs1) H3 fun σ3 H5 => wipe σ3 vs1 = wipe σ vs1 ∧ bTs c scope ifs σ3 H5 fun b H6 => if b = true then body σ3 H6 Nx1 else Nx1 H6 := by
  obtain ⟨Γ2, hg, hw2, hts, hbody⟩ := hs j b hb
  intro s' H0' C' cl' fp'
  refine hg (c.blk s' H0' scope cl' C' fp') B (wipe σ vs1) F3 H3 S3 x rx _ fun Γ4 σ4 S4 ag hG4 => ?_
  subst hG4
  have hws : wipe σ4 vs1 = wipe σ vs1 := by
    rw [wipe_eq ag.1 ag.2]
    exact wipe_wipe fun _ h => h
  refine ⟨hws, fun s2 H2 C2 cl2 fp2 => ?_⟩
  refine ts_keep (hts (c.blk s2 H2 scope cl2 C2 fp2)) S4 hp hD3 fun x F4 H4 S5 e5 hx hD4 => ?_
  subst hx
  by_cases hpb : p b = true
  · rw [if_pos hpb]
    refine (hbody hpb).2 B σ4 F4 H4 o2 t Nx1 hz S5 hp hBD hD4 (Ac.mono e5 ht) fun σ' Γ' F' H' o' S' e' hG hσ hD' ht' => ?_
    refine hNx F' H' o' ?_ (e5.trans e') hD' (by rw [if_pos hpb]; exact ht')
    have := S'.wipe vs1
    rw [hG, hσ, hws] at this
    exact this
  · rw [if_neg hpb]
    refine hNx F4 H4 o2 ?_ e5 hD4 (by rw [if_neg hpb]; exact Ac.mono e5 ht)
    have := S5.wipe vs1
    rw [hw2, hws] at this
    exact this
theorem body_in {scope : Scope} {Ac : Acc τ} {n : Nat} {vs1 vs : List Nat} {bs : List β} {p : β → Bool} {f : β → τ → τ} {body : L2.St → Hp → (Hp → Prop) → Prop} (hsub : ∀ i ∈ vs1, i ∈ vs) (hI : ∀ c' : Ctx P w K mg base lv N (relS scope sc) (fnB scope), IW c' Γ tg iter A fun Γ1 as => Γ1 = Γ ∧ as = bs)
    (hs : Clause c scope Ac n Γ vs1 D tg ifs A bs p f body) : Body Ac (bs.length * n) Γ (wipeG Γ vs) vs D (tIn (bI c scope tg iter) (bG c scope tg) (bTs c scope ifs) vs1 body) (foldC p f bs) := by
  have hgr : ∀ b, b ∈ bs → p b = true → ∀ t, Ac.sz (f b t) ≤ Ac.sz t + n := fun b hb hpb => by
    obtain ⟨i, hi⟩ := List.getElem?_of_mem hb
    obtain ⟨Γ2, _, _, _, hbody⟩ := hs i b hi
    exact (hbody hpb).1
  refine ⟨fun t => foldC_sz hgr, fun B σ F H o t Nx hz S hp hBD hD ht hNx => ?_⟩
  intro s H0 C cl fp
  refine iw_keep (hI (c.blk s H0 scope cl C fp)) S hp hD fun J as F1 H1 S1 e1 it has hD1 => ?_
  subst has
  refine ⟨fun j k H => k = as.length - j ∧ j ≤ as.length ∧ ∃ F2 o2, Sta B (wipeG Γ vs1) (wipe σ vs1) F2 H ∧ Same F1 F2 ∧ H D = some o2 ∧ Ac.r F2 o2 (foldC p f (as.take j) t), ⟨as.length, by simp, Nat.zero_le _, F1, o, S1.wipe vs1, Same.refl _, hD1, Ac.mono e1 ht⟩, ?_⟩
  rintro j k H2 ⟨rfl, hj, F2, o2, S2, e2, hD2, ht2⟩
  by_cases hlt : j < as.length
  · have hb : as[j]? = some as[j] := List.getElem?_eq_getElem hlt
    refine .inr ⟨it.go j F2 H2 e2 S2.sub hlt, fun H3 => ∃ F3 o3, Sta B (wipeG Γ vs1) (wipe σ vs1) F3 H3 ∧ Same F1 F3 ∧ H3 D = some o3 ∧ Ac.r F3 o3 (foldC p f (as.take (j + 1)) t), fun H3 q => ⟨as.length - (j + 1), by omega, rfl, hlt, q⟩, fun x H3 hy => ?_⟩
    obtain ⟨F3, st, rx⟩ := it.yld j F2 H2 x H3 e2 S2.sub hy as[j] hb
    have h1 := foldC_sz (Ac := Ac) (n := n) (p := p) (f := f) (bs := as.take j) (t := t) fun b hb => hgr b (List.mem_of_mem_take hb)
    rw [List.length_take, Nat.min_eq_left hj] at h1
    have h2 : (j + 1) * n ≤ as.length * n := Nat.mul_le_mul hlt (Nat.le_refl _)
    rw [Nat.succ_mul] at h2
    refine clause_step hs hb (S2.step st) rx hp hBD (st.hh _ _ hD2) (Ac.mono st.ff ht2) (by omega) fun F' H' o' S' e' hD' ht' => ⟨F', o', S', (e2.trans st.ff).trans e', hD', ?_⟩
    rw [foldC_take hb]
    exact ht'
  · have e : j = as.length := by omega
    subst e
    rw [List.take_length] at ht2
    exact .inl ⟨it.stop _ F2 H2 e2 S2.sub (Nat.le_refl _), hNx (wipe σ vs1) (wipeG Γ vs1) F2 H2 o2 S2 (e1.trans e2) (wipeG_wipeG hsub) (wipe_wipe hsub) hD2 ht2⟩
/-- the first clause, over what is made -/
def tTop (ob0 : HO) (wi : TI) (g : TG) (tt : TT) (vs : List Nat) (body : Addr → L2.St → Hp → (Hp → Prop) → Prop) : TE := fun σ H Q => wi σ H fun J H1 => ∀ D, H1 D = none → ∃ W : Nat → Nat → Hp → Prop, (∃ m, W 0 m (upd H1 D ob0)) ∧ ∀ i m H, W i m H →
  (J.stop i H ∧ Q (.ref D) H) ∨ (J.go i H ∧ ∃ Nx : Hp → Prop, (∀ H', Nx H' → ∃ m', m' < m ∧ W (i + 1) m' H') ∧ ∀ x H', J.yld i H x H' → g x (wipe σ vs) H' fun σ2 H2 => wipe σ2 vs = wipe σ vs ∧ tt σ2 H2 fun b H3 =>
    if b = true then body D σ2 H3 Nx else Nx H3)
theorem comp_top {scope : Scope} {Ac : Acc τ} {n : Nat} {vs : List Nat} {bs : List β} {p : β → Bool} {f : β → τ → τ} {body : Addr → L2.St → Hp → (Hp → Prop) → Prop} {ob0 : HO} {t0 : τ} (hI : IW c Γ tg iter A fun Γ1 as => Γ1 = Γ ∧ as = bs) (hf : frzAt Γ vs = true) (h0 : ∀ F, Ac.r F ob0 t0) (hz : Ac.sz t0 + bs.length * n < sizeLine)
    (hs : ∀ D, Clause c scope Ac n Γ vs D tg ifs A bs p f (body D)) {B : Base} {σ : L2.St} {F H : Hp} (S : Sta B Γ σ F H) {Q : VK}
    (q : ∀ D F' H' o', Sta { B with pin := fun q => q = D ∨ B.pin q } Γ σ F' H' → Same F F' → B.H D = none → F' D = none → ¬ B.pin D → H' D = some o' → Ac.r F' o' (foldC p f bs t0) → Q (.ref D) H') :
    tTop ob0 (wI c.X tg iter) (bG c scope tg) (bTs c scope ifs) vs body σ H Q := by
  have hgr : ∀ b, b ∈ bs → p b = true → ∀ t, Ac.sz (f b t) ≤ Ac.sz t + n := fun b hb hpb => by
    obtain ⟨i, hi⟩ := List.getElem?_of_mem hb
    obtain ⟨Γ2, _, _, _, hbody⟩ := hs 0 i b hi
    exact (hbody hpb).1
  refine hI B σ F H S _ fun J as Γ1 F1 H1 S1 e1 it ⟨hG, has⟩ => ?_
  subst hG has
  intro D hD
  have hBD : B.H D = none := by
    cases z : B.H D with
    | none => rfl
    | some o => exact absurd hD (S1.dom D (by rw [z]; exact fun y => nomatch y))
  obtain ⟨B2, z1, z2, z3, S5, back⟩ := S1.blockP vs hf
  obtain ⟨S6, b1, b2, b3⟩ := S5.make (o := ob0) hD
  refine ⟨fun i m H' => m = as.length - i ∧ i ≤ as.length ∧ ∃ F2 o2, Sta { B2 with pin := fun q => q = D ∨ B2.pin q } (wipeG Γ1 vs) (wipe σ vs) F2 H' ∧ Same F1 F2 ∧ H' D = some o2 ∧ Ac.r F2 o2 (foldC p f (as.take i) t0), ⟨as.length, by simp, Nat.zero_le _, F1, ob0, S6, Same.refl _, upd_same, h0 F1⟩, ?_⟩
  rintro j k H2 ⟨rfl, hj, F2, o2, S2, e2, hD2, ht2⟩
  by_cases hlt : j < as.length
  · have hb : as[j]? = some as[j] := List.getElem?_eq_getElem hlt
    refine .inr ⟨it.go j F2 H2 e2 S2.sub hlt, fun H3 => ∃ F3 o3, Sta { B2 with pin := fun q => q = D ∨ B2.pin q } (wipeG Γ1 vs) (wipe σ vs) F3 H3 ∧ Same F1 F3 ∧ H3 D = some o3 ∧ Ac.r F3 o3 (foldC p f (as.take (j + 1)) t0), fun H3 q => ⟨as.length - (j + 1), by omega, rfl, hlt, q⟩, fun x H3 hy => ?_⟩
    obtain ⟨F3, st, rx⟩ := it.yld j F2 H2 x H3 e2 S2.sub hy as[j] hb
    have h1 := foldC_sz (Ac := Ac) (n := n) (p := p) (f := f) (bs := as.take j) (t := t0) fun b hb => hgr b (List.mem_of_mem_take hb)
    rw [List.length_take, Nat.min_eq_left hj] at h1
    have h2 : (j + 1) * n ≤ as.length * n := Nat.mul_le_mul hlt (Nat.le_refl _)
    rw [Nat.succ_mul] at h2
    refine clause_step (hs D) hb (S2.step st) rx (.inl rfl) b1 (st.hh _ _ hD2) (Ac.mono st.ff ht2) (by omega) fun F' H' o' S' e' hD' ht' => ⟨F', o', S', (e2.trans st.ff).trans e', hD', ?_⟩
    rw [foldC_take hb]
    exact ht'
  · have e : j = as.length := by omega
    subst e
    rw [List.take_length] at ht2
    refine .inl ⟨it.stop _ F2 H2 e2 S2.sub (Nat.le_refl _), q D F2 H2 o2 (back D _ _ F2 H2 hBD S2 (wipeG_wipeG fun _ h => h) fun i hi => wipe_out hi) (e1.trans e2) hBD (S2.pnd D (.inl rfl)).2 (by rw [← z3]; exact b2) hD2 ht2⟩
/-! ### what stands at the end of a comprehension -/
theorem Sta.pinUpd' {B : Base} {σ : L2.St} {F H : Hp} {o : HO} (S : Sta B Γ σ F H) (hp : B.pin D) (hb : B.H D = none) : Sta B Γ σ F (upd H D o) := by
  have e : (fun q => q = D ∨ B.pin q) = B.pin := by
    funext q
    exact propext ⟨fun h => h.elim (fun h => h ▸ hp) id, .inr⟩
  have S' : Sta { B with pin := fun q => q = D ∨ B.pin q } Γ σ F H := by rw [e]; exact S
  have := S'.pinUpd (o := o) hb (S.pnd D hp).2
  rw [e] at this
  exact this
def acL (T : Ty K α) : Acc (List α) := ⟨fun F o t => ∃ vs, o = .lst vs ∧ All2 (T.r F) vs t, fun e ⟨vs, h1, h2⟩ => ⟨vs, h1, All2.imp (fun _ _ => T.mono e) h2⟩, List.length⟩
def tApp (D : Addr) (te : TE) : L2.St → Hp → (Hp → Prop) → Prop := fun σ H Nx => te σ H fun y H7 => ∃ acc, H7 D = some (.lst acc) ∧ acc.length < sizeLine ∧ Nx (upd H7 D (.lst (acc ++ [y])))
theorem body_app {scope : Scope} {elt : Expr} {z0 : α} {vs : List Nat} (h : ∀ c' : Ctx P w K mg base lv N (relS scope sc) (fnB scope), EW c' Γ elt T fun Γ1 z => Γ1 = Γ ∧ z = z0) (hG : wipeG Γ vs = G0) : Body (acL T) 1 Γ G0 vs D (tApp D (bE c scope elt)) (fun t => t ++ [z0]) := by
  refine ⟨fun t => by show (t ++ [z0]).length ≤ t.length + 1; rw [List.length_append]; exact Nat.le_refl _, fun B σ F H o t Nx hz S hp hBD hD ⟨vs', ho, hr⟩ hNx => ?_⟩
  have hz : t.length + 1 < sizeLine := hz
  intro s H0 C cl fp
  refine ew_keep (h (c.blk s H0 scope cl C fp)) S hp hD fun v z F' H' S' e' rv hz0 hD' => ?_
  subst hz0 ho
  refine ⟨vs', hD', by rw [All2.length hr]; omega, hNx σ Γ F' _ _ (S'.pinUpd' hp hBD) e' hG rfl upd_same ⟨_, rfl, all2_snoc (All2.imp (fun _ _ => T.mono e') hr) rv⟩⟩
/-- [elt for tg in iter if .. for tg1 in iter1 if ..] -/
theorem el_comp2 {scope : Scope} {elt tg1 iter1 : Expr} {ifs1 : List Expr} {pos : Pos} (own : List (Str × Nat)) (ok : blkC N sc scope own = true) {vs1 : List Nat} (hv : ∀ i ∈ vs1, i ∈ own.map (·.2)) {k : Gm → List α → Prop} {bs : List β} {n : Nat} {p : β → Bool} {f : β → List α → List α}
    (hI : IW c Γ tg iter A fun Γ1 as => Γ1 = Γ ∧ as = bs) (hf : frzAt Γ (own.map (·.2)) = true) (hz : bs.length * n < sizeLine) (hs : ∀ D, Clause c scope (acL T) n Γ (own.map (·.2)) D tg ifs A bs p f (tIn (bI c scope tg1 iter1) (bG c scope tg1) (bTs c scope ifs1) vs1 (tApp D (bE c scope elt)))) (hk : k Γ (foldC p f bs []))
    (hs0 : ∀ env x, foldedSetIterable iter env x = pure x := by intro _ _; rfl) (hs1 : ∀ env x, foldedSetIterable iter1 env x = pure x := by intro _ _; rfl) : EL c Γ (.ListComp elt [⟨tg, iter, ifs, 0⟩, ⟨tg1, iter1, ifs1, 0⟩] scope pos) T k := fun B σ F H S Q q => by
  refine of_pe (pe_lc2 (vs1 := vs1) c.calm (by rw [c.hN]; exact c.nd) piW (blkOk_by (own := own) (by rw [c.hN, c.hsc]; exact ok)) hv pg_b pts_b pi_b pg_b pts_b pe_b (hs0 _) hs1) ?_
  show tTop (.lst []) (wI c.X tg iter) (bG c scope tg) (bTs c scope ifs) (own.map (·.2)) (fun D => tIn (bI c scope tg1 iter1) (bG c scope tg1) (bTs c scope ifs1) vs1 (tApp D (bE c scope elt))) σ H Q
  refine comp_top (Ac := acL T) (t0 := []) hI hf (fun F => ⟨[], rfl, trivial⟩) (by show 0 + _ < _; omega) hs S fun D F' H' o' S' e' b1 b2 b3 hD ⟨vs', ho, hr⟩ => ?_
  subst ho
  exact q D vs' _ Γ F' H' S' e' b1 b2 b3 hD hr hk
def kvB (ks : List (Int × Int)) : List (List Key × V) := ks.map fun z => (pk z.1 z.2, V.bl true)
def addK (ks : List (Int × Int)) (z : Int × Int) : List (Int × Int) := if z ∈ ks then ks else ks ++ [z]
theorem kvB_put {ks : List (Int × Int)} {z : Int × Int} : putK (kvB ks) (pk z.1 z.2) (V.bl true) = kvB (addK ks z) := by
  unfold putK addK
  by_cases h : z ∈ ks
  · have hy : ((kvB ks).any fun kv => decide (kv.1 = pk z.1 z.2)) = true := by
      rw [List.any_eq_true]
      exact ⟨(pk z.1 z.2, V.bl true), List.mem_map_of_mem (f := fun z : Int × Int => (pk z.1 z.2, V.bl true)) h, decide_eq_true rfl⟩
    rw [if_pos hy, if_pos h]
    unfold kvB
    rw [List.map_map]
    refine List.map_congr_left fun y hy => ?_
    show (if pk y.1 y.2 = pk z.1 z.2 then (pk y.1 y.2, V.bl true) else (pk y.1 y.2, V.bl true)) = _
    split <;> rfl
  · have hn : ((kvB ks).any fun kv => decide (kv.1 = pk z.1 z.2)) = false := by
      rw [List.any_eq_false]
      intro kv hkv
      obtain ⟨y, hy, rfl⟩ := List.mem_map.mp hkv
      intro e
      exact h (by rw [← pk_pair (of_decide_eq_true e)]; exact hy)
    rw [hn, if_neg h]
    show kvB ks ++ _ = kvB (ks ++ [z])
    unfold kvB
    rw [List.map_append]
    rfl
def acD : Acc (List (Int × Int)) := ⟨fun _ o t => o = .dT (kvB t), fun _ h => h, List.length⟩
theorem body_put {scope : Scope} {kx vx : Expr} {z0 : Int × Int} {vs : List Nat} (hk : ∀ c' : Ctx P w K mg base lv N (relS scope sc) (fnB scope), EW c' Γ kx (tPr (K := K)) fun Γ1 z => Γ1 = Γ ∧ z = z0) (hv : ∀ c' : Ctx P w K mg base lv N (relS scope sc) (fnB scope), EW c' Γ vx (tBool (K := K)) fun Γ1 z => Γ1 = Γ ∧ z = true) (hG : wipeG Γ vs = G0) :
    Body acD 1 Γ G0 vs D (tPut D (bE c scope kx) (bE c scope vx)) (fun t => addK t z0) := by
  refine ⟨fun t => ?_, fun B σ F H o t Nx hz S hp hBD hD ho hNx => ?_⟩
  · show (addK t z0).length ≤ t.length + 1
    unfold addK
    split
    · omega
    · rw [List.length_append]; exact Nat.le_refl _
  have hz : t.length + 1 < sizeLine := hz
  intro s H0 C cl fp
  refine ew_keep (hk (c.blk s H0 scope cl C fp)) S hp hD fun v z F' H' S' e' ⟨b, hb1, hb2⟩ hz0 hD' => ?_
  subst hz0
  intro s2 H2 C2 cl2 fp2
  refine ew_keep (hv (c.blk s2 H2 scope cl2 C2 fp2)) S' hp hD' fun v2 z2 F2 H2 S2 e2 rv2 hz2 hD2 => ?_
  subst hz2
  obtain rfl : v2 = .bl true := rv2
  have ho : o = .dT (kvB t) := ho
  subst ho
  refine ⟨kvB t, pk z.1 z.2, b, hb1, S2.sub _ _ (e2 _ _ hb2), hD2, by unfold kvB; rw [List.length_map]; omega, hNx σ Γ F2 _ _ (S2.pinUpd' hp hBD) (e'.trans e2) hG rfl upd_same ?_⟩
  show HO.dT _ = HO.dT _
  rw [kvB_put]
/-- an own dict of pairs, all of them told True -/
def ownD (ks : List (Int × Int)) : Ent :=
  ⟨fun v ps F H => ∃ p, v = .ref p ∧ (∀ q, ps q ↔ q = p) ∧ H p = some (.dT (kvB ks)), false, false, fun ⟨p, h1, h2, h3⟩ e k => ⟨p, h1, h2, by rw [k p ((h2 p).mpr rfl)]; exact h3⟩, fun h => nomatch h⟩
theorem nt_ownD {ks : List (Int × Int)} : NT (ownD ks) := fun v ps F H ⟨p, h1, h2, h3⟩ q hq xs e => by
  obtain rfl := (h2 q).mp hq
  rw [h3] at e; cases e
end
end Px
/-! Px, twenty-ninth part: x = {.. for .. for .. for ..}, its walk in a def that gives a flat thing; pairs in tuples of pairs. -/
namespace Px
open PySem PySem.Spec PyProof.Rows L2
section
variable {X : Cx}
variable {kx vx t0 i0 t1 i1 t2 i2 : Expr} {ifs0 ifs1 ifs2 : List Expr} {scope : Scope} {pos : Pos}
theorem sw_trueD {gs : List Comprehension} {py : Pos} {y : Str} {l : Nat} {env : Env} (hk : env.scope.kind = .function) (hy : env.scope.names.lookup y = some .local) (hl : (py.line == pos.line) = true)
    (ha : (scope.names.any fun (n, k) => n == y && (k == .local || k == .cell)) = false) : swapsWith (.DictComp kx vx gs scope pos) (some (.Name y py)) l env = pure true := by
  have ky : env.kindOf y = some .local := hy
  have hb : env.blockKind = .function := by unfold Env.blockKind; rw [hk]; rfl
  unfold swapsWith
  simp only [hb, ky, ha, Expr.pos, hl]
  rfl
theorem ps_setDc3 {i : Nat} {y : Str} {py spos : Pos} {own : List (Str × Nat)} {wi wi1 wi2 : TI} {g g1 g2 : TG} {tt tt1 tt2 : TT} {tk tv : TE} {vs1 vs2 : List Nat} (hc : X.calm = true) (hN : X.N.Nodup) (hy : X.N[i]? = some y) (hyl : X.env.scope.names.lookup y = some .local)
    (hsw : swapsWith (dc3E kx vx t0 i0 t1 i1 t2 i2 ifs0 ifs1 ifs2 scope pos) (some (.Name y py)) spos.line X.env = pure true) (hu : X.A.units < cLine) (hi : PI X t0 i0 wi) (ok : BlkOk X.N X.env.scope scope own) (hv1 : ∀ i ∈ vs1, i ∈ own.map (·.2)) (hv2 : ∀ i ∈ vs2, i ∈ vs1)
    (hg : Blk X scope fun Y => PG Y t0 g) (ht : Blk X scope fun Y => PTs Y ifs0 tt) (hi1 : Blk X scope fun Y => PI Y t1 i1 wi1) (hg1 : Blk X scope fun Y => PG Y t1 g1) (ht1 : Blk X scope fun Y => PTs Y ifs1 tt1) (hi2 : Blk X scope fun Y => PI Y t2 i2 wi2) (hg2 : Blk X scope fun Y => PG Y t2 g2) (ht2 : Blk X scope fun Y => PTs Y ifs2 tt2)
    (hk : Blk X scope fun Y => PE Y kx tk) (he : Blk X scope fun Y => PE Y vx tv) (hs : ∀ x, foldedSetIterable i0 X.env x = pure x) (hs1 : ∀ env x, foldedSetIterable i1 env x = pure x) (hs2 : ∀ env x, foldedSetIterable i2 env x = pure x) :
    PS X (.Assign [.Name y py] (dc3E kx vx t0 i0 t1 i1 t2 i2 ifs0 ifs1 ifs2 scope pos) spos) (tAsg (tDc3 wi g tt (own.map (·.2)) fun D => tIn wi1 g1 tt1 vs1 (tIn wi2 g2 tt2 vs2 (tPut D tk tv))) (gName i)) := by
  refine ⟨fun pins s σ H D I h => ?_⟩
  rw [exec_Assign_Name_used _ _ _ _ hsw]
  refine wpAny_bind (wpAny_standAt (wpAny_bind ?_))
  show wpAny _ X.A (do let _ ← comprehension (dc3E kx vx t0 i0 t1 i1 t2 i2 ifs0 ifs1 ifs2 scope pos) scope X.env (firstIterPos [⟨t0, i0, ifs0, 0⟩, ⟨t1, i1, ifs1, 0⟩, ⟨t2, i2, ifs2, 0⟩] pos) newDict false (eval i0 X.env) (some (assign (.Name y py) X.env))) _ _ s
  have h : tDc3 wi g tt (own.map (·.2)) (fun D => tIn wi1 g1 tt1 vs1 (tIn wi2 g2 tt2 vs2 (tPut D tk tv))) σ H (fun x H1 => gName i x σ H1 D.nx) := h
  refine wpAny_bind (thn (dc3_core (Qf := fun _ s' => SP X pins D .next s') hc hN hu I hi ok hv1 hv2 hg ht hi1 hg1 ht1 hi2 hg2 ht2 hk he hs hs1 hs2 h fun L C s' m H' I' q hn f => ?_) fun _ s' hq => wpAny_pure (wpAny_pure hq))
  show wpAny _ _ (assign (.Name y py) X.env (.ref L)) _ _ _
  refine wpAny_assign_Name (store_ok2 (v := V.ref L) I' hN hy (.inl hyl) rfl (fun s2 I2 ⟨a, sb, ha⟩ => ?_) (.inr hyl))
  obtain ⟨f0, f1, f2, f3, f4, f5⟩ := f
  have haC : C ≠ a := by
    rcases ha with z | z
    · rw [z]; exact f1
    · exact fun e => f4 y a z e.symm
  refine ⟨m, hn.sameBut sb haC, fun h3 sb3 => ?_⟩
  exact ⟨_, H', I2.turned (t' := s2.toks) (fun b o hb e => (sb3.2 b hb).trans e) f0 f1 f3 f4 f5, q⟩
end
section
variable {P : Program} {w : World} {K : PySem.W.Frag} {mg : Str → Option Value} {base : Heap} {lv : Nat} {N : List Str} {sc : Scope} {fn : Str → Bool}
variable {α β γ ρ : Type} {c : Ctx P w K mg base lv N sc fn} {Γ : Gm} {e a b tg iter : Expr} {es : List Expr} {pos p : Pos} {T : Ty K α} {A : Ty K β} {R : Rs ρ} {rt : Gm → ρ → Prop} {nx bk ct : Gm → Prop}
/-- x = {pair: True for .. for .. for ..}, x a local -/
theorem w_dc3 {scope : Scope} {kx vx t1 i1 t2 i2 : Expr} {ifs ifs1 ifs2 : List Expr} {x : Str} {i : Nat} {py pos' : Pos} (own : List (Str × Nat)) (ok : blkC N sc scope own = true) {vs1 vs2 : List Nat} (hv1 : ∀ i ∈ vs1, i ∈ own.map (·.2)) (hv2 : ∀ i ∈ vs2, i ∈ vs1)
    (hsl : slotOf N x 0 = some i) (hv : sc.names.lookup x = some .local) (hk : sc.kind = .function) (hln : (py.line == pos.line) = true) (hnm : (scope.names.any fun (n, k) => n == x && (k == .local || k == .cell)) = false)
    {bs : List β} {n : Nat} {p : β → Bool} {f : β → List (Int × Int) → List (Int × Int)} (hI : IW c Γ tg iter A fun Γ1 as => Γ1 = Γ ∧ as = bs) (hf : frzAt Γ (own.map (·.2)) = true) (hz : bs.length * n < sizeLine)
    (hc : ∀ D, Clause c scope acD n Γ (own.map (·.2)) D tg ifs A bs p f (tIn (bI c scope t1 i1) (bG c scope t1) (bTs c scope ifs1) vs1 (tIn (bI c scope t2 i2) (bG c scope t2) (bTs c scope ifs2) vs2 (tPut D (bE c scope kx) (bE c scope vx)))))
    (h : i < Γ.length ∧ nx (Γ.set i (some (ownD (foldC p f bs [])))))
    (hs0 : ∀ env x, foldedSetIterable iter env x = pure x := by intro _ _; rfl) (hs1 : ∀ env x, foldedSetIterable i1 env x = pure x := by intro _ _; rfl) (hs2 : ∀ env x, foldedSetIterable i2 env x = pure x := by intro _ _; rfl) :
    S1 c Γ (.Assign [.Name x py] (dc3E kx vx tg iter t1 i1 t2 i2 ifs ifs1 ifs2 scope pos) pos') (⟨R, rt, nx, bk, ct⟩ : En ρ) := fun B σ F H hB S => by
  have hu : c.X.A.units < cLine := by have := c.room.un; omega
  refine of_ps (ps_setDc3 (own := own) (vs1 := vs1) (vs2 := vs2) (i := i) c.calm (by rw [c.hN]; exact c.nd) (by rw [c.hN]; exact slotOf_at hsl) (by rw [c.hsc]; exact hv) (sw_trueD (by rw [c.hsc]; exact hk) (by rw [c.hsc]; exact hv) hln hnm) hu piW (blkOk_by (by rw [c.hN, c.hsc]; exact ok)) hv1 hv2 pg_b pts_b pi_b pg_b pts_b pi_b pg_b pts_b pe_b pe_b (hs0 _) hs1 hs2) ?_
  refine (comp_top (Ac := acD) (t0 := []) (ob0 := .dT []) (body := fun D => tIn (bI c scope t1 i1) (bG c scope t1) (bTs c scope ifs1) vs1 (tIn (bI c scope t2 i2) (bG c scope t2) (bTs c scope ifs2) vs2 (tPut D (bE c scope kx) (bE c scope vx)))) hI hf (fun F => rfl) (by show 0 + _ < _; omega) hc S (Q := fun x H1 => gName i x σ H1 (cD B (⟨R, rt, nx, bk, ct⟩ : En ρ)).nx) fun D F' H' o' S' e' b1 b2 b3 hD ho => ?_ :)
  have ho : o' = .dT (kvB (foldC p f bs [])) := ho
  subst ho
  exact ⟨Γ.set i (some (ownD (foldC p f bs []))), F', S'.take h.1 ⟨D, rfl, fun q => Iff.rfl, hD⟩ b2 (by rw [hD]; exact fun z => nomatch z) b1 b3, h.2⟩
/-- a locked dict of pairs, frozen -/
def tKs : Ty K (List (Int × Int)) := ⟨fun F v ks => ∃ (p : Addr) (od : Obj) (es : Array DictEntry) (ep : Nat), v = .ref p ∧ F p = some (.frz od (.dT (kvB ks))) ∧ od.data = .dict es ep ∧
  ∀ (i : Nat) (z : Int × Int), ks[i]? = some z → ∃ (en : DictEntry) (q : Addr), es[i]? = some en ∧ en.key = .ref q ∧ F q = some (.tup [.int z.1, .int z.2]),
  fun e ⟨p, od, es, ep, h1, h2, h3, h4⟩ => ⟨p, od, es, ep, h1, e _ _ h2, h3, fun i z hz => let ⟨en, q, a, b, d⟩ := h4 i z hz; ⟨en, q, a, b, e _ _ d⟩⟩⟩
theorem iw_tks {k : Gm → List (Int × Int) → Prop} (h : EW c Γ iter (tKs (K := K)) k) : IW c Γ tg iter tPr k := fun B σ F H S Q q => by
  refine of_pi (pi_keysK peW) (h B σ F H S _ fun v ks Γ1 F1 H1 S1 e1 ⟨p, od, es, ep, ev, hp, hod, hk⟩ hk1 => ?_)
  subst ev
  refine ⟨p, od, _, es, ep, rfl, S1.sub _ _ hp, hod, q _ ks Γ1 F1 H1 S1 e1 ⟨fun i F2 H2 s1 s2 hi => ⟨s2 _ _ (s1 _ _ hp), by unfold kvB; rw [List.length_map]; exact hi⟩, fun i F2 H2 s1 s2 hi => ⟨s2 _ _ (s1 _ _ hp), by unfold kvB; rw [List.length_map]; exact hi⟩, fun i F2 H2 y H3 s1 s2 ⟨e2, en, u, h1, h2, h3⟩ z hz => ?_⟩ hk1⟩
  subst e2
  obtain ⟨en', u', g1, g2, g3⟩ := hk i z hz
  rw [h1] at g1
  obtain rfl : en = en' := Option.some.inj g1
  rw [h2] at g2
  obtain rfl : u = u' := Value.ref.inj g2
  exact ⟨F2, Step.refl s2, u, h3, s1 _ _ g3⟩
/-! ### the statements of a def that gives a flat thing -/
def TupB0 (B : Base) : Prop := (∀ p, ¬ B.pin p) ∧ (∀ b, ¬ B.vol b) ∧ ∀ b xs, B.H b = some (.tup xs) → B.F b = some (.tup xs)
theorem sta_fzT0 {B : Base} {σ : L2.St} {F H : Hp} (S : Sta B Γ σ F H) (tB : TupB0 B) (hn : NTs Γ) : Sta B Γ σ (fzT F H) H := by
  obtain ⟨O, h1, h2, h3⟩ := S.own
  refine ⟨S.len, fzT_sub S.sub, S.ext.trans (fzT_ext S.sub), S.keep, S.dom, fun b n1 n2 => ?_, fun b z => absurd z (tB.1 b), fun i p => O i p ∧ ∃ e, Γ[i]? = some (some e), fun i p ⟨hp, e, he⟩ => ?_, fun i j p hp hq => h2 i j p hp.1 hq.1, fun i e he => ?_⟩
  · cases q : B.H b with
    | none => exact absurd q n1
    | some o =>
      have hb := S.keep b o q (tB.2.1 b)
      rw [fzT_no fun xs y => ?_]
      · exact S.new b n1 n2
      · rw [hb] at y
        cases y
        rw [tB.2.2 b xs q] at n2
        cases n2
  · obtain ⟨a1, a2, a3, a4⟩ := h1 i p hp
    obtain ⟨v, hv, ho, _⟩ := h3 i e he
    exact ⟨by rw [fzT_no (hn i e he v _ F H ho p hp)]; exact a1, a2, a3, a4⟩
  · obtain ⟨v, hv, ho, hz⟩ := h3 i e he
    refine ⟨v, hv, ?_, fun b p hp => hz b p hp.1⟩
    have e0 : (fun p => O i p ∧ ∃ e, Γ[i]? = some (some e)) = O i := by
      funext p
      exact propext ⟨fun h => h.1, fun h => ⟨h, e, he⟩⟩
    show e.ok v (fun p => O i p ∧ ∃ e, Γ[i]? = some (some e)) (fzT F H) H
    rw [e0]
    exact e.st ho (fzT_ext S.sub) fun _ _ => rfl
/-- a slot's own thing is changed and frozen as it is -/
theorem sta_drop {B : Base} {σ : L2.St} {F H : Hp} {i : Nat} {e e' : Ent} {p0 : Addr} {ob : HO} (S : Sta B Γ σ F H) (hx : Γ[i]? = some (some e)) (hB : ∀ p, ¬ B.loc p) (hpin : ∀ p, ¬ B.pin p) (hvol : e.vol = false)
    (hv : σ[i]? = some (some (.ref p0))) (hq : ∀ ps, e.ok (.ref p0) ps F H → ps p0) (hok : e'.ok (.ref p0) (fun _ => False) (upd F p0 ob) (upd H p0 ob)) : Sta B (Γ.set i (some e')) σ (upd F p0 ob) (upd H p0 ob) := by
  obtain ⟨O, h1, h2, h3⟩ := S.own
  obtain ⟨v, hv', ho, hz⟩ := h3 i _ hx
  rw [hv] at hv'
  cases hv'
  have hil : i < Γ.length := (List.getElem?_eq_some_iff.mp hx).1
  have hO : O i p0 := hq _ ho
  have hF : F p0 = none := (h1 i p0 hO).1
  have hBp : B.H p0 = none := (hz hvol p0 hO).resolve_right (hB p0)
  have ff : Same F (upd F p0 ob) := same_new hF
  have ow : ∀ {j q}, O j q → j ≠ i → q ≠ p0 := fun {j q} hj hne e => hne (h2 j i q hj (e ▸ hO))
  refine ⟨by rw [List.length_set]; exact S.len, fun b o e => ?_, S.ext.trans ff, fun b o e n => ?_, fun b n => ?_, fun b n1 n2 => ?_, fun b z => absurd z (hpin b), fun j q => j ≠ i ∧ O j q, fun j q hj => ?_, fun j l q hj hl' => h2 j l q hj.2 hl'.2, fun j x hj => ?_⟩
  · by_cases hb : b = p0
    · rw [hb, upd_same] at e ⊢; exact e
    · rw [upd_ne hb] at e ⊢; exact S.sub b o e
  · rw [upd_ne (ne_of_none e hBp)]; exact S.keep b o e n
  · by_cases hb : b = p0
    · rw [hb, upd_same]; exact fun y => nomatch y
    · rw [upd_ne hb]; exact S.dom b n
  · have hb : b ≠ p0 := fun z => n1 (by rw [z]; exact hBp)
    rw [upd_ne hb]; exact S.new b n1 n2
  · obtain ⟨a1, a2, a3, a4⟩ := h1 j q hj.2
    exact ⟨by rw [upd_ne (ow hj.2 hj.1)]; exact a1, by rw [upd_ne (ow hj.2 hj.1)]; exact a2, a3, a4⟩
  · by_cases hji : j = i
    · subst hji
      rw [List.getElem?_set_self hil] at hj
      cases hj
      have e0 : (fun q => j ≠ j ∧ O j q) = fun _ => False := by funext q; simp
      refine ⟨.ref p0, hv, ?_, fun _ q hq' => absurd rfl hq'.1⟩
      show e'.ok (.ref p0) (fun q => j ≠ j ∧ O j q) _ _
      rw [e0]
      exact hok
    · rw [List.getElem?_set_ne (Ne.symm hji)] at hj
      obtain ⟨u, hu, ho, hw⟩ := h3 j x hj
      refine ⟨u, hu, ?_, fun b q hq' => hw b q hq'.2⟩
      have e0 : (fun q => j ≠ i ∧ O j q) = O j := by funext q; simp [hji]
      show x.ok u (fun q => j ≠ i ∧ O j q) _ _
      rw [e0]
      exact x.st ho ff fun q hq' => upd_ne (ow hq' hji)
def SW0 (c : Ctx P w K mg base lv N sc fn) (Γ : Gm) (ss : List Stmt) (D : En ρ) : Prop := ∀ B σ F H, (∀ p, ¬ B.loc p) → TupB0 B → Sta B Γ σ F H → wSs c.X ss (cD B D) σ H
theorem w0_of {ss : List Stmt} (h : SW c Γ ss (⟨R, rt, nx, bk, ct⟩ : En ρ)) : SW0 c Γ ss (⟨R, rt, nx, bk, ct⟩ : En ρ) := fun B σ F H hB _ S => h B σ F H hB S
theorem w0_cons {st : Stmt} {rest : List Stmt} (h : S1 c Γ st (⟨R, rt, fun Γ1 => SW0 c Γ1 rest ⟨R, rt, nx, bk, ct⟩, bk, ct⟩ : En ρ)) : SW0 c Γ (st :: rest) (⟨R, rt, nx, bk, ct⟩ : En ρ) := fun B σ F H hB tB S => by
  refine of_pss (pss_cons psW pssW) ?_
  refine wS_mono (h B σ F H hB S) (fun σ1 H1 ⟨Γ1, F1, S1, h1⟩ => ?_) (fun _ _ h => h) (fun _ _ h => h) (fun _ _ h => h)
  exact h1 B σ1 F1 H1 hB tB S1
theorem w0_weak {ss : List Stmt} (Γ' : Gm) (hw : Wk Γ' Γ) (h : SW0 c Γ' ss (⟨R, rt, nx, bk, ct⟩ : En ρ)) : SW0 c Γ ss (⟨R, rt, nx, bk, ct⟩ : En ρ) := fun B σ F H hB tB S => h B σ F H hB tB (S.wk hw)
theorem w0_lockD {ss : List Stmt} {i : Nat} {ks : List (Int × Int)} (hx : Γ[i]? = some (some (ownD ks))) (hn : NTs Γ) (h : SW0 c (Γ.set i (some (val (tKs (K := K)) ks))) ss (⟨R, rt, nx, bk, ct⟩ : En ρ)) : SW0 c Γ ss (⟨R, rt, nx, bk, ct⟩ : En ρ) := fun B σ F H hB tB S pins st I => by
  have S2 := sta_fzT0 S tB hn
  obtain ⟨v, ps, hv, ⟨p, rfl, hq, hp⟩, own⟩ := S2.get hx
  obtain ⟨od, I'⟩ := I.lock hp trivial
  obtain ⟨hs, hgd, hxd, es, ep, hdt, hsz, ent⟩ := I'.frzT upd_same
  have hFp : fzT F H p = none := (own p ((hq p).mpr rfl)).1
  have S3 := sta_drop (e' := val (tKs (K := K)) ks) (ob := .frz od (.dT (kvB ks))) S2 hx hB tB.1 rfl hv (fun ps ⟨p', e', hq', _⟩ => (hq' p).mpr (V.ref.inj e')) ⟨fun _ z => z, p, od, es, ep, rfl, upd_same, hdt, fun n z hz => by
    obtain ⟨en, q, g1, g2, g3⟩ := ent n (pk z.1 z.2) (.bl true) (by unfold kvB; rw [List.getElem?_map, hz]; rfl)
    refine ⟨en, q, g1, g2, ?_⟩
    by_cases hqp : q = p
    · rw [hqp, upd_same] at g3; cases g3
    · rw [upd_ne hqp] at g3
      rw [upd_ne hqp]
      exact fzT_tup g3⟩
  exact h B σ _ _ hB tB S3 pins st I'
/-- a def that changes nothing that stood before and gives a flat thing -/
theorem fn_flat {ι : Type} {args : ι → List (TV K)} {R : Ty K ρ} {pre : ι → Prop} {post : ι → ρ → Prop} {x qual : Str} {st : Stmt} {f : Addr} {fd : FuncData} {ps : List Str} (hR : ∀ F F' v a, R.r F v a → R.r F' v a) (F : Fun K x qual st f fd) (S : FnScope N ps (defScope st)) (hl : ∀ i, (args i).length = ps.length)
    (h : ∀ i, pre i → ∀ c : Ctx P w K mg base lv N (defScope st) (fun _ => true), SW0 c (gmOf N.length (args i)) (defBody st) (⟨rTy R, fun _ r => post i r, fun _ => False, fun _ => False, fun _ => False⟩ : En ρ)) : FnOk P w K mg base CX0 (lv + 1) f fd ps (spP args R pre post) := by
  have hpl : ps.length ≤ N.length := by have := congrArg List.length S.pre; rw [List.length_take] at this; omega
  obtain ⟨oc, od, kV, doc, pm, an, cdv, ct, osl, rfl, lk, hcd⟩ := F.ex
  refine fn_of lk hcd S (fun vs H Q E ⟨F0, i, _, r, _⟩ => (All2.length r).trans (hl i)) fun A outer s H vs Q E hr ⟨F0, i, hs, r, hp, q⟩ => ?_
  have hs1 : Same (fzT F0 H) H := fzT_sub hs
  have r1 : All2 (fun v (t : TV K) => t.r (fzT F0 H) v) vs (args i) := All2.imp (fun v t ht => t.mono (fzT_ext hs) ht) r
  have S0 := sta_start (N := N) hs1 r1 (by rw [All2.length r, hl i]; exact hpl)
  have tB : TupB0 ⟨fzT F0 H, H, fun _ => False, fun _ => False, fun _ => False⟩ := ⟨fun _ z => z, fun _ z => z, fun b xs z => fzT_tup z⟩
  refine ⟨_, (pssW (X := (cxOf CX0 P w K mg base N qual (defScope st) f cdv A outer s H E).nox)).nox, ?_⟩
  refine wSs_mono (h i hp ⟨(cxOf CX0 P w K mg base N qual (defScope st) f cdv A outer s H E).nox, rfl, rfl, rfl, rfl, rfl, rfl, S.nd, rfl, rfl, rfl, hr, PassesOwn.never⟩ _ (start N vs) (fzT F0 H) H (fun _ h => h) tB S0) (fun σ1 H1 ⟨Γ1, F1, S1, z⟩ => z.elim) (fun v H1 ⟨Γ1, σ1, F1, z, S1, ra, ha⟩ => ?_) (fun σ1 H1 ⟨Γ1, F1, S1, z⟩ => z.elim) fun σ1 H1 ⟨Γ1, F1, S1, z⟩ => z.elim
  have hh : Same H H1 := fun b o hb => S1.keep b o hb fun z => z
  exact q v z F0 H1 ⟨Same.refl _, hh, hs.trans hh, fun b _ n => n⟩ (hR _ _ _ _ ra) ha
end
/-! ### in a tuple of data -/
def rInTD (K : PySem.W.Frag) : R2 := fun x y H Q => ∃ d ds, Dp K H x d ∧ Dp K H y (.tuple ds) ∧ SeqAt.shaped d = true ∧ SeqAt.shaped (.tuple ds) = true ∧ Q (.bl (ds.any fun z => PyData.eqv z d)) H
theorem op_inTD {X : Cx} (hu : X.A.units + 66 < cLine) : OpR X (compareOp .In) (rInTD X.K) := by
  intro pins s σ H x y v u Q I rx ry h
  obtain ⟨d, ds, hd, he, sd, se, q⟩ := h
  obtain ⟨as, r1⟩ := Dp.reads I d x v hd rx
  obtain ⟨bs, r2⟩ := Dp.reads I (.tuple ds) y u he ry
  have h1 := SeqAt.depth_of_shaped sd
  have h2 := SeqAt.canLay_of_shaped se
  rw [PyData.canLay0] at h2
  exact SeqAt.in_tuple_reads r2 r1 h2 (SeqAt.canLay_of_shaped sd) (by have := Nat.min_le_right (PyData.depthAll ds) d.depth; omega) ⟨.bl _, H, I, rfl, q⟩
section
variable {P : Program} {w : World} {K : PySem.W.Frag} {mg : Str → Option Value} {base : Heap} {lv : Nat} {N : List Str} {sc : Scope} {fn : Str → Bool}
variable {α : Type} {c : Ctx P w K mg base lv N sc fn} {Γ : Gm} {a b : Expr} {pos : Pos} {T : Ty K α}
theorem ew_inT {f : α → PyData} (hT : AsD T f) {k : Gm → Bool → Prop} (h : EW c Γ a T fun Γ1 x => EW c Γ1 b (tTup T) fun Γ2 ys => (SeqAt.shaped (f x) = true ∧ SeqAt.shaped (.tuple (ys.map f)) = true) ∧ k Γ2 (ys.any fun y => PyData.eqv (f y) (f x))) (hm : behindInMarks .In b = false := by with_unfolding_all rfl) : EW c Γ (.Compare a [.In] [b] pos) tBool k := fun B σ F H S Q q => by
  have hu : c.X.A.units + 66 < cLine := by have := c.room.un; omega
  obtain ⟨X, rfl, rfl, rfl, rfl, rfl, rfl, nd, rfl, rfl, calm, room, pas⟩ := c
  refine of_pe (pe_cmpR (op_inTD hu) peW peW hm) ?_
  refine h B σ F H S _ fun v x Γ1 F1 H1 S1 e1 r1 h1 => h1 B σ F1 H1 S1 _ fun u ys Γ2 F2 H2 S2 e2 r2 ⟨⟨h2, h3⟩, h4⟩ => ?_
  refine ⟨f x, ys.map f, dp_mono S2.sub _ (hT _ _ _ (T.mono e2 r1)), dp_mono S2.sub _ (asD_tup hT _ _ _ r2), h2, h3, q _ _ Γ2 F2 H2 S2 (e1.trans e2) ?_ h4⟩
  show V.bl _ = V.bl _
  rw [List.any_map]
  rfl
theorem tw_notInT {f : α → PyData} (hT : AsD T f) {k : Gm → Bool → Prop} (h : EW c Γ a T fun Γ1 x => EW c Γ1 b (tTup T) fun Γ2 ys => (SeqAt.shaped (f x) = true ∧ SeqAt.shaped (.tuple (ys.map f)) = true) ∧ k Γ2 (!ys.any fun y => PyData.eqv (f y) (f x))) (hm : behindInMarks .NotIn b = false := by with_unfolding_all rfl) : TW c Γ (.Compare a [.NotIn] [b] pos) k := fun B σ F H S Q q => by
  have hu : c.X.A.units + 66 < cLine := by have := c.room.un; omega
  obtain ⟨X, rfl, rfl, rfl, rfl, rfl, rfl, nd, rfl, rfl, calm, room, pas⟩ := c
  refine of_pt (pt_cmpR (op_notInTD hu) peW peW hm) ?_
  refine h B σ F H S _ fun v x Γ1 F1 H1 S1 e1 r1 h1 => h1 B σ F1 H1 S1 _ fun u ys Γ2 F2 H2 S2 e2 r2 ⟨⟨h2, h3⟩, h4⟩ => ?_
  refine ⟨f x, ys.map f, dp_mono S2.sub _ (hT _ _ _ (T.mono e2 r1)), dp_mono S2.sub _ (asD_tup hT _ _ _ r2), h2, h3, _, rfl, q _ Γ2 F2 H2 S2 (e1.trans e2) ?_⟩
  rw [List.any_map]
  exact h4
theorem tw_inT {f : α → PyData} (hT : AsD T f) {k : Gm → Bool → Prop} (h : EW c Γ a T fun Γ1 x => EW c Γ1 b (tTup T) fun Γ2 ys => (SeqAt.shaped (f x) = true ∧ SeqAt.shaped (.tuple (ys.map f)) = true) ∧ k Γ2 (ys.any fun y => PyData.eqv (f y) (f x))) (hm : behindInMarks .In b = false := by with_unfolding_all rfl) : TW c Γ (.Compare a [.In] [b] pos) k := fun B σ F H S Q q => by
  have hu : c.X.A.units + 66 < cLine := by have := c.room.un; omega
  obtain ⟨X, rfl, rfl, rfl, rfl, rfl, rfl, nd, rfl, rfl, calm, room, pas⟩ := c
  refine of_pt (pt_cmpR (op_inTD hu) peW peW hm) ?_
  refine h B σ F H S _ fun v x Γ1 F1 H1 S1 e1 r1 h1 => h1 B σ F1 H1 S1 _ fun u ys Γ2 F2 H2 S2 e2 r2 ⟨⟨h2, h3⟩, h4⟩ => ?_
  refine ⟨f x, ys.map f, dp_mono S2.sub _ (hT _ _ _ (T.mono e2 r1)), dp_mono S2.sub _ (asD_tup hT _ _ _ r2), h2, h3, _, rfl, q _ Γ2 F2 H2 S2 (e1.trans e2) ?_⟩
  rw [List.any_map]
  exact h4
/-! ### pairs -/
def pD (z : Int × Int) : PyData := .tuple [.int z.1, .int z.2]
theorem asD_pr : AsD (tT2 (tInt (K := K)) tInt) pD := asD_T2 asD_int asD_int
theorem eqv_pr (y z : Int × Int) : PyData.eqv (pD y) (pD z) = decide (y = z) := by
  show ((y.1 == z.1) && ((y.2 == z.2) && true)) = decide (y = z)
  rw [Bool.eq_iff_iff]
  simp only [Bool.and_eq_true, beq_iff_eq, and_true, decide_eq_true_eq]
  exact ⟨fun h => Prod.ext h.1 h.2, fun h => by rw [h]; exact ⟨rfl, rfl⟩⟩
theorem any_pr {z : Int × Int} : ∀ ys : List (Int × Int), (ys.any fun y => PyData.eqv (pD y) (pD z)) = decide (z ∈ ys)
  | [] => by simp
  | y :: ys => by
    rw [List.any_cons, any_pr ys, eqv_pr, Bool.eq_iff_iff]
    simp only [Bool.or_eq_true, decide_eq_true_eq, List.mem_cons]
    exact ⟨fun h => h.elim (fun e => .inl e.symm) .inr, fun h => h.elim (fun e => .inl e.symm) .inr⟩
theorem shaped_pr (z : Int × Int) : SeqAt.shaped (pD z) = true := rfl
theorem shaped_prs (ys : List (Int × Int)) : SeqAt.shaped (.tuple (ys.map pD)) = true := by
  unfold SeqAt.shaped
  have h1 : (PyData.tuple (ys.map pD)).canLay0 = true := by
    rw [PyData.canLay0]
    refine layAll_of fun d hd => ?_
    obtain ⟨z, _, rfl⟩ := List.mem_map.mp hd
    rfl
  have h2 : (PyData.tuple (ys.map pD)).depth ≤ 2 := by
    rw [PyData.depth]
    refine Nat.succ_le_succ (depthAll_of fun d hd => ?_)
    obtain ⟨z, _, rfl⟩ := List.mem_map.mp hd
    exact Nat.le_refl 1
  rw [h1]
  simp
  omega
abbrev tP : Ty K (Int × Int) := tT2 tInt tInt
theorem ew_inP {k : Gm → Bool → Prop} (h : EW c Γ a (tP (K := K)) fun Γ1 x => EW c Γ1 b (tTup (tP (K := K))) fun Γ2 ys => k Γ2 (decide (x ∈ ys))) (hm : behindInMarks .In b = false := by with_unfolding_all rfl) : EW c Γ (.Compare a [.In] [b] pos) tBool k :=
  ew_inT asD_pr (h.imp fun _ x h => h.imp fun _ ys h => ⟨⟨shaped_pr x, shaped_prs ys⟩, by rw [any_pr]; exact h⟩) hm
theorem tw_notInP {k : Gm → Bool → Prop} (h : EW c Γ a (tP (K := K)) fun Γ1 x => EW c Γ1 b (tTup (tP (K := K))) fun Γ2 ys => k Γ2 (!decide (x ∈ ys))) (hm : behindInMarks .NotIn b = false := by with_unfolding_all rfl) : TW c Γ (.Compare a [.NotIn] [b] pos) k :=
  tw_notInT asD_pr (h.imp fun _ x h => h.imp fun _ ys h => ⟨⟨shaped_pr x, shaped_prs ys⟩, by rw [any_pr]; exact h⟩) hm
theorem anyI_mem {z : Int} : ∀ ys : List Int, (ys.any fun y => PyData.eqv (.int y) (.int z)) = decide (z ∈ ys)
  | [] => by simp
  | y :: ys => by
    rw [List.any_cons, anyI_mem ys, Bool.eq_iff_iff]
    show ((y == z) || decide (z ∈ ys)) = true ↔ _
    simp only [Bool.or_eq_true, decide_eq_true_eq, List.mem_cons, beq_iff_eq]
    exact ⟨fun h => h.elim (fun e => .inl e.symm) .inr, fun h => h.elim (fun e => .inl e.symm) .inr⟩
theorem shaped_is (ys : List Int) : SeqAt.shaped (.tuple (ys.map .int)) = true := by
  unfold SeqAt.shaped
  have h1 : (PyData.tuple (ys.map .int)).canLay0 = true := by
    rw [PyData.canLay0]
    refine layAll_of fun d hd => ?_
    obtain ⟨z, _, rfl⟩ := List.mem_map.mp hd
    rfl
  have h2 : (PyData.tuple (ys.map .int)).depth ≤ 1 := by
    rw [PyData.depth]
    refine Nat.succ_le_succ (depthAll_of fun d hd => ?_)
    obtain ⟨z, _, rfl⟩ := List.mem_map.mp hd
    exact Nat.zero_le _
  rw [h1]
  simp
  omega
theorem ew_inI {k : Gm → Bool → Prop} (h : EW c Γ a (tInt (K := K)) fun Γ1 x => EW c Γ1 b (tTup (tInt (K := K))) fun Γ2 ys => k Γ2 (decide (x ∈ ys))) (hm : behindInMarks .In b = false := by with_unfolding_all rfl) : EW c Γ (.Compare a [.In] [b] pos) tBool k :=
  ew_inT asD_int (h.imp fun _ x h => h.imp fun _ ys h => ⟨⟨rfl, shaped_is ys⟩, by rw [anyI_mem]; exact h⟩) hm
theorem tw_inI {k : Gm → Bool → Prop} (h : EW c Γ a (tInt (K := K)) fun Γ1 x => EW c Γ1 b (tTup (tInt (K := K))) fun Γ2 ys => k Γ2 (decide (x ∈ ys))) (hm : behindInMarks .In b = false := by with_unfolding_all rfl) : TW c Γ (.Compare a [.In] [b] pos) k :=
  tw_inT asD_int (h.imp fun _ x h => h.imp fun _ ys h => ⟨⟨rfl, shaped_is ys⟩, by rw [anyI_mem]; exact h⟩) hm
theorem tw_inP {k : Gm → Bool → Prop} (h : EW c Γ a (tP (K := K)) fun Γ1 x => EW c Γ1 b (tTup (tP (K := K))) fun Γ2 ys => k Γ2 (decide (x ∈ ys))) (hm : behindInMarks .In b = false := by with_unfolding_all rfl) : TW c Γ (.Compare a [.In] [b] pos) k :=
  tw_inT asD_pr (h.imp fun _ x h => h.imp fun _ ys h => ⟨⟨shaped_pr x, shaped_prs ys⟩, by rw [any_pr]; exact h⟩) hm
end
end Px
/-! Px, thirtieth part: sorted lists of pairs; x, y = .. into cells; comprehensions that draw in their test. -/
namespace Px
open PySem PySem.Spec PyProof.Rows L2
section
variable {P : Program} {w : World} {K : PySem.W.Frag} {mg : Str → Option Value} {base : Heap} {lv : Nat} {N : List Str} {sc : Scope} {fn : Str → Bool}
variable {α β ρ : Type} {c : Ctx P w K mg base lv N sc fn} {Γ : Gm} {e a b tg : Expr} {pos p pt pt2 px py : Pos} {T : Ty K α} {R : Rs ρ} {rt : Gm → ρ → Prop} {nx bk ct : Gm → Prop}
/-- pairs in rising order -/
abbrev RiseP (ys : List (Int × Int)) : Prop := ys.Pairwise fun x y => SrtO.lexB y x = false
theorem pairs_vals {F : Hp} {k : V → Int × Int} : ∀ {vs : List V} {xs : List (Int × Int)}, All2 ((tPr (K := K)).r F) vs xs → (∀ v z, (tPr (K := K)).r F v z → k v = z) → xs = vs.map k
  | [], [], _, _ => rfl
  | [], _ :: _, h, _ => h.elim
  | _ :: _, [], h, _ => h.elim
  | v :: vs, z :: xs, ⟨h1, h2⟩, hk => by rw [List.map_cons, hk v z h1, ← pairs_vals h2 hk]
theorem all2_mapP {F : Hp} {k : V → Int × Int} : ∀ {ys : List V}, (∀ v, v ∈ ys → (tPr (K := K)).r F v (k v)) → All2 ((tPr (K := K)).r F) ys (ys.map k)
  | [], _ => trivial
  | y :: ys, h => ⟨h y List.mem_cons_self, all2_mapP fun v hv => h v (List.mem_cons_of_mem _ hv)⟩
theorem all2_memP {F : Hp} : ∀ {vs : List V} {xs : List (Int × Int)}, All2 ((tPr (K := K)).r F) vs xs → ∀ v, v ∈ vs → ∃ z, (tPr (K := K)).r F v z
  | [], [], _, v, hv => nomatch hv
  | [], _ :: _, h, _, _ => h.elim
  | _ :: _, [], h, _, _ => h.elim
  | u :: vs, z :: xs, ⟨h1, h2⟩, v, hv => by
    rcases List.mem_cons.mp hv with e | hv
    · exact ⟨z, e ▸ h1⟩
    · exact all2_memP h2 v hv
theorem pr_uni {F : Hp} {v : V} {z y : Int × Int} (h : (tPr (K := K)).r F v z) (g : (tPr (K := K)).r F v y) : z = y := by
  obtain ⟨p, e, h⟩ := h
  obtain ⟨q, e2, g⟩ := g
  rw [e] at e2
  obtain rfl : p = q := V.ref.inj e2
  rw [h] at g
  have g := HO.tup.inj (Option.some.inj g)
  simp only [List.cons.injEq, V.int.injEq, and_true] at g
  exact Prod.ext g.1 g.2
open Classical in
/-- sorted(list of pairs) -/
theorem el_sortedP (bi : Bi mg) {k : Gm → List (Int × Int) → Prop} (hg : glB sc "sorted" = true) (h : EW c Γ a (tLst tPr) fun Γ1 xs => ∀ ys : List (Int × Int), ys.Perm xs → RiseP ys → k Γ1 ys) (he : ∀ env, starEach [a] env = (false, eval a env) :: starEach [] env := by intro _; rfl) : EL c Γ (.Call (.Name "sorted" p) [a] [] pos) tPr k := fun B σ F H S Q q => by
  obtain ⟨X, rfl, rfl, rfl, rfl, rfl, rfl, nd, rfl, rfl, calm, room, pas⟩ := c
  refine of_pe (pe_callB cr_sortedPO (glB_gl hg) bi.sorted (by decide +kernel) (pa_cons peW pa_nil (he _)) (by decide +kernel) (by decide +kernel) (he _) rfl) (h B σ F H S _ fun v xs Γ1 F1 H1 S1 e1 ⟨l, vs, ev, hl, hr⟩ h1 => ?_)
  let kk : V → Int × Int := fun u => if h : ∃ z, (tPr (K := X.K)).r F1 u z then h.choose else (0, 0)
  have hkk : ∀ v z, (tPr (K := X.K)).r F1 v z → kk v = z := fun v z hz => by
    have hx : ∃ z, (tPr (K := X.K)).r F1 v z := ⟨z, hz⟩
    show (if h : ∃ z, (tPr (K := X.K)).r F1 v z then h.choose else (0, 0)) = z
    rw [dif_pos hx]
    exact pr_uni hx.choose_spec hz
  have hmem : ∀ v, v ∈ vs → (tPr (K := X.K)).r F1 v (kk v) := fun v hv => by
    obtain ⟨z, hz⟩ := all2_memP hr v hv
    rw [hkk v z hz]
    exact hz
  refine ⟨l, vs, kk, by rw [ev], .inl (.inl (S1.sub _ _ hl)), fun x hx => ?_, fun ys q0 g1 g2 hp => ?_⟩
  · obtain ⟨t, e, ht⟩ := hmem x hx
    exact ⟨t, e, S1.sub _ _ ht⟩
  · obtain ⟨S4, b1, b2, b3⟩ := S1.make (o := .lst ys) hp
    refine q q0 ys (ys.map kk) Γ1 _ _ S4 e1 b1 b3 b2 upd_same (all2_mapP fun v hv => hmem v (g2.perm.mem_iff.mp hv)) (h1 _ ?_ ?_)
    · rw [pairs_vals hr hkk]
      exact g2.perm.map kk
    · refine List.pairwise_map.mpr ?_
      exact g1
/-- tuples of pairs, as the defs want them -/
theorem ew_tupPr {k : Gm → List (Int × Int) → Prop} (h : EW c Γ e (tTup (tPr (K := K))) k) : EW c Γ e (tTup (tT2 (tInt (K := K)) tInt)) k := EW.as (fun z : List (Int × Int) => z) h fun F v a ⟨p, vs, e, hp, r⟩ => ⟨p, vs, e, hp, All2.imp (fun _ _ => pr_T2 F _ _) r⟩
theorem asD_pr1 : AsD (tPr (K := K)) pD := fun F v a h => asD_pr F v a (pr_T2 F v a h)
/-- x, y = a, b, where a comprehension reads y alone -/
theorem w_par2C {x y : Str} {kt k2} (hx : sc.names.lookup x = some .local) (hy : sc.names.lookup y = some .cell) (hk : sc.kind = .function)
    (h : EW c Γ (.Tuple [a, b] k2 pt2) T fun Γ1 z => GW c (fun _ => True) Γ1 (.Tuple [.Name x px, .Name y py] kt pt) T z fun Γ2 => nx Γ2)
    (hw : ∀ env : Env, env.blockKind = .function → env.kindOf x = some .local → env.kindOf y = some .cell → swappedStores [.Tuple [.Name x px, .Name y py] kt pt] (.Tuple [a, b] k2 pt2) env = pure none := by intro env h1 h2 h3; unfold swappedStores; simp only [List.filterMap, h1, h2, h3]; rfl)
    (hs : ∀ env, swapsWithSole [.Tuple [.Name x px, .Name y py] kt pt] (.Tuple [a, b] k2 pt2) pos.line env = pure false := by intro _; rfl) :
    S1 c Γ (.Assign [.Tuple [.Name x px, .Name y py] kt pt] (.Tuple [a, b] k2 pt2) pos) (⟨R, rt, nx, bk, ct⟩ : En ρ) := fun B σ F H hB S => by
  obtain ⟨X, rfl, rfl, rfl, rfl, rfl, rfl, nd, rfl, rfl, calm, room, pas⟩ := c
  have hb : X.env.blockKind = .function := by unfold Env.blockKind; rw [hk]; rfl
  refine of_ps (ps_asg peW pgW (hs _) (hw _ hb hx hy)) (h B σ F H S _ fun v x Γ1 F1 H1 S1 e1 r1 h1 => ?_)
  exact h1 B σ F1 H1 S1 v r1 _ fun Γ2 σ2 S2 o2 h2 => ⟨Γ2, F1, S2, h2⟩
/-- x, y = a, b, where comprehensions read both -/
theorem w_par2CC {x y : Str} {kt k2} (hx : sc.names.lookup x = some .cell) (hy : sc.names.lookup y = some .cell) (hk : sc.kind = .function)
    (h : EW c Γ (.Tuple [a, b] k2 pt2) T fun Γ1 z => GW c (fun _ => True) Γ1 (.Tuple [.Name x px, .Name y py] kt pt) T z fun Γ2 => nx Γ2)
    (hw : ∀ env : Env, env.blockKind = .function → env.kindOf x = some .cell → env.kindOf y = some .cell → swappedStores [.Tuple [.Name x px, .Name y py] kt pt] (.Tuple [a, b] k2 pt2) env = pure none := by intro env h1 h2 h3; unfold swappedStores; simp only [List.filterMap, h1, h2, h3]; rfl)
    (hs : ∀ env, swapsWithSole [.Tuple [.Name x px, .Name y py] kt pt] (.Tuple [a, b] k2 pt2) pos.line env = pure false := by intro _; rfl) :
    S1 c Γ (.Assign [.Tuple [.Name x px, .Name y py] kt pt] (.Tuple [a, b] k2 pt2) pos) (⟨R, rt, nx, bk, ct⟩ : En ρ) := fun B σ F H hB S => by
  obtain ⟨X, rfl, rfl, rfl, rfl, rfl, rfl, nd, rfl, rfl, calm, room, pas⟩ := c
  have hb : X.env.blockKind = .function := by unfold Env.blockKind; rw [hk]; rfl
  refine of_ps (ps_asg peW pgW (hs _) (hw _ hb hx hy)) (h B σ F H S _ fun v x Γ1 F1 H1 S1 e1 r1 h1 => ?_)
  exact h1 B σ F1 H1 S1 v r1 _ fun Γ2 σ2 S2 o2 h2 => ⟨Γ2, F1, S2, h2⟩
/-- a comprehension whose test draws -/
theorem all2_sub {f : α → β} : ∀ {as : List α} {os : List (Option β)}, All2 (fun x o => o = none ∨ o = some (f x)) as os → (os.filterMap id).Sublist (as.map f)
  | [], [], _ => .slnil
  | [], _ :: _, h => h.elim
  | _ :: _, [], h => h.elim
  | a :: as, o :: os, ⟨h1, h2⟩ => by
    rcases h1 with e | e
    · subst e
      exact (all2_sub h2).cons _
    · subst e
      exact (all2_sub h2).cons_cons _
end
end Px
namespace LawPf
open PySem PySem.Spec PyProof.Rows L2 Px
def topS (i : Nat) : Stmt := PySem.Challenge.pw_panelead_k14_whole_pieces_parted_and_joi.main.body.getD i (.Pass ⟨0, 0, 0, 0⟩)
abbrev s_beside : Stmt := topS 1
abbrev N_beside : List Str := ["cell", "row", "column"]
theorem sc_beside : FnScope N_beside ["cell"] (defScope s_beside) := ⟨rfl, rfl, rfl, by decide +kernel, rfl, by decide +kernel, by decide +kernel⟩
abbrev s_corner_worth : Stmt := topS 3
abbrev N_corner_worth : List Str := ["there", "many", "one"]
theorem sc_corner_worth : FnScope N_corner_worth ["there"] (defScope s_corner_worth) := ⟨rfl, rfl, rfl, by decide +kernel, rfl, by decide +kernel, by decide +kernel⟩
abbrev s_corners : Stmt := topS 4
abbrev N_corners : List Str := ["piece", "points", "found", "row", "column", "round_it", "down", "right", "cell"]
theorem sc_corners : FnScope N_corners ["piece"] (defScope s_corners) := ⟨rfl, rfl, rfl, by decide +kernel, rfl, by decide +kernel, by decide +kernel⟩
abbrev s_glass : Stmt := topS 5
abbrev N_glass : List Str := ["piece", "measure", "side", "lead", "rim", "half", "cell", "other"]
theorem sc_glass : FnScope N_glass ["piece", "measure"] (defScope s_glass) := ⟨rfl, rfl, rfl, by decide +kernel, rfl, by decide +kernel, by decide +kernel⟩
abbrev s__law_draws : Stmt := topS 7
abbrev N__law_draws : List Str := ["script", "k", "cell"]
theorem sc__law_draws : FnScope N__law_draws ["script", "k"] (defScope s__law_draws) := ⟨rfl, rfl, rfl, by decide +kernel, rfl, by decide +kernel, by decide +kernel⟩
abbrev s__law_draw : Stmt := topS 8
abbrev N__law_draw : List Str := ["draws", "many", "found", "wide"]
theorem sc__law_draw : FnScope N__law_draw ["draws", "many"] (defScope s__law_draw) := ⟨rfl, rfl, rfl, by decide +kernel, rfl, by decide +kernel, by decide +kernel⟩
abbrev s__law_lot : Stmt := topS 9
abbrev N__law_lot : List Str := ["draws", "most", "high", "wide", "share", "found", "row", "column"]
theorem sc__law_lot : FnScope N__law_lot ["draws", "most"] (defScope s__law_lot) := ⟨rfl, rfl, rfl, by decide +kernel, rfl, by decide +kernel, by decide +kernel⟩
abbrev s__law_measure : Stmt := topS 10
abbrev N__law_measure : List Str := ["draws", "side"]
theorem sc__law_measure : FnScope N__law_measure ["draws"] (defScope s__law_measure) := ⟨rfl, rfl, rfl, by decide +kernel, rfl, by decide +kernel, by decide +kernel⟩
abbrev s_law : Stmt := topS 11
abbrev N_law : List Str := ["script", "k", "draws", "cells", "side", "lead", "rule", "row", "upper", "lower", "whole", "parts", "seam", "due", "column", "step", "near", "other", "mirrored", "cell", "part", "down", "right"]
theorem sc_law : FnScope N_law ["script"] (defScope s_law) := ⟨rfl, rfl, rfl, by decide +kernel, rfl, by decide +kernel, by decide +kernel⟩
structure Top (K : PySem.W.Frag) (mg : Str → Option Value) : Prop where
  bi : Bi mg
  f_beside : FnAt K mg "beside" "beside" s_beside ["cell"]
  f_corner_worth : FnAt K mg "corner_worth" "corner_worth" s_corner_worth ["there"]
  f_corners : FnAt K mg "corners" "corners" s_corners ["piece"]
  f_glass : FnAt K mg "glass" "glass" s_glass ["piece", "measure"]
  f__law_draws : FnAt K mg "_law_draws" "_law_draws" s__law_draws ["script", "k"]
  f__law_draw : FnAt K mg "_law_draw" "_law_draw" s__law_draw ["draws", "many"]
  f__law_lot : FnAt K mg "_law_lot" "_law_lot" s__law_lot ["draws", "most"]
  f__law_measure : FnAt K mg "_law_measure" "_law_measure" s__law_measure ["draws"]
theorem dec_t {p : Prop} [Decidable p] (h : decide p = true) : p := of_decide_eq_true h
theorem dec_f {p : Prop} [Decidable p] (h : decide p = false) : ¬ p := of_decide_eq_false h
local macro_rules | `(tactic| walk_at "sd") => `(tactic| first
  | exact of_decide_eq_true rfl
  | assumption
  | omega
  | exact cmul_of (by omega)
  | exact cdiv_of (by omega) (by omega)
  | exact cpow_of (by omega) (by omega) (by omega) (by omega)
  | rfl)
local macro_rules | `(tactic| walk_at "ewb") => `(tactic| first
  | ((with_reducible show EW _ _ (.BinOp _ .Add _ _) _ _); refine ew_add ?_)
  | ((with_reducible show EW _ _ (.BinOp _ .Sub _ _) _ _); refine ew_sub ?_)
  | ((with_reducible show EW _ _ (.BinOp _ .Mult _ _) _ _); refine ew_mul ?_)
  | ((with_reducible show EW _ _ (.BinOp _ .FloorDiv _ _) _ _); refine ew_div ?_)
  | ((with_reducible show EW _ _ (.BinOp _ .Mod _ _) _ _); refine ew_mod ?_)
  | ((with_reducible show EW _ _ (.BinOp _ .Pow _ _) _ _); refine ew_pow ?_)
  | ((with_reducible show EW _ _ (.BinOp _ .BitAnd _ _) _ _); refine ew_and ?_)
  | ((with_reducible show EW _ _ (.BinOp _ .LShift _ _) _ _); refine ew_shl ?_)
  | ((with_reducible show EW _ _ (.BinOp _ .RShift _ _) _ _); refine ew_shr ?_)
  )
local macro_rules | `(tactic| walk_at "ewc") => `(tactic| first
  | ((with_reducible show EW _ _ (.Compare _ [.Lt] [_] _) _ _); refine ew_lt ?_)
  | ((with_reducible show EW _ _ (.Compare _ [.LtE] [_] _) _ _); refine ew_le ?_)
  | ((with_reducible show EW _ _ (.Compare _ [.Gt] [_] _) _ _); refine ew_gt ?_)
  | ((with_reducible show EW _ _ (.Compare _ [.GtE] [_] _) _ _); refine ew_ge ?_)
  )
local macro_rules | `(tactic| walk_at "wk") => `(tactic| first
  | exact wk_nil
  | (refine wk_keep ?_; walk_at "wk")
  | (refine wk_drop ?_; walk_at "wk"))
local macro_rules | `(tactic| walk_at "tw") => `(tactic| first
  | ((with_reducible show TW _ _ (.Compare _ [.Lt] [_] _) _); refine tw_lt ?_)
  | ((with_reducible show TW _ _ (.Compare _ [.LtE] [_] _) _); refine tw_le ?_)
  | ((with_reducible show TW _ _ (.Compare _ [.Gt] [_] _) _); refine tw_gt ?_)
  | ((with_reducible show TW _ _ (.Compare _ [.GtE] [_] _) _); refine tw_ge ?_)
  | ((with_reducible show TW _ _ (.BoolOp _ _ _) _); refine tw_w ?_)
  | ((with_reducible show TW _ _ (.UnaryOp .Not _ _) _); refine tw_not ?_)
  | ((with_reducible show TW _ _ (.Call _ _ _ _) _); refine tw_val ?_)
  | ((with_reducible show TW _ _ (.Name _ _) _); refine tw_val ?_)
  )
local macro_rules | `(tactic| walk_at "ew") => `(tactic| first
  | ((with_reducible show EW _ _ (.Name _ _) _ _); first | refine ew_name rfl rfl rfl ?_ | refine ew_nameT rfl rfl rfl ?_)
  | ((with_reducible show EW _ _ (.Constant (.int _) _ _) _ _); refine ew_int ?_)
  | ((with_reducible show EW _ _ (.Constant (.bool _) _ _) _ _); refine ew_bl ?_)
  | ((with_reducible show EW _ _ (.Constant (.str _) _ _) _ _); refine ew_str ?_)
  | ((with_reducible show EW _ _ (.BinOp _ _ _ _) _ _); walk_at "ewb")
  | ((with_reducible show EW _ _ (.Compare _ _ _ _) _ _); walk_at "ewc")
  | ((with_reducible show EW _ _ (.UnaryOp .USub _ _) _ _); refine ew_neg ?_)
  | ((with_reducible show EW _ _ (.UnaryOp .Not _ _) _ _); refine ew_not ?_)
  | ((with_reducible show EW _ _ (.IfExp _ _ _ _) _ _); refine ew_ifx ?_)
  | ((with_reducible show EW _ _ (.Call (.Name "_law_draw" _) _ _ _) _ _); refine ew_draw (by assumption) (by decide) rfl rfl rfl rfl ?_)
  | ((with_reducible show EW _ _ (.Subscript (.List _ _) _ _) _ _); refine ew_menu ?_)
  )
local macro_rules | `(tactic| walk_at "s1") => `(tactic| first
  | ((with_reducible show S1 _ _ (.Return (some _) _) ⟨rTy _, _, _, _, _⟩); refine w_ret ?_)
  | ((with_reducible show S1 _ _ (.Assign [.Name _ _] (.BinOp _ _ _ _) _) _); refine w_set (T := tInt) rfl rfl ?_)
  | ((with_reducible show S1 _ _ (.Assign [.Name _ _] (.Constant (.int _) _ _) _) _); refine w_set (T := tInt) rfl rfl ?_)
  | ((with_reducible show S1 _ _ (.AugAssign _ .Add _ _) _); refine w_addTo rfl rfl rfl ?_)
  )
local macro_rules | `(tactic| walk_at "tww") => `(tactic| first
  | ((with_reducible show TWW _ _ (.BoolOp .And (_ :: _ :: _) _) _); refine tww_and ?_)
  | ((with_reducible show TWW _ _ (.BoolOp .And [_] _) _); refine tww_and1 ?_)
  | ((with_reducible show TWW _ _ (.BoolOp .Or (_ :: _ :: _) _) _); refine tww_or ?_)
  | ((with_reducible show TWW _ _ (.BoolOp .Or [_] _) _); refine tww_or1 ?_)
  )
local macro_rules | `(tactic| walk_at "ev") => `(tactic| first
  | ((with_reducible show EW _ _ _ _ _); walk_at "ew")
  | ((with_reducible show TW _ _ _ _); walk_at "tw")
  | ((with_reducible show SW _ _ _ _); first | refine w_cons ?_ | refine w_nil ?_)
  | ((with_reducible show S1 _ _ _ _); walk_at "s1")
  | ((with_reducible show TWW _ _ _ _); walk_at "tww")
  | ((with_reducible show EWL _ _ _ _ _); first | refine ewl_cons ?_ | refine ewl_nil ?_)
  | ((with_reducible show EWs _ _ _ _); first | refine' ews_cons ?_ | refine ews_nil ?_)
  | ((with_reducible show (_ = true → _) ∧ (_ = false → _)); fail)
  | ((with_reducible show _ ∧ _); refine And.intro (by walk_at "sd") ?_))
local macro_rules | `(tactic| walk_at "go") => `(tactic| repeat walk_at "ev")
section
variable {P : Program} {w : World} {K : PySem.W.Frag} {mg : Str → Option Value} {base : Heap}
theorem p_draws (T : Top K mg) : Prom P w K mg base "_law_draws" 1 ["script", "k"] (spDraws K) :=
  T.f__law_draws.prom fun f fd F => fn_news F sc__law_draws (fun _ => rfl) fun ⟨ns, k⟩ hp c => by
    obtain ⟨h1, h2, h3⟩ : ns.length ≤ 63 ∧ 0 ≤ k ∧ k < 64 := hp
    have hl : ∀ k : Gm → Int → Prop, ∀ Γ p p' q, Γ[0]? = some (some (val (tSeq (K := K) tInt) ns)) → k Γ ns.length → EW c Γ (.Call (.Name "len" p) [.Name "script" p'] [] q) tInt k := fun k Γ p p' q hg hk => ew_len T.bi rfl List.length lenQ (ew_name rfl rfl hg hk)
    walk_at "go"
    refine w_cut (fun Γ => ∃ cell : Int, 0 ≤ cell ∧ cell < 2 ^ 999 ∧ Γ = [some (val (tSeq (K := K) tInt) ns), some (val (tInt (K := K)) k), some (val (tInt (K := K)) cell)]) ?_ ?_
    · refine w_if ?_
      walk_at "go"
      refine hl _ _ _ _ _ rfl ?_
      refine ⟨fun c1 => ?_, fun c1 => ?_⟩
      · have c2 : k < ns.length := dec_t c1
        walk_at "go"
        refine ew_ixQ ?_
        walk_at "go"
        obtain ⟨x, hx⟩ := atI_lt h2 c2
        refine ⟨x, hx, ?_⟩
        refine ew_mulW ?_
        refine ew_mulW ?_
        refine ew_mulW ?_
        refine ew_mulW ?_
        walk_at "go"
        refine ⟨by first | decide +kernel | (unfold CMulW; decide +kernel), ?_⟩
        walk_at "go"
        refine ⟨by first | decide +kernel | (unfold CMulW; decide +kernel), ?_⟩
        walk_at "go"
        refine ⟨by first | decide +kernel | (unfold CMulW; decide +kernel), ?_⟩
        walk_at "go"
        refine ⟨by first | decide +kernel | (unfold CMulW; decide +kernel), ?_⟩
        refine ⟨by first | decide +kernel | (unfold CMulW; decide +kernel), ?_⟩
        walk_at "go"
        exact ⟨_, Int.emod_nonneg _ (by decide +kernel), Int.lt_trans (Int.emod_lt_of_pos _ (by decide +kernel)) (by decide +kernel), rfl⟩
      · walk_at "go"
        refine w_if ?_
        walk_at "go"
        refine hl _ _ _ _ _ rfl ?_
        walk_at "go"
        refine ⟨fun c3 => ?_, fun c3 => ?_⟩
        · have c4 : (0 : Int) < ns.length := dec_t c3
          walk_at "go"
          refine ew_ixQ ?_
          walk_at "go"
          refine hl _ _ _ _ _ rfl ?_
          refine ⟨c4, ?_⟩
          obtain ⟨x, hx⟩ := atI_lt (xs := ns) (Int.emod_nonneg k (show (ns.length : Int) ≠ 0 by omega)) (Int.emod_lt_of_pos k c4)
          refine ⟨x, hx, ?_⟩
          walk_at "go"
          have m1 := Int.emod_nonneg x (show (10 : Int) ^ Int.toNat 15 ≠ 0 by decide +kernel)
          have m2 := Int.emod_lt_of_pos x (show (0 : Int) < 10 ^ Int.toNat 15 by decide +kernel)
          have m3 : (10 : Int) ^ Int.toNat 15 = 1000000000000000 := by decide +kernel
          rw [m3] at m1 m2
          exact ⟨x % 10 ^ Int.toNat 15 + 15485863 * k, by rw [m3]; omega, by rw [m3]; omega, rfl⟩
        · walk_at "go"
          exact ⟨15485863 * k, by omega, by omega, rfl⟩
    · rintro Γ ⟨cell, q1, q2, rfl⟩
      refine w_cons ?_
      refine w_retD ?_
      walk_at "go"
      refine ew_intOf T.bi rfl ?_
      walk_at "go"
      have m3 : (10 : Int) ^ Int.toNat 18 = 1000000000000000000 := by decide +kernel
      have fin : CMul cell (if decide (10 ^ Int.toNat 18 ≤ cell) = true then 1 else 0) ∧ 0 ≤ cell * (if decide (10 ^ Int.toNat 18 ≤ cell) = true then 1 else 0) ∧ cell * (if decide (10 ^ Int.toNat 18 ≤ cell) = true then 1 else 0) < 2 ^ 1000 := by
        split
        · exact ⟨cmul_of (by omega), by omega, by omega⟩
        · exact ⟨cmul_of (by omega), by omega, by omega⟩
      have e1 := Int.emod_nonneg (cell * 69621 + 86028121 * (k + 1)) (show (2147483646 : Int) ≠ 0 by decide)
      have e2 := Int.emod_lt_of_pos (cell * 69621 + 86028121 * (k + 1)) (show (0 : Int) < 2147483646 by decide)
      exact ⟨fin.2.1, fin.2.2, by omega, by omega, trivial⟩
theorem p_draw (T : Top K mg) : Prom P w K mg base "_law_draw" 1 ["draws", "many"] (spDraw K) :=
  T.f__law_draw.prom fun f fd F => fn_draws F sc__law_draw (fun _ => rfl) fun n hp dr c => by
    obtain ⟨h1, h2⟩ : 0 < n ∧ n < 2 ^ 62 := hp
    refine w_cons ?_
    refine w_cut (fun Γ => Γ = [some (drw dr), some (val (tInt (K := K)) n), none, none]) ?_ ?_
    · refine w_if ?_
      walk_at "go"
      refine ew_drw rfl rfl rfl (.inl ⟨rfl, fun a a1 a2 => ?_⟩)
      walk_at "go"
      refine ⟨fun b1 => ?_, fun b1 => ?_⟩
      · walk_at "go"
        refine ew_drw rfl rfl rfl (.inl ⟨rfl, fun b b1 b2 => ?_⟩)
        walk_at "go"
        refine w_drw (i := 0) (dr := dr) rfl rfl ?_
        walk_at "go"
        refine ew_drw rfl rfl rfl (.inl ⟨rfl, fun d d1 d2 => ?_⟩)
        walk_at "go"
        refine ⟨.inl ⟨rfl, Int.ediv_nonneg d1 (by omega), Int.lt_of_le_of_lt (Int.ediv_le_self _ d1) d2⟩, ?_⟩
        walk_at "go"
        exact ⟨Int.emod_nonneg b (by omega), Int.emod_lt_of_pos b h1⟩
      · walk_at "go"
        rfl
    · rintro Γ rfl
      walk_at "go"
      refine w_while (fun m Γ => ∃ fo wi : Int, Γ = [some (drw dr), some (val (tInt (K := K)) n), some (val (tInt (K := K)) fo), some (val (tInt (K := K)) wi)] ∧ 0 ≤ fo ∧ fo < wi ∧ 1 ≤ wi ∧ m = (n - wi).toNat) ⟨_, 0, 1, rfl, by omega, by omega, by omega, rfl⟩ ?_
      rintro m Γ ⟨fo, wi, rfl, q1, q2, q3, rfl⟩
      walk_at "go"
      refine ⟨fun b1 => ?_, fun b1 => ?_⟩
      · have b2 : wi < n := dec_t b1
        walk_at "go"
        refine w_drw (i := 0) (dr := dr) rfl rfl ?_
        walk_at "go"
        refine ew_drw rfl rfl rfl (.inr ⟨rfl, fun a a1 a2 => ?_⟩)
        walk_at "go"
        have e1 := Int.emod_nonneg (a * 69621) (show (2147483647 : Int) ≠ 0 by decide)
        have e2 := Int.emod_lt_of_pos (a * 69621) (show (0 : Int) < 2147483647 by decide)
        refine ew_drw rfl rfl rfl (.inr ⟨rfl, fun b d1 d2 => ?_⟩)
        refine ew_add ?_
        refine ew_div ?_
        refine ew_drw rfl rfl rfl (.inr ⟨rfl, fun d d3 d4 => ?_⟩)
        walk_at "go"
        generalize hx : b * (d / 128 + 3) = x
        have e3 := Int.emod_nonneg x (show (2147483629 : Int) ≠ 0 by decide)
        have e4 := Int.emod_lt_of_pos x (show (0 : Int) < 2147483629 by decide)
        exact ⟨(n - wi * 268435456).toNat, by omega, fo * 268435456 + x % 2147483629 / 8, wi * 268435456, rfl, by omega, by omega, by omega, rfl⟩
      · walk_at "go"
        exact ⟨Int.emod_nonneg fo (by omega), Int.emod_lt_of_pos fo h1⟩
end
section
def besideI (z : Int × Int) : List (Int × Int) := [(z.1 - 1, z.2), (z.1, z.2 - 1), (z.1, z.2 + 1), (z.1 + 1, z.2)]
def manyB (bs : List Bool) : Nat := (bs.filter id).length
def worthI (bs : List Bool) : Int := if manyB bs = 1 then 1 else if manyB bs = 3 then -1 else if manyB bs = 2 ∧ bs[0]? = bs[2]? then 2 else 0
def ptsI (piece : List (Int × Int)) : List (Int × Int) := foldC (fun _ => true) (fun z t => foldC (fun _ => true) (fun d t => foldC (fun _ => true) (fun r t => addK t (z.1 + d, z.2 + r)) [(0 : Int), 1] t) [(0 : Int), 1] t) piece []
def roundI (z : Int × Int) : List (Int × Int) := [(z.1 - 1, z.2 - 1), (z.1 - 1, z.2), (z.1, z.2), (z.1, z.2 - 1)]
def roundB (piece : List (Int × Int)) (z : Int × Int) : List Bool := (roundI z).map fun y => decide (y ∈ piece)
def cornersI (piece : List (Int × Int)) : Int := ((ptsI piece).map fun z => worthI (roundB piece z)).sum
def rimI (piece : List (Int × Int)) : List Int := foldC (fun _ => true) (fun z t => foldC (fun o => decide (o ∉ piece)) (fun _ t => t ++ [(1 : Int)]) (besideI z) t) piece []
def glassI (piece : List (Int × Int)) (side lead : Int) : Int := piece.length * side * side - (rimI piece).length * side * (lead / 2) + cornersI piece * (lead / 2) * (lead / 2)
theorem worth_b (bs : List Bool) : -2 ≤ worthI bs ∧ worthI bs ≤ 2 := by
  unfold worthI
  split
  · omega
  · split
    · omega
    · split <;> omega
theorem addK_len (t : List (Int × Int)) (z : Int × Int) : (addK t z).length ≤ t.length + 1 := by
  unfold addK
  split
  · omega
  · rw [List.length_append]; exact Nat.le_refl _
theorem pts_len (piece : List (Int × Int)) : (ptsI piece).length ≤ piece.length * 4 := by
  have h1 : ∀ (z : Int × Int) (t : List (Int × Int)), (foldC (fun _ => true) (fun d t => foldC (fun _ => true) (fun r t => addK t (z.1 + d, z.2 + r)) [(0 : Int), 1] t) [(0 : Int), 1] t).length ≤ t.length + 4 := fun z t => by
    have a1 := addK_len t (z.1 + 0, z.2 + 0)
    have a2 := addK_len (addK t (z.1 + 0, z.2 + 0)) (z.1 + 0, z.2 + 1)
    have a3 := addK_len (addK (addK t (z.1 + 0, z.2 + 0)) (z.1 + 0, z.2 + 1)) (z.1 + 1, z.2 + 0)
    have a4 := addK_len (addK (addK (addK t (z.1 + 0, z.2 + 0)) (z.1 + 0, z.2 + 1)) (z.1 + 1, z.2 + 0)) (z.1 + 1, z.2 + 1)
    show (addK (addK (addK (addK t (z.1 + 0, z.2 + 0)) (z.1 + 0, z.2 + 1)) (z.1 + 1, z.2 + 0)) (z.1 + 1, z.2 + 1)).length ≤ _
    omega
  have := foldC_sz (Ac := acD) (n := 4) (p := fun _ => true) (f := fun (z : Int × Int) t => foldC (fun _ => true) (fun d t => foldC (fun _ => true) (fun r t => addK t (z.1 + d, z.2 + r)) [(0 : Int), 1] t) [(0 : Int), 1] t) (bs := piece) (t := []) fun z _ _ t => h1 z t
  have h2 : (ptsI piece).length ≤ 0 + piece.length * 4 := this
  omega
theorem rim_len (piece : List (Int × Int)) : (rimI piece).length ≤ piece.length * 4 := by
  have h1 : ∀ (z : Int × Int) (t : List Int), (foldC (fun o => decide (o ∉ piece)) (fun _ t => t ++ [(1 : Int)]) (besideI z) t).length ≤ t.length + 4 := fun z t => by
    have h : (foldC (fun o => decide (o ∉ piece)) (fun _ t => t ++ [(1 : Int)]) (besideI z) t).length ≤ t.length + (besideI z).length * 1 := foldC_sz (Ac := (⟨fun _ _ _ => True, fun _ _ => trivial, List.length⟩ : Acc (List Int))) fun b _ _ t => by
      show (t ++ [(1 : Int)]).length ≤ t.length + 1
      rw [List.length_append]
      exact Nat.le_refl _
    exact h
  have h2 : (rimI piece).length ≤ 0 + piece.length * 4 := foldC_sz (Ac := (⟨fun _ _ _ => True, fun _ _ => trivial, List.length⟩ : Acc (List Int))) (n := 4) (p := fun _ => true) (bs := piece) (t := []) fun z _ _ t => h1 z t
  omega
theorem sum_b {α : Type} {f : α → Int} (h : ∀ x, -2 ≤ f x ∧ f x ≤ 2) : ∀ l : List α, -(2 * (l.length : Int)) ≤ (l.map f).sum ∧ (l.map f).sum ≤ 2 * l.length
  | [] => by simp
  | x :: l => by
    have := sum_b h l
    have := h x
    rw [List.map_cons, List.sum_cons, List.length_cons]
    omega
theorem corners_b (piece : List (Int × Int)) : -(8 * (piece.length : Int)) ≤ cornersI piece ∧ cornersI piece ≤ 8 * piece.length := by
  have h1 := sum_b (f := fun z => worthI (roundB piece z)) (fun z => worth_b _) (ptsI piece)
  have h2 := pts_len piece
  unfold cornersI
  omega
end
section
variable {P : Program} {w : World} {K : PySem.W.Frag} {mg : Str → Option Value} {base : Heap}
theorem gw_pr {lv : Nat} {N : List Str} {sc : Scope} {fn : Str → Bool} {c : Ctx P w K mg base lv N sc fn} {Γ : Gm} {vs : Nat → Prop} {tg : Expr} {x : Int × Int} {k : Gm → Prop} (h : GW c vs Γ tg (tP (K := K)) x k) : GW c vs Γ tg (tPr (K := K)) x k := fun B σ F H S v r Q q => h B σ F H S v (pr_T2 F v x r) Q q
theorem ea_P {lv : Nat} {N : List Str} {sc : Scope} {fn : Str → Bool} {c : Ctx P w K mg base lv N sc fn} {Γ : Gm} {e : Expr} {k : Gm → Int × Int → Prop} (h : EW c Γ e (tPr (K := K)) k) : EW c Γ e (tP (K := K)) k := EW.as (fun z : Int × Int => z) h pr_T2
abbrev spBes (K : PySem.W.Frag) : Sp := spF (fun z : Int × Int => [tv (tP (K := K)) z]) (tP (K := K)) (fun _ => True) (fun z r => r = besideI z)
theorem p_beside (T : Top K mg) : Prom P w K mg base "beside" 1 ["cell"] (spBes K) :=
  T.f_beside.prom fun f fd F => fn_fresh F sc_beside (fun _ => rfl) fun z _ c => by
    refine w_cons (w_asgT (T := tP) (ew_name rfl rfl rfl (gw_T2 (gw_name rfl rfl trivial (of_decide_eq_true rfl) (gw_name rfl rfl trivial (of_decide_eq_true rfl) ?_)))))
    refine w_cons (w_retL (el_lst ?_))
    refine ewl_cons (ea_P (ew_pr (ew_sub (ew_name rfl rfl rfl (ew_int (ew_name rfl rfl rfl ?_))))))
    refine ewl_cons (ea_P (ew_pr (ew_name rfl rfl rfl (ew_sub (ew_name rfl rfl rfl (ew_int ?_))))))
    refine ewl_cons (ea_P (ew_pr (ew_name rfl rfl rfl (ew_add (ew_name rfl rfl rfl (ew_int ?_))))))
    refine ewl_cons (ea_P (ew_pr (ew_add (ew_name rfl rfl rfl (ew_int (ew_name rfl rfl rfl ?_))))))
    exact ewl_nil ⟨by show 4 ≤ sizeLine; decide, rfl⟩
abbrev spWorth (K : PySem.W.Frag) : Sp := spP (fun bs : List Bool => [tv (tLst (tBool (K := K))) bs]) (tInt (K := K)) (fun bs => bs.length = 4) (fun bs r => r = worthI bs)
theorem p_worth (T : Top K mg) : Prom P w K mg base "corner_worth" 1 ["there"] (spWorth K) :=
  T.f_corner_worth.prom fun f fd F => fn_pure F sc_corner_worth (fun _ => rfl) fun bs hp c => by
    have h4 : bs.length = 4 := hp
    have hsz : 100000 < sizeLine := by decide +kernel
    refine w_cons (w_set (T := tInt) rfl rfl (ew_lenL (A := tInt) T.bi rfl (ew_el (el_comp (A := tBool) (B' := tInt) [("one", 2)] rfl (fun b o => o = if (fun b : Bool => b) b then some ((fun _ => (1 : Int)) b) else none) ?_))))
    refine iw_list (ew_name rfl rfl rfl ⟨rfl, by omega, ?_, ?_⟩)
    · intro c' j x hj
      refine gw_name rfl rfl (by decide) (of_decide_eq_true rfl) ?_
      intro c''
      refine ts_one (tw_val (ew_name rfl rfl rfl ⟨fun b c3 => ew_int ⟨rfl, ?_⟩, fun b => ⟨rfl, ?_⟩⟩))
      · show some 1 = if x = true then some (1 : Int) else none
        rw [if_pos b]
      · show none = if x = true then some (1 : Int) else none
        rw [b]; rfl
    intro os ho
    have eo : ((os.filterMap id).length : Int) = manyB bs := by
      rw [all2_ite ho, List.length_map]
      rfl
    rw [eo]
    clear ho eo os
    refine ⟨of_decide_eq_true rfl, ?_⟩
    refine w_cons (w_if (tw_inI (ew_name rfl rfl rfl (ew_tupL ?_))))
    refine ewl_cons (ew_int ?_)
    refine ewl_cons (ew_int ?_)
    refine ewl_nil ⟨by show 2 ≤ sizeLine; omega, fun b1 => ?_, fun b1 => ?_⟩
    · have b1 : (manyB bs : Int) ∈ [(1 : Int), 3] := of_decide_eq_true b1
      simp only [List.mem_cons, List.not_mem_nil, or_false] at b1
      refine w_cons (w_ret (ew_ifx (tw_eq fInt (ew_name rfl rfl rfl (ew_int ⟨fun b2 => ew_int ?_, fun b2 => ew_neg (ew_int ?_)⟩)))))
      · have b2 := of_decide_eq_true b2
        show 1 = worthI bs
        unfold worthI
        rw [if_pos (by omega)]
      · have b2 := of_decide_eq_false b2
        show -1 = worthI bs
        unfold worthI
        rw [if_neg (by omega), if_pos (by omega)]
    · have b1 : ¬ (manyB bs : Int) ∈ [(1 : Int), 3] := of_decide_eq_false b1
      simp only [List.mem_cons, List.not_mem_nil, or_false, not_or] at b1
      obtain ⟨x0, x1, x2, x3, rfl⟩ : ∃ x0 x1 x2 x3, bs = [x0, x1, x2, x3] := by
        match bs, h4 with
        | [x0, x1, x2, x3], _ => exact ⟨x0, x1, x2, x3, rfl⟩
      refine w_nil (w_cons (w_ret (ew_ifx (TW.imp (k := fun G x => G = [some (val (tLst (tBool (K := K))) [x0, x1, x2, x3]), some (val (tInt (K := K)) (manyB [x0, x1, x2, x3] : Int)), none] ∧ (x = true ↔ manyB [x0, x1, x2, x3] = 2 ∧ x0 = x2)) ?_ ?_))))
      · refine tw_w (tww_and (tw_eq fInt (ew_name rfl rfl rfl (ew_int ⟨fun b2 => ?_, fun b2 => ⟨rfl, ?_⟩⟩))))
        · have b2 := of_decide_eq_true b2
          refine tww_and1 (tw_eq fBool (ew_ixL (ew_name rfl rfl rfl (ew_int ⟨x0, atI_nat (j := 0) rfl, ew_ixL (ew_name rfl rfl rfl (ew_int ⟨x2, atI_nat (j := 2) rfl, rfl, ?_⟩))⟩))))
          rw [decide_eq_true_iff]
          exact ⟨fun h => ⟨by omega, h⟩, fun h => h.2⟩
        · have b2 := of_decide_eq_false b2
          exact ⟨(fun h => nomatch h), fun h => absurd h.1 (by omega)⟩
      · rintro G x ⟨rfl, hx⟩
        have e0 : worthI [x0, x1, x2, x3] = if manyB [x0, x1, x2, x3] = 2 ∧ x0 = x2 then 2 else 0 := by
          unfold worthI
          rw [if_neg (by omega), if_neg (by omega)]
          show (if manyB [x0, x1, x2, x3] = 2 ∧ some x0 = some x2 then (2 : Int) else 0) = _
          simp only [Option.some.injEq]
        refine ⟨fun b2 => ew_int ?_, fun b2 => ew_int ?_⟩
        · show 2 = worthI _
          rw [e0, if_pos (hx.mp b2)]
        · show 0 = worthI _
          rw [e0, if_neg fun h => by rw [hx.mpr h] at b2; cases b2]
abbrev spCor (K : PySem.W.Frag) : Sp := spP (fun ps : List (Int × Int) => [tv (tTup (tP (K := K))) ps]) (tInt (K := K)) (fun ps => ps.length ≤ 64) (fun ps r => r = cornersI ps)
theorem p_corners (T : Top K mg) : Prom P w K mg base "corners" 2 ["piece"] (spCor K) :=
  T.f_corners.prom fun f fd F => fn_flat (fun _ _ _ _ h => h) F sc_corners (fun _ => rfl) fun ps hp c => by
    have hl : ps.length ≤ 64 := hp
    have hW : Prom P w K mg base "corner_worth" 1 ["there"] (spWorth K) := p_worth T
    have hsz : 100000 < sizeLine := by decide +kernel
    refine w0_cons ?_
    refine w_dc3 (A := tP) (bs := ps) (n := 4) (p := fun _ => true) (f := fun z t => foldC (fun _ => true) (fun d t => foldC (fun _ => true) (fun r t => addK t (z.1 + d, z.2 + r)) [(0 : Int), 1] t) [(0 : Int), 1] t) (vs1 := [6, 7]) (vs2 := [7]) [("row", 3), ("column", 4), ("down", 6), ("right", 7)] rfl (by decide) (by decide) rfl rfl rfl rfl rfl (iw_tup (ew_name rfl rfl rfl ⟨rfl, rfl⟩)) rfl (by omega) ?_ ⟨of_decide_eq_true rfl, ?_⟩
    · intro D i z hz
      refine ⟨_, fun c' => gw_T2 (gw_name rfl rfl (by decide) (of_decide_eq_true rfl) (gw_name rfl rfl (by decide) (of_decide_eq_true rfl) rfl)), rfl, fun c' => ts_nil ⟨rfl, rfl⟩, fun _ => ?_⟩
      refine body_in (A := tInt) (bs := [(0 : Int), 1]) (n := 2) (p := fun _ => true) (by decide) (fun c' => iw_tup (ew_tupL (ewl_cons (ew_int (ewl_cons (ew_int (ewl_nil ⟨by show 2 ≤ sizeLine; omega, rfl, rfl⟩))))))) ?_
      intro i d hd
      refine ⟨_, fun c' => gw_name rfl rfl (by decide) (of_decide_eq_true rfl) rfl, rfl, fun c' => ts_nil ⟨rfl, rfl⟩, fun _ => ?_⟩
      refine body_in (A := tInt) (bs := [(0 : Int), 1]) (n := 1) (p := fun _ => true) (by decide) (fun c' => iw_tup (ew_tupL (ewl_cons (ew_int (ewl_cons (ew_int (ewl_nil ⟨by show 2 ≤ sizeLine; omega, rfl, rfl⟩))))))) ?_
      intro i r hr
      refine ⟨_, fun c' => gw_name rfl rfl (by decide) (of_decide_eq_true rfl) rfl, rfl, fun c' => ts_nil ⟨rfl, rfl⟩, fun _ => ?_⟩
      exact body_put (fun c' => ew_pr (ew_add (ew_name rfl rfl rfl (ew_name rfl rfl rfl (ew_add (ew_name rfl rfl rfl (ew_name rfl rfl rfl ⟨rfl, rfl⟩))))))) (fun c' => ew_bl ⟨rfl, rfl⟩) rfl
    show SW0 _ [some (val (tTup (tP (K := K))) ps), some (ownD (ptsI ps)), none, none, none, none, none, none, none] _ _
    have hpl := pts_len ps
    refine w0_lockD (K := K) (i := 1) (ks := ptsI ps) rfl (nts_some nt_val (nts_some nt_ownD (nts_none (nts_none (nts_none (nts_none (nts_none (nts_none (nts_none nts_nil))))))))) ?_
    refine w0_cons (w_set (T := tInt) rfl rfl (ew_int ⟨of_decide_eq_true rfl, ?_⟩))
    have hco : cornersI ps = ((ptsI ps).map fun z => worthI (roundB ps z)).sum := rfl
    generalize ptsI ps = ks at hpl hco ⊢
    refine w0_weak [some (val (tTup (tP (K := K))) ps), some (val (tKs (K := K)) ks), some (val (tInt (K := K)) 0), none, none, none, none, none, none] (by walk_at "wk") ?_
    refine w0_cons (w_for (A := tPr) (iw_tks (ew_name rfl rfl rfl ⟨fun i G => G = [some (val (tTup (tP (K := K))) ps), some (val (tKs (K := K)) ks), some (val (tInt (K := K)) (((ks.take i).map fun z => worthI (roundB ps z)).sum)), none, none, none, none, none, none], rfl, ?_, ?_⟩)))
    · rintro i z hz G rfl
      refine gw_pr (gw_T2 (gw_name rfl rfl trivial (of_decide_eq_true rfl) (gw_name rfl rfl trivial (of_decide_eq_true rfl) ?_)))
      refine w_cons (w_setL (T := tP) rfl rfl (el_lst ?_))
      refine ewl_cons (ea_P (ew_pr (ew_sub (ew_name rfl rfl rfl (ew_int (ew_sub (ew_name rfl rfl rfl (ew_int ?_))))))))
      refine ewl_cons (ea_P (ew_pr (ew_sub (ew_name rfl rfl rfl (ew_int (ew_name rfl rfl rfl ?_))))))
      refine ewl_cons (ea_P (ew_pr (ew_name rfl rfl rfl (ew_name rfl rfl rfl ?_))))
      refine ewl_cons (ea_P (ew_pr (ew_name rfl rfl rfl (ew_sub (ew_name rfl rfl rfl (ew_int ?_))))))
      refine ewl_nil ⟨by show 4 ≤ sizeLine; omega, of_decide_eq_true rfl, ?_⟩
      refine w_frz 5 rfl ?_
      refine w_cons (w_addTo rfl rfl rfl (ew_call hW (by decide) rfl (ews_cons (T := tLst tBool) (ew_el (el_comp (A := tP) (B' := tBool) [("cell", 8)] rfl (fun y o => o = some (decide (y ∈ ps))) ?_)))))
      refine iw_list (ew_name rfl rfl rfl ⟨rfl, by show 4 < sizeLine; omega, ?_, ?_⟩)
      · intro c' j y hj
        refine gw_name rfl rfl (by decide) (of_decide_eq_true rfl) ?_
        intro c''
        refine ts_nil ⟨fun _ c3 => ?_, fun e => nomatch e⟩
        exact ew_inP (ew_name rfl rfl rfl (ew_name rfl rfl rfl ⟨rfl, rfl⟩))
      intro os ho
      rw [all2_some ho]
      clear ho os
      refine ews_nil ⟨_, rfl, rfl, fun r hr => ⟨of_decide_eq_true rfl, ?_⟩⟩
      have hr : r = worthI (roundB ps z) := hr
      subst hr
      refine w_nilW [some (val (tTup (tP (K := K))) ps), some (val (tKs (K := K)) ks), some (val (tInt (K := K)) (((ks.take i).map fun z => worthI (roundB ps z)).sum + worthI (roundB ps z))), none, none, none, none, none, none] (by walk_at "wk") ?_
      have e : ((ks.take (i + 1)).map fun z => worthI (roundB ps z)).sum = ((ks.take i).map fun z => worthI (roundB ps z)).sum + worthI (roundB ps z) := by
        rw [List.take_add_one, hz]
        show ((ks.take i ++ [z]).map fun z => worthI (roundB ps z)).sum = _
        rw [List.map_append, List.sum_append]
        show _ + (worthI (roundB ps z) + 0) = _
        rw [Int.add_zero]
      show (_ : Gm) = _
      rw [e]
    · rintro G rfl
      rw [List.take_length, ← hco]
      exact w0_of (w_cons (w_ret (ew_name rfl rfl rfl rfl)))
abbrev spGlass (K : PySem.W.Frag) : Sp := spP (fun q : List (Int × Int) × Int × Int => [tv (tTup (tP (K := K))) q.1, tv (tP (K := K)) q.2]) (tInt (K := K)) (fun q => q.1.length ≤ 64 ∧ (0 ≤ q.2.1 ∧ q.2.1 ≤ 10000) ∧ (0 ≤ q.2.2 ∧ q.2.2 ≤ 10000)) (fun q r => r = glassI q.1 q.2.1 q.2.2)
theorem p_glass (T : Top K mg) : Prom P w K mg base "glass" 3 ["piece", "measure"] (spGlass K) :=
  T.f_glass.prom fun f fd F => fn_pure F sc_glass (fun _ => rfl) fun ⟨ps, side, lead⟩ hp c => by
    obtain ⟨hl, ⟨s1, s2⟩, ⟨l1, l2⟩⟩ : ps.length ≤ 64 ∧ (0 ≤ side ∧ side ≤ 10000) ∧ (0 ≤ lead ∧ lead ≤ 10000) := hp
    have hB : Prom P w K mg base "beside" 1 ["cell"] (spBes K) := p_beside T
    have hC : Prom P w K mg base "corners" 2 ["piece"] (spCor K) := p_corners T
    have hsz : 100000 < sizeLine := by decide +kernel
    refine w_cons (w_asgT (T := tP) (ew_name rfl rfl rfl (gw_T2 (gw_name rfl rfl trivial (of_decide_eq_true rfl) (gw_name rfl rfl trivial (of_decide_eq_true rfl) ?_)))))
    refine w_cons (w_set (T := tInt) rfl rfl (ew_lenL (A := tInt) T.bi rfl (ew_el ?_)))
    refine el_comp2 (A := tP) (bs := ps) (n := 4) (p := fun _ => true) (f := fun z t => foldC (fun o => decide (o ∉ ps)) (fun _ t => t ++ [(1 : Int)]) (besideI z) t) (vs1 := [7]) [("cell", 6), ("other", 7)] rfl (by decide) (iw_tup (ew_name rfl rfl rfl ⟨rfl, rfl⟩)) rfl (by omega) ?_ ⟨of_decide_eq_true rfl, ?_⟩
    · intro D i z hz
      refine ⟨_, fun c' => gw_name rfl rfl (by decide) (of_decide_eq_true rfl) rfl, rfl, fun c' => ts_nil ⟨rfl, rfl⟩, fun _ => ?_⟩
      refine body_in (A := tP) (bs := besideI z) (n := 1) (p := fun o => decide (o ∉ ps)) (by decide) (fun c' => iw_list (ew_el (el_call hB (by decide) rfl (ews_cons (T := tP) (ew_name rfl rfl rfl (ews_nil ⟨z, rfl, trivial, fun r hr => ⟨rfl, hr⟩⟩)))))) ?_
      intro i o ho
      refine ⟨_, fun c' => gw_name rfl rfl (by decide) (of_decide_eq_true rfl) rfl, rfl, fun c' => ts_one (tw_notInP (ew_name rfl rfl rfl (ew_name rfl rfl rfl ⟨rfl, ?_⟩))), fun _ => body_app (fun c' => ew_int ⟨rfl, rfl⟩) rfl⟩
      show (!decide (o ∈ ps)) = decide (o ∉ ps)
      rw [decide_not]
    have hrl := rim_len ps
    have hcb := corners_b ps
    refine w_weak [some (val (tTup (tP (K := K))) ps), none, some (val (tInt (K := K)) side), some (val (tInt (K := K)) lead), some (val (tInt (K := K)) ((rimI ps).length : Int)), none, none, none] (by walk_at "wk") ?_
    have hgl : glassI ps side lead = ps.length * side * side - (rimI ps).length * side * (lead / 2) + cornersI ps * (lead / 2) * (lead / 2) := rfl
    generalize rimI ps = rm at hrl hgl ⊢
    refine w_cons (w_set (T := tInt) rfl rfl (ew_div (ew_name rfl rfl rfl (ew_int ⟨cdiv_of (by omega) (by omega), of_decide_eq_true rfl, ?_⟩))))
    refine w_cons (w_ret (ew_add (ew_sub (ew_mul (ew_mul (ew_lenT (A := tP) T.bi rfl (ew_name rfl rfl rfl (ew_name rfl rfl rfl ⟨cmul_of (by omega), ew_name rfl rfl rfl ⟨cmul_of (by omega), ?_⟩⟩))))))))
    refine ew_mul (ew_mul (ew_name rfl rfl rfl (ew_name rfl rfl rfl ⟨cmul_of (by omega), ew_name rfl rfl rfl ⟨cmul_of (by omega), ?_⟩⟩)))
    refine ew_mul (ew_mul (ew_call hC (by decide) rfl (ews_cons (T := tTup tP) (ew_name rfl rfl rfl (ews_nil ⟨ps, rfl, hl, fun r hr => ?_⟩)))))
    have hr : r = cornersI ps := hr
    subst hr
    exact ew_name rfl rfl rfl ⟨cmul_of (by omega), ew_name rfl rfl rfl ⟨cmul_of (by omega), hgl.symm⟩⟩
end
section
variable {P : Program} {w : World} {K : PySem.W.Frag} {mg : Str → Option Value} {base : Heap}
structure LotOk (r : List (Int × Int)) : Prop where
  nd : r.Nodup
  l16 : r.length ≤ 16
  l1 : 1 ≤ r.length
abbrev spLot (K : PySem.W.Frag) : Sp := spD (fun n : Int => [tv (tInt (K := K)) n]) (tTup (tP (K := K))) (fun n => n = 16) (fun _ r => LotOk r)
theorem ups_nodup (m n : Int) : (ups m n).Nodup := by
  unfold ups
  refine List.nodup_iff_pairwise_ne.mpr (List.pairwise_map.mpr ?_)
  refine List.Pairwise.imp ?_ (List.nodup_iff_pairwise_ne.mp List.nodup_range)
  intro a b h
  omega
theorem shaped_prsL (ys : List (Int × Int)) : SeqAt.shaped (.list (ys.map pD)) = true := by
  unfold SeqAt.shaped
  have h1 : (PyData.list (ys.map pD)).canLay0 = true := by
    rw [PyData.canLay0]
    refine layAll_of fun d hd => ?_
    obtain ⟨z, _, rfl⟩ := List.mem_map.mp hd
    rfl
  have h2 : (PyData.list (ys.map pD)).depth ≤ 2 := by
    rw [PyData.depth]
    refine Nat.succ_le_succ (depthAll_of fun d hd => ?_)
    obtain ⟨z, _, rfl⟩ := List.mem_map.mp hd
    exact Nat.le_refl 1
  rw [h1]
  simp
  omega
theorem cutA_nat {α : Type} (xs : List α) (b : Nat) : cutA xs none (some (b : Int)) = xs.take b := by
  unfold cutA
  rw [HT.sIx_none, HT.sIx_nat, List.drop_zero, Nat.sub_zero]
  rcases Nat.le_total b xs.length with h | h
  · rw [Nat.min_eq_left h]
  · rw [Nat.min_eq_right h, List.take_of_length_le (Nat.le_refl _), List.take_of_length_le h]
theorem p_lot (T : Top K mg) : Prom P w K mg base "_law_lot" 2 ["draws", "most"] (spLot K) :=
  T.f__law_lot.prom fun f fd F => fn_draws F sc__law_lot (fun _ => rfl) fun n hp dr c => by
    obtain rfl : n = 16 := hp
    have hD : Prom P w K mg base "_law_draw" 1 ["draws", "many"] (spDraw K) := p_draw T
    have hsz : 100000 < sizeLine := by decide +kernel
    refine w_cons (w_par2 (A := tInt) (B' := tInt) rfl rfl (by decide) rfl rfl rfl ?_)
    walk_at "go"
    intro high h1 h2
    walk_at "go"
    intro wide w1 w2
    refine ⟨⟨of_decide_eq_true rfl, of_decide_eq_true rfl⟩, ?_⟩
    refine w_cons (w_set (T := tInt) rfl rfl (ew_menu ?_))
    walk_at "go"
    intro r r1 r2
    refine ⟨r1, r2, fun share hf => ⟨of_decide_eq_true rfl, ?_⟩⟩
    have hf2 : 1 ≤ share ∧ share ≤ 6 := by
      simp only [List.mem_cons, List.not_mem_nil, or_false] at hf
      omega
    clear hf
    refine w_cons (w_setL (T := tPr) rfl rfl (el_lst (ewl_nil ⟨by show 0 ≤ sizeLine; omega, of_decide_eq_true rfl, ?_⟩)))
    refine w_weak [some (drw dr), some (val (tInt (K := K)) 16), some (val (tInt (K := K)) (1 + high)), some (val (tInt (K := K)) (1 + wide)), some (val (tInt (K := K)) share), some (ownL tPr []), none, none] (by walk_at "wk") ?_
    refine w_frz 5 rfl ?_
    refine w_cons (w_for (A := tInt) (iw_range1 T.bi rfl (ew_name rfl rfl rfl ⟨by omega, by omega, ?_⟩)))
    refine ⟨fun i G => ∃ xs : List (Int × Int), xs.length ≤ 4 * i ∧ xs.Nodup ∧ (∀ z, z ∈ xs → z.1 < (i : Int)) ∧ G = [some (drw dr), some (val (tInt (K := K)) 16), some (val (tInt (K := K)) (1 + high)), some (val (tInt (K := K)) (1 + wide)), some (val (tInt (K := K)) share), some (val (tLst (tPr (K := K))) xs), none, none], ⟨[], by simp, by simp, (fun z h => nomatch h), ?_⟩, ?_, ?_⟩
    · rfl
    · rintro i row hrow G ⟨xs, hx1, hx2, hx3, rfl⟩
      obtain ⟨e1, e2⟩ := ups_get hrow
      obtain rfl : row = (i : Int) := by omega
      refine gw_name rfl rfl trivial (of_decide_eq_true rfl) ?_
      refine w_cons (w_setL (T := tPr) rfl rfl (el_cat (ew_name rfl rfl rfl (ew_el (el_comp (A := tInt) (B' := tPr) [("column", 7)] rfl (fun y o => o = none ∨ o = some ((i : Int), y)) ?_)))))
      refine iw_range1 T.bi rfl (ew_name rfl rfl rfl ⟨by omega, by omega, rfl, by rw [ups_len]; omega, ?_, ?_⟩)
      · intro c' j x hj
        refine gw_name rfl rfl (by decide) (of_decide_eq_true rfl) ?_
        intro c''
        refine ts_one ?_
        walk_at "go"
        intro v v1 v2
        walk_at "go"
        exact ⟨fun _ c3 => ew_pr (ew_name rfl rfl rfl (ew_name rfl rfl rfl ⟨rfl, .inr rfl⟩)), fun _ => ⟨rfl, .inl rfl⟩⟩
      · intro os ho
        have hs := all2_sub (f := fun y => ((i : Int), y)) ho
        have hl := hs.length_le
        rw [List.length_map, ups_len] at hl
        refine ⟨by omega, of_decide_eq_true rfl, ?_⟩
        show SW _ [_, _, _, _, _, some (ownL tPr (xs ++ os.filterMap id)), _, _] _ _
        have hn : (os.filterMap id).Nodup := by
          refine hs.nodup (List.nodup_iff_pairwise_ne.mpr (List.pairwise_map.mpr (List.Pairwise.imp ?_ (List.nodup_iff_pairwise_ne.mp (ups_nodup _ _)))))
          intro a b h e
          exact h (Prod.mk.inj e).2
        have hm : ∀ z, z ∈ os.filterMap id → z.1 = (i : Int) := fun z hz => by
          obtain ⟨y, _, rfl⟩ := List.mem_map.mp (hs.subset hz)
          rfl
        generalize os.filterMap id = zs at hl hn hm ⊢
        refine w_frz 5 rfl ?_
        refine w_nilW [some (drw dr), some (val (tInt (K := K)) 16), some (val (tInt (K := K)) (1 + high)), some (val (tInt (K := K)) (1 + wide)), some (val (tInt (K := K)) share), some (val (tLst (tPr (K := K))) (xs ++ zs)), none, none] (by walk_at "wk") ⟨_, ?_, ?_, ?_, rfl⟩
        · rw [List.length_append]; omega
        · refine List.nodup_append.mpr ⟨hx2, hn, fun a ha b hb e => ?_⟩
          have := hx3 a ha
          have := hm b hb
          rw [e] at *
          omega
        · intro z hz
          rcases List.mem_append.mp hz with q | q
          · have := hx3 z q
            omega
          · have := hm z q
            omega
    · rintro G ⟨xs, hx1, hx2, hx3, rfl⟩
      rw [ups_len] at hx1
      refine w_cons (w_ret (ew_tupPr (ew_ifx (tw_neD (asD_lst asD_pr1) (ew_name rfl rfl rfl (ew_el (el_lst (ewl_nil ⟨by show 0 ≤ sizeLine; omega, ⟨shaped_prsL xs, rfl⟩, fun b1 => ?_, fun b1 => ?_⟩))))))))
      · show EW _ _ _ _ _
        refine ew_tupleL T.bi rfl (ew_el (el_slL (ew_name rfl rfl rfl (ow_none (ow_some (ew_name rfl rfl rfl ⟨rfl, ?_⟩))))))
        have e16 : cutA xs none (some (16 : Int)) = xs.take 16 := cutA_nat xs 16
        rw [e16]
        have hne : xs ≠ [] := fun e => by
          rw [e] at b1
          exact absurd b1 (by decide)
        have hpos := List.length_pos_iff.mpr hne
        exact ⟨(List.take_sublist _ _).nodup hx2, by rw [List.length_take]; omega, by rw [List.length_take]; omega⟩
      · refine ew_tupL (ewl_cons (ew_pr (ew_int (ew_int (ewl_nil ⟨by show 1 ≤ sizeLine; omega, rfl, ?_⟩)))))
        exact ⟨by simp, by decide, by decide⟩
abbrev spMeasure (K : PySem.W.Frag) : Sp := spD (fun _ : Unit => []) (tP (K := K)) (fun _ => True) (fun _ r => ∃ d : Int, r.2 = 2 * d ∧ 0 ≤ d ∧ 2 * d < r.1 ∧ r.1 ≤ 100)
theorem p_measure (T : Top K mg) : Prom P w K mg base "_law_measure" 2 ["draws"] (spMeasure K) :=
  T.f__law_measure.prom fun f fd F => fn_draws F sc__law_measure (fun _ => rfl) fun n hp dr c => by
    have hD : Prom P w K mg base "_law_draw" 1 ["draws", "many"] (spDraw K) := p_draw T
    refine w_cons (w_set (T := tInt) rfl rfl (ew_menu ?_))
    walk_at "go"
    intro a a1 a2
    walk_at "go"
    intro b b1 b2
    walk_at "go"
    intro r r1 r2
    refine ⟨r1, r2, fun side hf => ⟨of_decide_eq_true rfl, ?_⟩⟩
    have hf2 : 2 ≤ side ∧ side ≤ 100 := by
      simp only [List.mem_cons, List.not_mem_nil, or_false] at hf
      omega
    clear hf
    refine w_cons (w_ret (ea_P (ew_pr (ew_name rfl rfl rfl ?_))))
    walk_at "go"
    intro d d1 d2
    exact ⟨cmul_of (by omega), rfl, d, rfl, by omega, by show 2 * d < side; omega, hf2.2⟩
end
section
abbrev Pt := Int × Int
def sm {α : Type} (f : α → Int) (l : List α) : Int := (l.map f).sum
theorem sm_cons {α : Type} (f : α → Int) (x : α) (l : List α) : sm f (x :: l) = f x + sm f l := by
  unfold sm; rw [List.map_cons, List.sum_cons]
theorem sm_add {α : Type} (f g : α → Int) : ∀ l : List α, sm (fun x => f x + g x) l = sm f l + sm g l
  | [] => rfl
  | x :: l => by rw [sm_cons, sm_cons, sm_cons, sm_add f g l]; omega
theorem sm_mul {α : Type} (m : Int) (f : α → Int) : ∀ l : List α, sm (fun x => m * f x) l = m * sm f l
  | [] => by show (0 : Int) = m * 0; omega
  | x :: l => by rw [sm_cons, sm_cons, sm_mul m f l, Int.mul_add]
theorem sm_one {α : Type} : ∀ l : List α, sm (fun _ => 1) l = l.length
  | [] => rfl
  | x :: l => by rw [sm_cons, sm_one l, List.length_cons]; omega
theorem sm_congr {α : Type} {f g : α → Int} : ∀ {l : List α}, (∀ x, x ∈ l → f x = g x) → sm f l = sm g l
  | [], _ => rfl
  | x :: l, h => by rw [sm_cons, sm_cons, h x List.mem_cons_self, sm_congr fun y hy => h y (List.mem_cons_of_mem _ hy)]
theorem sm_perm {α : Type} (f : α → Int) {l m : List α} (h : l.Perm m) : sm f l = sm f m := by
  induction h with
  | nil => rfl
  | cons x _ ih => rw [sm_cons, sm_cons, ih]
  | swap x y l => rw [sm_cons, sm_cons, sm_cons, sm_cons]; omega
  | trans _ _ h1 h2 => rw [h1, h2]
theorem sm_map {α β : Type} (f : β → Int) (g : α → β) (l : List α) : sm f (l.map g) = sm (fun x => f (g x)) l := by
  unfold sm; rw [List.map_map]; rfl
theorem sm_ite {α : Type} (c : α → Bool) (f : α → Int) : ∀ l : List α, sm (fun x => if c x = true then f x else 0) l = sm f (l.filter c)
  | [] => rfl
  | x :: l => by
    rw [sm_cons, sm_ite c f l]
    cases h : c x with
    | true => rw [List.filter_cons_of_pos h, sm_cons, if_pos rfl]
    | false => rw [List.filter_cons_of_neg (by rw [h]; decide), if_neg (by decide)]; omega
theorem sm_split {α : Type} (c : α → Bool) (f : α → Int) : ∀ l : List α, sm f l = sm f (l.filter c) + sm f (l.filter fun x => !c x)
  | [] => rfl
  | x :: l => by
    rw [sm_cons, sm_split c f l]
    cases h : c x with
    | true => rw [List.filter_cons_of_pos h, sm_cons, List.filter_cons_of_neg (by rw [h]; decide)]; omega
    | false => rw [List.filter_cons_of_neg (by rw [h]; decide), List.filter_cons_of_pos (by rw [h]; rfl), sm_cons]; omega
theorem sm_nonneg {α : Type} {f : α → Int} (h : ∀ x, 0 ≤ f x) : ∀ l : List α, 0 ≤ sm f l
  | [] => Int.le_refl 0
  | x :: l => by have := h x; have := sm_nonneg h l; rw [sm_cons]; omega
theorem sm_sum {α : Type} (f : α → Int) (l : List α) : (l.map f).sum = sm f l := rfl
def ind (ps : List Pt) (z : Pt) : Int := if z ∈ ps then 1 else 0
theorem ind01 (ps : List Pt) (z : Pt) : ind ps z = 0 ∨ ind ps z = 1 := by
  unfold ind; split <;> simp
theorem ind_nn (ps : List Pt) (z : Pt) : 0 ≤ ind ps z := by
  rcases ind01 ps z with e | e <;> omega
theorem ind_in {ps : List Pt} {z : Pt} (h : z ∈ ps) : ind ps z = 1 := if_pos h
theorem ind_out {ps : List Pt} {z : Pt} (h : z ∉ ps) : ind ps z = 0 := if_neg h
theorem ind_eq {ps qs : List Pt} {z y : Pt} (h : z ∈ ps ↔ y ∈ qs) : ind ps z = ind qs y := by
  unfold ind
  by_cases q : z ∈ ps
  · rw [if_pos q, if_pos (h.mp q)]
  · rw [if_neg q, if_neg fun e => q (h.mpr e)]
theorem nodup_inj {α β : Type} {g : α → β} (hg : ∀ x y, g x = g y → x = y) {l : List α} (h : l.Nodup) : (l.map g).Nodup :=
  List.nodup_iff_pairwise_ne.mpr (List.pairwise_map.mpr ((List.nodup_iff_pairwise_ne.mp h).imp fun hne e => hne (hg _ _ e)))
theorem nodup_filter {α : Type} (p : α → Bool) {l : List α} (h : l.Nodup) : (l.filter p).Nodup := List.filter_sublist.nodup h
theorem ind_mul (ps : List Pt) (z : Pt) (x : Int) : ind ps z * x = if decide (z ∈ ps) = true then x else 0 := by
  unfold ind
  by_cases h : z ∈ ps
  · rw [if_pos h, if_pos (decide_eq_true h), Int.one_mul]
  · rw [if_neg h, if_neg (fun e => h (of_decide_eq_true e)), Int.zero_mul]
/-- what is told of neighbours, told from the other side -/
theorem sm_shift {ps P : List Pt} (hp : ps.Nodup) (hP : P.Nodup) (a b : Int) (f : Pt → Int) : sm (fun p => ind ps (p.1 - a, p.2 - b) * f p) P = sm (fun z => ind P (z.1 + a, z.2 + b) * f (z.1 + a, z.2 + b)) ps := by
  rw [sm_congr (g := fun p => if decide ((p.1 - a, p.2 - b) ∈ ps) = true then f p else 0) fun p _ => ind_mul _ _ _, sm_ite (fun p : Pt => decide ((p.1 - a, p.2 - b) ∈ ps))]
  rw [sm_congr (l := ps) (g := fun z => if decide ((z.1 + a, z.2 + b) ∈ P) = true then f (z.1 + a, z.2 + b) else 0) fun z _ => ind_mul _ _ _, sm_ite (fun z : Pt => decide ((z.1 + a, z.2 + b) ∈ P))]
  rw [← sm_map f fun z : Pt => (z.1 + a, z.2 + b)]
  refine sm_perm f ?_
  refine (List.perm_ext_iff_of_nodup (nodup_filter _ hP) (nodup_inj ?_ (nodup_filter _ hp))).mpr fun y => ?_
  · intro x y e
    have h1 := (Prod.mk.inj e).1
    have h2 := (Prod.mk.inj e).2
    exact Prod.ext (by omega) (by omega)
  · rw [List.mem_filter, List.mem_map]
    constructor
    · intro ⟨h1, h2⟩
      refine ⟨(y.1 - a, y.2 - b), List.mem_filter.mpr ⟨of_decide_eq_true h2, ?_⟩, Prod.ext (by show y.1 - a + a = y.1; omega) (by show y.2 - b + b = y.2; omega)⟩
      refine decide_eq_true ?_
      have e : ((y.1 - a + a, y.2 - b + b) : Pt) = y := Prod.ext (by show y.1 - a + a = y.1; omega) (by show y.2 - b + b = y.2; omega)
      show ((y.1 - a + a, y.2 - b + b) : Pt) ∈ P
      rw [e]
      exact h1
    · rintro ⟨z, hz, rfl⟩
      obtain ⟨h1, h2⟩ := List.mem_filter.mp hz
      refine ⟨of_decide_eq_true h2, decide_eq_true ?_⟩
      have e : ((z.1 + a - a, z.2 + b - b) : Pt) = z := Prod.ext (by show z.1 + a - a = z.1; omega) (by show z.2 + b - b = z.2; omega)
      show ((z.1 + a - a, z.2 + b - b) : Pt) ∈ ps
      rw [e]
      exact h1
/-- how many have one so far off -/
def cnt (ps : List Pt) (a b : Int) : Int := sm (fun z => ind ps (z.1 + a, z.2 + b)) ps
def quad (ps : List Pt) : Int := sm (fun z => ind ps (z.1, z.2 + 1) * (ind ps (z.1 + 1, z.2) * ind ps (z.1 + 1, z.2 + 1))) ps
theorem cnt_neg {ps : List Pt} (hp : ps.Nodup) (a b : Int) : sm (fun z => ind ps (z.1 - a, z.2 - b)) ps = cnt ps a b := by
  have h := sm_shift hp hp a b fun _ => 1
  rw [sm_congr (g := fun p : Pt => ind ps (p.1 - a, p.2 - b)) (fun p _ => Int.mul_one _), sm_congr (l := ps) (g := fun z : Pt => ind ps (z.1 + a, z.2 + b)) (fun p _ => Int.mul_one _)] at h
  exact h
theorem worth_poly (b0 b1 b2 b3 : Bool) {i0 i1 i2 i3 : Int} (h0 : i0 = if b0 then 1 else 0) (h1 : i1 = if b1 then 1 else 0) (h2 : i2 = if b2 then 1 else 0) (h3 : i3 = if b3 then 1 else 0) :
    worthI [b0, b1, b2, b3] = (i0 + i1 + i2 + i3) + -2 * (i0 * i1 + i1 * i2 + i3 * i2 + i0 * i3) + 4 * (i0 * (i1 * (i3 * i2))) := by
  subst h0 h1 h2 h3
  cases b0 <;> cases b1 <;> cases b2 <;> cases b3 <;> decide
theorem worth_round (ps : List Pt) (p : Pt) : worthI (roundB ps p) = (ind ps (p.1 - 1, p.2 - 1) + ind ps (p.1 - 1, p.2) + ind ps p + ind ps (p.1, p.2 - 1))
    + -2 * (ind ps (p.1 - 1, p.2 - 1) * ind ps (p.1 - 1, p.2) + ind ps (p.1 - 1, p.2) * ind ps p + ind ps (p.1, p.2 - 1) * ind ps p + ind ps (p.1 - 1, p.2 - 1) * ind ps (p.1, p.2 - 1))
    + 4 * (ind ps (p.1 - 1, p.2 - 1) * (ind ps (p.1 - 1, p.2) * (ind ps (p.1, p.2 - 1) * ind ps p))) := by
  have h : ∀ z : Pt, ind ps z = if decide (z ∈ ps) = true then 1 else 0 := fun z => by
    unfold ind
    by_cases q : z ∈ ps
    · rw [if_pos q, if_pos (decide_eq_true q)]
    · rw [if_neg q, if_neg fun e => q (of_decide_eq_true e)]
  exact worth_poly _ _ _ _ (h _) (h _) (h _) (h _)
theorem addK_nd {t : List Pt} {z : Pt} (h : t.Nodup) : (addK t z).Nodup := by
  unfold addK
  split
  · exact h
  · rename_i q
    refine List.nodup_append.mpr ⟨h, by simp, fun a ha b hb e => ?_⟩
    rw [List.mem_singleton.mp hb] at e
    exact q (e ▸ ha)
theorem addK_mem {t : List Pt} {z y : Pt} : y ∈ addK t z ↔ y ∈ t ∨ y = z := by
  unfold addK
  split
  · rename_i q
    exact ⟨.inl, fun h => h.elim id fun e => e ▸ q⟩
  · rw [List.mem_append, List.mem_singleton]
abbrev putP (z : Pt) (t : List Pt) : List Pt := addK (addK (addK (addK t (z.1 + 0, z.2 + 0)) (z.1 + 0, z.2 + 1)) (z.1 + 1, z.2 + 0)) (z.1 + 1, z.2 + 1)
theorem pts_fold : ∀ (ps : List Pt) (t : List Pt), t.Nodup → (foldC (fun _ => true) putP ps t).Nodup ∧ (∀ y, y ∈ t → y ∈ foldC (fun _ => true) putP ps t) ∧ ∀ z, z ∈ ps → ∀ a b : Int, (a = 0 ∨ a = 1) → (b = 0 ∨ b = 1) → (z.1 + a, z.2 + b) ∈ foldC (fun _ => true) putP ps t
  | [], t, h => ⟨h, fun y hy => hy, fun z hz => nomatch hz⟩
  | x :: ps, t, h => by
    obtain ⟨h1, h2, h3⟩ := pts_fold ps (putP x t) (addK_nd (addK_nd (addK_nd (addK_nd h))))
    refine ⟨h1, fun y hy => h2 y ?_, fun z hz a b ha hb => ?_⟩
    · exact addK_mem.mpr (.inl (addK_mem.mpr (.inl (addK_mem.mpr (.inl (addK_mem.mpr (.inl hy)))))))
    · rcases List.mem_cons.mp hz with e | hz
      · subst e
        refine h2 _ ?_
        rcases ha with rfl | rfl <;> rcases hb with rfl | rfl
        · exact addK_mem.mpr (.inl (addK_mem.mpr (.inl (addK_mem.mpr (.inl (addK_mem.mpr (.inr rfl)))))))
        · exact addK_mem.mpr (.inl (addK_mem.mpr (.inl (addK_mem.mpr (.inr rfl)))))
        · exact addK_mem.mpr (.inl (addK_mem.mpr (.inr rfl)))
        · exact addK_mem.mpr (.inr rfl)
      · exact h3 z hz a b ha hb
theorem pts_all (ps : List Pt) : (ptsI ps).Nodup ∧ ∀ z, z ∈ ps → ∀ a b : Int, (a = 0 ∨ a = 1) → (b = 0 ∨ b = 1) → (z.1 + a, z.2 + b) ∈ ptsI ps := by
  obtain ⟨h1, _, h3⟩ := pts_fold ps [] (by simp)
  exact ⟨h1, h3⟩
theorem corners_eq {ps : List Pt} (hp : ps.Nodup) : cornersI ps = 4 * ps.length - 4 * (cnt ps 0 1 + cnt ps 1 0) + 4 * quad ps := by
  obtain ⟨hP, hm⟩ := pts_all ps
  have key : ∀ (a b : Int) (f : Pt → Int), (a = 0 ∨ a = 1) → (b = 0 ∨ b = 1) → sm (fun p => ind ps (p.1 - a, p.2 - b) * f p) (ptsI ps) = sm (fun z => f (z.1 + a, z.2 + b)) ps := fun a b f ha hb => by
    rw [sm_shift hp hP]
    refine sm_congr fun z hz => ?_
    rw [ind_in (hm z hz a b ha hb), Int.one_mul]
  have one : ∀ a b : Int, (a = 0 ∨ a = 1) → (b = 0 ∨ b = 1) → sm (fun p => ind ps (p.1 - a, p.2 - b)) (ptsI ps) = ps.length := fun a b ha hb => by
    have h := key a b (fun _ => 1) ha hb
    rw [sm_congr (g := fun p : Pt => ind ps (p.1 - a, p.2 - b)) (fun p _ => Int.mul_one _), sm_one] at h
    exact h
  have z0 : ∀ x : Int, x - 0 = x := fun x => by omega
  have p0 : ∀ x : Int, x + 0 = x := fun x => by omega
  have pm : ∀ x : Int, x + 1 - 1 = x := fun x => by omega
  have c00 := one 0 0 (.inl rfl) (.inl rfl)
  have c01 := one 0 1 (.inl rfl) (.inr rfl)
  have c10 := one 1 0 (.inr rfl) (.inl rfl)
  have c11 := one 1 1 (.inr rfl) (.inr rfl)
  have e01 := key 1 1 (fun p => ind ps (p.1 - 1, p.2)) (.inr rfl) (.inr rfl)
  have e12 := key 1 0 (fun p => ind ps p) (.inr rfl) (.inl rfl)
  have e32 := key 0 1 (fun p => ind ps p) (.inl rfl) (.inr rfl)
  have e03 := key 1 1 (fun p => ind ps (p.1, p.2 - 1)) (.inr rfl) (.inr rfl)
  have q := key 1 1 (fun p => ind ps (p.1 - 1, p.2) * (ind ps (p.1, p.2 - 1) * ind ps p)) (.inr rfl) (.inr rfl)
  simp only [z0, p0, pm] at c00 c01 c10 c11 e01 e12 e32 e03 q
  have hc : cornersI ps = sm (fun p => worthI (roundB ps p)) (ptsI ps) := rfl
  rw [hc, sm_congr fun p _ => worth_round ps p, sm_add, sm_add, sm_add, sm_add, sm_add, sm_mul, sm_mul, sm_add, sm_add, sm_add, c11, c10, c00, c01, e01, e12, e32, e03, q]
  unfold cnt quad
  simp only [p0]
  omega
theorem fold_cnt (ps : List Pt) : ∀ (os : List Pt) (t : List Int), ((foldC (fun o => decide (o ∉ ps)) (fun _ t => t ++ [(1 : Int)]) os t).length : Int) = t.length + sm (fun o => 1 - ind ps o) os
  | [], t => by show (t.length : Int) = t.length + 0; omega
  | o :: os, t => by
    have s : ((if decide (o ∉ ps) = true then t ++ [(1 : Int)] else t).length : Int) = t.length + (1 - ind ps o) := by
      unfold ind
      by_cases q : o ∈ ps
      · rw [if_neg (fun e => of_decide_eq_true (p := o ∉ ps) e q), if_pos q]; omega
      · rw [if_pos (decide_eq_true q), if_neg q, List.length_append]; show ((t.length + 1 : Nat) : Int) = _; omega
    refine Eq.trans (fold_cnt ps os (if decide (o ∉ ps) = true then t ++ [(1 : Int)] else t)) ?_
    rw [s, sm_cons]
    omega
theorem rim_fold (ps : List Pt) : ∀ (qs : List Pt) (t : List Int), ((foldC (fun _ => true) (fun z t => foldC (fun o => decide (o ∉ ps)) (fun _ t => t ++ [(1 : Int)]) (besideI z) t) qs t).length : Int) = t.length + sm (fun z => 4 - (ind ps (z.1 - 1, z.2) + ind ps (z.1, z.2 - 1) + ind ps (z.1, z.2 + 1) + ind ps (z.1 + 1, z.2))) qs
  | [], t => by show (t.length : Int) = t.length + 0; omega
  | z :: qs, t => by
    refine Eq.trans (rim_fold ps qs (foldC (fun o => decide (o ∉ ps)) (fun _ t => t ++ [(1 : Int)]) (besideI z) t)) ?_
    rw [fold_cnt, sm_cons]
    unfold besideI
    rw [sm_cons, sm_cons, sm_cons, sm_cons]
    show _ + (_ + (_ + (_ + (_ + (0 : Int))))) + _ = _
    omega
theorem rim_eq {ps : List Pt} (hp : ps.Nodup) : ((rimI ps).length : Int) = 4 * ps.length - 2 * (cnt ps 0 1 + cnt ps 1 0) := by
  have h := rim_fold ps ps []
  have z0 : ∀ x : Int, x - 0 = x := fun x => by omega
  have p0 : ∀ x : Int, x + 0 = x := fun x => by omega
  have n1 := cnt_neg hp 0 1
  have n2 := cnt_neg hp 1 0
  unfold cnt at *
  simp only [z0, p0] at n1 n2 ⊢
  have e : sm (fun z : Pt => 4 - (ind ps (z.1 - 1, z.2) + ind ps (z.1, z.2 - 1) + ind ps (z.1, z.2 + 1) + ind ps (z.1 + 1, z.2))) ps = sm (fun z => 4 * (fun _ => (1 : Int)) z + -1 * (ind ps (z.1 - 1, z.2) + ind ps (z.1, z.2 - 1) + ind ps (z.1, z.2 + 1) + ind ps (z.1 + 1, z.2))) ps := sm_congr fun z _ => by show _ = 4 * 1 + -1 * _; omega
  rw [e, sm_add, sm_mul, sm_mul, sm_one, sm_add, sm_add, sm_add, n1, n2] at h
  have h : ((rimI ps).length : Int) = ((([] : List Int).length : Nat) : Int) + _ := h
  rw [h]
  show (0 : Int) + _ = _
  omega
end
section
def edges (ps : List Pt) : Int := cnt ps 0 1 + cnt ps 1 0
theorem glass_lin {ps : List Pt} (hp : ps.Nodup) (s h : Int) : glassI ps s (2 * h) = (ps.length : Int) * (s * s) + -4 * ((ps.length : Int) * (s * h)) + 2 * (edges ps * (s * h)) + 4 * ((ps.length : Int) * (h * h)) + -4 * (edges ps * (h * h)) + 4 * (quad ps * (h * h)) := by
  have e : 2 * h / 2 = h := by omega
  unfold glassI
  rw [e, corners_eq hp, rim_eq hp, show cnt ps 0 1 + cnt ps 1 0 = edges ps from rfl]
  simp only [Int.sub_mul, Int.add_mul, Int.mul_assoc]
  omega
theorem glass_nil (s l : Int) : glassI [] s l = 0 := by
  show (0 : Int) * s * s - 0 * s * (l / 2) + 0 * (l / 2) * (l / 2) = 0
  simp only [Int.zero_mul]
  omega
theorem glass_like {ps qs : List Pt} (hp : ps.Nodup) (hq : qs.Nodup) (h1 : ps.length = qs.length) (h2 : edges ps = edges qs) (h3 : quad ps = quad qs) (s h : Int) : glassI ps s (2 * h) = glassI qs s (2 * h) := by
  rw [glass_lin hp, glass_lin hq, h1, h2, h3]
theorem glass_perm {ps qs : List Pt} (hp : ps.Nodup) (h : ps.Perm qs) (s g : Int) : glassI ps s (2 * g) = glassI qs s (2 * g) := by
  have hi : ∀ z, ind ps z = ind qs z := fun z => ind_eq h.mem_iff
  refine glass_like hp (h.nodup_iff.mp hp) h.length_eq ?_ ?_ s g
  · unfold edges cnt
    rw [sm_congr fun z _ => hi _, sm_perm _ h, sm_congr (l := ps) fun z _ => hi _, sm_perm _ h]
  · unfold quad
    rw [sm_congr fun z _ => by rw [hi, hi, hi], sm_perm _ h]
theorem ind_map {g : Pt → Pt} (hg : ∀ x y, g x = g y → x = y) (ps : List Pt) (z : Pt) : ind (ps.map g) (g z) = ind ps z := by
  refine ind_eq ?_
  rw [List.mem_map]
  exact ⟨fun ⟨y, h1, h2⟩ => hg _ _ h2 ▸ h1, fun h => ⟨z, h, rfl⟩⟩
theorem pt_eq {a b x y : Int} (h1 : a = x) (h2 : b = y) : ((a, b) : Pt) = (x, y) := by rw [h1, h2]
theorem glass_move {ps : List Pt} (hp : ps.Nodup) (s h : Int) : glassI (ps.map fun z => (z.1 + 3, z.2 + 7)) s (2 * h) = glassI ps s (2 * h) := by
  have hg : ∀ x y : Pt, ((x.1 + 3, x.2 + 7) : Pt) = (y.1 + 3, y.2 + 7) → x = y := fun x y e => Prod.ext (by have := (Prod.mk.inj e).1; omega) (by have := (Prod.mk.inj e).2; omega)
  have hi : ∀ (z : Pt) (a b : Int), ind (ps.map fun z => (z.1 + 3, z.2 + 7)) (z.1 + 3 + a, z.2 + 7 + b) = ind ps (z.1 + a, z.2 + b) := fun z a b => by
    rw [← ind_map hg ps (z.1 + a, z.2 + b)]
    rw [pt_eq (show z.1 + 3 + a = z.1 + a + 3 by omega) (show z.2 + 7 + b = z.2 + b + 7 by omega)]
  have h0 : ∀ (z : Pt) (b : Int), ind (ps.map fun z => (z.1 + 3, z.2 + 7)) (z.1 + 3, z.2 + 7 + b) = ind ps (z.1, z.2 + b) := fun z b => by
    rw [← ind_map hg ps (z.1, z.2 + b)]
    rw [pt_eq rfl (show z.2 + 7 + b = z.2 + b + 7 by omega)]
  have h9 : ∀ (z : Pt) (a : Int), ind (ps.map fun z => (z.1 + 3, z.2 + 7)) (z.1 + 3 + a, z.2 + 7) = ind ps (z.1 + a, z.2) := fun z a => by
    rw [← ind_map hg ps (z.1 + a, z.2)]
    rw [pt_eq (show z.1 + 3 + a = z.1 + a + 3 by omega) rfl]
  refine glass_like (nodup_inj hg hp) hp (List.length_map ..) ?_ ?_ s h
  · unfold edges cnt
    rw [sm_map, sm_map, sm_congr fun z _ => hi z 0 1, sm_congr (l := ps) fun z _ => hi z 1 0]
  · unfold quad
    rw [sm_map, sm_congr fun z _ => by rw [h0 z 1, hi z 1 1, h9 z 1]]
theorem glass_turn {ps : List Pt} (hp : ps.Nodup) (s h : Int) : glassI (ps.map fun z => (z.2, z.1)) s (2 * h) = glassI ps s (2 * h) := by
  have hg : ∀ x y : Pt, ((x.2, x.1) : Pt) = (y.2, y.1) → x = y := fun x y e => Prod.ext (Prod.mk.inj e).2 (Prod.mk.inj e).1
  have hi : ∀ (a b : Int), ind (ps.map fun z => (z.2, z.1)) (a, b) = ind ps (b, a) := fun a b => by
    rw [← ind_map hg ps (b, a)]
  refine glass_like (nodup_inj hg hp) hp (List.length_map ..) ?_ ?_ s h
  · unfold edges cnt
    rw [sm_map, sm_map, sm_congr fun z _ => hi _ _, sm_congr (l := ps) fun z _ => hi (z.2 + 1) (z.1 + 0), Int.add_comm]
  · unfold quad
    rw [sm_map, sm_congr fun z _ => by rw [hi, hi, hi, ← Int.mul_assoc, Int.mul_comm (ind ps _) (ind ps _), Int.mul_assoc]]
theorem glass_mirror {ps : List Pt} (hp : ps.Nodup) (s h : Int) : glassI (ps.map fun z => (z.1, 9 - z.2)) s (2 * h) = glassI ps s (2 * h) := by
  have hg : ∀ x y : Pt, ((x.1, 9 - x.2) : Pt) = (y.1, 9 - y.2) → x = y := fun x y e => Prod.ext (Prod.mk.inj e).1 (by have := (Prod.mk.inj e).2; omega)
  have hi : ∀ (a b c : Int), ind (ps.map fun z => (z.1, 9 - z.2)) (a, 9 - b + c) = ind ps (a, b - c) := fun a b c => by
    rw [← ind_map hg ps (a, b - c)]
    rw [pt_eq rfl (show 9 - b + c = 9 - (b - c) by omega)]
  have h0 : ∀ (a b : Int), ind (ps.map fun z => (z.1, 9 - z.2)) (a, 9 - b) = ind ps (a, b) := fun a b => by
    rw [← ind_map hg ps (a, b)]
  refine glass_like (nodup_inj hg hp) hp (List.length_map ..) ?_ ?_ s h
  · have n := cnt_neg hp 0 1
    unfold edges
    unfold cnt at *
    rw [sm_map, sm_map, sm_congr fun z _ => hi _ z.2 1, sm_congr (l := ps) fun z _ => hi (z.1 + 1) z.2 0]
    rw [sm_congr (l := ps) (g := fun z : Pt => ind ps (z.1 - 0, z.2 - 1)) fun z _ => by rw [show z.1 - 0 = z.1 + 0 by omega], n]
    rw [sm_congr (l := ps) (f := fun z : Pt => ind ps (z.1 + 1, z.2 - 0)) (g := fun z : Pt => ind ps (z.1 + 1, z.2 + 0)) fun z _ => by rw [show z.2 - 0 = z.2 + 0 by omega]]
  · unfold quad
    rw [sm_map, sm_congr fun z _ => by rw [hi _ z.2 1, h0, hi _ z.2 1]]
    have q := sm_shift hp hp 0 1 fun p => ind ps (p.1 + 1, p.2) * ind ps (p.1 + 1, p.2 - 1)
    rw [sm_congr (g := fun p : Pt => ind ps (p.1, p.2 - 1) * (ind ps (p.1 + 1, p.2) * ind ps (p.1 + 1, p.2 - 1))) fun z _ => by rw [show z.1 - 0 = z.1 by omega]] at q
    rw [q]
    refine sm_congr fun z _ => ?_
    show ind ps (z.1 + 0, z.2 + 1) * (ind ps (z.1 + 0 + 1, z.2 + 1) * ind ps (z.1 + 0 + 1, z.2 + 1 - 1)) = _
    rw [show z.1 + 0 = z.1 by omega, show z.2 + 1 - 1 = z.2 by omega, Int.mul_comm (ind ps (z.1 + 1, z.2 + 1))]
theorem glass_plain {ps : List Pt} (hp : ps.Nodup) (s : Int) : glassI ps s 0 = ps.length * s * s := by
  have h := glass_lin hp s 0
  rw [show (2 : Int) * 0 = 0 from rfl] at h
  rw [h]
  simp only [Int.mul_zero, Int.mul_assoc]
  omega
theorem glass_one (z : Pt) (s h : Int) : glassI [z] s (2 * h) = (s - 2 * h) * (s - 2 * h) := by
  have hn : ([z] : List Pt).Nodup := by simp
  have ho : ∀ y : Pt, y ≠ z → ind [z] y = 0 := fun y hy => ind_out fun e => hy (List.mem_singleton.mp e)
  have e1 : edges [z] = 0 := by
    unfold edges cnt
    rw [sm_cons, sm_cons, ho _ fun e => by have := congrArg Prod.snd e; simp at this; omega, ho _ fun e => by have := congrArg Prod.fst e; simp at this; omega]
    rfl
  have e2 : quad [z] = 0 := by
    unfold quad
    rw [sm_cons, ho (z.1, z.2 + 1) fun e => by have := congrArg Prod.snd e; simp at this; omega, Int.zero_mul]
    rfl
  rw [glass_lin hn, e1, e2]
  simp only [Int.sub_mul, Int.mul_sub, Int.zero_mul, List.length_singleton]
  show (1 : Int) * _ + _ + _ + 4 * (1 * _) + _ + _ = _
  rw [Int.mul_comm (2 * h) s]
  simp only [Int.mul_assoc, Int.one_mul, Int.mul_left_comm s 2 h, Int.mul_left_comm h 2 h]
  show _ + -4 * (1 * _) + _ + _ + _ + _ = _
  rw [Int.one_mul]
  omega
abbrev upP (ps : List Pt) (row : Int) : List Pt := ps.filter fun z => decide (z.1 < row)
abbrev loP (ps : List Pt) (row : Int) : List Pt := ps.filter fun z => !decide (z.1 < row)
abbrev atS (ps : List Pt) (row : Int) (z : Pt) : Bool := decide (z.1 = row - 1) && decide ((row, z.2) ∈ ps)
abbrev seamP (ps : List Pt) (row : Int) : List Pt := (upP ps row).filter (atS ps row)
def dueE (ps : List Pt) (row l c step : Int) : Int := if decide ((row - 1, c + step) ∈ ps) && decide ((row, c + step) ∈ ps) then 0 else l * l / 2
theorem up_mem {ps : List Pt} {row : Int} {z : Pt} : z ∈ upP ps row ↔ z ∈ ps ∧ z.1 < row := by
  rw [List.mem_filter, decide_eq_true_iff]
theorem lo_mem {ps : List Pt} {row : Int} {z : Pt} : z ∈ loP ps row ↔ z ∈ ps ∧ row ≤ z.1 := by
  rw [List.mem_filter, Bool.not_eq_true', decide_eq_false_iff_not, Int.not_lt]
theorem seam_mem {ps : List Pt} {row : Int} {z : Pt} : z ∈ seamP ps row ↔ z ∈ ps ∧ z.1 = row - 1 ∧ (row, z.2) ∈ ps := by
  rw [List.mem_filter, up_mem, Bool.and_eq_true, decide_eq_true_iff, decide_eq_true_iff]
  exact ⟨fun ⟨⟨a, b⟩, c, d⟩ => ⟨a, c, d⟩, fun ⟨a, c, d⟩ => ⟨⟨a, by omega⟩, c, d⟩⟩
theorem ind_up {ps : List Pt} {row : Int} {z : Pt} (h : z.1 < row) : ind ps z = ind (upP ps row) z := ind_eq ⟨fun q => up_mem.mpr ⟨q, h⟩, fun q => (up_mem.mp q).1⟩
theorem ind_lo {ps : List Pt} {row : Int} {z : Pt} (h : row ≤ z.1) : ind ps z = ind (loP ps row) z := ind_eq ⟨fun q => lo_mem.mpr ⟨q, h⟩, fun q => (lo_mem.mp q).1⟩
theorem part_n (ps : List Pt) (row : Int) : (ps.length : Int) = (upP ps row).length + (loP ps row).length := by
  have h := sm_split (fun z : Pt => decide (z.1 < row)) (fun _ => 1) ps
  rw [sm_one, sm_one, sm_one] at h
  exact h
theorem part_e (ps : List Pt) (row : Int) : edges ps = edges (upP ps row) + edges (loP ps row) + (seamP ps row).length := by
  have a1 : cnt ps 0 1 = cnt (upP ps row) 0 1 + cnt (loP ps row) 0 1 := by
    unfold cnt
    rw [sm_split (fun z : Pt => decide (z.1 < row)) (fun z => ind ps (z.1 + 0, z.2 + 1)) ps]
    rw [sm_congr (l := upP ps row) fun z hz => ind_up (row := row) (show z.1 + 0 < row by have := (up_mem.mp hz).2; omega), sm_congr (l := loP ps row) fun z hz => ind_lo (row := row) (show row ≤ z.1 + 0 by have := (lo_mem.mp hz).2; omega)]
  have a2 : cnt ps 1 0 = cnt (upP ps row) 1 0 + (seamP ps row).length + cnt (loP ps row) 1 0 := by
    unfold cnt
    rw [sm_split (fun z : Pt => decide (z.1 < row)) (fun z => ind ps (z.1 + 1, z.2 + 0)) ps]
    rw [sm_congr (l := loP ps row) fun z hz => ind_lo (row := row) (show row ≤ z.1 + 1 by have := (lo_mem.mp hz).2; omega)]
    rw [sm_congr (l := upP ps row) (g := fun z => ind (upP ps row) (z.1 + 1, z.2 + 0) + if atS ps row z = true then (fun _ => (1 : Int)) z else 0) fun z hz => ?_]
    · rw [sm_add, sm_ite, sm_one]
    · have hz2 := (up_mem.mp hz).2
      by_cases c : z.1 = row - 1
      · have e : ((z.1 + 1, z.2 + 0) : Pt) = (row, z.2) := pt_eq (by omega) (by omega)
        rw [e, ind_out (ps := upP ps row) fun q => absurd (up_mem.mp q).2 (by show ¬ row < row; omega)]
        unfold ind atS
        by_cases d : (row, z.2) ∈ ps
        · rw [if_pos d, decide_eq_true c, decide_eq_true d]; rfl
        · rw [if_neg d, decide_eq_true c, decide_eq_false d]; rfl
      · rw [ind_up (row := row) (show z.1 + 1 < row by omega)]
        unfold atS
        rw [decide_eq_false c]
        show _ = _ + (0 : Int)
        omega
  unfold edges
  omega
theorem part_q (ps : List Pt) (row : Int) : quad ps = quad (upP ps row) + quad (loP ps row) + cnt (seamP ps row) 0 1 := by
  unfold quad cnt
  rw [sm_split (fun z : Pt => decide (z.1 < row)) (fun z => ind ps (z.1, z.2 + 1) * (ind ps (z.1 + 1, z.2) * ind ps (z.1 + 1, z.2 + 1))) ps]
  rw [sm_congr (l := loP ps row) (g := fun z => ind (loP ps row) (z.1, z.2 + 1) * (ind (loP ps row) (z.1 + 1, z.2) * ind (loP ps row) (z.1 + 1, z.2 + 1))) fun z hz => ?_]
  · rw [sm_congr (l := upP ps row) (g := fun z => ind (upP ps row) (z.1, z.2 + 1) * (ind (upP ps row) (z.1 + 1, z.2) * ind (upP ps row) (z.1 + 1, z.2 + 1)) + if atS ps row z = true then (fun z : Pt => ind (seamP ps row) (z.1 + 0, z.2 + 1)) z else 0) fun z hz => ?_]
    · rw [sm_add, sm_ite, show List.filter (atS ps row) (upP ps row) = seamP ps row from rfl]
      omega
    · have hz2 := (up_mem.mp hz).2
      by_cases c : z.1 = row - 1
      · rw [ind_out (ps := upP ps row) (z := (z.1 + 1, z.2)) fun q => absurd (up_mem.mp q).2 (by show ¬ z.1 + 1 < row; omega), Int.zero_mul, Int.mul_zero, Int.zero_add]
        have e : ((z.1 + 1, z.2) : Pt) = (row, z.2) := pt_eq (by omega) rfl
        have e2 : ((z.1 + 1, z.2 + 1) : Pt) = (row, z.2 + 1) := pt_eq (by omega) rfl
        rw [e, e2]
        unfold atS
        by_cases d : (row, z.2) ∈ ps
        · rw [decide_eq_true c, decide_eq_true d, ind_in d, Int.one_mul]
          show _ = ind (seamP ps row) (z.1 + 0, z.2 + 1)
          by_cases f : (z.1, z.2 + 1) ∈ ps
          · rw [ind_in f, Int.one_mul]
            refine ind_eq (Iff.trans ?_ seam_mem.symm)
            show (row, z.2 + 1) ∈ ps ↔ (z.1 + 0, z.2 + 1) ∈ ps ∧ z.1 + 0 = row - 1 ∧ (row, z.2 + 1) ∈ ps
            rw [Int.add_zero]
            exact ⟨fun h => ⟨f, c, h⟩, fun h => h.2.2⟩
          · rw [ind_out f, Int.zero_mul, ind_out fun q => f (by have := (seam_mem.mp q).1; rw [Int.add_zero] at this; exact this)]
        · rw [decide_eq_true c, decide_eq_false d, ind_out d, Int.zero_mul, Int.mul_zero]; rfl
      · rw [ind_up (ps := ps) (row := row) (z := (z.1, z.2 + 1)) hz2, ind_up (ps := ps) (row := row) (z := (z.1 + 1, z.2)) (show z.1 + 1 < row by omega), ind_up (ps := ps) (row := row) (z := (z.1 + 1, z.2 + 1)) (show z.1 + 1 < row by omega)]
        unfold atS
        rw [decide_eq_false c]
        show _ = _ + (0 : Int)
        omega
  · have hz2 := (lo_mem.mp hz).2
    rw [ind_lo (ps := ps) (row := row) (z := (z.1, z.2 + 1)) hz2, ind_lo (ps := ps) (row := row) (z := (z.1 + 1, z.2)) (show row ≤ z.1 + 1 by omega), ind_lo (ps := ps) (row := row) (z := (z.1 + 1, z.2 + 1)) (show row ≤ z.1 + 1 by omega)]
theorem due_ind {ps : List Pt} {row h : Int} {z : Pt} {step : Int} (hz : z.1 = row - 1) : dueE ps row (2 * h) z.2 step = 2 * (h * h) * (1 + -1 * ind (seamP ps row) (z.1, z.2 + step)) := by
  have e : 2 * h * (2 * h) / 2 = 2 * (h * h) := by
    rw [Int.mul_assoc, Int.mul_left_comm h 2 h]
    omega
  have hm : (z.1, z.2 + step) ∈ seamP ps row ↔ (row - 1, z.2 + step) ∈ ps ∧ (row, z.2 + step) ∈ ps := by
    rw [seam_mem, ← hz]
    exact ⟨fun h => ⟨h.1, h.2.2⟩, fun h => ⟨h.1, rfl, h.2⟩⟩
  unfold dueE
  by_cases c : (row - 1, z.2 + step) ∈ ps ∧ (row, z.2 + step) ∈ ps
  · rw [decide_eq_true c.1, decide_eq_true c.2, ind_in (hm.mpr c)]
    show (0 : Int) = _ * 0
    rw [Int.mul_zero]
  · have hb : (decide ((row - 1, z.2 + step) ∈ ps) && decide ((row, z.2 + step) ∈ ps)) = false := by
      rw [Bool.and_eq_false_iff, decide_eq_false_iff_not, decide_eq_false_iff_not]
      by_cases q : (row - 1, z.2 + step) ∈ ps
      · exact .inr fun y => c ⟨q, y⟩
      · exact .inl q
    rw [hb, ind_out fun q => c (hm.mp q), e]
    show 2 * (h * h) = _ * 1
    rw [Int.mul_one]
/-- parted along a line -/
theorem part_law {ps : List Pt} (hp : ps.Nodup) (row s h : Int) : glassI ps s (2 * h) - (glassI (upP ps row) s (2 * h) + glassI (loP ps row) s (2 * h)) = (((seamP ps row).map (·.2)).length : Int) * s * (2 * h) - sm (fun c => dueE ps row (2 * h) c (-1) + dueE ps row (2 * h) c 1) ((seamP ps row).map (·.2))
    ∧ glassI ps s (2 * h) - (glassI (upP ps row) s (2 * h) + glassI (loP ps row) s (2 * h)) = 2 * (((seamP ps row).length : Int) * (s * h)) - 4 * (((seamP ps row).length : Int) * (h * h)) + 4 * (cnt (seamP ps row) 0 1 * (h * h)) := by
  have hU : (upP ps row).Nodup := nodup_filter (fun z : Pt => decide (z.1 < row)) hp
  have hL : (loP ps row).Nodup := nodup_filter (fun z : Pt => !decide (z.1 < row)) hp
  have hS : (seamP ps row).Nodup := nodup_filter (atS ps row) hU
  have k2 : glassI ps s (2 * h) - (glassI (upP ps row) s (2 * h) + glassI (loP ps row) s (2 * h)) = 2 * (((seamP ps row).length : Int) * (s * h)) - 4 * (((seamP ps row).length : Int) * (h * h)) + 4 * (cnt (seamP ps row) 0 1 * (h * h)) := by
    rw [glass_lin hp, glass_lin hU, glass_lin hL, part_n ps row, part_e ps row, part_q ps row]
    simp only [Int.add_mul]
    omega
  refine ⟨?_, k2⟩
  rw [k2, sm_map, List.length_map]
  rw [sm_congr (l := seamP ps row) (g := fun z => 2 * (h * h) * (1 + -1 * ind (seamP ps row) (z.1 - 0, z.2 - 1)) + 2 * (h * h) * (1 + -1 * ind (seamP ps row) (z.1 + 0, z.2 + 1))) fun z hz => by
    have e := (seam_mem.mp hz).2.1
    rw [due_ind (ps := ps) (h := h) (step := -1) e, due_ind (ps := ps) (h := h) (step := 1) e, show z.1 - 0 = z.1 by omega, show z.1 + 0 = z.1 by omega, show z.2 + -1 = z.2 - 1 by omega]]
  rw [sm_add, sm_mul, sm_mul, sm_add, sm_add, sm_mul, sm_mul, sm_one, cnt_neg hS]
  rw [show sm (fun z : Pt => ind (seamP ps row) (z.1 + 0, z.2 + 1)) (seamP ps row) = cnt (seamP ps row) 0 1 from rfl]
  generalize cnt (seamP ps row) 0 1 = R
  generalize ((seamP ps row).length : Int) = k
  rw [Int.mul_add, Int.mul_assoc k s, Int.mul_left_comm s 2 h, Int.mul_left_comm k 2 (s * h)]
  rw [Int.mul_assoc 2 (h * h) k, Int.mul_comm (h * h) k, Int.mul_assoc 2 (h * h) (-1 * R), Int.mul_left_comm (h * h) (-1) R, Int.mul_comm (h * h) R]
  omega
theorem part_le {ps : List Pt} (hp : ps.Nodup) {row s h : Int} (h0 : 0 ≤ h) (hs : 2 * h < s) : glassI (upP ps row) s (2 * h) + glassI (loP ps row) s (2 * h) ≤ glassI ps s (2 * h) := by
  have h1 := (part_law hp row s h).2
  have hR : 0 ≤ cnt (seamP ps row) 0 1 * (h * h) := Int.mul_nonneg (sm_nonneg (fun z => ind_nn _ _) _) (Int.mul_nonneg h0 h0)
  have hk : 0 ≤ ((seamP ps row).length : Int) * (h * (s - 2 * h)) := Int.mul_nonneg (by omega) (Int.mul_nonneg h0 (by omega))
  rw [Int.mul_sub, Int.mul_sub, Int.mul_left_comm h 2 h, Int.mul_left_comm _ 2 (h * h), Int.mul_comm h s] at hk
  omega
end
section
variable {P : Program} {w : World} {K : PySem.W.Frag} {mg : Str → Option Value} {base : Heap}
abbrev LV := 6
abbrev gm14 (K : PySem.W.Frag) (ns : List Int) (dr : Addr) (ps : List Pt) (s l row : Int) (rest : Gm) : Gm :=
  some (val (tSeq (K := K) tInt) ns) :: none :: some (drw dr) :: some (val (tTup (tP (K := K))) ps) :: some (val (tInt (K := K)) s) :: some (val (tInt (K := K)) l) :: some (val (tP (K := K)) (s, l)) :: some (val (tInt (K := K)) row) :: rest
theorem eqv_nil (ps : List Pt) : PyData.eqv (.tuple (ps.map pD)) (.tuple (([] : List Pt).map pD)) = decide (ps = []) := by
  cases ps <;> rfl
theorem law_ok (T : Top K mg) {f : Addr} {fd : FuncData} (F : Fun K "law" "law" s_law f fd) : FnOk P w K mg base CX0 LV f fd ["script"] (spLaw K) :=
  fn_law F sc_law fun ns hl c => by
    have hD : Prom P w K mg base "_law_draw" 1 ["draws", "many"] (spDraw K) := p_draw T
    have hS : Prom P w K mg base "_law_draws" 1 ["script", "k"] (spDraws K) := p_draws T
    have hLot : Prom P w K mg base "_law_lot" 2 ["draws", "most"] (spLot K) := p_lot T
    have hMe : Prom P w K mg base "_law_measure" 2 ["draws"] (spMeasure K) := p_measure T
    have hGl : Prom P w K mg base "glass" 3 ["piece", "measure"] (spGlass K) := p_glass T
    have hsz : 100000 < sizeLine := by decide +kernel
    refine w_cons ?_
    refine w_turns T.bi (by decide) (by decide) rfl rfl rfl rfl rfl rfl rfl hl ?_ ?_
    · intro a0 a1 a2
      refine gw_name rfl rfl trivial (of_decide_eq_true rfl) ?_
      refine w_cons ?_
      refine w_draws hS (by decide) rfl rfl rfl ?_
      walk_at "go"
      intro dr
      refine w_cons (w_set (T := tTup tP) rfl rfl (ew_callD hLot (by decide) rfl rfl rfl rfl (ews_cons (T := tInt) (ew_int (ews_nil ⟨rfl, 16, rfl, rfl, fun ps hps => ⟨of_decide_eq_true rfl, ?_⟩⟩)))))
      obtain ⟨hnd, h16, h1⟩ : LotOk ps := hps
      refine w_cons (w_asgT (T := tP) (ew_callD hMe (by decide) rfl rfl rfl rfl (ews_nil ⟨rfl, (), rfl, trivial, fun z hz => ?_⟩)))
      obtain ⟨h, hz1, hz2, hz3, hz4⟩ : ∃ d : Int, z.2 = 2 * d ∧ 0 ≤ d ∧ 2 * d < z.1 ∧ z.1 ≤ 100 := hz
      obtain ⟨s, l⟩ := z
      have hz1 : l = 2 * h := hz1
      have hz3 : 2 * h < s := hz3
      have hz4 : s ≤ 100 := hz4
      subst hz1
      refine gw_T2 (gw_name rfl rfl trivial (of_decide_eq_true rfl) (gw_name rfl rfl trivial (of_decide_eq_true rfl) ?_))
      refine w_cons (w_set (T := tP) rfl rfl (ea_P (ew_pr (ew_name rfl rfl rfl (ew_name rfl rfl rfl ⟨of_decide_eq_true rfl, ?_⟩)))))
      refine w_cons (w_set (T := tInt) rfl rfl ?_)
      walk_at "go"
      intro row r1 r2
      refine ⟨of_decide_eq_true rfl, ?_⟩
      refine w_weak (gm14 K ns dr ps s (2 * h) row [none, none, none, none, none, none, none, none, none, none, none, none, none, none, none]) (by walk_at "wk") ?_
      have hg : ∀ qs : List Pt, qs.length ≤ 64 → qs.length ≤ 64 ∧ (0 ≤ s ∧ s ≤ 10000) ∧ (0 ≤ 2 * h ∧ 2 * h ≤ 10000) := fun qs hq => ⟨hq, by omega, by omega⟩
      -- the parts
      refine w_cons (w_par2 (A := tTup tP) (B' := tTup tP) rfl rfl (by decide) rfl rfl rfl (ew_tupleL T.bi rfl (ew_el (el_comp (A := tP) (B' := tP) [("cell", 19)] rfl (fun z o => o = if (fun z : Pt => decide (z.1 < row)) z then some (id z) else none) ?_))))
      refine iw_tup (ew_name rfl rfl rfl ⟨rfl, by omega, ?_, ?_⟩)
      · intro c' j z hj
        refine gw_name rfl rfl (by decide) (of_decide_eq_true rfl) ?_
        intro c''
        refine ts_one (tw_lt (ew_T2_0 (A := tInt) (B' := tInt) (ew_name rfl rfl rfl (ew_name rfl rfl rfl ⟨fun b c3 => ew_name rfl rfl rfl ⟨rfl, ?_⟩, fun b => ⟨rfl, ?_⟩⟩))))
        · show some z = if decide (z.1 < row) = true then some z else none
          rw [if_pos b]
        · show none = if decide (z.1 < row) = true then some z else none
          rw [b]; rfl
      intro os ho
      rw [all2_ite ho, List.map_id]
      clear ho os
      refine ew_tupleL T.bi rfl (ew_el (el_comp (A := tP) (B' := tP) [("cell", 19)] rfl (fun z o => o = if (fun z : Pt => !decide (z.1 < row)) z then some (id z) else none) ?_))
      refine iw_tup (ew_name rfl rfl rfl ⟨rfl, by omega, ?_, ?_⟩)
      · intro c' j z hj
        refine gw_name rfl rfl (by decide) (of_decide_eq_true rfl) ?_
        intro c''
        refine ts_one (tw_ge (ew_T2_0 (A := tInt) (B' := tInt) (ew_name rfl rfl rfl (ew_name rfl rfl rfl ⟨fun b c3 => ew_name rfl rfl rfl ⟨rfl, ?_⟩, fun b => ⟨rfl, ?_⟩⟩))))
        · have b := of_decide_eq_true b
          show some z = if (!decide (z.1 < row)) = true then some z else none
          rw [decide_eq_false (show ¬ z.1 < row by omega)]; rfl
        · have b := of_decide_eq_false b
          show none = if (!decide (z.1 < row)) = true then some z else none
          rw [decide_eq_true (show z.1 < row by omega)]; rfl
      intro os ho
      rw [all2_ite ho, List.map_id]
      clear ho os
      refine ⟨⟨of_decide_eq_true rfl, of_decide_eq_true rfl⟩, ?_⟩
      have hUl : (upP ps row).length ≤ ps.length := List.length_filter_le _ _
      have hLl : (loP ps row).length ≤ ps.length := List.length_filter_le _ _
      have hpart := part_law hnd row s h
      have hle := part_le hnd (row := row) hz2 hz3
      have hSe : seamP ps row = (upP ps row).filter (atS ps row) := rfl
      have hSl : (seamP ps row).length ≤ (upP ps row).length := List.length_filter_le _ _
      refine w_weak (gm14 K ns dr ps s (2 * h) row [some (val (tTup (tP (K := K))) (upP ps row)), some (val (tTup (tP (K := K))) (loP ps row)), none, none, none, none, none, none, none, none, none, none, none, none, none]) (by walk_at "wk") ?_
      refine w_cons (w_set (T := tInt) rfl rfl (ew_call hGl (by decide) rfl (ews_cons (T := tTup tP) (ew_name rfl rfl rfl (ews_cons (T := tP) (ew_name rfl rfl rfl (ews_nil ⟨(ps, s, 2 * h), rfl, hg ps (by omega), fun r hr => ⟨of_decide_eq_true rfl, ?_⟩⟩)))))))
      have hr : r = glassI ps s (2 * h) := hr
      subst hr
      refine w_cons (w_set (T := tInt) rfl rfl (ew_sumL T.bi rfl (ew_el (el_comp (A := tTup tP) (B' := tInt) [("part", 20)] rfl (fun q o => o = if (fun q : List Pt => !decide (q = [])) q then some ((fun q => glassI q s (2 * h)) q) else none) ?_))))
      refine iw_tup (ew_tupL (ewl_cons (ew_name rfl rfl rfl (ewl_cons (ew_name rfl rfl rfl (ewl_nil ⟨by show 2 ≤ sizeLine; omega, rfl, by show 2 < sizeLine; omega, ?_, ?_⟩))))))
      · intro c' j q hj
        have hq : q.length ≤ 64 := by
          have := List.mem_of_getElem? hj
          simp only [List.mem_cons, List.not_mem_nil, or_false] at this
          rcases this with e | e <;> rw [e] <;> omega
        refine gw_name rfl rfl (by decide) (of_decide_eq_true rfl) ?_
        intro c''
        refine ts_one (tw_neD (asD_tup asD_pr) (ew_name rfl rfl rfl (ew_tupL (ewl_nil ⟨by show 0 ≤ sizeLine; omega, ⟨shaped_prs q, rfl⟩, ?_⟩))))
        rw [eqv_nil]
        refine ⟨fun b c3 => ?_, fun b => ⟨rfl, ?_⟩⟩
        · refine ew_call hGl (by decide) rfl (ews_cons (T := tTup tP) (ew_name rfl rfl rfl (ews_cons (T := tP) (ew_name rfl rfl rfl (ews_nil ⟨(q, s, 2 * h), rfl, hg q hq, fun r hr => ⟨rfl, ?_⟩⟩)))))
          have hr : r = glassI q s (2 * h) := hr
          show some r = if (!decide (q = [])) = true then some (glassI q s (2 * h)) else none
          rw [if_pos b, hr]
        · show none = if (!decide (q = [])) = true then some (glassI q s (2 * h)) else none
          rw [b]; rfl
      intro os ho
      have e1 : (os.filterMap id).sum = glassI (upP ps row) s (2 * h) + glassI (loP ps row) s (2 * h) := by
        rw [all2_ite ho, sm_sum, ← sm_ite]
        have e0 : ∀ q : List Pt, (if (!decide (q = [])) = true then glassI q s (2 * h) else 0) = glassI q s (2 * h) := fun q => by
          by_cases z : q = []
          · subst z; rw [glass_nil]; rfl
          · rw [decide_eq_false z]; rfl
        rw [sm_congr fun q _ => e0 q, sm_cons, sm_cons]
        show _ + (_ + (0 : Int)) = _
        omega
      rw [e1]
      clear ho e1 os
      refine ⟨of_decide_eq_true rfl, ?_⟩
      -- the seam
      refine w_cons (w_setC (A := tP) (B' := tInt) [("cell", 19)] rfl (fun z o => o = if atS ps row z then some ((fun z : Pt => z.2) z) else none) rfl rfl rfl rfl rfl ?_)
      refine iw_tup (ew_name rfl rfl rfl ⟨rfl, by omega, ?_, ?_⟩)
      · intro c' j z hj
        refine gw_name rfl rfl (by decide) (of_decide_eq_true rfl) ?_
        intro c''
        refine ts_one (tw_w (tww_and (tw_eq fInt (ew_T2_0 (A := tInt) (B' := tInt) (ew_name rfl rfl rfl (ew_sub (ew_name rfl rfl rfl (ew_int ⟨fun b1 => ?_, fun b1 => ?_⟩))))))))
        · refine tww_and1 (tw_inP (ea_P (ew_pr (ew_name rfl rfl rfl (ew_T2_1 (A := tInt) (B' := tInt) (ew_name rfl rfl rfl (ew_name rfl rfl rfl ⟨fun b2 c3 => ?_, fun b2 => ⟨rfl, ?_⟩⟩)))))))
          · refine ew_T2_1 (A := tInt) (B' := tInt) (ew_name rfl rfl rfl ⟨rfl, ?_⟩)
            show some z.2 = if (decide (z.1 = row - 1) && decide ((row, z.2) ∈ ps)) = true then some z.2 else none
            rw [b1, b2]; rfl
          · show none = if (decide (z.1 = row - 1) && decide ((row, z.2) ∈ ps)) = true then some z.2 else none
            rw [b1, b2]; rfl
        · refine ⟨(fun e => nomatch e), fun _ => ⟨rfl, ?_⟩⟩
          show none = if (decide (z.1 = row - 1) && decide ((row, z.2) ∈ ps)) = true then some z.2 else none
          rw [b1]; rfl
      intro os ho
      rw [all2_ite ho, ← hSe]
      clear ho os
      refine ⟨of_decide_eq_true rfl, ?_⟩
      have hse : ((seamP ps row).map fun z : Pt => z.2) = (seamP ps row).map (·.2) := rfl
      have hsl : ((seamP ps row).map (·.2)).length ≤ 16 := by rw [List.length_map]; omega
      rw [hse]
      have hp1 := hpart.1
      refine w_frz 12 rfl ?_
      generalize (seamP ps row).map (·.2) = sea at hsl hp1 ⊢
      have hwh : glassI ps s (2 * h) = glassI ps s (2 * h) := rfl
      generalize hW : glassI ps s (2 * h) = whole at hle hp1 ⊢
      generalize glassI (upP ps row) s (2 * h) + glassI (loP ps row) s (2 * h) = parts at hle hp1 ⊢
      let R2 : List (Option Ent) := [some (val (tInt (K := K)) whole), some (val (tInt (K := K)) parts), some (val (tLst (tInt (K := K))) sea)]
      let E : List (Option Ent) := [none, none, none, none, none, none, none, none, none]
      refine w_weak (gm14 K ns dr ps s (2 * h) row (none :: none :: some (val (tInt (K := K)) whole) :: some (val (tInt (K := K)) parts) :: some (val (tLst (tInt (K := K))) sea) :: [none, none, none, none, none, none, none, none, none, none])) (by walk_at "wk") ?_
      refine w_cons (w_set (T := tInt) rfl rfl (ew_mul (ew_mul (ew_lenL (A := tInt) T.bi rfl (ew_name rfl rfl rfl (ew_name rfl rfl rfl ⟨cmul_of (by omega), ew_name rfl rfl rfl ⟨cmul_of (by omega), of_decide_eq_true rfl, ?_⟩⟩))))))
      refine w_cons (w_for (A := tInt) (iw_list (ew_name rfl rfl rfl ⟨fun i G => G = gm14 K ns dr ps s (2 * h) row (none :: none :: some (val (tInt (K := K)) whole) :: some (val (tInt (K := K)) parts) :: some (val (tLst (tInt (K := K))) sea) :: some (val (tInt (K := K)) ((sea.length : Int) * s * (2 * h) - sm (fun c => dueE ps row (2 * h) c (-1) + dueE ps row (2 * h) c 1) (sea.take i))) :: [none, none, none, none, none, none, none, none, none]), ?_, ?_, ?_⟩)))
      · show (_ : Gm) = _
        rw [List.take_zero, show sm (fun c => dueE ps row (2 * h) c (-1) + dueE ps row (2 * h) c 1) ([] : List Int) = 0 from rfl, Int.sub_zero]
        rfl
      · rintro i col hcol G rfl
        refine gw_name rfl rfl trivial (of_decide_eq_true rfl) ?_
        generalize hd0 : (sea.length : Int) * s * (2 * h) - sm (fun c => dueE ps row (2 * h) c (-1) + dueE ps row (2 * h) c 1) (sea.take i) = d0
        refine w_cons (w_for (A := tInt) (iw_tup (ew_tupL ?_)))
        refine ewl_cons (ew_neg (ew_int ?_))
        refine ewl_cons (ew_int ?_)
        refine ewl_nil ⟨by show 2 ≤ sizeLine; omega, fun j G => G = gm14 K ns dr ps s (2 * h) row (none :: none :: some (val (tInt (K := K)) whole) :: some (val (tInt (K := K)) parts) :: some (val (tLst (tInt (K := K))) sea) :: some (val (tInt (K := K)) (d0 - sm (fun st => dueE ps row (2 * h) col st) ([-1, 1].take j))) :: some (val (tInt (K := K)) col) :: [none, none, none, none, none, none, none, none]), ?_, ?_, ?_⟩
        · show (_ : Gm) = _
          rw [List.take_zero, show sm (fun st => dueE ps row (2 * h) col st) ([] : List Int) = 0 from rfl, Int.sub_zero]
          rfl
        · rintro j st hst G rfl
          refine gw_name rfl rfl trivial (of_decide_eq_true rfl) ?_
          refine w_cons (w_setL (T := tBool) rfl rfl (el_lst ?_))
          refine ewl_cons (ew_inP (ea_P (ew_pr (ew_sub (ew_name rfl rfl rfl (ew_int (ew_add (ew_name rfl rfl rfl (ew_name rfl rfl rfl (ew_name rfl rfl rfl ?_))))))))))
          refine ewl_cons (ew_inP (ea_P (ew_pr (ew_name rfl rfl rfl (ew_add (ew_name rfl rfl rfl (ew_name rfl rfl rfl (ew_name rfl rfl rfl ?_))))))))
          refine ewl_nil ⟨by show 2 ≤ sizeLine; omega, of_decide_eq_true rfl, ?_⟩
          refine w_frz 16 rfl ?_
          have hE : dueE ps row (2 * h) col st = if decide ((row - 1, col + st) ∈ ps) && decide ((row, col + st) ∈ ps) then 0 else 2 * h * (2 * h) / 2 := rfl
          have nxt : ∀ r : Int, r = dueE ps row (2 * h) col st → d0 - sm (fun st => dueE ps row (2 * h) col st) ([-1, 1].take j) - r = d0 - sm (fun st => dueE ps row (2 * h) col st) ([-1, 1].take (j + 1)) := fun r hr => by
            rw [hr, List.take_add_one, hst]
            unfold sm
            show _ = d0 - (([-1, 1].take j ++ [st]).map fun st => dueE ps row (2 * h) col st).sum
            rw [List.map_append, List.sum_append]
            show _ = d0 - (_ + (dueE ps row (2 * h) col st + 0))
            omega
          generalize decide ((row - 1, col + st) ∈ ps) = b1 at hE ⊢
          generalize decide ((row, col + st) ∈ ps) = b2 at hE ⊢
          refine w_cons (w_set (T := tInt) rfl rfl (ew_sub (ew_name rfl rfl rfl (ew_ifx (tw_eqD (asD_lst asD_bool) (ew_name rfl rfl rfl (ew_el (el_lst (ewl_cons (ew_bl (ewl_cons (ew_bl (ewl_nil ⟨by show 2 ≤ sizeLine; omega, ⟨rfl, rfl⟩, ?_⟩)))))))))))))
          have hb : PyData.eqv (.list ([b1, b2].map .bool)) (.list ([true, true].map .bool)) = (b1 && b2) := by
            cases b1 <;> cases b2 <;> rfl
          rw [hb]
          refine ⟨fun q => ew_int ⟨of_decide_eq_true rfl, ?_⟩, fun q => ew_div (ew_mul (ew_name rfl rfl rfl (ew_name rfl rfl rfl ⟨cmul_of (by omega), ew_int ⟨cdiv_of (by omega) (by omega), of_decide_eq_true rfl, ?_⟩⟩)))⟩
          · rw [q, if_pos rfl] at hE
            refine w_nilW (gm14 K ns dr ps s (2 * h) row (none :: none :: some (val (tInt (K := K)) whole) :: some (val (tInt (K := K)) parts) :: some (val (tLst (tInt (K := K))) sea) :: some (val (tInt (K := K)) (d0 - sm (fun st => dueE ps row (2 * h) col st) ([-1, 1].take j) - 0)) :: some (val (tInt (K := K)) col) :: [none, none, none, none, none, none, none, none])) (by walk_at "wk") ?_
            show (_ : Gm) = _
            rw [nxt 0 hE.symm]
          · rw [q, if_neg (by decide)] at hE
            refine w_nilW (gm14 K ns dr ps s (2 * h) row (none :: none :: some (val (tInt (K := K)) whole) :: some (val (tInt (K := K)) parts) :: some (val (tLst (tInt (K := K))) sea) :: some (val (tInt (K := K)) (d0 - sm (fun st => dueE ps row (2 * h) col st) ([-1, 1].take j) - 2 * h * (2 * h) / 2)) :: some (val (tInt (K := K)) col) :: [none, none, none, none, none, none, none, none])) (by walk_at "wk") ?_
            show (_ : Gm) = _
            rw [nxt _ hE.symm]
        · rintro G rfl
          refine w_nilW (gm14 K ns dr ps s (2 * h) row (none :: none :: some (val (tInt (K := K)) whole) :: some (val (tInt (K := K)) parts) :: some (val (tLst (tInt (K := K))) sea) :: some (val (tInt (K := K)) (d0 - sm (fun st => dueE ps row (2 * h) col st) [-1, 1])) :: [none, none, none, none, none, none, none, none, none])) (by walk_at "wk") ?_
          show (_ : Gm) = _
          have e2 : d0 - sm (fun st => dueE ps row (2 * h) col st) [-1, 1] = (sea.length : Int) * s * (2 * h) - sm (fun c => dueE ps row (2 * h) c (-1) + dueE ps row (2 * h) c 1) (sea.take (i + 1)) := by
            rw [← hd0, List.take_add_one, hcol]
            show _ - (dueE ps row (2 * h) col (-1) + (dueE ps row (2 * h) col 1 + (0 : Int))) = _ - ((sea.take i ++ [col]).map _).sum
            rw [List.map_append, List.sum_append]
            show _ = _ - (sm (fun c => dueE ps row (2 * h) c (-1) + dueE ps row (2 * h) c 1) (sea.take i) + ((dueE ps row (2 * h) col (-1) + dueE ps row (2 * h) col 1) + (0 : Int)))
            omega
          rw [e2]
      rintro G rfl
      rw [List.take_length, ← hp1]
      refine w_cons (w_if (tw_ne fInt (ew_sub (ew_name rfl rfl rfl (ew_name rfl rfl rfl (ew_name rfl rfl rfl ?_))))))
      rw [decide_eq_true rfl]
      refine ⟨(fun e => nomatch e), fun _ => w_nil ?_⟩
      refine w_weak (gm14 K ns dr ps s (2 * h) row (none :: none :: some (val (tInt (K := K)) whole) :: some (val (tInt (K := K)) parts) :: [none, none, none, none, none, none, none, none, none, none, none])) (by walk_at "wk") ?_
      -- cell by cell
      refine w_cons (w_if (tw_ne fInt (ew_sumL T.bi rfl (ew_el (el_comp (A := tP) (B' := tInt) [("cell", 19)] rfl (fun z o => o = some ((fun z : Pt => glassI [z] s (2 * h)) z)) ?_)))))
      refine iw_tup (ew_name rfl rfl rfl ⟨rfl, by omega, ?_, ?_⟩)
      · intro c' j z hj
        refine gw_name rfl rfl (by decide) (of_decide_eq_true rfl) ?_
        intro c''
        refine ts_nil ⟨fun _ c3 => ?_, fun e => nomatch e⟩
        refine ew_call hGl (by decide) rfl (ews_cons (T := tTup tP) (ew_tupL (ewl_cons (ew_name rfl rfl rfl (ewl_nil ⟨by show 1 ≤ sizeLine; omega, ews_cons (T := tP) (ew_name rfl rfl rfl (ews_nil ⟨([z], s, 2 * h), rfl, hg [z] (by show 1 ≤ 64; omega), fun r hr => ⟨rfl, ?_⟩⟩))⟩)))))
        have hr : r = glassI [z] s (2 * h) := hr
        rw [hr]
      intro os ho
      rw [all2_some ho]
      clear ho os
      have e3 : (ps.map fun z : Pt => glassI [z] s (2 * h)).sum = (ps.length : Int) * (s - 2 * h) * (s - 2 * h) := by
        rw [sm_sum, sm_congr (g := fun z => ((s - 2 * h) * (s - 2 * h)) * (fun _ => (1 : Int)) z) fun z _ => by rw [glass_one]; exact (Int.mul_one _).symm, sm_mul, sm_one, Int.mul_comm, Int.mul_assoc]
      rw [e3]
      refine ew_mul (ew_mul (ew_lenT (A := tP) T.bi rfl (ew_name rfl rfl rfl (ew_sub (ew_name rfl rfl rfl (ew_name rfl rfl rfl ⟨cmul_of (by omega), ew_sub (ew_name rfl rfl rfl (ew_name rfl rfl rfl ⟨cmul_of (by omega), ?_⟩))⟩))))))
      rw [decide_eq_true rfl]
      refine ⟨(fun e => nomatch e), fun _ => w_nil ?_⟩
      -- without lead
      have hg0 : ps.length ≤ 64 ∧ (0 ≤ s ∧ s ≤ 10000) ∧ (0 ≤ (0 : Int) ∧ (0 : Int) ≤ 10000) := ⟨by omega, by omega, by omega⟩
      refine w_cons (w_if (tw_w (tww_or (tw_ne fInt (ew_call hGl (by decide) rfl (ews_cons (T := tTup tP) (ew_name rfl rfl rfl (ews_cons (T := tP) (ea_P (ew_pr (ew_name rfl rfl rfl (ew_int (ews_nil ⟨(ps, s, 0), rfl, hg0, fun r hr => ?_⟩)))))))))))))
      have hr : r = glassI ps s 0 := hr
      rw [glass_plain hnd] at hr
      subst hr
      refine ew_mul (ew_mul (ew_lenT (A := tP) T.bi rfl (ew_name rfl rfl rfl (ew_name rfl rfl rfl ⟨cmul_of (by omega), ew_name rfl rfl rfl ⟨cmul_of (by omega), ?_⟩⟩))))
      rw [decide_eq_true rfl]
      refine ⟨fun _ => tww_or1 (tw_gt (ew_name rfl rfl rfl (ew_name rfl rfl rfl ⟨fun b => absurd (of_decide_eq_true b) (by omega), fun _ => w_nil ?_⟩))), (fun e => nomatch e)⟩
      -- elsewhere, turned
      refine w_weak (gm14 K ns dr ps s (2 * h) row (none :: none :: some (val (tInt (K := K)) whole) :: [none, none, none, none, none, none, none, none, none, none, none, none])) (by walk_at "wk") ?_
      refine w_cons (w_for (A := tLst tPr) (iw_list (ew_el (el_lst (ewl_cons (ew_el (el_comp (A := tP) (B' := tPr) [("down", 21), ("right", 22)] rfl (fun z o => o = some ((fun z : Pt => (z.1 + 3, z.2 + 7)) z)) ?_)))))))
      refine iw_tup (ew_name rfl rfl rfl ⟨rfl, by omega, ?_, ?_⟩)
      · intro c' j z hj
        refine gw_T2 (gw_name rfl rfl (by decide) (of_decide_eq_true rfl) (gw_name rfl rfl (by decide) (of_decide_eq_true rfl) ?_))
        intro c''
        refine ts_nil ⟨fun _ c3 => ?_, fun e => nomatch e⟩
        exact ew_pr (ew_add (ew_name rfl rfl rfl (ew_int (ew_add (ew_name rfl rfl rfl (ew_int ⟨rfl, rfl⟩))))))
      intro os ho
      rw [all2_some ho]
      clear ho os
      refine ewl_cons (ew_el (el_comp (A := tP) (B' := tPr) [("down", 21), ("right", 22)] rfl (fun z o => o = some ((fun z : Pt => (z.2, z.1)) z)) ?_))
      refine iw_tup (ew_name rfl rfl rfl ⟨rfl, by omega, ?_, ?_⟩)
      · intro c' j z hj
        refine gw_T2 (gw_name rfl rfl (by decide) (of_decide_eq_true rfl) (gw_name rfl rfl (by decide) (of_decide_eq_true rfl) ?_))
        intro c''
        refine ts_nil ⟨fun _ c3 => ?_, fun e => nomatch e⟩
        exact ew_pr (ew_name rfl rfl rfl (ew_name rfl rfl rfl ⟨rfl, rfl⟩))
      intro os ho
      rw [all2_some ho]
      clear ho os
      have hms : ∀ qs : List Pt, qs ∈ [ps.map fun z : Pt => (z.1 + 3, z.2 + 7), ps.map fun z : Pt => (z.2, z.1)] → qs.length = ps.length ∧ ∀ ys : List Pt, ys.Perm qs → glassI ys s (2 * h) = whole := fun qs hq => by
        simp only [List.mem_cons, List.not_mem_nil, or_false] at hq
        have hn1 : ∀ x y : Pt, ((x.1 + 3, x.2 + 7) : Pt) = (y.1 + 3, y.2 + 7) → x = y := fun x y e => Prod.ext (by have := (Prod.mk.inj e).1; omega) (by have := (Prod.mk.inj e).2; omega)
        have hn2 : ∀ x y : Pt, ((x.2, x.1) : Pt) = (y.2, y.1) → x = y := fun x y e => Prod.ext (Prod.mk.inj e).2 (Prod.mk.inj e).1
        rcases hq with rfl | rfl
        · exact ⟨List.length_map .., fun ys hy => by rw [← glass_perm (nodup_inj hn1 hnd) hy.symm, glass_move hnd, hW]⟩
        · exact ⟨List.length_map .., fun ys hy => by rw [← glass_perm (nodup_inj hn2 hnd) hy.symm, glass_turn hnd, hW]⟩
      refine ewl_nil ⟨by show 2 ≤ sizeLine; omega, fun i G => G = gm14 K ns dr ps s (2 * h) row (none :: none :: some (val (tInt (K := K)) whole) :: [none, none, none, none, none, none, none, none, none, none, none, none]), rfl, ?_, ?_⟩
      · rintro i qs hqs G rfl
        obtain ⟨hql, hqg⟩ := hms qs (List.mem_of_getElem? hqs)
        refine gw_name rfl rfl trivial (of_decide_eq_true rfl) ?_
        refine w_cons (w_if (tw_ne fInt (ew_call hGl (by decide) rfl (ews_cons (T := tTup tP) (ew_tupPr (ew_tupleL T.bi rfl (ew_el (el_sortedP T.bi rfl (ew_name rfl rfl rfl fun ys hy hr => ?_))))))))) 
        have hyl := hy.length_eq
        refine ews_cons (T := tP) (ew_name rfl rfl rfl (ews_nil ⟨(ys, s, 2 * h), rfl, hg ys (by omega), fun r hr => ?_⟩))
        have hr : r = glassI ys s (2 * h) := hr
        rw [hqg ys hy] at hr
        subst hr
        refine ew_name rfl rfl rfl ?_
        rw [decide_eq_true rfl]
        refine ⟨(fun e => nomatch e), fun _ => w_nil (w_nilW _ ?_ rfl)⟩
        walk_at "wk"
      rintro G rfl
      -- mirrored
      refine w_cons (w_set (T := tTup tP) rfl rfl (ew_tupPr (ew_tupleL T.bi rfl (ew_el (el_sortedP T.bi rfl (ew_el (el_comp (A := tP) (B' := tPr) [("down", 21), ("right", 22)] rfl (fun z o => o = some ((fun z : Pt => (z.1, 9 - z.2)) z)) ?_)))))))
      refine iw_tup (ew_name rfl rfl rfl ⟨rfl, by omega, ?_, ?_⟩)
      · intro c' j z hj
        refine gw_T2 (gw_name rfl rfl (by decide) (of_decide_eq_true rfl) (gw_name rfl rfl (by decide) (of_decide_eq_true rfl) ?_))
        intro c''
        refine ts_nil ⟨fun _ c3 => ?_, fun e => nomatch e⟩
        exact ew_pr (ew_name rfl rfl rfl (ew_sub (ew_int (ew_name rfl rfl rfl ⟨rfl, rfl⟩))))
      intro os ho
      rw [all2_some ho]
      clear ho os
      intro ys hy hr
      refine ⟨of_decide_eq_true rfl, ?_⟩
      have hyl : ys.length = ps.length := hy.length_eq.trans (List.length_map ..)
      have hn3 : ∀ x y : Pt, ((x.1, 9 - x.2) : Pt) = (y.1, 9 - y.2) → x = y := fun x y e => Prod.ext (Prod.mk.inj e).1 (by have := (Prod.mk.inj e).2; omega)
      have hyg : glassI ys s (2 * h) = whole := by rw [← glass_perm (nodup_inj hn3 hnd) hy.symm, glass_mirror hnd, hW]
      refine w_cons (w_if (tw_ne fInt (ew_call hGl (by decide) rfl (ews_cons (T := tTup tP) (ew_name rfl rfl rfl (ews_cons (T := tP) (ew_name rfl rfl rfl (ews_nil ⟨(ys, s, 2 * h), rfl, hg ys (by omega), fun r hr => ?_⟩))))))))
      have hr : r = glassI ys s (2 * h) := hr
      rw [hyg] at hr
      subst hr
      refine ew_name rfl rfl rfl ?_
      rw [decide_eq_true rfl]
      refine ⟨(fun e => nomatch e), fun _ => w_nil (w_nilW _ ?_ rfl)⟩
      walk_at "wk"
    · exact w_cons (w_ret (ew_bl rfl))
end
theorem all_mk {l : PySem.W.OpenLaw} {w : World} {K : PySem.W.Frag} {h : Heap} {mg : Str → Option Value} {fa : Addr} (X : K.In h) (G : h.Ns mainGlobals mg) (hfa : mg "law" = some (.ref fa))
    {f0 : Addr} {od0 an0 : Option Addr} {sl0 : Array (Option Value)} {oc0 kV0 dc0 pm0 cd0 ct0 : Value}
    (a0 : PySem.W.nsIn K mainGlobals "beside" = some (some (.ref f0))) (l0 : K.lookup f0 = some ⟨oc0, od0, .func (PySem.W.fnOf "beside" "beside" (defArgs s_beside) (defBody s_beside) (defScope s_beside) .none kV0 dc0 pm0 an0 cd0 ct0), sl0⟩) (c0 : PySem.W.codeIn K cd0 "beside" = true) (k0 : PySem.W.keepIn K (.ref f0) = true)
    {f1 : Addr} {od1 an1 : Option Addr} {sl1 : Array (Option Value)} {oc1 kV1 dc1 pm1 cd1 ct1 : Value}
    (a1 : PySem.W.nsIn K mainGlobals "corner_worth" = some (some (.ref f1))) (l1 : K.lookup f1 = some ⟨oc1, od1, .func (PySem.W.fnOf "corner_worth" "corner_worth" (defArgs s_corner_worth) (defBody s_corner_worth) (defScope s_corner_worth) .none kV1 dc1 pm1 an1 cd1 ct1), sl1⟩) (c1 : PySem.W.codeIn K cd1 "corner_worth" = true) (k1 : PySem.W.keepIn K (.ref f1) = true)
    {f2 : Addr} {od2 an2 : Option Addr} {sl2 : Array (Option Value)} {oc2 kV2 dc2 pm2 cd2 ct2 : Value}
    (a2 : PySem.W.nsIn K mainGlobals "corners" = some (some (.ref f2))) (l2 : K.lookup f2 = some ⟨oc2, od2, .func (PySem.W.fnOf "corners" "corners" (defArgs s_corners) (defBody s_corners) (defScope s_corners) .none kV2 dc2 pm2 an2 cd2 ct2), sl2⟩) (c2 : PySem.W.codeIn K cd2 "corners" = true) (k2 : PySem.W.keepIn K (.ref f2) = true)
    {f3 : Addr} {od3 an3 : Option Addr} {sl3 : Array (Option Value)} {oc3 kV3 dc3 pm3 cd3 ct3 : Value}
    (a3 : PySem.W.nsIn K mainGlobals "glass" = some (some (.ref f3))) (l3 : K.lookup f3 = some ⟨oc3, od3, .func (PySem.W.fnOf "glass" "glass" (defArgs s_glass) (defBody s_glass) (defScope s_glass) .none kV3 dc3 pm3 an3 cd3 ct3), sl3⟩) (c3 : PySem.W.codeIn K cd3 "glass" = true) (k3 : PySem.W.keepIn K (.ref f3) = true)
    {f4 : Addr} {od4 an4 : Option Addr} {sl4 : Array (Option Value)} {oc4 kV4 dc4 pm4 cd4 ct4 : Value}
    (a4 : PySem.W.nsIn K mainGlobals "_law_draws" = some (some (.ref f4))) (l4 : K.lookup f4 = some ⟨oc4, od4, .func (PySem.W.fnOf "_law_draws" "_law_draws" (defArgs s__law_draws) (defBody s__law_draws) (defScope s__law_draws) .none kV4 dc4 pm4 an4 cd4 ct4), sl4⟩) (c4 : PySem.W.codeIn K cd4 "_law_draws" = true) (k4 : PySem.W.keepIn K (.ref f4) = true)
    {f5 : Addr} {od5 an5 : Option Addr} {sl5 : Array (Option Value)} {oc5 kV5 dc5 pm5 cd5 ct5 : Value}
    (a5 : PySem.W.nsIn K mainGlobals "_law_draw" = some (some (.ref f5))) (l5 : K.lookup f5 = some ⟨oc5, od5, .func (PySem.W.fnOf "_law_draw" "_law_draw" (defArgs s__law_draw) (defBody s__law_draw) (defScope s__law_draw) .none kV5 dc5 pm5 an5 cd5 ct5), sl5⟩) (c5 : PySem.W.codeIn K cd5 "_law_draw" = true) (k5 : PySem.W.keepIn K (.ref f5) = true)
    {f6 : Addr} {od6 an6 : Option Addr} {sl6 : Array (Option Value)} {oc6 kV6 dc6 pm6 cd6 ct6 : Value}
    (a6 : PySem.W.nsIn K mainGlobals "_law_lot" = some (some (.ref f6))) (l6 : K.lookup f6 = some ⟨oc6, od6, .func (PySem.W.fnOf "_law_lot" "_law_lot" (defArgs s__law_lot) (defBody s__law_lot) (defScope s__law_lot) .none kV6 dc6 pm6 an6 cd6 ct6), sl6⟩) (c6 : PySem.W.codeIn K cd6 "_law_lot" = true) (k6 : PySem.W.keepIn K (.ref f6) = true)
    {f7 : Addr} {od7 an7 : Option Addr} {sl7 : Array (Option Value)} {oc7 kV7 dc7 pm7 cd7 ct7 : Value}
    (a7 : PySem.W.nsIn K mainGlobals "_law_measure" = some (some (.ref f7))) (l7 : K.lookup f7 = some ⟨oc7, od7, .func (PySem.W.fnOf "_law_measure" "_law_measure" (defArgs s__law_measure) (defBody s__law_measure) (defScope s__law_measure) .none kV7 dc7 pm7 an7 cd7 ct7), sl7⟩) (c7 : PySem.W.codeIn K cd7 "_law_measure" = true) (k7 : PySem.W.keepIn K (.ref f7) = true)
    {f8 : Addr} {od8 an8 : Option Addr} {sl8 : Array (Option Value)} {oc8 kV8 dc8 pm8 cd8 ct8 : Value}
    (a8 : PySem.W.nsIn K mainGlobals "law" = some (some (.ref f8))) (l8 : K.lookup f8 = some ⟨oc8, od8, .func (PySem.W.fnOf "law" "law" (defArgs s_law) (defBody s_law) (defScope s_law) .none kV8 dc8 pm8 an8 cd8 ct8), sl8⟩) (c8 : PySem.W.codeIn K cd8 "law" = true) (k8 : PySem.W.keepIn K (.ref f8) = true)
    (z_len : PySem.W.nsIn K mainGlobals "len" = some none)
    (z_range : PySem.W.nsIn K mainGlobals "range" = some none)
    (z_tuple : PySem.W.nsIn K mainGlobals "tuple" = some none)
    (z_list : PySem.W.nsIn K mainGlobals "list" = some none)
    (z_isinstance : PySem.W.nsIn K mainGlobals "isinstance" = some none)
    (z_int : PySem.W.nsIn K mainGlobals "int" = some none)
    (z_bool : PySem.W.nsIn K mainGlobals "bool" = some none)
    (z_str : PySem.W.nsIn K mainGlobals "str" = some none)
    (z_max : PySem.W.nsIn K mainGlobals "max" = some none)
    (z_min : PySem.W.nsIn K mainGlobals "min" = some none)
    (z_sum : PySem.W.nsIn K mainGlobals "sum" = some none)
    (z_all : PySem.W.nsIn K mainGlobals "all" = some none)
    (z_any : PySem.W.nsIn K mainGlobals "any" = some none)
    (z_zip : PySem.W.nsIn K mainGlobals "zip" = some none)
    (z_enumerate : PySem.W.nsIn K mainGlobals "enumerate" = some none)
    (z_sorted : PySem.W.nsIn K mainGlobals "sorted" = some none)
    (z_set : PySem.W.nsIn K mainGlobals "set" = some none)
    (z_dict : PySem.W.nsIn K mainGlobals "dict" = some none)
    : ∃ fd : FuncData, (∀ (s : Shared) (v : Value), BindsTo s fd ⟨[v], []⟩ [("script", v)]) ∧ ∀ base : Heap, K.In base → base.Ns mainGlobals mg → FnOk l.prog w K mg base CX0 LV fa fd ["script"] (spLaw K) := by
  have e := hfa.symm.trans (PySem.W.mg_of X G a8)
  cases e
  have bi : Bi mg := ⟨PySem.W.mg_none_of X G z_len, PySem.W.mg_none_of X G z_range, PySem.W.mg_none_of X G z_tuple, PySem.W.mg_none_of X G z_list, PySem.W.mg_none_of X G z_isinstance, PySem.W.mg_none_of X G z_int, PySem.W.mg_none_of X G z_bool, PySem.W.mg_none_of X G z_str, PySem.W.mg_none_of X G z_max, PySem.W.mg_none_of X G z_min, PySem.W.mg_none_of X G z_sum, PySem.W.mg_none_of X G z_all, PySem.W.mg_none_of X G z_any, PySem.W.mg_none_of X G z_zip, PySem.W.mg_none_of X G z_enumerate, PySem.W.mg_none_of X G z_sorted, PySem.W.mg_none_of X G z_set, PySem.W.mg_none_of X G z_dict⟩
  have F0 := fun_mk (st := s_beside) l0 c0 k0
  have b0 := F0.binds (ps := ["cell"]) fun _ _ _ _ _ _ us hl => match us, hl with | [_], _ => rfl
  have F1 := fun_mk (st := s_corner_worth) l1 c1 k1
  have b1 := F1.binds (ps := ["there"]) fun _ _ _ _ _ _ us hl => match us, hl with | [_], _ => rfl
  have F2 := fun_mk (st := s_corners) l2 c2 k2
  have b2 := F2.binds (ps := ["piece"]) fun _ _ _ _ _ _ us hl => match us, hl with | [_], _ => rfl
  have F3 := fun_mk (st := s_glass) l3 c3 k3
  have b3 := F3.binds (ps := ["piece", "measure"]) fun _ _ _ _ _ _ us hl => match us, hl with | [_, _], _ => rfl
  have F4 := fun_mk (st := s__law_draws) l4 c4 k4
  have b4 := F4.binds (ps := ["script", "k"]) fun _ _ _ _ _ _ us hl => match us, hl with | [_, _], _ => rfl
  have F5 := fun_mk (st := s__law_draw) l5 c5 k5
  have b5 := F5.binds (ps := ["draws", "many"]) fun _ _ _ _ _ _ us hl => match us, hl with | [_, _], _ => rfl
  have F6 := fun_mk (st := s__law_lot) l6 c6 k6
  have b6 := F6.binds (ps := ["draws", "most"]) fun _ _ _ _ _ _ us hl => match us, hl with | [_, _], _ => rfl
  have F7 := fun_mk (st := s__law_measure) l7 c7 k7
  have b7 := F7.binds (ps := ["draws"]) fun _ _ _ _ _ _ us hl => match us, hl with | [_], _ => rfl
  have T : Top K mg := ⟨bi, ⟨f0, _, F0, PySem.W.mg_of X G a0, b0⟩, ⟨f1, _, F1, PySem.W.mg_of X G a1, b1⟩, ⟨f2, _, F2, PySem.W.mg_of X G a2, b2⟩, ⟨f3, _, F3, PySem.W.mg_of X G a3, b3⟩, ⟨f4, _, F4, PySem.W.mg_of X G a4, b4⟩, ⟨f5, _, F5, PySem.W.mg_of X G a5, b5⟩, ⟨f6, _, F6, PySem.W.mg_of X G a6, b6⟩, ⟨f7, _, F7, PySem.W.mg_of X G a7, b7⟩⟩
  exact ⟨PySem.W.fnOf "law" "law" (defArgs s_law) (defBody s_law) (defScope s_law) .none kV8 dc8 pm8 an8 cd8 ct8, fun s v => .of_eq rfl, fun base _ _ => law_ok T (fun_mk (st := s_law) l8 c8 k8)⟩
end LawPf
open PySem PySem.W PyProof.Rows
set_option maxHeartbeats 0 in
theorem PySem.Challenge.cw_panelead_k14_whole_pieces_parted_and_joi_holds : PySem.Challenge.rw_panelead_k14_whole_pieces_parted_and_joi.Holds := by
  w_on; o_law; k_head; (case hw => w_witness2)
  k_fill
  refine L2.walk_of (l := PySem.Challenge.rw_panelead_k14_whole_pieces_parted_and_joi) (n := 63) (k := LawPf.LV) (x := "script") (CX := fun _ => L2.CX0) (sp := fun w => Px.spLaw _) rfl (by decide) rfl ⟨rfl, by decide, by decide⟩ (fun w h Y => PySem.W.kIn_of Y) ?F (fun _ _ a ns hl _ hS => ⟨a, ns, rfl, hS, hl, fun _ => rfl⟩) (fun _ _ _ _ _ h => h)
  case F =>
    intro w mg fa h KX G hmg
    refine' LawPf.all_mk KX G hmg ?a0 ?l0 ?c0 ?k0 ?a1 ?l1 ?c1 ?k1 ?a2 ?l2 ?c2 ?k2 ?a3 ?l3 ?c3 ?k3 ?a4 ?l4 ?c4 ?k4 ?a5 ?l5 ?c5 ?k5 ?a6 ?l6 ?c6 ?k6 ?a7 ?l7 ?c7 ?k7 ?a8 ?l8 ?c8 ?k8 ?z_len ?z_range ?z_tuple ?z_list ?z_isinstance ?z_int ?z_bool ?z_str ?z_max ?z_min ?z_sum ?z_all ?z_any ?z_zip ?z_enumerate ?z_sorted ?z_set ?z_dict
    (case a0 => k_is)
    (case l0 => k_is)
    (case c0 => k_is)
    (case k0 => k_is)
    (case a1 => k_is)
    (case l1 => k_is)
    (case c1 => k_is)
    (case k1 => k_is)
    (case a2 => k_is)
    (case l2 => k_is)
    (case c2 => k_is)
    (case k2 => k_is)
    (case a3 => k_is)
    (case l3 => k_is)
    (case c3 => k_is)
    (case k3 => k_is)
    (case a4 => k_is)
    (case l4 => k_is)
    (case c4 => k_is)
    (case k4 => k_is)
    (case a5 => k_is)
    (case l5 => k_is)
    (case c5 => k_is)
    (case k5 => k_is)
    (case a6 => k_is)
    (case l6 => k_is)
    (case c6 => k_is)
    (case k6 => k_is)
    (case a7 => k_is)
    (case l7 => k_is)
    (case c7 => k_is)
    (case k7 => k_is)
    (case a8 => k_is)
    (case l8 => k_is)
    (case c8 => k_is)
    (case k8 => k_is)
    (case z_len => k_is)
    (case z_range => k_is)
    (case z_tuple => k_is)
    (case z_list => k_is)
    (case z_isinstance => k_is)
    (case z_int => k_is)
    (case z_bool => k_is)
    (case z_str => k_is)
    (case z_max => k_is)
    (case z_min => k_is)
    (case z_sum => k_is)
    (case z_all => k_is)
    (case z_any => k_is)
    (case z_zip => k_is)
    (case z_enumerate => k_is)
    (case z_sorted => k_is)
    (case z_set => k_is)
    (case z_dict => k_is)
