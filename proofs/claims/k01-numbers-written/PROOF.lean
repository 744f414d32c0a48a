import PyProof.Rows.All
import Wide.All
import OpenK.AllK
import Wide.FinOn
import PySem.Challenge.RW_bitpack_k01_numbers_written
import HandS.ForMost
import HandS.ForExc
import HandS.IsInst
import HandS.Wide
import HandS.Rev
import HandS.Zip
import PyProof.ListRange
import HandS.ExcIs
set_option Elab.async false
set_option linter.all false
set_option maxRecDepth 100000
set_option maxHeartbeats 4000000
set_option autoImplicit false
namespace Pu
open PySem PySem.Spec PyProof.Rows L2

/-- plain data -/
inductive D where
  | non | bl (b : Bool) | int (i : Int) | str (x : String) | tup (ds : List D) | lst (ds : List D) | scr (ns : List Int)
instance : Inhabited D := ⟨.non⟩

inductive Res (α : Type) where
  | ok (a : α) | exc (c : String) | stk
def Res.bind {α β : Type} (r : Res α) (k : α → Res β) : Res β := match r with
  | .ok a => k a
  | .exc c => .exc c
  | .stk => .stk
@[simp] theorem Res.bind_ok {α β : Type} (a : α) (k : α → Res β) : (Res.ok a).bind k = k a := rfl
@[simp] theorem Res.bind_exc {α β : Type} (c : String) (k : α → Res β) : (Res.exc c : Res α).bind k = .exc c := rfl
@[simp] theorem Res.bind_stk {α β : Type} (k : α → Res β) : (Res.stk : Res α).bind k = .stk := rfl

abbrev Fr := PySem.W.Frag
mutual
/-- v is d: every object that d leans on stands in F -/
def Rep (K : Fr) (F : Hp) : D → V → Prop
  | .non, v => v = .non
  | .bl b, v => v = .bl b
  | .int i, v => v = .int i
  | .str x, v => v = .str (Str.ofString x)
  | .tup ds, v => ∃ a xs, v = .ref a ∧ F a = some (.tup xs) ∧ Reps K F ds xs
  | .lst ds, v => ∃ a xs, v = .ref a ∧ F a = some (.lst xs) ∧ Reps K F ds xs
  | .scr ns, v => ∃ a, v = .ref a ∧ SqL K F a (ns.map V.int)
def Reps (K : Fr) (F : Hp) : List D → List V → Prop
  | [], xs => xs = []
  | d :: ds, xs => ∃ x r, xs = x :: r ∧ Rep K F d x ∧ Reps K F ds r
end
mutual
theorem Rep.mono {K : Fr} {F F' : Hp} (s : Same F F') : ∀ {d : D} {v : V}, Rep K F d v → Rep K F' d v
  | .non, _, h => h
  | .bl _, _, h => h
  | .int _, _, h => h
  | .str _, _, h => h
  | .tup ds, v, h => by
    unfold Rep at h ⊢
    obtain ⟨a, xs, e, q, r⟩ := h
    exact ⟨a, xs, e, s _ _ q, Reps.mono s r⟩
  | .lst ds, v, h => by
    unfold Rep at h ⊢
    obtain ⟨a, xs, e, q, r⟩ := h
    exact ⟨a, xs, e, s _ _ q, Reps.mono s r⟩
  | .scr ns, v, h => by
    unfold Rep at h ⊢
    obtain ⟨a, e, q⟩ := h
    exact ⟨a, e, s.seq q⟩
theorem Reps.mono {K : Fr} {F F' : Hp} (s : Same F F') : ∀ {ds : List D} {xs : List V}, Reps K F ds xs → Reps K F' ds xs
  | [], _, h => h
  | d :: ds, xs, h => by
    unfold Reps at h ⊢
    obtain ⟨x, r, e, h1, h2⟩ := h
    exact ⟨x, r, e, Rep.mono s h1, Reps.mono s h2⟩
end
section
variable {K : Fr} {F : Hp}
theorem Reps.length : ∀ {ds : List D} {xs : List V}, Reps K F ds xs → ds.length = xs.length
  | [], _, h => by unfold Reps at h; subst h; rfl
  | d :: ds, xs, h => by
    unfold Reps at h
    obtain ⟨x, r, rfl, _, h2⟩ := h
    simp only [List.length_cons, Reps.length h2]
theorem Reps.nil : Reps K F [] [] := by unfold Reps; rfl
theorem Reps.cons {d : D} {x : V} {ds : List D} {xs : List V} (h : Rep K F d x) (t : Reps K F ds xs) : Reps K F (d :: ds) (x :: xs) := by unfold Reps; exact ⟨x, xs, rfl, h, t⟩
theorem Reps.app : ∀ {ds es : List D} {xs ys : List V}, Reps K F ds xs → Reps K F es ys → Reps K F (ds ++ es) (xs ++ ys)
  | [], _, _, _, h, t => by unfold Reps at h; subst h; exact t
  | d :: ds, _, _, _, h, t => by
    unfold Reps at h
    obtain ⟨x, r, rfl, h1, h2⟩ := h
    exact Reps.cons h1 (Reps.app h2 t)
theorem Reps.get : ∀ {ds : List D} {xs : List V} {i : Nat} {d : D}, Reps K F ds xs → ds[i]? = some d → ∃ x, xs[i]? = some x ∧ Rep K F d x
  | [], _, _, _, _, e => by simp at e
  | d :: ds, xs, 0, d', h, e => by
    unfold Reps at h
    obtain ⟨x, r, rfl, h1, h2⟩ := h
    simp only [List.getElem?_cons_zero, Option.some.injEq] at e
    subst e
    exact ⟨x, rfl, h1⟩
  | d :: ds, xs, i + 1, d', h, e => by
    unfold Reps at h
    obtain ⟨x, r, rfl, h1, h2⟩ := h
    exact Reps.get (i := i) h2 (by simpa using e)
theorem Reps.take (n : Nat) : ∀ {ds : List D} {xs : List V}, Reps K F ds xs → Reps K F (ds.take n) (xs.take n) := by
  induction n with
  | zero => intro ds xs _; simpa using Reps.nil
  | succ n ih =>
    intro ds xs h
    cases ds with
    | nil => unfold Reps at h; subst h; simpa using Reps.nil
    | cons d ds =>
      unfold Reps at h
      obtain ⟨x, r, rfl, h1, h2⟩ := h
      exact Reps.cons h1 (ih h2)
theorem Reps.drop (n : Nat) : ∀ {ds : List D} {xs : List V}, Reps K F ds xs → Reps K F (ds.drop n) (xs.drop n) := by
  induction n with
  | zero => intro ds xs h; exact h
  | succ n ih =>
    intro ds xs h
    cases ds with
    | nil => unfold Reps at h; subst h; simpa using Reps.nil
    | cons d ds =>
      unfold Reps at h
      obtain ⟨x, r, rfl, h1, h2⟩ := h
      exact ih h2
theorem Reps.rev : ∀ {ds : List D} {xs : List V}, Reps K F ds xs → Reps K F ds.reverse xs.reverse
  | [], _, h => by unfold Reps at h; subst h; exact Reps.nil
  | d :: ds, xs, h => by
    unfold Reps at h
    obtain ⟨x, r, rfl, h1, h2⟩ := h
    rw [List.reverse_cons, List.reverse_cons]
    exact Reps.app (Reps.rev h2) (Reps.cons h1 Reps.nil)
theorem Reps.set : ∀ {ds : List D} {xs : List V} (i : Nat) {d : D} {x : V}, Reps K F ds xs → Rep K F d x → Reps K F (ds.set i d) (xs.set i x)
  | [], _, _, _, _, h, _ => by unfold Reps at h; subst h; exact Reps.nil
  | e :: ds, xs, 0, d, x, h, t => by
    unfold Reps at h
    obtain ⟨y, r, rfl, h1, h2⟩ := h
    exact Reps.cons t h2
  | e :: ds, xs, i + 1, d, x, h, t => by
    unfold Reps at h
    obtain ⟨y, r, rfl, h1, h2⟩ := h
    exact Reps.cons h1 (Reps.set i h2 t)
theorem Reps.cycle : ∀ (n : Nat) {ds : List D} {xs : List V}, Reps K F ds xs → Reps K F (List.replicate n ds).flatten (List.replicate n xs).flatten
  | 0, _, _, _ => by simpa using Reps.nil
  | n + 1, ds, xs, h => by
    rw [List.replicate_succ, List.replicate_succ, List.flatten_cons, List.flatten_cons]
    exact Reps.app h (Reps.cycle n h)
theorem Reps.ints : ∀ {ns : List Int} {xs : List V}, Reps K F (ns.map D.int) xs → xs = ns.map V.int
  | [], xs, h => by simp only [List.map_nil] at h; unfold Reps at h; exact h
  | n :: ns, xs, h => by
    simp only [List.map_cons] at h
    unfold Reps at h
    obtain ⟨x, r, rfl, h1, h2⟩ := h
    unfold Rep at h1
    rw [h1, Reps.ints h2]
    rfl
end

/-- from (F, H) on: nothing tracked is changed; what was not frozen ahead is not frozen now -/
structure Ext (F H F' H' : Hp) : Prop where
  f : Same F F'
  h : Same H H'
  s : Same F' H'
  n : ∀ b, H b ≠ none → F b = none → F' b = none
theorem Ext.refl {F H : Hp} (s : Same F H) : Ext F H F H := ⟨Same.refl F, Same.refl H, s, fun _ _ h => h⟩
theorem Ext.trans {F H F1 H1 F2 H2 : Hp} (a : Ext F H F1 H1) (b : Ext F1 H1 F2 H2) : Ext F H F2 H2 :=
  ⟨a.f.trans b.f, a.h.trans b.h, b.s, fun c h1 h2 => b.n c (fun z => h1 (a.h.free z)) (a.n c h1 h2)⟩
/-- the heap alone grew -/
theorem Ext.grow {F H H' : Hp} (s : Same F H) (t : Same H H') : Ext F H F H' := ⟨Same.refl F, t, s.trans t, fun _ _ h => h⟩
theorem same_upd {H : Hp} {p : Addr} {o : HO} (h : H p = none) : Same H (upd H p o) := fun b x e => by
  rw [upd_ne (ne_of_none e h)]
  exact e
theorem same_upd2 {F H : Hp} {p : Addr} {o : HO} (s : Same F H) : Same (upd F p o) (upd H p o) := fun b x e => by
  by_cases hb : b = p
  · subst hb
    rw [upd_same] at e ⊢
    exact e
  · rw [upd_ne hb] at e ⊢
    exact s _ _ e
/-- a new object, frozen at once -/
theorem Ext.new {F H : Hp} {p : Addr} {o : HO} (s : Same F H) (h : H p = none) : Ext F H (upd F p o) (upd H p o) :=
  ⟨same_upd (s.free h), same_upd h, same_upd2 s, fun b h1 h2 => by
    have hb : b ≠ p := fun e => h1 (by rw [e]; exact h)
    rw [upd_ne hb]
    exact h2⟩

/-- a slot: nothing known; a thing; an own list, that no one else holds -/
inductive Slt where
  | un | v (d : D) | o (ds : List D)
abbrev Rho := List Slt

structure SOk (K : Fr) (H0 F H : Hp) (ρ : Rho) (σ : L2.St) : Prop where
  len : ρ.length = σ.length
  get : ∀ (i : Nat) (d : D), ρ[i]? = some (.v d) → ∃ x, σ[i]? = some (some x) ∧ Rep K F d x
  own : ∀ (i : Nat) (ds : List D), ρ[i]? = some (.o ds) → ∃ p xs, σ[i]? = some (some (.ref p)) ∧ F p = none ∧ H0 p = none ∧ H p = some (.lst xs) ∧ Reps K F ds xs
  dis : ∀ (i j : Nat) (p : Addr) (ds es : List D), i ≠ j → ρ[i]? = some (.o ds) → ρ[j]? = some (.o es) → σ[i]? = some (some (.ref p)) → σ[j]? = some (some (.ref p)) → False
theorem SOk.ext {K : Fr} {H0 F H F' H' : Hp} {ρ : Rho} {σ : L2.St} (k : SOk K H0 F H ρ σ) (e : Ext F H F' H') : SOk K H0 F' H' ρ σ :=
  ⟨k.len, fun i d h => let ⟨x, a, b⟩ := k.get i d h; ⟨x, a, b.mono e.f⟩, fun i ds h => by
    obtain ⟨p, xs, a, b, c, d, r⟩ := k.own i ds h
    exact ⟨p, xs, a, e.n p (by rw [d]; simp) b, c, e.h _ _ d, r.mono e.f⟩, k.dis⟩

section
variable (X : Cx) (W : WX)
/-- what must hold so that all ways of r are served -/
def Post {α : Type} (r : Res α) (F H : Hp) (σ : L2.St) (Q : α → Hp → Hp → Prop) : Prop := match r with
  | .ok d => ∀ F' H', Ext F H F' H' → Q d F' H'
  | .exc c => ∀ A H', X.mg (Str.ofString c) = some (.ref A) → Same H H' → W (.ref A) none σ H'
  | .stk => False
end
section
variable {X : Cx} {W : WX} {α β : Type} {F H F1 H1 : Hp} {σ : L2.St}
theorem Post.ext {r : Res α} {Q : α → Hp → Hp → Prop} (h : Post X W r F H σ Q) (e : Ext F H F1 H1) : Post X W r F1 H1 σ Q := by
  cases r with
  | ok d => exact fun F' H' e' => h F' H' (e.trans e')
  | exc c => exact fun A H' m s => h A H' m (e.h.trans s)
  | stk => exact h
theorem Post.mono {r : Res α} {Q Q' : α → Hp → Hp → Prop} (h : Post X W r F H σ Q) (m : ∀ d F' H', r = .ok d → Ext F H F' H' → Q d F' H' → Q' d F' H') : Post X W r F H σ Q' := by
  cases r with
  | ok d => exact fun F' H' e' => m d F' H' rfl e' (h F' H' e')
  | exc c => exact h
  | stk => exact h
theorem Post.bind {r : Res α} {k : α → Res β} {Q : β → Hp → Hp → Prop} (h : Post X W (r.bind k) F H σ Q) : Post X W r F H σ fun a F1 H1 => Post X W (k a) F1 H1 σ Q := by
  cases r with
  | ok d => exact fun F' H' e' => Post.ext (r := k d) h e'
  | exc c => exact h
  | stk => exact h
end
section
variable (X : Cx) (W : WX)
/-- the reading of an expression that is worth f -/
def tP (f : Rho → Res D) : TE := fun σ H Q => ∃ H0 ρ F, Same F H ∧ SOk X.K H0 F H ρ σ ∧ Post X W (f ρ) F H σ fun d F' H' => ∀ x, Rep X.K F' d x → Q x H'
def tPT (f : Rho → Res Bool) : TT := fun σ H Q => ∃ H0 ρ F, Same F H ∧ SOk X.K H0 F H ρ σ ∧ Post X W (f ρ) F H σ fun b _ H' => Q b H'
def tPA (f : Rho → Res (List D)) : TA := fun σ H Q => ∃ H0 ρ F, Same F H ∧ SOk X.K H0 F H ρ σ ∧ Post X W (f ρ) F H σ fun ds F' H' => ∀ xs, Reps X.K F' ds xs → Q xs H'
/-- a fresh list, held by no one yet -/
def tPO (f : Rho → Res (List D)) : TE := fun σ H Q => ∃ H0 ρ F, Same F H ∧ SOk X.K H0 F H ρ σ ∧ Post X W (f ρ) F H σ fun ds F' H' => ∀ p xs, F' p = none → H p = none → H' p = some (.lst xs) → Reps X.K F' ds xs → Q (.ref p) H'
structure PPE (e : Expr) (f : Rho → Res D) : Prop where
  pe : PE X e (tP X W f)
structure PPT (e : Expr) (f : Rho → Res Bool) : Prop where
  pt : PT X e (tPT X W f)
structure PPW (e : Expr) (f : Rho → Res Bool) : Prop where
  pw : PW X e (tPT X W f)
structure PPA (es : List Expr) (f : Rho → Res (List D)) : Prop where
  pa : PA X es (tPA X W f)
structure PPO (e : Expr) (f : Rho → Res (List D)) : Prop where
  pe : PE X e (tPO X W f)
end
theorem _root_.L2.PE.imp {X : Cx} {e : Expr} {t t' : TE} (h : PE X e t) (m : ∀ σ H Q, t' σ H Q → t σ H Q) : PE X e t' := ⟨fun pins s σ H Q I q => h.run pins s σ H Q I (m _ _ _ q)⟩
theorem _root_.L2.PT.imp {X : Cx} {e : Expr} {t t' : TT} (h : PT X e t) (m : ∀ σ H Q, t' σ H Q → t σ H Q) : PT X e t' := ⟨fun pins s σ H Q I q => h.run pins s σ H Q I (m _ _ _ q)⟩
theorem _root_.L2.PW.imp {X : Cx} {e : Expr} {t t' : TT} (h : PW X e t) (m : ∀ σ H Q, t' σ H Q → t σ H Q) : PW X e t' := ⟨fun whole pins s σ H Q I q => h.run whole pins s σ H Q I (m _ _ _ q)⟩
theorem _root_.L2.PA.imp {X : Cx} {es : List Expr} {t t' : TA} (h : PA X es t) (m : ∀ σ H Q, t' σ H Q → t σ H Q) : PA X es t' := ⟨fun pos pins s σ H Q I q => h.run pos pins s σ H Q I (m _ _ _ q)⟩
theorem _root_.L2.PS.imp {X : Cx} {e : Stmt} {t t' : TS} (h : PS X e t) (m : ∀ D σ H, t' D σ H → t D σ H) : PS X e t' := ⟨fun pins s σ H D I q => h.run pins s σ H D I (m _ _ _ q)⟩
theorem _root_.L2.PSs.imp {X : Cx} {e : List Stmt} {t t' : TS} (h : PSs X e t) (m : ∀ D σ H, t' D σ H → t D σ H) : PSs X e t' := ⟨fun pins s σ H D I q => h.run pins s σ H D I (m _ _ _ q)⟩

section
variable {X : Cx} {W : WX} {H0 F H : Hp} {ρ : Rho} {σ : L2.St}
/-- into a reading: what is known behind it -/
theorem tP_in {fa : Rho → Res D} {Q : VK} (s : Same F H) (k : SOk X.K H0 F H ρ σ)
    (h : Post X W (fa ρ) F H σ fun d F1 H1 => Ext F H F1 H1 → ∀ x, Rep X.K F1 d x → Q x H1) : tP X W fa σ H Q :=
  ⟨H0, ρ, F, s, k, h.mono fun d F' H' _ e q => q e⟩
theorem tPT_in {fa : Rho → Res Bool} {Q : Bool → Hp → Prop} (s : Same F H) (k : SOk X.K H0 F H ρ σ)
    (h : Post X W (fa ρ) F H σ fun b F1 H1 => Ext F H F1 H1 → Q b H1) : tPT X W fa σ H Q :=
  ⟨H0, ρ, F, s, k, h.mono fun d F' H' _ e q => q e⟩
theorem tPA_in {fa : Rho → Res (List D)} {Q : List V → Hp → Prop} (s : Same F H) (k : SOk X.K H0 F H ρ σ)
    (h : Post X W (fa ρ) F H σ fun ds F1 H1 => Ext F H F1 H1 → ∀ xs, Reps X.K F1 ds xs → Q xs H1) : tPA X W fa σ H Q :=
  ⟨H0, ρ, F, s, k, h.mono fun d F' H' _ e q => q e⟩
end
end Pu

namespace Pu
open PySem PySem.Spec PyProof.Rows L2

theorem str_inj {a b : String} (h : Str.ofString a = Str.ofString b) : a = b := by
  rw [Str.ofString_eq_toList, Str.ofString_eq_toList] at h
  injection h with h
  have h2 : a.toList.map Char.toNat = b.toList.map Char.toNat := by simpa using congrArg Array.toList h
  have inj : ∀ c d : Char, c.toNat = d.toNat → c = d := fun c d e => by
    apply Char.ext
    apply UInt32.toNat_inj.mp
    exact e
  have go : ∀ l m : List Char, l.map Char.toNat = m.map Char.toNat → l = m := by
    intro l
    induction l with
    | nil => intro m e; cases m with
      | nil => rfl
      | cons _ _ => simp at e
    | cons x l ih => intro m e; cases m with
      | nil => simp at e
      | cons y m =>
        simp only [List.map_cons, List.cons.injEq] at e
        rw [inj x y e.1, ih m e.2]
  have h3 := go _ _ h2
  exact String.toList_inj.mp h3

def dBl (b : Bool) : Res D := .ok (.bl b)
def fits (n : Nat) : Bool := Nat.ble n 16777216
def mulOk (a b : Int) : Bool := Nat.ble a.natAbs 18446744073709551615 || Nat.ble b.natAbs 18446744073709551615 || Nat.ble (a.natAbs.log2 + b.natAbs.log2) 999999
def divOk (b : Int) : Bool := decide (0 < b) && Nat.ble b.natAbs.log2 8999
def powOk (a b : Int) : Bool := decide (0 ≤ b) && Nat.ble b.natAbs 1000000 && Nat.ble a.natAbs 18446744073709551615
def repOk (n : Nat) (k : Int) : Bool := Nat.ble k.natAbs 4611686018427387903 && Nat.ble (n * k.toNat) 16777216
theorem fits_iff {n : Nat} : fits n = true ↔ n ≤ sizeLine := by
  unfold fits
  rw [Nat.ble_eq, sizeLine_eq]
theorem mulOk_is {a b : Int} (h : mulOk a b = true) : (-(2 ^ 64) < a ∧ a < 2 ^ 64) ∨ (-(2 ^ 64) < b ∧ b < 2 ^ 64) ∨ a.natAbs.log2 + b.natAbs.log2 < 1000000 := by
  unfold mulOk at h
  rw [Bool.or_eq_true, Bool.or_eq_true, Nat.ble_eq, Nat.ble_eq, Nat.ble_eq] at h
  rcases h with (h | h) | h
  · exact .inl ⟨by omega, by omega⟩
  · exact .inr (.inl ⟨by omega, by omega⟩)
  · exact .inr (.inr (by omega))
theorem divOk_is {b : Int} (h : divOk b = true) : 0 < b ∧ b.natAbs.log2 < 9000 := by
  unfold divOk at h
  rw [Bool.and_eq_true, Nat.ble_eq, decide_eq_true_eq] at h
  exact ⟨h.1, by omega⟩
theorem powOk_is {a b : Int} (h : powOk a b = true) : 0 ≤ b ∧ b ≤ 1000000 ∧ a.natAbs < 2 ^ 64 := by
  unfold powOk at h
  rw [Bool.and_eq_true, Bool.and_eq_true, Nat.ble_eq, Nat.ble_eq, decide_eq_true_eq] at h
  exact ⟨h.1.1, by omega, by omega⟩
theorem repOk_is {n : Nat} {k : Int} (h : repOk n k = true) : -(2 ^ 63) ≤ k ∧ k < 2 ^ 63 ∧ n * k.toNat ≤ sizeLine := by
  unfold repOk at h
  rw [Bool.and_eq_true, Nat.ble_eq, Nat.ble_eq] at h
  rw [sizeLine_eq]
  exact ⟨by omega, by omega, h.2⟩
def dAdd : D → D → Res D
  | .int a, .int b => .ok (.int (a + b))
  | .lst a, .lst b => if fits (a.length + b.length) then .ok (.lst (a ++ b)) else .stk
  | _, _ => .stk
def dSub : D → D → Res D
  | .int a, .int b => .ok (.int (a - b))
  | _, _ => .stk
def dMul : D → D → Res D
  | .int a, .int b => if mulOk a b then .ok (.int (a * b)) else .stk
  | .lst a, .int k => if repOk a.length k then .ok (.lst (List.replicate k.toNat a).flatten) else .stk
  | _, _ => .stk
def dDiv : D → D → Res D
  | .int a, .int b => if divOk b then .ok (.int (a / b)) else .stk
  | _, _ => .stk
def dMod : D → D → Res D
  | .int a, .int b => if 0 < b then .ok (.int (a % b)) else .stk
  | _, _ => .stk
def dPow : D → D → Res D
  | .int a, .int b => if powOk a b then .ok (.int (a ^ b.toNat)) else .stk
  | _, _ => .stk
def dNeg : D → Res D
  | .int a => .ok (.int (-a))
  | _ => .stk
def dCmp (p : Int → Int → Bool) : D → D → Res D
  | .int a, .int b => .ok (.bl (p a b))
  | _, _ => .stk
def dLt : D → D → Res D := dCmp fun i j => decide (i < j)
def dLe : D → D → Res D := dCmp fun i j => decide (i ≤ j)
def dGt : D → D → Res D := dCmp fun i j => decide (j < i)
def dGe : D → D → Res D := dCmp fun i j => decide (j ≤ i)
/-- == of two scalars -/
def dEq? : D → D → Option Bool
  | .int a, .int b => some (decide (a = b))
  | .str a, .str b => some (decide (a = b))
  | .bl a, .bl b => some (decide (a = b))
  | .non, .non => some true
  | .non, .int _ => some false | .int _, .non => some false | .non, .bl _ => some false | .bl _, .non => some false
  | .non, .str _ => some false | .str _, .non => some false | .int _, .str _ => some false | .str _, .int _ => some false
  | .bl _, .str _ => some false | .str _, .bl _ => some false
  | _, _ => none
mutual
def toPy : D → PyData
  | .non => .none
  | .bl b => .bool b
  | .int i => .int i
  | .str x => .str (Str.ofString x)
  | .tup ds => .tuple (toPys ds)
  | .lst ds => .list (toPys ds)
  | .scr ns => .list (ns.map .int)
def toPys : List D → List PyData
  | [] => []
  | d :: ds => toPy d :: toPys ds
end
def deepOk (a : D) : Bool := SeqAt.shaped (toPy a)
def dEq (a b : D) : Res D := match dEq? a b with
  | some k => .ok (.bl k)
  | none => if deepOk a && deepOk b then .ok (.bl (PyData.eqv (toPy a) (toPy b))) else .stk
def dNe (a b : D) : Res D := match dEq? a b with
  | some k => .ok (.bl (!k))
  | none => if deepOk a && deepOk b then .ok (.bl (!PyData.eqv (toPy a) (toPy b))) else .stk
def dIsN : D → Res D
  | .non => .ok (.bl true)
  | _ => .ok (.bl false)
def dNotN : D → Res D
  | .non => .ok (.bl false)
  | _ => .ok (.bl true)
def flat : D → Bool
  | .non => true | .bl _ => true | .int _ => true | .str _ => true
  | _ => false
/-- == of flat data -/
def eqF : D → D → Bool
  | .non, .non => true
  | .bl a, .bl b => a == b
  | .bl a, .int b => (if a then 1 else 0) == b
  | .int a, .bl b => a == (if b then 1 else 0)
  | .int a, .int b => a == b
  | .str a, .str b => a == b
  | _, _ => false
def dIn (x y : D) : Res D := match y with
  | .tup ds => if flat x && ds.all flat then .ok (.bl (ds.any fun d => eqF d x)) else .stk
  | .lst ds => if flat x && ds.all flat then .ok (.bl (ds.any fun d => eqF d x)) else .stk
  | _ => .stk
def dNotIn (x y : D) : Res D := match y with
  | .tup ds => if flat x && ds.all flat then .ok (.bl (!ds.any fun d => eqF d x)) else .stk
  | .lst ds => if flat x && ds.all flat then .ok (.bl (!ds.any fun d => eqF d x)) else .stk
  | _ => .stk
def dAt (ds : List D) (i : Int) : Res D := match atI ds i with
  | some d => .ok d
  | none => .stk
def dIx (x y : D) : Res D := match x, y with
  | .lst ds, .int i => dAt ds i
  | .tup ds, .int i => dAt ds i
  | .scr ns, .int i => match atI ns i with
    | some n => .ok (.int n)
    | none => .stk
  | _, _ => .stk
def dLen : D → Res D
  | .lst ds => .ok (.int ds.length)
  | .tup ds => .ok (.int ds.length)
  | .scr ns => .ok (.int ns.length)
  | _ => .stk
def cutD (xs : List D) (lo hi : Option Int) : List D := (xs.drop (HT.sIx xs.length 0 lo)).take (HT.sIx xs.length xs.length hi - HT.sIx xs.length 0 lo)

section
variable (X : Cx) (W : WX)
def Op2 (f : Value → Value → Sem Value) (g : D → D → Res D) : Prop := ∃ r : R2, OpR X f r ∧ ∀ (F H : Hp) (σ : L2.St) (dx dy : D) (x y : V) (Q : VK), Same F H → Rep X.K F dx x → Rep X.K F dy y →
  Post X W (g dx dy) F H σ (fun d F' H' => ∀ z, Rep X.K F' d z → Q z H') → r x y H Q
end
section
variable {X : Cx} {W : WX}
theorem Post.guard {α : Type} {c : Prop} [Decidable c] {r : Res α} {F H : Hp} {σ : L2.St} {Q : α → Hp → Hp → Prop} (h : Post X W (if c then r else .stk) F H σ Q) : c ∧ Post X W r F H σ Q := by
  by_cases hc : c
  · rw [if_pos hc] at h; exact ⟨hc, h⟩
  · rw [if_neg hc] at h; exact h.elim
theorem Post.at {α : Type} {a : α} {F H : Hp} {σ : L2.St} {Q : α → Hp → Hp → Prop} (s : Same F H) (h : Post X W (.ok a) F H σ Q) : Q a F H := h F H (Ext.refl s)
theorem op2_int {f : Value → Value → Sem Value} {g : Int → Int → Int} {gd : D → D → Res D} {C : Int → Int → Prop} (o : OpR X f (rI C fun i j => .int (g i j)))
    (h : ∀ dx dy, gd dx dy = .stk ∨ ∃ i j, dx = .int i ∧ dy = .int j ∧ C i j ∧ gd dx dy = .ok (.int (g i j))) : Op2 X W f gd := ⟨_, o, fun F H σ dx dy x y Q s rx ry q => by
  rcases h dx dy with e | ⟨i, j, rfl, rfl, c, e⟩
  · rw [e] at q; exact q.elim
  · rw [e] at q
    unfold Rep at rx ry
    exact ⟨i, j, rx, ry, c, Post.at s q _ (by unfold Rep; rfl)⟩⟩
theorem o2_add : Op2 X W (binaryOp .Add) dAdd := ⟨_, (op_add (X := X)).or op_cat, fun F H σ dx dy x y Q s rx ry q => by
  cases dx <;> cases dy <;> first | exact (show False from q).elim | skip
  · unfold Rep at rx ry
    exact .inl ⟨_, _, rx, ry, Post.at s q _ (by unfold Rep; rfl)⟩
  · rename_i a b
    obtain ⟨hf, q⟩ := Post.guard (c := fits (a.length + b.length) = true) q
    unfold Rep at rx ry
    obtain ⟨p, xs, rfl, hp, r1⟩ := rx
    obtain ⟨p2, ys, rfl, hp2, r2⟩ := ry
    refine .inr ⟨p, p2, xs, ys, rfl, rfl, s _ _ hp, s _ _ hp2, ?_, fun l hl => ?_⟩
    · rw [← r1.length, ← r2.length]; exact fits_iff.mp hf
    · refine q _ _ (Ext.new s hl) _ ?_
      unfold Rep
      exact ⟨l, xs ++ ys, rfl, upd_same, (r1.app r2).mono (same_upd (s.free hl))⟩⟩
theorem o2_sub : Op2 X W (binaryOp .Sub) dSub := op2_int (C := fun _ _ => True) (fun pins s σ H x y v u Q I rx ry ⟨i, j, a, b, _, q⟩ => op_sub pins s σ H x y v u Q I rx ry ⟨i, j, a, b, q⟩) fun dx dy => by
  cases dx <;> cases dy <;> first | exact .inl rfl | exact .inr ⟨_, _, rfl, rfl, trivial, rfl⟩
def CMulD (i j : Int) : Prop := mulOk i j = true
theorem op_mulD : OpR X (binaryOp .Mult) (rI CMulD fun i j => .int (i * j)) := fun pins s σ H x y v u Q I rx ry ⟨i, j, a, b, c, q⟩ => by
  rcases mulOk_is c with c | c | c
  · exact op_mul pins s σ H x y v u Q I rx ry ⟨i, j, a, b, .inl c, q⟩
  · exact op_mul pins s σ H x y v u Q I rx ry ⟨i, j, a, b, .inr c, q⟩
  · exact op_mulW pins s σ H x y v u Q I rx ry ⟨i, j, a, b, c, q⟩
theorem o2_mul : Op2 X W (binaryOp .Mult) dMul := ⟨_, (op_mulD (X := X)).or op_rep, fun F H σ dx dy x y Q s rx ry q => by
  cases dx <;> cases dy <;> first | exact (show False from q).elim | skip
  · rename_i a b
    obtain ⟨hf, q⟩ := Post.guard (c := mulOk a b = true) q
    unfold Rep at rx ry
    exact .inl ⟨_, _, rx, ry, hf, Post.at s q _ (by unfold Rep; rfl)⟩
  · rename_i a k
    obtain ⟨hf, q⟩ := Post.guard (c := repOk a.length k = true) q
    unfold Rep at rx ry
    obtain ⟨p, xs, rfl, hp, r1⟩ := rx
    have hc := repOk_is hf
    rw [r1.length] at hc
    refine .inr ⟨p, k, xs, rfl, ry, s _ _ hp, hc.1, hc.2.1, hc.2.2, fun l hl => ?_⟩
    refine q _ _ (Ext.new s hl) _ ?_
    unfold Rep
    exact ⟨l, _, rfl, upd_same, (r1.cycle k.toNat).mono (same_upd (s.free hl))⟩⟩
theorem o2_div : Op2 X W (binaryOp .FloorDiv) dDiv := op2_int (op_fdivW (X := X)) fun dx dy => by
  cases dx <;> cases dy <;> first | exact .inl rfl | skip
  rename_i a b
  by_cases h : divOk b = true
  · exact .inr ⟨_, _, rfl, rfl, by first | exact divOk_is h | exact powOk_is h, if_pos h⟩
  · exact .inl (if_neg h)
theorem o2_mod : Op2 X W (binaryOp .Mod) dMod := op2_int (op_mod (X := X)) fun dx dy => by
  cases dx <;> cases dy <;> first | exact .inl rfl | skip
  rename_i a b
  by_cases h : 0 < b
  · exact .inr ⟨_, _, rfl, rfl, h, if_pos h⟩
  · exact .inl (if_neg h)
theorem o2_pow : Op2 X W (binaryOp .Pow) dPow := op2_int (op_pow (X := X)) fun dx dy => by
  cases dx <;> cases dy <;> first | exact .inl rfl | skip
  rename_i a b
  by_cases h : powOk a b = true
  · exact .inr ⟨_, _, rfl, rfl, by first | exact divOk_is h | exact powOk_is h, if_pos h⟩
  · exact .inl (if_neg h)
theorem op2_cmp {f : Value → Value → Sem Value} {p : Int → Int → Bool} (o : OpR X f (rI0 fun i j => .bl (p i j))) : Op2 X W f (dCmp p) := ⟨_, o, fun F H σ dx dy x y Q s rx ry q => by
  cases dx <;> cases dy <;> first | exact (show False from q).elim | skip
  unfold Rep at rx ry
  exact ⟨_, _, rx, ry, Post.at s q _ (by unfold Rep; rfl)⟩⟩
theorem o2_lt : Op2 X W (compareOp .Lt) dLt := op2_cmp op_lt
theorem o2_le : Op2 X W (compareOp .LtE) dLe := op2_cmp op_le
theorem o2_gt : Op2 X W (compareOp .Gt) dGt := op2_cmp op_gt
theorem o2_ge : Op2 X W (compareOp .GtE) dGe := op2_cmp op_ge
theorem dec_strS (a b : String) : decide (V.str (Str.ofString a) = V.str (Str.ofString b)) = decide (a = b) := by
  by_cases e : a = b
  · subst e; simp
  · rw [decide_eq_false e, decide_eq_false (fun q => e (str_inj (V.str.inj q)))]
theorem eq_scal {K : Fr} {F : Hp} {dx dy : D} {x y : V} {k : Bool} (h : dEq? dx dy = some k) (rx : Rep K F dx x) (ry : Rep K F dy y) : scal x y = true ∧ decide (x = y) = k := by
  cases dx <;> cases dy <;> first | (cases (show (none : Option Bool) = some k from h)) | skip
  all_goals (unfold Rep at rx ry; subst rx; subst ry; have h := Option.some.inj h; subst h; refine ⟨rfl, ?_⟩)
  all_goals first | exact dec_strS _ _ | exact dec_int.trans (Bool.beq_eq_decide_eq _ _) | exact dec_bl.trans (Bool.beq_eq_decide_eq _ _) | exact decide_eq_true rfl | exact decide_eq_false (fun z => nomatch z)
theorem dp_ints {K : Fr} {H : Hp} : ∀ (ns : List Int), DpAll K H (ns.map V.int) (ns.map PyData.int)
  | [] => .nil
  | n :: ns => .cons (.int n) (dp_ints ns)
mutual
theorem rep_dp {K : Fr} {F H : Hp} (s : Same F H) : ∀ {d : D} {x : V}, Rep K F d x → Dp K H x (toPy d)
  | .non, _, h => by unfold Rep at h; subst h; exact .non
  | .bl b, _, h => by unfold Rep at h; subst h; exact .bl b
  | .int i, _, h => by unfold Rep at h; subst h; exact .int i
  | .str x, _, h => by unfold Rep at h; subst h; exact .str _
  | .tup ds, _, h => by
    unfold Rep at h
    obtain ⟨a, xs, rfl, ha, r⟩ := h
    unfold toPy
    exact .tup (.of (s _ _ ha)) (reps_dp s r)
  | .lst ds, _, h => by
    unfold Rep at h
    obtain ⟨a, xs, rfl, ha, r⟩ := h
    unfold toPy
    exact .lst (.of (s _ _ ha)) (reps_dp s r)
  | .scr ns, _, h => by
    unfold Rep at h
    obtain ⟨a, rfl, ha⟩ := h
    unfold toPy
    exact .lst (s.seq ha) (dp_ints ns)
theorem reps_dp {K : Fr} {F H : Hp} (s : Same F H) : ∀ {ds : List D} {xs : List V}, Reps K F ds xs → DpAll K H xs (toPys ds)
  | [], _, h => by unfold Reps at h; subst h; unfold toPys; exact .nil
  | d :: ds, _, h => by
    unfold Reps at h
    obtain ⟨x, r, rfl, h1, h2⟩ := h
    unfold toPys
    exact .cons (rep_dp s h1) (reps_dp s h2)
end
theorem o2_eq (hu : X.A.units + 64 < cLine) : Op2 X W (compareOp .Eq) dEq := ⟨_, (op_eq (X := X)).or (op_eqD hu), fun F H σ dx dy x y Q s rx ry q => by
  unfold dEq at q
  cases e : dEq? dx dy with
  | none =>
    rw [e] at q
    obtain ⟨hc, q⟩ := Post.guard (c := (deepOk dx && deepOk dy) = true) q
    rw [Bool.and_eq_true] at hc
    exact .inr ⟨_, _, rep_dp s rx, rep_dp s ry, hc.1, hc.2, Post.at s q _ (by unfold Rep; rfl)⟩
  | some k =>
    rw [e] at q
    obtain ⟨h1, h2⟩ := eq_scal e rx ry
    refine .inl ⟨h1, ?_⟩
    rw [h2]
    exact Post.at s q _ (by unfold Rep; rfl)⟩
theorem o2_ne (hu : X.A.units + 64 < cLine) : Op2 X W (compareOp .NotEq) dNe := ⟨_, (op_ne (X := X)).or (op_neD hu), fun F H σ dx dy x y Q s rx ry q => by
  unfold dNe at q
  cases e : dEq? dx dy with
  | none =>
    rw [e] at q
    obtain ⟨hc, q⟩ := Post.guard (c := (deepOk dx && deepOk dy) = true) q
    rw [Bool.and_eq_true] at hc
    exact .inr ⟨_, _, rep_dp s rx, rep_dp s ry, hc.1, hc.2, Post.at s q _ (by unfold Rep; rfl)⟩
  | some k =>
    rw [e] at q
    obtain ⟨h1, h2⟩ := eq_scal e rx ry
    refine .inl ⟨h1, ?_⟩
    rw [h2]
    exact Post.at s q _ (by unfold Rep; rfl)⟩
theorem flat_V {K : Fr} {F : Hp} {d : D} {x : V} (h : flat d = true) (r : Rep K F d x) : flatV x = true := by
  cases d <;> first | (cases (show false = true from h)) | (unfold Rep at r; subst r; rfl)
theorem eqF_V {K : Fr} {F : Hp} {d e : D} {x y : V} (h : flat d = true) (h2 : flat e = true) (r : Rep K F d x) (r2 : Rep K F e y) : eqV x y = eqF d e := by
  cases d <;> first | (cases (show false = true from h)) | skip
  all_goals (cases e <;> first | (cases (show false = true from h2)) | skip)
  all_goals (unfold Rep at r r2; subst r; subst r2; first | rfl | skip)
  rename_i a b
  show (Str.ofString a == Str.ofString b) = (a == b)
  by_cases e : a = b
  · subst e; simp
  · have z : ¬ Str.ofString a = Str.ofString b := fun q => e (str_inj q)
    rw [beq_eq_false_iff_ne.mpr z, beq_eq_false_iff_ne.mpr e]
theorem flats_V {K : Fr} {F : Hp} : ∀ {ds : List D} {xs : List V}, ds.all flat = true → Reps K F ds xs → xs.all flatV = true
  | [], _, _, r => by unfold Reps at r; subst r; rfl
  | d :: ds, _, h, r => by
    unfold Reps at r
    obtain ⟨x, t, rfl, r1, r2⟩ := r
    rw [List.all_cons, Bool.and_eq_true] at h ⊢
    exact ⟨flat_V h.1 r1, flats_V h.2 r2⟩
theorem any_V {K : Fr} {F : Hp} {e : D} {y : V} (he : flat e = true) (r2 : Rep K F e y) : ∀ {ds : List D} {xs : List V}, ds.all flat = true → Reps K F ds xs → (xs.any fun x => eqV x y) = ds.any fun d => eqF d e
  | [], _, _, r => by unfold Reps at r; subst r; rfl
  | d :: ds, _, h, r => by
    unfold Reps at r
    obtain ⟨x, t, rfl, r1, r3⟩ := r
    rw [List.all_cons, Bool.and_eq_true] at h
    rw [List.any_cons, List.any_cons, eqF_V h.1 he r1 r2, any_V he r2 h.2 r3]
theorem o2_in : Op2 X W (compareOp .In) dIn := ⟨_, op_in_seq (X := X), fun F H σ dx dy x y Q s rx ry q => by
  cases dy <;> first | exact (show False from q).elim | skip
  all_goals
    rename_i ds
    obtain ⟨hf, q⟩ := Post.guard (c := (flat dx && ds.all flat) = true) q
    · rw [Bool.and_eq_true] at hf
      unfold Rep at ry
      obtain ⟨a, xs, rfl, ha, r⟩ := ry
      refine ⟨a, xs, rfl, ?_, flat_V hf.1 rx, flats_V hf.2 r, ?_⟩
      · first | exact .inr (.of (s _ _ ha)) | exact .inl (.of (s _ _ ha))
      · rw [if_neg Bool.false_ne_true, inV, any_V hf.1 rx hf.2 r]
        exact Post.at s q _ (by unfold Rep; rfl)⟩
theorem o2_notIn : Op2 X W (compareOp .NotIn) dNotIn := ⟨_, op_notIn_seq (X := X), fun F H σ dx dy x y Q s rx ry q => by
  cases dy <;> first | exact (show False from q).elim | skip
  all_goals
    rename_i ds
    obtain ⟨hf, q⟩ := Post.guard (c := (flat dx && ds.all flat) = true) q
    · rw [Bool.and_eq_true] at hf
      unfold Rep at ry
      obtain ⟨a, xs, rfl, ha, r⟩ := ry
      refine ⟨a, xs, rfl, ?_, flat_V hf.1 rx, flats_V hf.2 r, ?_⟩
      · first | exact .inr (.of (s _ _ ha)) | exact .inl (.of (s _ _ ha))
      · rw [if_pos rfl, inV, any_V hf.1 rx hf.2 r]
        exact Post.at s q _ (by unfold Rep; rfl)⟩
end
def eVar (i : Nat) (ρ : Rho) : Res D := match ρ[i]? with
  | some (.v d) => .ok d
  | _ => .stk
def eC (d : D) (_ : Rho) : Res D := .ok d
def eOp (g : D → D → Res D) (fa fb : Rho → Res D) (ρ : Rho) : Res D := (fa ρ).bind fun x => (fb ρ).bind fun y => g x y
def eUn (g : D → Res D) (fa : Rho → Res D) (ρ : Rho) : Res D := (fa ρ).bind g
def toB : D → Res Bool
  | .bl b => .ok b
  | _ => .stk
def tB (fa : Rho → Res D) (ρ : Rho) : Res Bool := (fa ρ).bind toB
def tAndB (fa fb : Rho → Res Bool) (ρ : Rho) : Res Bool := (fa ρ).bind fun a => if a then fb ρ else .ok false
def tOrB (fa fb : Rho → Res Bool) (ρ : Rho) : Res Bool := (fa ρ).bind fun a => if a then .ok true else fb ρ
def tNotB (fa : Rho → Res Bool) (ρ : Rho) : Res Bool := (fa ρ).bind fun a => .ok (!a)
/-- and, or of bools as values -/
def eAnd (fa fb : Rho → Res D) (ρ : Rho) : Res D := (tB fa ρ).bind fun a => if a then fb ρ else .ok (.bl false)
def eOr (fa fb : Rho → Res D) (ρ : Rho) : Res D := (tB fa ρ).bind fun a => if a then .ok (.bl true) else fb ρ
def eNot (fa : Rho → Res D) (ρ : Rho) : Res D := (tB fa ρ).bind fun a => .ok (.bl (!a))
def eChain (g g' : D → D → Res D) (fa fb fc : Rho → Res D) (ρ : Rho) : Res D := (fa ρ).bind fun x => (fb ρ).bind fun y => (g x y).bind fun z => (toB z).bind fun k => if k then (fc ρ).bind fun w => g' y w else .ok (.bl false)
def aNil (_ : Rho) : Res (List D) := .ok []
def aCons (fa : Rho → Res D) (fr : Rho → Res (List D)) (ρ : Rho) : Res (List D) := (fa ρ).bind fun x => (fr ρ).bind fun r => .ok (x :: r)
def eTup (fa : Rho → Res (List D)) (ρ : Rho) : Res D := (fa ρ).bind fun ds => if fits ds.length then .ok (.tup ds) else .stk
def oLst (fa : Rho → Res (List D)) (ρ : Rho) : Res (List D) := (fa ρ).bind fun ds => if fits ds.length then .ok ds else .stk
def eO (f : Rho → Res (List D)) (ρ : Rho) : Res D := (f ρ).bind fun ds => .ok (.lst ds)
def eCall (φ : List D → Res D) (fa : Rho → Res (List D)) (ρ : Rho) : Res D := (fa ρ).bind φ

section
variable {X : Cx} {W : WX} {a b c e : Expr} {es : List Expr} {fa fb fc : Rho → Res D} {pos : Pos}
theorem pp_var (i : Nat) {x : Str} (hN : X.N[i]? = some x := by rfl) (hv : Vis X.env.scope x := by first | exact Or.inl rfl | exact Or.inr (Or.inl rfl) | exact Or.inr (Or.inr rfl)) (hd : (x == ("__debug__" : Str)) = false := by decide)
    (hcd : (x == ("__classdict__" : Str)) = false := by decide) : PPE X W (.Name x pos) (eVar i) := ⟨(pe_var (i := i) hN hv hd hcd).imp fun σ H Q ⟨H0, ρ, F, s, k, q⟩ => by
  unfold eVar at q
  cases e : ρ[i]? with
  | none => rw [e] at q; exact q.elim
  | some sl =>
    rw [e] at q
    cases sl with
    | un => exact q.elim
    | o ds => exact q.elim
    | v d =>
      obtain ⟨x, h1, h2⟩ := k.get i d e
      exact ⟨x, h1, Post.at s q x h2⟩⟩
theorem pp_cst {t : V} {d : D} (h : PE X e (tC t)) (hr : ∀ K F, Rep K F d t) : PPE X W e (eC d) := ⟨h.imp fun σ H Q ⟨H0, ρ, F, s, k, q⟩ => Post.at s q _ (hr _ _)⟩
theorem pp_int {i j} : PPE X W (.Constant (.int i) j pos) (eC (.int i)) := pp_cst pe_int fun _ _ => by unfold Rep; rfl
theorem pp_bl {i j} : PPE X W (.Constant (.bool i) j pos) (eC (.bl i)) := pp_cst pe_bl fun _ _ => by unfold Rep; rfl
theorem pp_non {j} : PPE X W (.Constant .none j pos) (eC .non) := pp_cst pe_non fun _ _ => by unfold Rep; rfl
theorem pp_str {x : String} {j} : PPE X W (.Constant (.str (Str.ofString x)) j pos) (eC (.str x)) := pp_cst pe_str fun _ _ => by unfold Rep; rfl
/-- a constant of the module -/
theorem pp_globI {x : Str} {i : Int} {u : Value} (hg : Gl X x) (hm : X.mg x = some u) (r : ∃ t, u = .int i t) (hd : (x == ("__debug__" : Str)) = false := by decide) : PPE X W (.Name x pos) (eC (.int i)) := pp_cst (pe_glob (v := .int i) hg hm r hd) fun _ _ => by unfold Rep; rfl
theorem pp_op {op : Operator} {g : D → D → Res D} (o : Op2 X W (binaryOp op) g) (ha : PPE X W a fa) (hb : PPE X W b fb) : PPE X W (.BinOp a op b pos) (eOp g fa fb) := by
  obtain ⟨r, ho, hr⟩ := o
  refine ⟨(pe_op ho ha.pe hb.pe).imp fun σ H Q ⟨H0, ρ, F, s, k, q⟩ => ?_⟩
  refine tP_in s k (Post.bind q |>.mono fun d F1 H1 _ e1 q1 e2 x rx => ?_)
  refine tP_in e2.s (k.ext e2) (Post.bind q1 |>.mono fun d2 F2 H2 _ e3 q2 e4 y ry => ?_)
  exact hr F2 H2 σ d d2 x y Q e4.s (rx.mono e4.f) ry q2
theorem pp_cmp {op : CmpOp} {g : D → D → Res D} (o : Op2 X W (compareOp op) g) (ha : PPE X W a fa) (hb : PPE X W b fb) (hm : behindInMarks op b = false := by first | exact nomark _ | rfl) : PPE X W (.Compare a [op] [b] pos) (eOp g fa fb) := by
  obtain ⟨r, ho, hr⟩ := o
  refine ⟨(pe_cmpR ho ha.pe hb.pe hm).imp fun σ H Q ⟨H0, ρ, F, s, k, q⟩ => ?_⟩
  refine tP_in s k (Post.bind q |>.mono fun d F1 H1 _ e1 q1 e2 x rx => ?_)
  refine tP_in e2.s (k.ext e2) (Post.bind q1 |>.mono fun d2 F2 H2 _ e3 q2 e4 y ry => ?_)
  exact hr F2 H2 σ d d2 x y Q e4.s (rx.mono e4.f) ry q2
theorem rep_toB {K : Fr} {F F' H H' : Hp} {d : D} {x : V} {σ : L2.St} {Q : Bool → Hp → Hp → Prop} (s : Same F H) (r : Rep K F d x) (q : Post X W (toB d) F H σ Q) : ∃ k, x = .bl k ∧ Post X W (.ok k) F H σ Q := by
  cases d <;> first | exact (show False from q).elim | skip
  unfold Rep at r
  exact ⟨_, r, q⟩
theorem pt_cmpP {op : CmpOp} {g : D → D → Res D} (o : Op2 X W (compareOp op) g) (ha : PPE X W a fa) (hb : PPE X W b fb) (hm : behindInMarks op b = false := by first | exact nomark _ | rfl) : PPT X W (.Compare a [op] [b] pos) (tB (eOp g fa fb)) := by
  obtain ⟨r, ho, hr⟩ := o
  refine ⟨(pt_cmpR ho ha.pe hb.pe hm).imp fun σ H Q ⟨H0, ρ, F, s, k, q⟩ => ?_⟩
  have q := Post.bind q
  refine tP_in s k (Post.bind q |>.mono fun d F1 H1 _ e1 q1 e2 x rx => ?_)
  refine tP_in e2.s (k.ext e2) (Post.bind q1 |>.mono fun d2 F2 H2 _ e3 q2 e4 y ry => ?_)
  refine hr F2 H2 σ d d2 x y _ e4.s (rx.mono e4.f) ry (q2.mono fun d3 F3 H3 _ e5 q3 z rz => ?_)
  obtain ⟨b, e6, q4⟩ := rep_toB (F' := F3) (H' := H3) e5.s rz q3
  exact ⟨b, e6, Post.at e5.s q4⟩
theorem pe_chainP {op op' : CmpOp} {g g' : D → D → Res D} (o : Op2 X W (compareOp op) g) (o' : Op2 X W (compareOp op') g') (ha : PPE X W a fa) (hb : PPE X W b fb) (hc : PPE X W c fc)
    (hm : lastMarks [op, op'] [b, c] = false := by with_unfolding_all rfl) : PPE X W (.Compare a [op, op'] [b, c] pos) (eChain g g' fa fb fc) := by
  obtain ⟨r, ho, hr⟩ := o
  obtain ⟨r', ho', hr'⟩ := o'
  refine ⟨(pe_chain ho ho' ha.pe hb.pe hc.pe hm).imp fun σ H Q ⟨H0, ρ, F, s, k, q⟩ => ?_⟩
  refine tP_in s k (Post.bind q |>.mono fun d F1 H1 _ e1 q1 e2 x rx => ?_)
  refine tP_in e2.s (k.ext e2) (Post.bind q1 |>.mono fun d2 F2 H2 _ e3 q2 e4 y ry => ?_)
  refine hr F2 H2 σ d d2 x y _ e4.s (rx.mono e4.f) ry (Post.bind q2 |>.mono fun d3 F3 H3 _ e5 q3 z rz => ?_)
  obtain ⟨b, e6, q4⟩ := rep_toB (F' := F3) (H' := H3) e5.s rz (Post.bind q3)
  refine ⟨b, e6, ?_⟩
  have q5 := Post.at e5.s q4
  cases b with
  | false =>
    rw [if_neg Bool.false_ne_true]
    exact Post.at e5.s q5 _ (by unfold Rep; rfl)
  | true =>
    rw [if_pos rfl]
    rw [if_pos rfl] at q5
    refine tP_in e5.s ((k.ext (e2.trans e4)).ext e5) (Post.bind q5 |>.mono fun d4 F4 H4 _ e7 q6 e8 w rw' => ?_)
    exact hr' F4 H4 σ d2 d4 y w Q e8.s ((ry.mono e5.f).mono e8.f) rw' q6
/-- a test by its value -/
theorem pt_valP (ha : PPE X W a fa) (he : ∀ whole, isTrue a X.env whole = (do let v ← whole; standAt a.pos; holding [v] (truthy v)) := by intro _; rfl) : PPT X W a (tB fa) :=
  ⟨(pt_val ha.pe he).imp fun σ H Q ⟨H0, ρ, F, s, k, q⟩ => tP_in s k (Post.bind q |>.mono fun d F1 H1 _ e1 q1 e2 x rx => by
    obtain ⟨b, e6, q4⟩ := rep_toB (F' := F1) (H' := H1) e2.s rx q1
    exact ⟨b, e6, Post.at e2.s q4⟩)⟩
theorem pt_chainP {op op' : CmpOp} {g g' : D → D → Res D} (o : Op2 X W (compareOp op) g) (o' : Op2 X W (compareOp op') g') (ha : PPE X W a fa) (hb : PPE X W b fb) (hc : PPE X W c fc)
    (hm : lastMarks [op, op'] [b, c] = false := by with_unfolding_all rfl) : PPT X W (.Compare a [op, op'] [b, c] pos) (tB (eChain g g' fa fb fc)) := by
  obtain ⟨r, ho, hr⟩ := o
  obtain ⟨r', ho', hr'⟩ := o'
  refine ⟨(pt_chain ho ho' ha.pe hb.pe hc.pe hm).imp fun σ H Q ⟨H0, ρ, F, s, k, q⟩ => ?_⟩
  have q := Post.bind q
  refine tP_in s k (Post.bind q |>.mono fun d F1 H1 _ e1 q1 e2 x rx => ?_)
  refine tP_in e2.s (k.ext e2) (Post.bind q1 |>.mono fun d2 F2 H2 _ e3 q2 e4 y ry => ?_)
  refine hr F2 H2 σ d d2 x y _ e4.s (rx.mono e4.f) ry (Post.bind q2 |>.mono fun d3 F3 H3 _ e5 q3 z rz => ?_)
  obtain ⟨b, e6, q4⟩ := rep_toB (F' := F3) (H' := H3) e5.s rz (Post.bind q3)
  refine ⟨b, e6, ?_⟩
  have q5 := Post.at e5.s q4
  cases b with
  | false =>
    rw [if_neg Bool.false_ne_true]
    exact ⟨false, rfl, Post.at e5.s (Post.at e5.s q5)⟩
  | true =>
    rw [if_pos rfl]
    rw [if_pos rfl] at q5
    refine tP_in e5.s ((k.ext (e2.trans e4)).ext e5) (Post.bind q5 |>.mono fun d4 F4 H4 _ e7 q6 e8 w rw' => ?_)
    refine hr' F4 H4 σ d2 d4 y w _ e8.s ((ry.mono e5.f).mono e8.f) rw' (q6.mono fun d5 F5 H5 _ e9 q7 z' rz' => ?_)
    obtain ⟨b, e10, q8⟩ := rep_toB (F' := F5) (H' := H5) e9.s rz' q7
    exact ⟨b, e10, Post.at e9.s q8⟩
section
variable {ta tb : Rho → Res Bool}
theorem pw_and1P (ha : PPT X W a ta) : PPW X W (.BoolOp .And [a] pos) ta := ⟨pw_and1 ha.pt⟩
theorem pw_or1P (ha : PPT X W a ta) : PPW X W (.BoolOp .Or [a] pos) ta := ⟨pw_or1 ha.pt⟩
theorem pw_andP {rest : List Expr} (ha : PPT X W a ta) (hb : PPW X W (.BoolOp .And (b :: rest) pos) tb) : PPW X W (.BoolOp .And (a :: b :: rest) pos) (tAndB ta tb) :=
  ⟨(pw_and ha.pt hb.pw).imp fun σ H Q ⟨H0, ρ, F, s, k, q⟩ => tPT_in s k (Post.bind q |>.mono fun c F1 H1 _ e1 q1 e2 => by
    cases c with
    | false => rw [if_neg Bool.false_ne_true]; exact Post.at e2.s q1
    | true =>
      rw [if_pos rfl]
      rw [if_pos rfl] at q1
      exact ⟨H0, ρ, F1, e2.s, k.ext e2, q1⟩)⟩
theorem pw_orP {rest : List Expr} (ha : PPT X W a ta) (hb : PPW X W (.BoolOp .Or (b :: rest) pos) tb) : PPW X W (.BoolOp .Or (a :: b :: rest) pos) (tOrB ta tb) :=
  ⟨(pw_or ha.pt hb.pw).imp fun σ H Q ⟨H0, ρ, F, s, k, q⟩ => tPT_in s k (Post.bind q |>.mono fun c F1 H1 _ e1 q1 e2 => by
    cases c with
    | true => rw [if_pos rfl]; exact Post.at e2.s q1
    | false =>
      rw [if_neg Bool.false_ne_true]
      rw [if_neg Bool.false_ne_true] at q1
      exact ⟨H0, ρ, F1, e2.s, k.ext e2, q1⟩)⟩
theorem PPW.pt' (h : PPW X W a ta) : PPT X W a ta := ⟨h.pw.pt⟩
theorem pt_notP (ha : PPT X W a ta) : PPT X W (.UnaryOp .Not a pos) (tNotB ta) :=
  ⟨(pt_not ha.pt).imp fun σ H Q ⟨H0, ρ, F, s, k, q⟩ => tPT_in s k (Post.bind q |>.mono fun c F1 H1 _ e1 q1 e2 => Post.at e2.s q1)⟩
end
theorem pp_one {op} (h : PPE X W a fa) : PPE X W (.BoolOp op [a] pos) fa := ⟨pe_one h.pe⟩
theorem pp_and {rest : List Expr} (ha : PPE X W a fa) (hb : PPE X W (.BoolOp .And (b :: rest) pos) fb) : PPE X W (.BoolOp .And (a :: b :: rest) pos) (eAnd fa fb) :=
  ⟨(pe_and ha.pe hb.pe).imp fun σ H Q ⟨H0, ρ, F, s, k, q⟩ => tP_in s k (Post.bind (Post.bind q) |>.mono fun d F1 H1 _ e1 q1 e2 x rx => by
    obtain ⟨b, e6, q4⟩ := rep_toB (F' := F1) (H' := H1) e2.s rx q1
    refine ⟨b, e6, ?_⟩
    have q5 := Post.at e2.s q4
    cases b with
    | false => rw [if_neg Bool.false_ne_true]; exact Post.at e2.s q5 _ (by unfold Rep; rfl)
    | true =>
      rw [if_pos rfl]
      exact ⟨H0, ρ, F1, e2.s, k.ext e2, q5⟩)⟩
theorem pp_or {rest : List Expr} (ha : PPE X W a fa) (hb : PPE X W (.BoolOp .Or (b :: rest) pos) fb) : PPE X W (.BoolOp .Or (a :: b :: rest) pos) (eOr fa fb) :=
  ⟨(pe_or ha.pe hb.pe).imp fun σ H Q ⟨H0, ρ, F, s, k, q⟩ => tP_in s k (Post.bind (Post.bind q) |>.mono fun d F1 H1 _ e1 q1 e2 x rx => by
    obtain ⟨b, e6, q4⟩ := rep_toB (F' := F1) (H' := H1) e2.s rx q1
    refine ⟨b, e6, ?_⟩
    have q5 := Post.at e2.s q4
    cases b with
    | true => rw [if_pos rfl]; exact Post.at e2.s q5 _ (by unfold Rep; rfl)
    | false =>
      rw [if_neg Bool.false_ne_true]
      exact ⟨H0, ρ, F1, e2.s, k.ext e2, q5⟩)⟩
theorem pp_not (ha : PPE X W a fa) : PPE X W (.UnaryOp .Not a pos) (eNot fa) :=
  ⟨(pe_not ha.pe).imp fun σ H Q ⟨H0, ρ, F, s, k, q⟩ => tP_in s k (Post.bind (Post.bind q) |>.mono fun d F1 H1 _ e1 q1 e2 x rx => by
    obtain ⟨b, e6, q4⟩ := rep_toB (F' := F1) (H' := H1) e2.s rx q1
    exact ⟨b, e6, Post.at e2.s (Post.at e2.s q4) _ (by unfold Rep; rfl)⟩)⟩
theorem pp_neg (ha : PPE X W a fa) : PPE X W (.UnaryOp .USub a pos) (eUn dNeg fa) :=
  ⟨(pe_un un_neg ha.pe).imp fun σ H Q ⟨H0, ρ, F, s, k, q⟩ => tP_in s k (Post.bind q |>.mono fun d F1 H1 _ e1 q1 e2 x rx => by
    cases d <;> first | exact (show False from q1).elim | skip
    unfold Rep at rx
    exact ⟨_, rx, Post.at e2.s q1 _ (by unfold Rep; rfl)⟩)⟩
theorem rep_non {K : Fr} {F : Hp} {d : D} {x : V} (r : Rep K F d x) : decide (x = .non) = (match d with | .non => true | _ => false) := by
  cases d <;> unfold Rep at r <;> first | (subst r; simp; done) | (obtain ⟨_, _, e, _⟩ := r; subst e; simp; done) | (obtain ⟨_, e, _⟩ := r; subst e; simp; done)
theorem pp_isN {j} {pos'} (ha : PPE X W a fa) : PPE X W (.Compare a [.Is] [.Constant .none j pos'] pos) (eUn dIsN fa) :=
  ⟨(pe_cmpR op_isN ha.pe pe_non (nomark _)).imp fun σ H Q ⟨H0, ρ, F, s, k, q⟩ => tP_in s k (Post.bind q |>.mono fun d F1 H1 _ e1 q1 e2 x rx => by
    refine ⟨rfl, ?_⟩
    rw [rep_non rx]
    cases d <;> exact Post.at e2.s q1 _ (by unfold Rep; rfl))⟩
theorem pp_notN {j} {pos'} (ha : PPE X W a fa) : PPE X W (.Compare a [.IsNot] [.Constant .none j pos'] pos) (eUn dNotN fa) :=
  ⟨(pe_cmpR op_notN ha.pe pe_non (nomark _)).imp fun σ H Q ⟨H0, ρ, F, s, k, q⟩ => tP_in s k (Post.bind q |>.mono fun d F1 H1 _ e1 q1 e2 x rx => by
    refine ⟨rfl, ?_⟩
    rw [rep_non rx]
    cases d <;> exact Post.at e2.s q1 _ (by unfold Rep; rfl))⟩
theorem pt_isN {j} {pos'} (ha : PPE X W a fa) : PPT X W (.Compare a [.Is] [.Constant .none j pos'] pos) (tB (eUn dIsN fa)) :=
  ⟨(pt_cmpR op_isN ha.pe pe_non (nomark _)).imp fun σ H Q ⟨H0, ρ, F, s, k, q⟩ => tP_in s k (Post.bind (Post.bind q) |>.mono fun d F1 H1 _ e1 q1 e2 x rx => by
    refine ⟨rfl, _, rfl, ?_⟩
    rw [rep_non rx]
    cases d <;> exact Post.at e2.s (Post.at e2.s q1))⟩
theorem pt_notN {j} {pos'} (ha : PPE X W a fa) : PPT X W (.Compare a [.IsNot] [.Constant .none j pos'] pos) (tB (eUn dNotN fa)) :=
  ⟨(pt_cmpR op_notN ha.pe pe_non (nomark _)).imp fun σ H Q ⟨H0, ρ, F, s, k, q⟩ => tP_in s k (Post.bind (Post.bind q) |>.mono fun d F1 H1 _ e1 q1 e2 x rx => by
    refine ⟨rfl, _, rfl, ?_⟩
    rw [rep_non rx]
    cases d <;> exact Post.at e2.s (Post.at e2.s q1))⟩
theorem pa_nilP : PPA X W [] aNil := ⟨pa_nil.imp fun σ H Q ⟨H0, ρ, F, s, k, q⟩ => Post.at s q [] Reps.nil⟩
theorem pa_consP {fr : Rho → Res (List D)} (ha : PPE X W e fa) (hr : PPA X W es fr) (hs : starEach (e :: es) X.env = (false, eval e X.env) :: starEach es X.env := by rfl) : PPA X W (e :: es) (aCons fa fr) :=
  ⟨(pa_cons ha.pe hr.pa hs).imp fun σ H Q ⟨H0, ρ, F, s, k, q⟩ => tP_in s k (Post.bind q |>.mono fun d F1 H1 _ e1 q1 e2 x rx =>
    tPA_in e2.s (k.ext e2) (Post.bind q1 |>.mono fun ds F2 H2 _ e3 q2 e4 xs rxs => Post.at e4.s q2 _ (Reps.cons (rx.mono e4.f) rxs)))⟩
variable {fl : Rho → Res (List D)}
theorem pp_tup {x1} (h : PPA X W es fl) : PPE X W (.Tuple es x1 pos) (eTup fl) :=
  ⟨(pe_tup h.pa).imp fun σ H Q ⟨H0, ρ, F, s, k, q⟩ => tPA_in s k (Post.bind q |>.mono fun ds F1 H1 _ e1 q1 e2 xs rx => by
    by_cases hf : fits ds.length = true
    · rw [if_pos hf] at q1
      refine ⟨by rw [← rx.length]; exact fits_iff.mp hf, fun p np => q1 _ _ (Ext.new e2.s np) _ ?_⟩
      unfold Rep
      exact ⟨p, xs, rfl, upd_same, rx.mono (same_upd (e2.s.free np))⟩
    · rw [if_neg hf] at q1; exact q1.elim)⟩
theorem po_lst (h : PPA X W es fl) : PPO X W (.List es pos) (oLst fl) :=
  ⟨(pe_lst h.pa).imp fun σ H Q ⟨H0, ρ, F, s, k, q⟩ => tPA_in s k (Post.bind q |>.mono fun ds F1 H1 _ e1 q1 e2 xs rx => by
    by_cases hf : fits ds.length = true
    · rw [if_pos hf] at q1
      refine ⟨by rw [← rx.length]; exact fits_iff.mp hf, fun p np => q1 F1 _ (Ext.grow e2.s (same_upd np)) p xs (e2.s.free np) (e2.h.free np) upd_same rx⟩
    · rw [if_neg hf] at q1; exact q1.elim)⟩
/-- a fresh list, frozen at once -/
theorem fz_read {X : Cx} {W : WX} {fl : Rho → Res (List D)} {σ : L2.St} {H : Hp} {Q : VK} (h : tP X W (eO fl) σ H Q) : tPO X W fl σ H Q := by
  obtain ⟨H0, ρ, F, s, k, q⟩ := h
  refine ⟨H0, ρ, F, s, k, ?_⟩
  unfold eO at q
  cases ef : fl ρ with
  | stk => rw [ef] at q; exact q
  | exc c => rw [ef] at q; exact q
  | ok ds =>
    rw [ef] at q
    intro F1 H1 e1 p xs fp hp h1 rs
    refine q (upd F1 p (.lst xs)) H1 ⟨e1.f.trans (same_upd fp), e1.h, ?_, fun b hb hb2 => ?_⟩ _ ?_
    · intro c o ec
      by_cases hc : c = p
      · subst hc; rw [upd_same] at ec; cases ec; exact h1
      · rw [upd_ne hc] at ec; exact e1.s _ _ ec
    · have hne : b ≠ p := fun z => hb (by rw [z]; exact hp)
      rw [upd_ne hne]
      exact e1.n b hb hb2
    · unfold Rep
      exact ⟨p, xs, rfl, upd_same, rs.mono (same_upd fp)⟩
theorem PPO.fz (h : PPO X W e fl) : PPE X W e (eO fl) := ⟨h.pe.imp fun σ H Q h => fz_read h⟩
end
end Pu

namespace Pu
open PySem PySem.Spec PyProof.Rows L2

theorem Reps.at {K : Fr} {F : Hp} {ds : List D} {xs : List V} {i : Int} {d : D} (r : Reps K F ds xs) (h : atI ds i = some d) : ∃ x, atI xs i = some x ∧ Rep K F d x := by
  unfold atI at h ⊢
  rw [← r.length]
  cases e : ixN ds.length i with
  | none => rw [e] at h; cases h
  | some j =>
    rw [e] at h
    exact r.get h
theorem Reps.cut {K : Fr} {F : Hp} {ds : List D} {xs : List V} (lo hi : Option Int) (r : Reps K F ds xs) : Reps K F (cutD ds lo hi) (cutV xs lo hi) := by
  unfold cutD cutV
  rw [← r.length]
  exact (r.drop _).take _
theorem atI_map {α β : Type} (f : α → β) {xs : List α} {i : Int} {a : α} (h : atI xs i = some a) : atI (xs.map f) i = some (f a) := by
  unfold atI at h ⊢
  rw [List.length_map]
  cases e : ixN xs.length i with
  | none => rw [e] at h; cases h
  | some j =>
    rw [e] at h
    show (xs.map f)[j]? = some (f a)
    have h' : xs[j]? = some a := h
    rw [List.getElem?_map, h']
    rfl

theorem Reps.ints' {K : Fr} {F : Hp} : ∀ {ns : List Int}, Reps K F (ns.map D.int) (ns.map V.int)
  | [] => Reps.nil
  | n :: ns => Reps.cons (by unfold Rep; rfl) (Reps.ints' (ns := ns))
/-- isinstance of a built-in class, by the class's name -/
def tyN : D → String
  | .non => "NoneType" | .bl _ => "bool" | .int _ => "int" | .str _ => "str" | .tup _ => "tuple" | .lst _ => "list" | .scr _ => "list"
inductive Ty where
  | int | bool | str | tuple | list
def Ty.nm : Ty → String
  | .int => "int" | .bool => "bool" | .str => "str" | .tuple => "tuple" | .list => "list"
def isTy : Ty → D → Bool
  | .int, .int _ => true | .int, .bl _ => true
  | .bool, .bl _ => true
  | .str, .str _ => true
  | .tuple, .tup _ => true
  | .list, .lst _ => true | .list, .scr _ => true
  | _, _ => false
def dIsi (T : Ty) (d : D) : Res D := .ok (.bl (isTy T d))
theorem kit_isTy (T : Ty) (d : D) : kitB (tyN d) T.nm = some (isTy T d) := by
  cases T <;> cases d <;> kernel_rfl
def dList : D → Res (List D)
  | .lst ds => .ok ds
  | .tup ds => .ok ds
  | .scr ns => .ok (ns.map .int)
  | _ => .stk
def dRev : D → Res (List D)
  | .lst ds => .ok ds.reverse
  | _ => .stk
def dInt : D → Res D
  | .int i => .ok (.int i)
  | .bl k => .ok (.int (if k then 1 else 0))
  | _ => .stk
def strOk (i : Int) : Bool := Nat.ble i.natAbs.log2 1919
theorem strOk_is {i : Int} (h : strOk i = true) : i.natAbs.log2 < 1920 := by
  unfold strOk at h
  rw [Nat.ble_eq] at h
  omega
def dStr : D → Res D
  | .int i => if strOk i then .ok (.str (toString i)) else .stk
  | _ => .stk
def dTuple : D → Res D
  | .lst ds => .ok (.tup ds)
  | .tup ds => .ok (.tup ds)
  | _ => .stk
def dMax2 : D → D → Res D
  | .int i, .int j => .ok (.int (if j > i then j else i))
  | _, _ => .stk
def dMin2 : D → D → Res D
  | .int i, .int j => .ok (.int (if j < i then j else i))
  | _, _ => .stk
def intsOf : List D → Option (List Int)
  | [] => some []
  | .int i :: r => (intsOf r).map fun l => i :: l
  | _ :: _ => none
def maxL : List Int → Int
  | [] => 0
  | [a] => a
  | a :: b :: r => if maxL (b :: r) > a then maxL (b :: r) else a
def minL : List Int → Int
  | [] => 0
  | [a] => a
  | a :: b :: r => if minL (b :: r) < a then minL (b :: r) else a
theorem maxL_mem : ∀ {l : List Int}, l ≠ [] → maxL l ∈ l ∧ ∀ y ∈ l, y ≤ maxL l
  | [], h => absurd rfl h
  | [a], _ => by simp [maxL]
  | a :: b :: r, _ => by
    obtain ⟨h1, h2⟩ := maxL_mem (l := b :: r) (by simp)
    unfold maxL
    split
    · rename_i hc
      exact ⟨List.mem_cons_of_mem _ h1, fun y hy => by
        rcases List.mem_cons.mp hy with rfl | hy
        · omega
        · exact h2 y hy⟩
    · rename_i hc
      exact ⟨List.mem_cons_self, fun y hy => by
        rcases List.mem_cons.mp hy with rfl | hy
        · omega
        · have := h2 y hy; omega⟩
theorem minL_mem : ∀ {l : List Int}, l ≠ [] → minL l ∈ l ∧ ∀ y ∈ l, minL l ≤ y
  | [], h => absurd rfl h
  | [a], _ => by simp [minL]
  | a :: b :: r, _ => by
    obtain ⟨h1, h2⟩ := minL_mem (l := b :: r) (by simp)
    unfold minL
    split
    · rename_i hc
      exact ⟨List.mem_cons_of_mem _ h1, fun y hy => by
        rcases List.mem_cons.mp hy with rfl | hy
        · omega
        · exact h2 y hy⟩
    · rename_i hc
      exact ⟨List.mem_cons_self, fun y hy => by
        rcases List.mem_cons.mp hy with rfl | hy
        · omega
        · have := h2 y hy; omega⟩
def dInts (g : List Int → Res D) : D → Res D
  | .lst ds => match intsOf ds with
    | some ns => g ns
    | none => .stk
  | _ => .stk
def dSum : D → Res D := dInts fun ns => .ok (.int ns.sum)
def dMaxL : D → Res D := dInts fun ns => if 0 < ns.length then .ok (.int (maxL ns)) else .stk
def dMinL : D → Res D := dInts fun ns => if 0 < ns.length then .ok (.int (minL ns)) else .stk
theorem rep_ints {K : Fr} {F : Hp} : ∀ {ds : List D} {xs : List V} {ns : List Int}, intsOf ds = some ns → Reps K F ds xs → xs = ns.map V.int
  | [], _, ns, h, r => by
    have h := Option.some.inj h
    subst h
    unfold Reps at r; subst r; rfl
  | .int i :: ds, _, ns, h, r => by
    unfold intsOf at h
    unfold Reps at r
    obtain ⟨x, t, rfl, r1, r2⟩ := r
    cases e : intsOf ds with
    | none => rw [e] at h; cases h
    | some l =>
      rw [e] at h
      have h := Option.some.inj h
      subst h
      unfold Rep at r1
      rw [r1, rep_ints e r2]
      rfl
  | .non :: ds, _, ns, h, r => nomatch h
  | .bl _ :: ds, _, ns, h, r => nomatch h
  | .str _ :: ds, _, ns, h, r => nomatch h
  | .tup _ :: ds, _, ns, h, r => nomatch h
  | .lst _ :: ds, _, ns, h, r => nomatch h
  | .scr _ :: ds, _, ns, h, r => nomatch h

/-- a call of a built-in with one value -/
def Call1 (X : Cx) (W : WX) (f : Value) (g : D → Res D) : Prop := ∃ r, CallR X f r ∧ ∀ (F H : Hp) (σ : L2.St) (d : D) (x : V) (Q : VK), Same F H → Rep X.K F d x →
  Post X W (g d) F H σ (fun d F' H' => ∀ z, Rep X.K F' d z → Q z H') → r [x] H Q
def Call2 (X : Cx) (W : WX) (f : Value) (g : D → D → Res D) : Prop := ∃ r, CallR X f r ∧ ∀ (F H : Hp) (σ : L2.St) (d e : D) (x y : V) (Q : VK), Same F H → Rep X.K F d x → Rep X.K F e y →
  Post X W (g d e) F H σ (fun d F' H' => ∀ z, Rep X.K F' d z → Q z H') → r [x, y] H Q
/-- .. that makes a fresh list -/
def CallO (X : Cx) (W : WX) (f : Value) (g : D → Res (List D)) : Prop := ∃ r, CallR X f r ∧ ∀ (F H : Hp) (σ : L2.St) (d : D) (x : V) (Q : VK), Same F H → Rep X.K F d x →
  Post X W (g d) F H σ (fun ds F' H' => ∀ p xs, F' p = none → H p = none → H' p = some (.lst xs) → Reps X.K F' ds xs → Q (.ref p) H') → r [x] H Q
section
variable {X : Cx} {W : WX}
theorem c1_len : Call1 X W (.builtin "len") dLen := ⟨_, call_len_seq (X := X), fun F H σ d x Q s r q => by
  cases d <;> first | exact (show False from q).elim | skip
  all_goals unfold Rep at r
  · obtain ⟨a, xs, rfl, ha, r⟩ := r
    exact ⟨a, xs, rfl, .inr (.of (s _ _ ha)), Post.at s q _ (by unfold Rep; rw [r.length])⟩
  · obtain ⟨a, xs, rfl, ha, r⟩ := r
    exact ⟨a, xs, rfl, .inl (.of (s _ _ ha)), Post.at s q _ (by unfold Rep; rw [r.length])⟩
  · obtain ⟨a, rfl, ha⟩ := r
    exact ⟨a, _, rfl, .inl (s.seq ha), Post.at s q _ (by unfold Rep; rw [List.length_map])⟩⟩
theorem c1_int : Call1 X W (.type "int") dInt := ⟨_, call_int1 (X := X), fun F H σ d x Q s r q => by
  cases d <;> first | exact (show False from q).elim | skip
  all_goals unfold Rep at r
  · exact .inr ⟨_, by rw [r], Post.at s q _ (by unfold Rep; rfl)⟩
  · exact .inl ⟨_, by rw [r], Post.at s q _ (by unfold Rep; rfl)⟩⟩
theorem c1_str : Call1 X W (.type "str") dStr := ⟨_, call_str_int (X := X), fun F H σ d x Q s r q => by
  cases d <;> first | exact (show False from q).elim | skip
  rename_i i
  obtain ⟨hc, q⟩ := Post.guard (c := strOk i = true) q
  have hc := strOk_is hc
  unfold Rep at r
  exact ⟨_, by rw [r], hc, Post.at s q _ (by unfold Rep; rfl)⟩⟩
theorem c1_tuple : Call1 X W (.type "tuple") dTuple := ⟨_, call_tuple_of (X := X), fun F H σ d x Q s r q => by
  cases d <;> first | exact (show False from q).elim | skip
  · have r' := r
    unfold Rep at r
    obtain ⟨a, xs, rfl, ha, r⟩ := r
    exact ⟨a, xs, rfl, .inr ⟨.of (s _ _ ha), Post.at s q _ r'⟩⟩
  · unfold Rep at r
    obtain ⟨a, xs, rfl, ha, r⟩ := r
    refine ⟨a, xs, rfl, .inl ⟨.of (s _ _ ha), fun l nl => q _ _ (Ext.new s nl) _ ?_⟩⟩
    unfold Rep
    exact ⟨l, xs, rfl, upd_same, r.mono (same_upd (s.free nl))⟩⟩
theorem co_list : CallO X W (.type "list") dList := ⟨_, call_list_of (X := X), fun F H σ d x Q s r q => by
  cases d <;> first | exact (show False from q).elim | skip
  all_goals unfold Rep at r
  · obtain ⟨a, xs, rfl, ha, r⟩ := r
    exact ⟨a, xs, rfl, .inr (.of (s _ _ ha)), fun l nl => q F _ (Ext.grow s (same_upd nl)) l xs (s.free nl) nl upd_same r⟩
  · obtain ⟨a, xs, rfl, ha, r⟩ := r
    exact ⟨a, xs, rfl, .inl (.of (s _ _ ha)), fun l nl => q F _ (Ext.grow s (same_upd nl)) l xs (s.free nl) nl upd_same r⟩
  · obtain ⟨a, rfl, ha⟩ := r
    exact ⟨a, _, rfl, .inl (s.seq ha), fun l nl => q F _ (Ext.grow s (same_upd nl)) l _ (s.free nl) nl upd_same Reps.ints'⟩⟩
theorem c2_max (hc : X.calm = true) : Call2 X W (.builtin "max") dMax2 := ⟨_, call_max2 hc, fun F H σ d e x y Q s r r2 q => by
  cases d <;> cases e <;> first | exact (show False from q).elim | skip
  unfold Rep at r r2
  exact ⟨_, _, by rw [r, r2], Post.at s q _ (by unfold Rep; rfl)⟩⟩
theorem c2_min (hc : X.calm = true) : Call2 X W (.builtin "min") dMin2 := ⟨_, call_min2 hc, fun F H σ d e x y Q s r r2 q => by
  cases d <;> cases e <;> first | exact (show False from q).elim | skip
  unfold Rep at r r2
  exact ⟨_, _, by rw [r, r2], Post.at s q _ (by unfold Rep; rfl)⟩⟩
theorem dInts_in {g : List Int → Res D} {F H : Hp} {σ : L2.St} {d : D} {x : V} {Q : D → Hp → Hp → Prop} (s : Same F H) (r : Rep X.K F d x) (q : Post X W (dInts g d) F H σ Q) :
    ∃ a ns, x = .ref a ∧ SqL X.K H a (ns.map V.int) ∧ Post X W (g ns) F H σ Q := by
  cases d <;> first | exact (show False from q).elim | skip
  rename_i ds
  unfold Rep at r
  obtain ⟨a, xs, rfl, ha, r⟩ := r
  unfold dInts at q
  simp only at q
  cases e : intsOf ds with
  | none => rw [e] at q; exact q.elim
  | some ns =>
    rw [e] at q
    exact ⟨a, ns, rfl, .of (by rw [← rep_ints e r]; exact s _ _ ha), q⟩
theorem c1_sum (hc : X.calm = true) : Call1 X W (.builtin "sum") dSum := ⟨_, cr_sum hc, fun F H σ d x Q s r q => by
  obtain ⟨a, ns, rfl, h, q⟩ := dInts_in s r q
  exact ⟨a, ns, rfl, h, Post.at s q _ (by unfold Rep; rfl)⟩⟩
theorem c1_maxL (hc : X.calm = true) : Call1 X W (.builtin "max") dMaxL := ⟨_, cr_max hc, fun F H σ d x Q s r q => by
  obtain ⟨a, ns, rfl, h, q⟩ := dInts_in s r q
  obtain ⟨hl, q⟩ := Post.guard (c := 0 < ns.length) q
  refine ⟨a, ns, rfl, h, hl, fun m h1 h2 => ?_⟩
  have hne : ns ≠ [] := fun z => by rw [z] at hl; exact absurd hl (Nat.lt_irrefl _)
  obtain ⟨h3, h4⟩ := maxL_mem hne
  have e : m = maxL ns := Int.le_antisymm (h4 m h1) (h2 _ h3)
  rw [e]
  exact Post.at s q _ (by unfold Rep; rfl)⟩
theorem c1_minL (hc : X.calm = true) : Call1 X W (.builtin "min") dMinL := ⟨_, cr_min hc, fun F H σ d x Q s r q => by
  obtain ⟨a, ns, rfl, h, q⟩ := dInts_in s r q
  obtain ⟨hl, q⟩ := Post.guard (c := 0 < ns.length) q
  refine ⟨a, ns, rfl, h, hl, fun m h1 h2 => ?_⟩
  have hne : ns ≠ [] := fun z => by rw [z] at hl; exact absurd hl (Nat.lt_irrefl _)
  obtain ⟨h3, h4⟩ := minL_mem hne
  have e : m = minL ns := Int.le_antisymm (h2 _ h3) (h4 m h1)
  rw [e]
  exact Post.at s q _ (by unfold Rep; rfl)⟩

variable {a b c e : Expr} {es : List Expr} {fa fb fc : Rho → Res D} {pos p apos : Pos} {x : Str}
theorem ix_leaf {F H : Hp} {σ : L2.St} {Q : VK} (s : Same F H) : ∀ (d d2 : D) {x y : V}, Rep X.K F d x → Rep X.K F d2 y → Post X W (dIx d d2) F H σ (fun d F' H' => ∀ z, Rep X.K F' d z → Q z H') → rIx X.K x y H Q
  | .tup ds, .int i, x, y, rx, ry, q => by
    unfold Rep at rx ry
    obtain ⟨a, xs, rfl, ha, r⟩ := rx
    have q2 : Post X W (dAt ds i) F H σ (fun d F' H' => ∀ z, Rep X.K F' d z → Q z H') := q
    unfold dAt at q2
    cases e : atI ds i with
    | none => rw [e] at q2; exact q2.elim
    | some d =>
      rw [e] at q2
      obtain ⟨z, h1, h2⟩ := r.at e
      exact .inr (.inl ⟨a, xs, i, z, rfl, ry, .of (s _ _ ha), h1, Post.at s q2 _ h2⟩)
  | .lst ds, .int i, x, y, rx, ry, q => by
    unfold Rep at rx ry
    obtain ⟨a, xs, rfl, ha, r⟩ := rx
    have q2 : Post X W (dAt ds i) F H σ (fun d F' H' => ∀ z, Rep X.K F' d z → Q z H') := q
    unfold dAt at q2
    cases e : atI ds i with
    | none => rw [e] at q2; exact q2.elim
    | some d =>
      rw [e] at q2
      obtain ⟨z, h1, h2⟩ := r.at e
      exact .inl ⟨a, xs, i, z, rfl, ry, .of (s _ _ ha), h1, Post.at s q2 _ h2⟩
  | .scr ns, .int i, x, y, rx, ry, q => by
    unfold Rep at rx ry
    obtain ⟨a, rfl, ha⟩ := rx
    unfold dIx at q
    simp only at q
    cases e : atI ns i with
    | none => rw [e] at q; exact q.elim
    | some n =>
      rw [e] at q
      exact .inl ⟨a, _, i, .int n, rfl, ry, s.seq ha, atI_map V.int e, Post.at s q _ (by unfold Rep; rfl)⟩
  | .non, _, _, _, _, _, q => (show False from q).elim
  | .bl _, _, _, _, _, _, q => (show False from q).elim
  | .int _, _, _, _, _, _, q => (show False from q).elim
  | .str _, _, _, _, _, _, q => (show False from q).elim
  | .tup _, .non, _, _, _, _, q => (show False from q).elim
  | .tup _, .bl _, _, _, _, _, q => (show False from q).elim
  | .tup _, .str _, _, _, _, _, q => (show False from q).elim
  | .tup _, .tup _, _, _, _, _, q => (show False from q).elim
  | .tup _, .lst _, _, _, _, _, q => (show False from q).elim
  | .tup _, .scr _, _, _, _, _, q => (show False from q).elim
  | .lst _, .non, _, _, _, _, q => (show False from q).elim
  | .lst _, .bl _, _, _, _, _, q => (show False from q).elim
  | .lst _, .str _, _, _, _, _, q => (show False from q).elim
  | .lst _, .tup _, _, _, _, _, q => (show False from q).elim
  | .lst _, .lst _, _, _, _, _, q => (show False from q).elim
  | .lst _, .scr _, _, _, _, _, q => (show False from q).elim
  | .scr _, .non, _, _, _, _, q => (show False from q).elim
  | .scr _, .bl _, _, _, _, _, q => (show False from q).elim
  | .scr _, .str _, _, _, _, _, q => (show False from q).elim
  | .scr _, .tup _, _, _, _, _, q => (show False from q).elim
  | .scr _, .lst _, _, _, _, _, q => (show False from q).elim
  | .scr _, .scr _, _, _, _, _, q => (show False from q).elim
theorem pp_ix (ha : PPE X W a fa) (hb : PPE X W b fb) (hs : PlainIx b := by intro _ _; rfl) : PPE X W (.Subscript a b pos) (eOp dIx fa fb) :=
  ⟨(pe_ix ix_seq ha.pe hb.pe hs).imp fun σ H Q ⟨H0, ρ, F, s, k, q⟩ => tP_in s k (Post.bind q |>.mono fun d F1 H1 _ e1 q1 e2 x rx =>
    tP_in e2.s (k.ext e2) (Post.bind q1 |>.mono fun d2 F2 H2 _ e3 q2 e4 y ry => ix_leaf e4.s d d2 (rx.mono e4.f) ry q2))⟩
def rNone (_ : Rho) : Res (Option Int) := .ok none
def toI : D → Res (Option Int)
  | .int i => .ok (some i)
  | _ => .stk
def rSome (f : Rho → Res D) (ρ : Rho) : Res (Option Int) := (f ρ).bind toI
def dCut (lo hi : Option Int) : D → Res (List D)
  | .lst ds => .ok (cutD ds lo hi)
  | _ => .stk
def oSl (fa : Rho → Res D) (fl fh : Rho → Res (Option Int)) (ρ : Rho) : Res (List D) := (fa ρ).bind fun d => (fl ρ).bind fun lo => (fh ρ).bind fun hi => dCut lo hi d
def tPO' (X : Cx) (W : WX) (f : Rho → Res (Option Int)) : TO := fun σ H Q => ∃ H0 ρ F, Same F H ∧ SOk X.K H0 F H ρ σ ∧ Post X W (f ρ) F H σ fun i _ H' => Q i H'
structure PPart (X : Cx) (W : WX) (e : Option Expr) (f : Rho → Res (Option Int)) : Prop where
  po : PO X e (tPO' X W f)
theorem _root_.L2.PO.imp {X : Cx} {e : Option Expr} {t t' : TO} (h : PO X e t) (m : ∀ σ H Q, t' σ H Q → t σ H Q) : PO X e t' := ⟨fun pins s σ H Q I q => h.run pins s σ H Q I (m _ _ _ q)⟩
theorem pn_none : PPart X W none rNone := ⟨po_none.imp fun σ H Q ⟨H0, ρ, F, s, k, q⟩ => Post.at s q⟩
theorem pn_some (h : PPE X W e fa) : PPart X W (some e) (rSome fa) := ⟨(po_some h.pe).imp fun σ H Q ⟨H0, ρ, F, s, k, q⟩ => tP_in s k (Post.bind q |>.mono fun d F1 H1 _ e1 q1 e2 x rx => by
  cases d <;> first | exact (show False from q1).elim | skip
  unfold Rep at rx
  exact ⟨_, rx, Post.at e2.s q1⟩)⟩
theorem po_slice {lo hi : Option Expr} {fl fh : Rho → Res (Option Int)} {p2 : Pos} (ha : PPE X W a fa) (hl : PPart X W lo fl) (hh : PPart X W hi fh) : PPO X W (.Subscript a (.Slice lo hi none p2) pos) (oSl fa fl fh) :=
  ⟨(pe_slice sl_list ha.pe hl.po hh.po).imp fun σ H Q ⟨H0, ρ, F, s, k, q⟩ => tP_in s k (Post.bind q |>.mono fun d F1 H1 _ e1 q1 e2 x rx =>
    ⟨H0, ρ, F1, e2.s, k.ext e2, Post.bind q1 |>.mono fun lo F2 H2 _ e3 q2 => ⟨H0, ρ, F2, e3.s, (k.ext e2).ext e3, Post.bind q2 |>.mono fun hi F3 H3 _ e4 q3 => by
      cases d <;> first | exact (show False from q3).elim | skip
      have rx := (rx.mono e3.f).mono e4.f
      unfold Rep at rx
      obtain ⟨a, xs, rfl, ha, r⟩ := rx
      refine ⟨a, xs, rfl, .of (e4.s _ _ ha), fun l nl => q3 F3 _ (Ext.grow e4.s (same_upd nl)) l _ (e4.s.free nl) (((e2.trans e3).trans e4).h.free nl) upd_same (r.cut lo hi)⟩⟩⟩)⟩
theorem pp_b1 {id : String} {g : D → Res D} (c : Call1 X W (.builtin id) g) (hm : X.mg x = none) (ha : PPE X W a fa) (hg : Gl X x := by rfl) (hv : bootBuiltins x = some (.builtin id) := by decide +kernel) (hn : x ≠ "__name__" := by decide) (hdb : (x == ("__debug__" : Str)) = false := by decide)
    (he : starEach (a :: []) X.env = (false, eval a X.env) :: starEach [] X.env := by rfl) (hpl : (backTo pos (starEach [] X.env)).any (·.1) = false := by rfl) : PPE X W (.Call (.Name x p) [a] [] pos) (eUn g fa) := by
  obtain ⟨r, hc, hr⟩ := c
  exact ⟨(pe_callB hc hg hm hv (pa_cons ha.pe pa_nil he) hn hdb he hpl).imp fun σ H Q ⟨H0, ρ, F, s, k, q⟩ => tP_in s k (Post.bind q |>.mono fun d F1 H1 _ e1 q1 e2 x rx => hr F1 H1 σ d x Q e2.s rx q1)⟩
theorem pp_t1 {T : String} {g : D → Res D} (c : Call1 X W (.type T) g) (hm : X.mg x = none) (ha : PPE X W a fa) (hg : Gl X x := by rfl) (hv : bootBuiltins x = some (.type T) := by decide +kernel) (hn : x ≠ "__name__" := by decide) (hdb : (x == ("__debug__" : Str)) = false := by decide)
    (he : starEach (a :: []) X.env = (false, eval a X.env) :: starEach [] X.env := by rfl) (hpl : (backTo pos (starEach [] X.env)).any (·.1) = false := by rfl) : PPE X W (.Call (.Name x p) [a] [] pos) (eUn g fa) := by
  obtain ⟨r, hc, hr⟩ := c
  exact ⟨(pe_callTy hc hg hm hv (pa_cons ha.pe pa_nil he) hn hdb he hpl).imp fun σ H Q ⟨H0, ρ, F, s, k, q⟩ => tP_in s k (Post.bind q |>.mono fun d F1 H1 _ e1 q1 e2 x rx => hr F1 H1 σ d x Q e2.s rx q1)⟩
def oUn (g : D → Res (List D)) (fa : Rho → Res D) (ρ : Rho) : Res (List D) := (fa ρ).bind g
theorem po_t1 {T : String} {g : D → Res (List D)} (c : CallO X W (.type T) g) (hm : X.mg x = none) (ha : PPE X W a fa) (hg : Gl X x := by rfl) (hv : bootBuiltins x = some (.type T) := by decide +kernel) (hn : x ≠ "__name__" := by decide) (hdb : (x == ("__debug__" : Str)) = false := by decide)
    (he : starEach (a :: []) X.env = (false, eval a X.env) :: starEach [] X.env := by rfl) (hpl : (backTo pos (starEach [] X.env)).any (·.1) = false := by rfl) : PPO X W (.Call (.Name x p) [a] [] pos) (oUn g fa) := by
  obtain ⟨r, hc, hr⟩ := c
  exact ⟨(pe_callTy hc hg hm hv (pa_cons ha.pe pa_nil he) hn hdb he hpl).imp fun σ H Q ⟨H0, ρ, F, s, k, q⟩ => tP_in s k (Post.bind q |>.mono fun d F1 H1 _ e1 q1 e2 x rx =>
    hr F1 H1 σ d x Q e2.s rx (q1.mono fun ds F2 H2 _ e3 q2 p xs f1 f2 f3 rr => q2 p xs f1 (e2.h.free f2) f3 rr))⟩
theorem pp_b2 {id : String} {g : D → D → Res D} (c : Call2 X W (.builtin id) g) (hm : X.mg x = none) (ha : PPE X W a fa) (hb : PPE X W b fb) (hg : Gl X x := by rfl) (hv : bootBuiltins x = some (.builtin id) := by decide +kernel) (hn : x ≠ "__name__" := by decide) (hdb : (x == ("__debug__" : Str)) = false := by decide)
    (he : starEach (a :: [b]) X.env = (false, eval a X.env) :: starEach [b] X.env := by rfl) (he2 : starEach (b :: []) X.env = (false, eval b X.env) :: starEach [] X.env := by rfl) (hpl : (backTo pos (starEach [b] X.env)).any (·.1) = false := by rfl) : PPE X W (.Call (.Name x p) [a, b] [] pos) (eOp g fa fb) := by
  obtain ⟨r, hc, hr⟩ := c
  exact ⟨(pe_callB hc hg hm hv (pa_cons ha.pe (pa_cons hb.pe pa_nil he2) he) hn hdb he hpl).imp fun σ H Q ⟨H0, ρ, F, s, k, q⟩ => tP_in s k (Post.bind q |>.mono fun d F1 H1 _ e1 q1 e2 x rx =>
    tP_in e2.s (k.ext e2) (Post.bind q1 |>.mono fun d2 F2 H2 _ e3 q2 e4 y ry => hr F2 H2 σ d d2 x y Q e4.s (rx.mono e4.f) ry q2))⟩
theorem tyX_of {F H : Hp} {d : D} {v : V} (s : Same F H) (r : Rep X.K F d v) : TyX X.K H v (.type (tyN d)) := by
  cases d <;> unfold Rep at r
  · subst r; exact .base .non
  · subst r; exact .base (.bl _)
  · subst r; exact .base (.int _)
  · subst r; exact .base (.str _)
  · obtain ⟨a, xs, rfl, ha, _⟩ := r; exact .base (.tup (s _ _ ha))
  · obtain ⟨a, xs, rfl, ha, _⟩ := r; exact .base (.lst (s _ _ ha))
  · obtain ⟨a, rfl, ha⟩ := r
    rcases s.seq ha with (h | ⟨o, h⟩) | ⟨o, its, n, h1, h2, _⟩
    · exact .base (.lst h)
    · exact .base (.frz h)
    · exact .kList h1 h2
theorem pp_isi (T : Ty) {y : Str} {p2 : Pos} (hm : X.mg "isinstance" = none) (hm2 : X.mg y = none) (ha : PPE X W a fa) (hv2 : bootBuiltins y = some (.type T.nm) := by decide +kernel) (hg : Gl X "isinstance" := by rfl) (hg2 : Gl X y := by rfl)
    (hn2 : y ≠ "__name__" := by decide) (hd2 : (y == ("__debug__" : Str)) = false := by decide)
    (he : starEach (a :: [.Name y p2]) X.env = (false, eval a X.env) :: starEach [.Name y p2] X.env := by rfl) : PPE X W (.Call (.Name "isinstance" p) [a, .Name y p2] [] pos) (eUn (dIsi T) fa) :=
  ⟨(pe_callB (call_isi (X := X)) hg hm (by decide +kernel) (pa_cons ha.pe (pa_cons (pe_bltn (v := .ty T.nm) hg2 hm2 hv2 rfl hn2 hd2) pa_nil rfl) he) (by decide) (by decide) he rfl).imp fun σ H Q ⟨H0, ρ, F, s, k, q⟩ =>
    tP_in s k (Post.bind q |>.mono fun d F1 H1 _ e1 q1 e2 x rx => ⟨x, .ty T.nm, _, _, _, rfl, .ty _, tyX_of e2.s rx, kit_ty (kit_isTy T d), Post.at e2.s q1 _ (by unfold Rep; rfl)⟩)⟩

/-- a def's promise: it is worth φ -/
def spP (K : Fr) (mg : Str → Option Value) (n : Nat) (φ : List D → Res D) : Sp := fun vs H Q E => ∃ F ds, Same F H ∧ Reps K F ds vs ∧ vs.length = n ∧ match φ ds with
  | .ok d => ∀ x F' H', Ext F H F' H' → Rep K F' d x → Q x H'
  | .exc c => ∀ A H', mg (Str.ofString c) = some (.ref A) → Same H H' → E (.ref A) none H'
  | .stk => False
/-- the def named x is worth φ, called with room k -/
structure Cal (P : Program) (w : World) (K : Fr) (mg : Str → Option Value) (base : Heap) (k : Nat) (x : Str) (n : Nat) (φ : List D → Res D) : Prop where
  ex : ∃ (f : Addr) (fd : FuncData) (ps : List Str), FnOk P w K mg base (L2.CX P w) k f fd ps (spP K mg n φ) ∧ mg x = some (.ref f) ∧ PySem.W.keepIn K (.ref f) = true ∧ Binds K fd ps []
theorem pp_call {k n : Nat} {φ : List D → Res D} {fl : Rho → Res (List D)} (c : Cal X.prog X.w X.K X.mg X.base k x n φ) (hr : Room k X.A) (tk : Takes X W) (hargs : PPA X W (e :: es) fl)
    (hn : ∀ ρ ds, fl ρ = .ok ds → ds.length = n) (hg : Gl X x := by rfl) (hdb : (x == ("__debug__" : Str)) = false := by decide)
    (he : starEach (e :: es) X.env = (false, eval e X.env) :: starEach es X.env := by rfl) (hpl : (backTo pos (starEach es X.env)).any (·.1) = false := by rfl) : PPE X W (.Call (.Name x p) (e :: es) [] pos) (eCall φ fl) := by
  obtain ⟨f, fd, ps, G, hm, hk, hb⟩ := c.ex
  refine ⟨(pe_callS (E := fun σ => WE W σ) G hr hg hm hk hb (fun σ => passAt tk σ) hargs.pa hdb he hpl).imp fun σ H Q ⟨H0, ρ, F, s, k, q⟩ => ?_⟩
  refine tPA_in s k (Post.bind q |>.mono fun ds F1 H1 eds e1 q1 e2 xs rx => ?_)
  refine ⟨F1, ds, e2.s, rx, ?_, ?_⟩
  · rw [← rx.length]; exact hn ρ ds eds
  · cases e : φ ds with
    | ok d => rw [e] at q1; exact fun x F' H' ex r => q1 F' H' ex x r
    | exc c => rw [e] at q1; exact q1
    | stk => rw [e] at q1; exact q1
end
end Pu

namespace Pu
open PySem PySem.Spec PyProof.Rows L2

inductive SRes where
  | nx (ρ : Rho) | rt (d : D) | exc (c : String) (ρ : Rho) | stk
def sBind {α : Type} (r : Res α) (ρ : Rho) (k : α → SRes) : SRes := match r with
  | .ok a => k a
  | .exc c => .exc c ρ
  | .stk => .stk
@[simp] theorem sBind_ok {α : Type} (a : α) (ρ : Rho) (k : α → SRes) : sBind (.ok a) ρ k = k a := rfl
@[simp] theorem sBind_exc {α : Type} (c : String) (ρ : Rho) (k : α → SRes) : sBind (.exc c : Res α) ρ k = .exc c ρ := rfl
@[simp] theorem sBind_stk {α : Type} (ρ : Rho) (k : α → SRes) : sBind (.stk : Res α) ρ k = .stk := rfl
/-- and then -/
def SRes.thn (r : SRes) (k : Rho → SRes) : SRes := match r with
  | .nx ρ => k ρ
  | .rt d => .rt d
  | .exc c ρ => .exc c ρ
  | .stk => .stk
@[simp] theorem SRes.thn_nx (ρ : Rho) (k : Rho → SRes) : (SRes.nx ρ).thn k = k ρ := rfl
@[simp] theorem SRes.thn_rt (d : D) (k : Rho → SRes) : (SRes.rt d).thn k = .rt d := rfl
@[simp] theorem SRes.thn_exc (c : String) (ρ : Rho) (k : Rho → SRes) : (SRes.exc c ρ).thn k = .exc c ρ := rfl
@[simp] theorem SRes.thn_stk (k : Rho → SRes) : (SRes.stk).thn k = .stk := rfl

section
variable {K : Fr} {H0 F H : Hp} {ρ : Rho} {σ : L2.St}
theorem set_get {α : Type} {l : List α} {i j : Nat} {a b : α} (h : (l.set i a)[j]? = some b) : (j = i ∧ b = a ∧ i < l.length) ∨ (j ≠ i ∧ l[j]? = some b) := by
  by_cases e : j = i
  · subst e
    by_cases hl : j < l.length
    · rw [List.getElem?_set_self hl] at h; exact .inl ⟨rfl, (Option.some.inj h).symm, hl⟩
    · rw [List.getElem?_eq_none (by simpa using hl)] at h; cases h
  · rw [List.getElem?_set_ne (Ne.symm e)] at h; exact .inr ⟨e, h⟩
theorem SOk.set (k : SOk K H0 F H ρ σ) (i : Nat) {d : D} {x : V} (r : Rep K F d x) : SOk K H0 F H (ρ.set i (.v d)) (σ.set i (some x)) where
  len := by rw [List.length_set, List.length_set]; exact k.len
  get := fun j e h => by
    rcases set_get h with ⟨rfl, e2, hl⟩ | ⟨hne, h⟩
    · cases e2
      exact ⟨x, List.getElem?_set_self (by rw [← k.len]; exact hl), r⟩
    · obtain ⟨y, a, b⟩ := k.get j e h
      exact ⟨y, by rw [List.getElem?_set_ne (Ne.symm hne)]; exact a, b⟩
  own := fun j ds h => by
    rcases set_get h with ⟨rfl, e2, hl⟩ | ⟨hne, h⟩
    · cases e2
    · obtain ⟨p, xs, a, b⟩ := k.own j ds h
      exact ⟨p, xs, by rw [List.getElem?_set_ne (Ne.symm hne)]; exact a, b⟩
  dis := fun a b p ds es hab h1 h2 h3 h4 => by
    rcases set_get h1 with ⟨rfl, e2, hl⟩ | ⟨ha, h1⟩
    · cases e2
    · rcases set_get h2 with ⟨rfl, e2, hl⟩ | ⟨hb, h2⟩
      · cases e2
      · rw [List.getElem?_set_ne (Ne.symm ha)] at h3
        rw [List.getElem?_set_ne (Ne.symm hb)] at h4
        exact k.dis a b p ds es hab h1 h2 h3 h4
/-- a slot that is forgotten -/
theorem SOk.un (k : SOk K H0 F H ρ σ) (i : Nat) (x : Option V) : SOk K H0 F H (ρ.set i .un) (σ.set i x) where
  len := by rw [List.length_set, List.length_set]; exact k.len
  get := fun j e h => by
    rcases set_get h with ⟨rfl, e2, hl⟩ | ⟨hne, h⟩
    · cases e2
    · obtain ⟨y, a, b⟩ := k.get j e h
      exact ⟨y, by rw [List.getElem?_set_ne (Ne.symm hne)]; exact a, b⟩
  own := fun j ds h => by
    rcases set_get h with ⟨rfl, e2, hl⟩ | ⟨hne, h⟩
    · cases e2
    · obtain ⟨p, xs, a, b⟩ := k.own j ds h
      exact ⟨p, xs, by rw [List.getElem?_set_ne (Ne.symm hne)]; exact a, b⟩
  dis := fun a b p ds es hab h1 h2 h3 h4 => by
    rcases set_get h1 with ⟨rfl, e2, hl⟩ | ⟨ha, h1⟩
    · cases e2
    · rcases set_get h2 with ⟨rfl, e2, hl⟩ | ⟨hb, h2⟩
      · cases e2
      · rw [List.getElem?_set_ne (Ne.symm ha)] at h3
        rw [List.getElem?_set_ne (Ne.symm hb)] at h4
        exact k.dis a b p ds es hab h1 h2 h3 h4
/-- a new own list -/
theorem SOk.setO (k : SOk K H0 F H ρ σ) (i : Nat) {ds : List D} {p : Addr} {xs : List V} (fp : F p = none) (h0 : H0 p = none) (hp : H p = some (.lst xs)) (r : Reps K F ds xs)
    (new : ∀ j es q, j ≠ i → ρ[j]? = some (.o es) → σ[j]? = some (some (.ref q)) → q ≠ p) : SOk K H0 F H (ρ.set i (.o ds)) (σ.set i (some (.ref p))) where
  len := by rw [List.length_set, List.length_set]; exact k.len
  get := fun j e h => by
    rcases set_get h with ⟨rfl, e2, hl⟩ | ⟨hne, h⟩
    · cases e2
    · obtain ⟨y, a, b⟩ := k.get j e h
      exact ⟨y, by rw [List.getElem?_set_ne (Ne.symm hne)]; exact a, b⟩
  own := fun j es h => by
    rcases set_get h with ⟨rfl, e2, hl⟩ | ⟨hne, h⟩
    · cases e2
      exact ⟨p, xs, List.getElem?_set_self (by rw [← k.len]; exact hl), fp, h0, hp, r⟩
    · obtain ⟨q, ys, a, b⟩ := k.own j es h
      exact ⟨q, ys, by rw [List.getElem?_set_ne (Ne.symm hne)]; exact a, b⟩
  dis := fun a b q ds es hab h1 h2 h3 h4 => by
    have at_i : ∀ {l : Nat}, l < ρ.length → (σ.set l (some (V.ref p)))[l]? = some (some (.ref p)) := fun hl => List.getElem?_set_self (by rw [← k.len]; exact hl)
    rcases set_get h1 with ⟨rfl, e2, hl⟩ | ⟨ha, g1⟩
    · rw [at_i hl] at h3
      cases h3
      rcases set_get h2 with ⟨rfl, _, _⟩ | ⟨hb, g2⟩
      · exact hab rfl
      · rw [List.getElem?_set_ne (Ne.symm hb)] at h4
        exact new b es _ hb g2 h4 rfl
    · rw [List.getElem?_set_ne (Ne.symm ha)] at h3
      rcases set_get h2 with ⟨rfl, _, hl⟩ | ⟨hb, g2⟩
      · rw [at_i hl] at h4
        cases h4
        exact new a ds _ ha g1 h3 rfl
      · rw [List.getElem?_set_ne (Ne.symm hb)] at h4
        exact k.dis a b q ds es hab g1 g2 h3 h4
/-- the own list at slot i is changed in its place -/
theorem SOk.change (k : SOk K H0 F H ρ σ) (i : Nat) {ds es : List D} {p : Addr} {ys : List V} (hi : ρ[i]? = some (.o ds)) (hp : σ[i]? = some (some (.ref p))) (r : Reps K F es ys) : SOk K H0 F (upd H p (.lst ys)) (ρ.set i (.o es)) σ where
  len := by rw [List.length_set]; exact k.len
  get := fun j e h => by
    rcases set_get h with ⟨rfl, e2, hl⟩ | ⟨hne, h⟩
    · cases e2
    · exact k.get j e h
  own := fun j fs h => by
    rcases set_get h with ⟨rfl, e2, hl⟩ | ⟨hne, h⟩
    · cases e2
      obtain ⟨q, zs, a, b, c, d, e⟩ := k.own j ds hi
      rw [a] at hp
      cases hp
      exact ⟨p, ys, a, b, c, upd_same, r⟩
    · obtain ⟨q, zs, a, b, c, d, e⟩ := k.own j fs h
      refine ⟨q, zs, a, b, c, ?_, e⟩
      rw [upd_ne (fun z => by subst z; exact k.dis j i q fs ds hne h hi a hp)]
      exact d
  dis := fun a b q fs gs hab h1 h2 h3 h4 => by
    have old : ∀ {l : Nat} {hs : List D}, (ρ.set i (.o es))[l]? = some (.o hs) → ∃ hs', ρ[l]? = some (.o hs') := fun {l hs} h => by
      rcases set_get h with ⟨rfl, _, _⟩ | ⟨_, h⟩
      · exact ⟨_, hi⟩
      · exact ⟨_, h⟩
    obtain ⟨_, h1⟩ := old h1
    obtain ⟨_, h2⟩ := old h2
    exact k.dis a b q _ _ hab h1 h2 h3 h4
/-- an own list is given to all -/
theorem SOk.freeze (k : SOk K H0 F H ρ σ) (i : Nat) {ds : List D} {p : Addr} {xs : List V} (hi : ρ[i]? = some (.o ds)) (hp : σ[i]? = some (some (.ref p))) (fp : F p = none) (hx : H p = some (.lst xs)) (r : Reps K F ds xs) :
    SOk K H0 (upd F p (.lst xs)) H (ρ.set i (.v (.lst ds))) σ where
  len := by rw [List.length_set]; exact k.len
  get := fun j e h => by
    rcases set_get h with ⟨rfl, e2, hl⟩ | ⟨hne, h⟩
    · cases e2
      refine ⟨_, hp, ?_⟩
      unfold Rep
      exact ⟨p, xs, rfl, upd_same, r.mono (same_upd fp)⟩
    · obtain ⟨y, a, b⟩ := k.get j e h
      exact ⟨y, a, b.mono (same_upd fp)⟩
  own := fun j fs h => by
    rcases set_get h with ⟨rfl, e2, hl⟩ | ⟨hne, h⟩
    · cases e2
    · obtain ⟨q, zs, a, b, c, d, e⟩ := k.own j fs h
      refine ⟨q, zs, a, ?_, c, d, e.mono (same_upd fp)⟩
      rw [upd_ne (fun z => by subst z; exact k.dis j i q fs ds hne h hi a hp)]
      exact b
  dis := fun a b q fs gs hab h1 h2 h3 h4 => by
    rcases set_get h1 with ⟨rfl, e2, hl⟩ | ⟨ha, h1⟩
    · cases e2
    · rcases set_get h2 with ⟨rfl, e2, hl⟩ | ⟨hb, h2⟩
      · cases e2
      · exact k.dis a b q _ _ hab h1 h2 h3 h4
end

section
variable (X : Cx) (W : WX) (F0 H0 : Hp)
def PostS (r : SRes) (F : Hp) (D : Ends) : Prop := match r with
  | .nx ρ' => ∀ σ' F' H', Ext F0 H0 F' H' → Same F F' → SOk X.K H0 F' H' ρ' σ' → D.nx σ' H'
  | .rt d => ∀ x F' H', Ext F0 H0 F' H' → Rep X.K F' d x → D.rt x H'
  | .exc c ρ' => ∀ A σ' F' H', X.mg (Str.ofString c) = some (.ref A) → Ext F0 H0 F' H' → Same F F' → SOk X.K H0 F' H' ρ' σ' → W (.ref A) none σ' H'
  | .stk => False
def tPS (g : Rho → SRes) : TS := fun D σ H => ∃ ρ F, Ext F0 H0 F H ∧ SOk X.K H0 F H ρ σ ∧ PostS X W F0 H0 (g ρ) F D
structure PPS (st : Stmt) (g : Rho → SRes) : Prop where
  ps : ∀ F0 H0, PS X st (tPS X W F0 H0 g)
structure PPSs (st : List Stmt) (g : Rho → SRes) : Prop where
  ps : ∀ F0 H0, PSs X st (tPS X W F0 H0 g)
end
section
variable {X : Cx} {W : WX} {F0 H0 F F1 H : Hp} {D : Ends} {ρ : Rho} {σ : L2.St}
theorem PostS.mono {r : SRes} (h : PostS X W F0 H0 r F D) (s : Same F F1) : PostS X W F0 H0 r F1 D := by
  cases r with
  | nx ρ => exact fun σ' F' H' e t k => h σ' F' H' e (s.trans t) k
  | rt d => exact h
  | exc c ρ => exact fun A σ' F' H' m e t k => h A σ' F' H' m e (s.trans t) k
  | stk => exact h
theorem PostS.thn {r : SRes} {k : Rho → SRes} (h : PostS X W F0 H0 (r.thn k) F D) (e : Ends) (hr : e.rt = D.rt) (hn : ∀ ρ', r = .nx ρ' → ∀ σ' F' H', Ext F0 H0 F' H' → Same F F' → SOk X.K H0 F' H' ρ' σ' → PostS X W F0 H0 (k ρ') F' D → e.nx σ' H') : PostS X W F0 H0 r F e := by
  cases r with
  | nx ρ => exact fun σ' F' H' e t k' => hn ρ rfl σ' F' H' e t k' (PostS.mono (r := k ρ) h t)
  | rt d => intro x F' H' e r; rw [hr]; exact h x F' H' e r
  | exc c ρ => exact h
  | stk => exact h
/-- from a statement's end to its expression -/
theorem PostS.in {α : Type} {r : Res α} {k : α → SRes} (q : PostS X W F0 H0 (sBind r ρ k) F D) (e0 : Ext F0 H0 F H) (ok : SOk X.K H0 F H ρ σ) :
    Post X W r F H σ fun a F1 H1 => PostS X W F0 H0 (k a) F1 D ∧ Ext F0 H0 F1 H1 ∧ SOk X.K H0 F1 H1 ρ σ ∧ Ext F H F1 H1 := by
  cases r with
  | ok a => exact fun F' H' e => ⟨PostS.mono (r := k a) q e.f, e0.trans e, ok.ext e, e⟩
  | exc c => exact fun A H' m s => q A σ F H' m (e0.trans (Ext.grow e0.s s)) (Same.refl F) (ok.ext (Ext.grow e0.s s))
  | stk => exact q
theorem PostS.at {ρ' : Rho} {σ' : L2.St} {H' : Hp} (q : PostS X W F0 H0 (.nx ρ') F D) (e : Ext F0 H0 F H') (k : SOk X.K H0 F H' ρ' σ') : D.nx σ' H' := q σ' F H' e (Same.refl F) k

def gNx (ρ : Rho) : SRes := .nx ρ
def gSeq (g h : Rho → SRes) (ρ : Rho) : SRes := (g ρ).thn h
def gSet (i : Nat) (f : Rho → Res _root_.Pu.D) (ρ : Rho) : SRes := sBind (f ρ) ρ fun d => .nx (ρ.set i (.v d))
def gSetO (i : Nat) (f : Rho → Res (List _root_.Pu.D)) (ρ : Rho) : SRes := sBind (f ρ) ρ fun ds => .nx (ρ.set i (.o ds))
def ownAt (i : Nat) (ρ : Rho) : Res (List _root_.Pu.D) := match ρ[i]? with
  | some (.o ds) => .ok ds
  | _ => .stk
def gApp (i : Nat) (f : Rho → Res _root_.Pu.D) (ρ : Rho) : SRes := sBind (ownAt i ρ) ρ fun ds => sBind (f ρ) ρ fun d => if fits (ds.length + 1) then .nx (ρ.set i (.o (ds ++ [d]))) else .stk
def gRev (i : Nat) (ρ : Rho) : SRes := sBind (ownAt i ρ) ρ fun ds => .nx (ρ.set i (.o ds.reverse))
def gPut (i : Nat) (f fe : Rho → Res _root_.Pu.D) (ρ : Rho) : SRes := sBind (ownAt i ρ) ρ fun ds => sBind (fe ρ) ρ fun d => sBind (f ρ) ρ fun k => match k with
  | .int k => match ixN ds.length k with
    | some j => .nx (ρ.set i (.o (ds.set j d)))
    | none => .stk
  | _ => .stk
def frz (i : Nat) (ρ : Rho) : Rho := match ρ[i]? with
  | some (.o ds) => ρ.set i (.v (.lst ds))
  | _ => ρ
def gFrz (i : Nat) (g : Rho → SRes) (ρ : Rho) : SRes := g (frz i ρ)
def gRet (f : Rho → Res _root_.Pu.D) (ρ : Rho) : SRes := sBind (f ρ) ρ fun d => .rt d
def gExpr (f : Rho → Res _root_.Pu.D) (ρ : Rho) : SRes := sBind (f ρ) ρ fun _ => .nx ρ
def gIf (c : Rho → Res Bool) (g h : Rho → SRes) (ρ : Rho) : SRes := sBind (c ρ) ρ fun b => if b then g ρ else h ρ
def gExc (c : String) (ρ : Rho) : SRes := .exc c ρ
def forL {α : Type} (b : α → Rho → SRes) : List α → Rho → SRes
  | [], ρ => .nx ρ
  | d :: r, ρ => (b d ρ).thn (forL b r)
def asL : _root_.Pu.D → Res (List _root_.Pu.D)
  | .lst ds => .ok ds
  | _ => .stk
def rngOk (i : Int) : Bool := Nat.ble i.natAbs 4611686018427387903
theorem rngOk_is {i : Int} (h : rngOk i = true) : -(2 ^ 62) ≤ i ∧ i < 2 ^ 62 := by
  unfold rngOk at h
  rw [Nat.ble_eq] at h
  exact ⟨by omega, by omega⟩
def asN : _root_.Pu.D → Res Nat
  | .int i => if rngOk i then .ok i.toNat else .stk
  | _ => .stk
def gFor (i : Nat) (f : Rho → Res _root_.Pu.D) (g : Rho → SRes) (ρ : Rho) : SRes := sBind ((f ρ).bind asL) ρ fun ds => forL (fun d ρ => g (ρ.set i (.v d))) ds ρ
def gForR (i : Nat) (f : Rho → Res _root_.Pu.D) (g : Rho → SRes) (ρ : Rho) : SRes := sBind ((f ρ).bind asN) ρ fun n => forL (fun k ρ => g (ρ.set i (.v (.int (k : Nat))))) (List.range n) ρ
def gForZ (i j : Nat) (f f2 : Rho → Res _root_.Pu.D) (g : Rho → SRes) (ρ : Rho) : SRes := sBind ((f ρ).bind asL) ρ fun ds => sBind ((f2 ρ).bind asL) ρ fun es =>
  if ds.length = es.length then forL (fun p ρ => g ((ρ.set i (.v p.1)).set j (.v p.2))) (ds.zip es) ρ else .stk
def whl (c : Rho → Res Bool) (g : Rho → SRes) : Nat → Rho → SRes
  | 0, _ => .stk
  | n + 1, ρ => sBind (c ρ) ρ fun b => if b then (g ρ).thn (whl c g n) else .nx ρ
def gWhile (n : Nat) (c : Rho → Res Bool) (g : Rho → SRes) (ρ : Rho) : SRes := whl c g n ρ
end
section
variable {X : Cx} {W : WX} {e a b : Expr} {f fe f2 : Rho → Res D} {fl : Rho → Res (List D)} {g h : Rho → SRes} {st : Stmt} {rest body : List Stmt} {pos pos' : Pos} {x : Str} {i : Nat}
theorem pss_nilP : PPSs X W [] gNx := ⟨fun F0 H0 => pss_nil.imp fun D σ H ⟨ρ, F, e0, k, q⟩ => PostS.at q e0 k⟩
theorem pss_consP (h1 : PPS X W st g) (h2 : PPSs X W rest h) : PPSs X W (st :: rest) (gSeq g h) :=
  ⟨fun F0 H0 => (pss_cons (h1.ps F0 H0) (h2.ps F0 H0)).imp fun D σ H ⟨ρ, F, e0, k, q⟩ => ⟨ρ, F, e0, k, PostS.thn q _ rfl fun ρ' _ σ' F' H' e t k' q' => ⟨ρ', F', e, k', q'⟩⟩⟩
theorem pss_oneP (h1 : PPS X W st g) : PPSs X W [st] g := ⟨fun F0 H0 => pss_one (h1.ps F0 H0)⟩
theorem ps_setP (i : Nat) (he : PPE X W e f) (hN : X.N.Nodup) (hi : X.N[i]? = some x := by rfl) (hx : Loc X.env.scope x := by first | exact Or.inl rfl | exact Or.inr rfl) (hs : swapsWith e (some (.Name x pos')) pos.line X.env = pure false := by rfl)
    (hf : X.fn x = true ∨ X.env.scope.names.lookup x = some .local := by first | exact .inl rfl | exact .inr rfl) : PPS X W (.Assign [.Name x pos'] e pos) (gSet i f) :=
  ⟨fun F0 H0 => (ps_set (i := i) hN hi hx he.pe hs hf).imp fun D σ H ⟨ρ, F, e0, k, q⟩ => ⟨H0, ρ, F, e0.s, k, (PostS.in q e0 k).mono fun d F1 H1 _ _ ⟨q1, e1, k1, _⟩ y ry => PostS.at q1 e1 (k1.set i ry)⟩⟩
theorem ps_setOP (i : Nat) (he : PPO X W e fl) (hN : X.N.Nodup) (hi : X.N[i]? = some x := by rfl) (hx : Loc X.env.scope x := by first | exact Or.inl rfl | exact Or.inr rfl) (hs : swapsWith e (some (.Name x pos')) pos.line X.env = pure false := by rfl)
    (hf : X.fn x = true ∨ X.env.scope.names.lookup x = some .local := by first | exact .inl rfl | exact .inr rfl) : PPS X W (.Assign [.Name x pos'] e pos) (gSetO i fl) :=
  ⟨fun F0 H0 => (ps_set (i := i) hN hi hx he.pe hs hf).imp fun D σ H ⟨ρ, F, e0, k, q⟩ => ⟨H0, ρ, F, e0.s, k, (PostS.in q e0 k).mono fun ds F1 H1 _ _ ⟨q1, e1, k1, e2⟩ p xs fp hp h1 rs =>
    PostS.at q1 e1 (k1.setO i fp (e0.h.free hp) h1 rs fun j es r hj hr hs z => by
      obtain ⟨p', xs', a, b, c, d, e⟩ := k.own j es hr
      rw [a] at hs
      cases hs
      subst z
      rw [hp] at d
      cases d)⟩⟩
/-- what is known of an own list -/
theorem own_in {F0 H0 F H : Hp} {ρ : Rho} {σ : L2.St} {D : Ends} {k : List _root_.Pu.D → SRes} (q : PostS X W F0 H0 (sBind (ownAt i ρ) ρ k) F D) (ok : SOk X.K H0 F H ρ σ) :
    ∃ ds p xs, ρ[i]? = some (.o ds) ∧ σ[i]? = some (some (.ref p)) ∧ F p = none ∧ H0 p = none ∧ H p = some (.lst xs) ∧ Reps X.K F ds xs ∧ PostS X W F0 H0 (k ds) F D := by
  unfold ownAt at q
  cases e : ρ[i]? with
  | none => rw [e] at q; exact q.elim
  | some sl =>
    rw [e] at q
    cases sl with
    | un => exact q.elim
    | v d => exact q.elim
    | o ds =>
      obtain ⟨p, xs, a, b, c, d, r⟩ := ok.own i ds e
      exact ⟨ds, p, xs, rfl, a, b, c, d, r, q⟩
theorem ext_upd {F0 H0 F H : Hp} {p : Addr} {o : HO} (e : Ext F0 H0 F H) (fp : F p = none) (h0 : H0 p = none) : Ext F0 H0 F (upd H p o) :=
  ⟨e.f, fun b u eb => by rw [upd_ne (ne_of_none eb h0)]; exact e.h _ _ eb, fun b u eb => by rw [upd_ne (ne_of_none eb fp)]; exact e.s _ _ eb, e.n⟩
theorem ps_appP (i : Nat) {apos cpos : Pos} (he : PPE X W e f) (hN : X.N[i]? = some x := by rfl) (hv : Vis X.env.scope x := by first | exact Or.inl rfl | exact Or.inr (Or.inl rfl) | exact Or.inr (Or.inr rfl)) (hd : (x == ("__debug__" : Str)) = false := by decide)
    (hcd : (x == ("__classdict__" : Str)) = false := by decide)
    (hbase : attributeBase (.Name x pos') "append" X.env (eval (.Name x pos') X.env) = eval (.Name x pos') X.env := by rfl)
    (hfew : ((backTo cpos (starEach (e :: []) X.env)).all (fun x => !x.1) && (backToKw cpos (keywordEach [] X.env)).all (fun x => x.1.isSome)
      && decide ((e :: []).length + ([] : List Keyword).length + (if ([] : List Keyword).isEmpty then 0 else 1) < 30)) = true := by rfl)
    (hline : (apos.endLine == cpos.line) = true := by rfl) (hs : starEach (e :: []) X.env = (false, eval e X.env) :: starEach [] X.env := by rfl) (hplain : (backTo cpos (starEach [] X.env)).any (·.1) = false := by rfl)
    (hsw : swapsWith (.Call (.Attribute (.Name x pos') "append" apos) [e] [] cpos) none pos.line X.env = pure false := by rfl) :
    PPS X W (.Expr (.Call (.Attribute (.Name x pos') "append" apos) [e] [] cpos) pos) (gApp i f) :=
  ⟨fun F0 H0 => (ps_expr (pe_bm PySem.F.plainAttrs_list PySem.F.slot_list_append PySem.F.type_list_append mt_append (pe_var (i := i) hN hv hd hcd) (pa_cons he.pe pa_nil hs) hbase hfew hline hs hplain) hsw).imp fun D σ H ⟨ρ, F, e0, k, q⟩ => by
    obtain ⟨ds, p, xs, hρ, hσ, fp, h0, hp, rs, q⟩ := own_in q k
    refine ⟨.ref p, hσ, .inl ⟨rfl, xs, .of hp⟩, ⟨H0, ρ, F, e0.s, k, (PostS.in q e0 k).mono fun d F1 H1 _ _ ⟨q1, e1, k1, e2⟩ y ry => ?_⟩⟩
    have fp1 : F1 p = none := e2.n p (by rw [hp]; simp) fp
    have hp1 : H1 p = some (.lst xs) := e2.h _ _ hp
    by_cases hl : fits (ds.length + 1) = true
    · rw [if_pos hl] at q1
      refine ⟨p, xs, y, rfl, rfl, hp1, by rw [← rs.length]; exact fits_iff.mp hl, ?_⟩
      exact PostS.at q1 (ext_upd e1 fp1 h0) (k1.change i hρ hσ ((rs.mono e2.f).app (Reps.cons ry Reps.nil)))
    · rw [if_neg hl] at q1; exact q1.elim⟩
theorem ps_revP (i : Nat) {apos cpos : Pos} (hN : X.N[i]? = some x := by rfl) (hv : Vis X.env.scope x := by first | exact Or.inl rfl | exact Or.inr (Or.inl rfl) | exact Or.inr (Or.inr rfl)) (hd : (x == ("__debug__" : Str)) = false := by decide)
    (hcd : (x == ("__classdict__" : Str)) = false := by decide)
    (hbase : attributeBase (.Name x pos') "reverse" X.env (eval (.Name x pos') X.env) = eval (.Name x pos') X.env := by rfl)
    (hline : (apos.endLine == cpos.line) = true := by rfl)
    (hsw : swapsWith (.Call (.Attribute (.Name x pos') "reverse" apos) [] [] cpos) none pos.line X.env = pure false := by rfl) :
    PPS X W (.Expr (.Call (.Attribute (.Name x pos') "reverse" apos) [] [] cpos) pos) (gRev i) :=
  ⟨fun F0 H0 => (ps_expr (pe_bm0 PySem.F.plainAttrs_list PySem.F.slot_list_reverse PySem.F.type_list_reverse mt_reverse (pe_var (i := i) hN hv hd hcd) hbase hline) hsw).imp fun D σ H ⟨ρ, F, e0, k, q⟩ => by
    obtain ⟨ds, p, xs, hρ, hσ, fp, h0, hp, rs, q⟩ := own_in q k
    exact ⟨.ref p, hσ, .inl ⟨rfl, xs, .of hp⟩, p, xs, rfl, rfl, hp, PostS.at q (ext_upd e0 fp h0) (k.change i hρ hσ rs.rev)⟩⟩
theorem ps_putP (i : Nat) {px : Pos} (hf : PPE X W a f) (he : PPE X W e fe) (hN : X.N[i]? = some x := by rfl) (hv : Vis X.env.scope x := by first | exact Or.inl rfl | exact Or.inr (Or.inl rfl) | exact Or.inr (Or.inr rfl)) (hd : (x == ("__debug__" : Str)) = false := by decide)
    (hcd : (x == ("__classdict__" : Str)) = false := by decide)
    (ha : ∀ v, assign (.Subscript (.Name x px) a pos') X.env v = (do
      let ov ← holding [v] (eval (.Name x px) X.env)
      let iv ← holding [v, ov] (eval a X.env)
      standAt pos'
      holding [v, ov, iv] (setItem ov iv v)
      release [v, ov, iv] []) := by intro _; rfl)
    (hs : swapsWithSole [.Subscript (.Name x px) a pos'] e pos.line X.env = pure false := by rfl) (hw : swappedStores [.Subscript (.Name x px) a pos'] e X.env = pure none := by rfl)
    (h1 : (assignEach [.Subscript (.Name x px) a pos'] X.env).map (·.2) = [assign (.Subscript (.Name x px) a pos') X.env] := by rfl) :
    PPS X W (.Assign [.Subscript (.Name x px) a pos'] e pos) (gPut i f fe) :=
  ⟨fun F0 H0 => (ps_asg he.pe (pg_sub (pe_var (i := i) hN hv hd hcd) hf.pe set_list ha) hs hw h1).imp fun D σ H ⟨ρ, F, e0, k, q⟩ => by
    obtain ⟨ds, p, xs, hρ, hσ, fp, h0, hp, rs, q⟩ := own_in q k
    refine ⟨H0, ρ, F, e0.s, k, (PostS.in q e0 k).mono fun d F1 H1 _ _ ⟨q1, e1, k1, e2⟩ y ry => ?_⟩
    refine ⟨.ref p, hσ, ⟨H0, ρ, F1, e1.s, k1, (PostS.in q1 e1 k1).mono fun kd F2 H2 _ _ ⟨q2, e3, k2, e4⟩ z rz => ?_⟩⟩
    cases kd <;> first | exact (show False from q2).elim | skip
    rename_i kk _ _
    unfold Rep at rz
    simp only at q2
    cases ej : ixN ds.length kk with
    | none => rw [ej] at q2; exact q2.elim
    | some j =>
      rw [ej] at q2
      have fp2 : F2 p = none := e4.n p (by rw [e2.h _ _ hp]; simp) (e2.n p (by rw [hp]; simp) fp)
      refine ⟨p, xs, kk, j, rfl, rz, e4.h _ _ (e2.h _ _ hp), by rw [← rs.length]; exact ej, ?_⟩
      exact PostS.at q2 (ext_upd e3 fp2 h0) (k2.change i hρ hσ (((rs.mono e2.f).mono e4.f).set j (ry.mono e4.f)))⟩
theorem frz_in {F0 H0 F H : Hp} {ρ : Rho} {σ : L2.St} {D : Ends} (i : Nat) (e0 : Ext F0 H0 F H) (k : SOk X.K H0 F H ρ σ) (q : PostS X W F0 H0 (g (frz i ρ)) F D) : tPS X W F0 H0 g D σ H := by
  unfold frz at q
  cases e : ρ[i]? with
  | none => rw [e] at q; exact ⟨ρ, F, e0, k, q⟩
  | some sl =>
    rw [e] at q
    cases sl with
    | un => exact ⟨ρ, F, e0, k, q⟩
    | v d => exact ⟨ρ, F, e0, k, q⟩
    | o ds =>
      obtain ⟨p, xs, a, b, c, d, r⟩ := k.own i ds e
      refine ⟨_, upd F p (.lst xs), ⟨e0.f.trans (same_upd b), e0.h, ?_, fun y h1 h2 => ?_⟩, k.freeze i e a b d r, PostS.mono q (same_upd b)⟩
      · intro y o ey
        by_cases hy : y = p
        · subst hy; rw [upd_same] at ey; cases ey; exact d
        · rw [upd_ne hy] at ey; exact e0.s _ _ ey
      · have hy : y ≠ p := fun z => h1 (by rw [z]; exact c)
        rw [upd_ne hy]
        exact e0.n y h1 h2
theorem PPSs.frz (i : Nat) (h : PPSs X W rest g) : PPSs X W rest (gFrz i g) := ⟨fun F0 H0 => (h.ps F0 H0).imp fun D σ H ⟨ρ, F, e0, k, q⟩ => frz_in i e0 k q⟩
theorem PPS.frz (i : Nat) (h : PPS X W st g) : PPS X W st (gFrz i g) := ⟨fun F0 H0 => (h.ps F0 H0).imp fun D σ H ⟨ρ, F, e0, k, q⟩ => frz_in i e0 k q⟩
theorem ps_retP (he : PPE X W e f) : PPS X W (.Return (some e) pos) (gRet f) :=
  ⟨fun F0 H0 => (ps_ret he.pe).imp fun D σ H ⟨ρ, F, e0, k, q⟩ => ⟨H0, ρ, F, e0.s, k, (PostS.in q e0 k).mono fun d F1 H1 _ _ ⟨q1, e1, k1, _⟩ y ry => q1 y F1 H1 e1 ry⟩⟩
theorem ps_exprP (he : PPE X W e f) (hs : swapsWith e none pos.line X.env = pure false := by rfl) : PPS X W (.Expr e pos) (gExpr f) :=
  ⟨fun F0 H0 => (ps_expr he.pe hs).imp fun D σ H ⟨ρ, F, e0, k, q⟩ => ⟨H0, ρ, F, e0.s, k, (PostS.in q e0 k).mono fun d F1 H1 _ _ ⟨q1, e1, k1, _⟩ y ry => PostS.at q1 e1 k1⟩⟩
theorem ps_ifP {c : Rho → Res Bool} {sa sb : List Stmt} (hc : PPT X W e c) (ha : PPSs X W sa g) (hb : PPSs X W sb h) : PPS X W (.If e sa sb pos) (gIf c g h) :=
  ⟨fun F0 H0 => (ps_if hc.pt (ha.ps F0 H0) (hb.ps F0 H0)).imp fun D σ H ⟨ρ, F, e0, k, q⟩ => ⟨H0, ρ, F, e0.s, k, (PostS.in q e0 k).mono fun b F1 H1 _ _ ⟨q1, e1, k1, _⟩ => by
    cases b with
    | true => rw [if_pos rfl]; exact ⟨ρ, F1, e1, k1, q1⟩
    | false => rw [if_neg Bool.false_ne_true]; exact ⟨ρ, F1, e1, k1, q1⟩⟩⟩
/-- an exception class of the text over ValueError, without an __init__ of its own -/
structure ExcT (K : Fr) (mg : Str → Option Value) (c : String) : Prop where
  ex : ∃ C, mg (Str.ofString c) = some (.ref C) ∧ PySem.W.excIn K C [.type "ValueError", .type "Exception", .type "BaseException", .type "object"] "ValueError.__new__" = true ∧ PySem.W.keepIn K (.ref C) = true ∧
    PySem.W.subIn K (.ref C) (.type "BaseException") = some true ∧ PySem.W.typeIn K (.ref C) = some (.type "type")
theorem ps_raiseP {c : String} {m : Str} {j : Nat} {p p2 : Pos} (t : ExcT X.K X.mg c) (tk : Takes X W) (hc : X.calm = true := by rfl) (hg : Gl X (Str.ofString c) := by rfl) (hdb : (Str.ofString c == ("__debug__" : Str)) = false := by decide) :
    PPS X W (.Raise (some (.Call (.Name (Str.ofString c) p) [.Constant (.str m) j p2] [] pos')) none pos) (gExc c) := by
  obtain ⟨C, gC, q, kC, b, ty⟩ := t.ex
  exact ⟨fun F0 H0 => (ps_raise hc tk (pmk_own PySem.F.excBase_ValueError q gC kC (raises_own b ty) hg hdb)).imp fun D σ H ⟨ρ, F, e0, k, q⟩ => q C σ F H gC e0 (Same.refl F) k⟩
theorem forP_list (i : Nat) {F0 H0 F1 H1 : Hp} {ρ1 : Rho} {σ1 : L2.St} {D : Ends} {a : Addr} {ds : List _root_.Pu.D} {xs : List V} (e1 : Ext F0 H0 F1 H1) (k1 : SOk X.K H0 F1 H1 ρ1 σ1) (ha : F1 a = some (.lst xs)) (r : Reps X.K F1 ds xs)
    (q : PostS X W F0 H0 (forL (fun d ρ => g (ρ.set i (.v d))) ds ρ1) F1 D) :
    ∃ W' : Nat → Nat → L2.St → Hp → Prop, (∃ m, W' 0 m σ1 H1) ∧ ∀ i' m σ H, W' i' m σ H →
      ((Itl X.K a).stop i' H ∧ D.nx σ H) ∨ ((Itl X.K a).go i' H ∧ ∃ N : L2.St → Hp → Prop, (∀ σ' H', N σ' H' → ∃ m', m' < m ∧ W' (i' + 1) m' σ' H') ∧ ∀ x H', (Itl X.K a).yld i' H x H' → gName i x σ H' fun σ2 H2 => tPS X W F0 H0 g { D with nx := N, ct := N, bk := D.nx } σ2 H2) := by
  refine for_list (xs := xs) (fun j σ H => ∃ ρ F, Ext F0 H0 F H ∧ Same F1 F ∧ SOk X.K H0 F H ρ σ ∧ PostS X W F0 H0 (forL (fun d ρ => g (ρ.set i (.v d))) (ds.drop j) ρ) F D)
    ⟨ρ1, F1, e1, Same.refl _, k1, q⟩ (fun j σ H _ ⟨ρ, F, e, s, _, _⟩ => .of (e.s _ _ (s _ _ ha))) (fun j x σ H hx ⟨ρ, F, e, s, k, q⟩ => ?_) fun σ H ⟨ρ, F, e, s, k, q⟩ => ?_
  · have hj : j < ds.length := by rw [r.length]; exact (List.getElem?_eq_some_iff.mp hx).1
    have hd : ds[j]? = some ds[j] := List.getElem?_eq_getElem hj
    obtain ⟨y, hy, ry⟩ := r.get hd
    rw [hx] at hy
    cases hy
    have ed : ds.drop j = ds[j] :: ds.drop (j + 1) := List.drop_eq_getElem_cons hj
    rw [ed] at q
    exact ⟨ρ.set i (.v ds[j]), F, e, k.set i (ry.mono s), PostS.thn q _ rfl fun ρ' _ σ' F' H' e' t k' q' => ⟨ρ', F', e', s.trans t, k', q'⟩⟩
  · rw [List.drop_eq_nil_of_le (by rw [r.length]; exact Nat.le_refl _)] at q
    exact PostS.at q e k
theorem ps_forP (i : Nat) {px : Pos} (hp : PassesOwn (model X.prog X.w) X.A X.env X.xe) (hc : X.calm = true) (he : PPE X W e f) (hb : PPSs X W body g) (hN : X.N.Nodup) (hi : X.N[i]? = some x := by rfl) (hx : Loc X.env.scope x := by first | exact Or.inl rfl | exact Or.inr rfl)
    (hf : X.fn x = true ∨ X.env.scope.names.lookup x = some .local := by first | exact .inl rfl | exact .inr rfl) (hs : ∀ x, foldedSetIterable e X.env x = pure x := by intro _; rfl) : PPS X W (.For (.Name x px) e body [] pos) (gFor i f g) :=
  ⟨fun F0 H0 => (ps_for hp hc (pi_list he.pe) (pg_name (i := i) hN hi hx hf) (hb.ps F0 H0) hs).imp fun D σ H ⟨ρ, F, e0, k, q⟩ => ⟨H0, ρ, F, e0.s, k, Post.bind (PostS.in q e0 k) |>.mono fun d F1 H1 _ e1 q1 y ry => by
    cases d <;> first | exact (show False from q1).elim | skip
    unfold Rep at ry
    obtain ⟨a, xs, rfl, ha, r⟩ := ry
    obtain ⟨q2, e2, k2, _⟩ := Post.at e1.s q1
    exact ⟨a, rfl, ⟨xs, .of (e1.s _ _ ha)⟩, forP_list i e2 k2 ha r q2⟩⟩⟩
theorem ps_forRP (i : Nat) {px p2 p3 : Pos} (hp : PassesOwn (model X.prog X.w) X.A X.env X.xe) (hc : X.calm = true) (hm : X.mg "range" = none) (he : PPE X W e f) (hb : PPSs X W body g) (hN : X.N.Nodup) (hi : X.N[i]? = some x := by rfl) (hx : Loc X.env.scope x := by first | exact Or.inl rfl | exact Or.inr rfl)
    (hf : X.fn x = true ∨ X.env.scope.names.lookup x = some .local := by first | exact .inl rfl | exact .inr rfl) (hg : Gl X "range" := by rfl) (hst : starEach (e :: []) X.env = (false, eval e X.env) :: starEach [] X.env := by rfl) (hst1 : starEach [e] X.env = [(false, eval e X.env)] := by rfl)
    (hs : ∀ x, foldedSetIterable (.Call (.Name "range" p2) [e] [] p3) X.env x = pure x := by intro _; rfl) : PPS X W (.For (.Name x px) (.Call (.Name "range" p2) [e] [] p3) body [] pos) (gForR i f g) :=
  ⟨fun F0 H0 => (ps_for hp hc (pi_range1 hg hm (pa_cons he.pe pa_nil hst) hst1) (pg_name (i := i) hN hi hx hf) (hb.ps F0 H0) hs).imp fun D σ H ⟨ρ, F, e0, k, q⟩ => ⟨H0, ρ, F, e0.s, k, Post.bind (PostS.in q e0 k) |>.mono fun d F1 H1 _ e1 q1 y ry => by
    cases d <;> first | exact (show False from q1).elim | skip
    rename_i n _
    unfold Rep at ry
    obtain ⟨hn, q1⟩ := Post.guard (c := rngOk n = true) q1
    have hn := rngOk_is hn
    obtain ⟨q2, e2, k2, _⟩ := Post.at e1.s q1
    refine ⟨n, by rw [ry], hn.1, hn.2, ?_⟩
    refine for_range (lo := 0) (n := n.toNat) (fun j σ H => ∃ ρ F, Ext F0 H0 F H ∧ SOk X.K H0 F H ρ σ ∧ PostS X W F0 H0 (forL (fun (k : Nat) ρ => g (ρ.set i (.v (.int k)))) ((List.range n.toNat).drop j) ρ) F D)
      ⟨ρ, F1, e2, k2, q2⟩ (fun j σ H hj ⟨ρ, F, e, k, q⟩ => ?_) fun σ H ⟨ρ, F, e, k, q⟩ => ?_
    · have hj' : j < (List.range n.toNat).length := by rw [List.length_range]; exact hj
      have ed : (List.range n.toNat).drop j = j :: (List.range n.toNat).drop (j + 1) := by rw [List.drop_eq_getElem_cons hj', List.getElem_range]
      rw [ed] at q
      have e0j : (0 : Int) + (j : Int) = (j : Int) := by omega
      exact ⟨ρ.set i (.v (.int j)), F, e, k.set i (by rw [e0j]; unfold Rep; rfl), PostS.thn q _ rfl fun ρ' _ σ' F' H' e' t k' q' => ⟨ρ', F', e', k', q'⟩⟩
    · rw [List.drop_eq_nil_of_le (by rw [List.length_range]; exact Nat.le_refl _)] at q
      exact PostS.at q e k⟩⟩
theorem zip_get {α β : Type} {xs : List α} {ys : List β} {j : Nat} (h1 : j < xs.length) (h2 : j < ys.length) : (xs.zip ys).drop j = (xs[j], ys[j]) :: (xs.zip ys).drop (j + 1) := by
  have hj : j < (xs.zip ys).length := by rw [List.length_zip]; omega
  rw [List.drop_eq_getElem_cons hj, List.getElem_zip]
theorem ps_forZP (i j : Nat) {x y : Str} {px py pt p2 p3 : Pos} {kk : Nat} (hp : PassesOwn (model X.prog X.w) X.A X.env X.xe) (hc : X.calm = true) (hm : X.mg "zip" = none) (ha : PPE X W a f) (hb : PPE X W b f2) (hbd : PPSs X W body g) (hN : X.N.Nodup)
    (hi : X.N[i]? = some x := by rfl) (hx : Loc X.env.scope x := by first | exact Or.inl rfl | exact Or.inr rfl) (hfx : X.fn x = true ∨ X.env.scope.names.lookup x = some .local := by first | exact .inl rfl | exact .inr rfl)
    (hj : X.N[j]? = some y := by rfl) (hy : Loc X.env.scope y := by first | exact Or.inl rfl | exact Or.inr rfl) (hfy : X.fn y = true ∨ X.env.scope.names.lookup y = some .local := by first | exact .inl rfl | exact .inr rfl)
    (hg : Gl X "zip" := by rfl) (hst : starEach (a :: [b]) X.env = (false, eval a X.env) :: starEach [b] X.env := by rfl) (hst2 : starEach (b :: []) X.env = (false, eval b X.env) :: starEach [] X.env := by rfl) (hpl : (backTo p3 (starEach [b] X.env)).any (·.1) = false := by rfl)
    (hn : (assignEach [.Name x px, .Name y py] X.env).length = 2 := by rfl) (hfi : (assignEach [.Name x px, .Name y py] X.env).findIdx? (·.1) = none := by rfl)
    (hs1 : (assignEach (.Name x px :: [.Name y py]) X.env).map (·.2) = assign (.Name x px) X.env :: (assignEach [.Name y py] X.env).map (·.2) := by rfl) (hs2 : (assignEach (.Name y py :: []) X.env).map (·.2) = assign (.Name y py) X.env :: (assignEach [] X.env).map (·.2) := by rfl)
    (hs : ∀ x, foldedSetIterable (.Call (.Name "zip" p2) [a, b] [] p3) X.env x = pure x := by intro _; rfl) : PPS X W (.For (.Tuple [.Name x px, .Name y py] kk pt) (.Call (.Name "zip" p2) [a, b] [] p3) body [] pos) (gForZ i j f f2 g) :=
  ⟨fun F0 H0 => (ps_for hp hc (pi_zip hg hm (pa_cons ha.pe (pa_cons hb.pe pa_nil hst2) hst) hst hpl) (pg_tup hc (pgs_cons (pg_name (i := i) hN hi hx hfx) (pgs_cons (pg_name (i := j) hN hj hy hfy) pgs_nil hs2) hs1) hn hfi) (hbd.ps F0 H0) hs).imp fun D σ H ⟨ρ, F, e0, k, q⟩ =>
    ⟨H0, ρ, F, e0.s, k, Post.bind (PostS.in q e0 k) |>.mono fun d F1 H1 _ e1 q1 z rz => by
    cases d <;> first | exact (show False from q1).elim | skip
    rename_i ds _
    unfold Rep at rz
    obtain ⟨a1, xs, rfl, h1, r1⟩ := rz
    obtain ⟨q2, e2, k2, _⟩ := Post.at e1.s q1
    refine ⟨H0, ρ, F1, e2.s, k2, Post.bind (PostS.in q2 e2 k2) |>.mono fun d F2 H2 _ e3 q3 z rz => ?_⟩
    cases d <;> first | exact (show False from q3).elim | skip
    rename_i es _
    unfold Rep at rz
    obtain ⟨a2, ys, rfl, h2, r2⟩ := rz
    obtain ⟨q4, e4, k4, _⟩ := Post.at e3.s q3
    by_cases hl : ds.length = es.length
    · rw [if_pos hl] at q4
      have r1 := r1.mono e3.f
      have h1 := e3.f _ _ h1
      have hlx : xs.length = ys.length := by rw [← r1.length, ← r2.length]; exact hl
      refine ⟨a1, a2, xs, ys, rfl, .of (e3.s _ _ h1), .of (e3.s _ _ h2), ?_⟩
      refine RZ.for_zipL hlx (fun l σ H => ∃ ρ F, Ext F0 H0 F H ∧ Same F2 F ∧ SOk X.K H0 F H ρ σ ∧ PostS X W F0 H0 (forL (fun (p : _root_.Pu.D × _root_.Pu.D) ρ => g ((ρ.set i (.v p.1)).set j (.v p.2))) ((ds.zip es).drop l) ρ) F D)
        ⟨ρ, F2, e4, Same.refl _, k4, q4⟩ (fun l σ H ⟨ρ, F, e, s, k, q⟩ => ⟨.of (e.s _ _ (s _ _ h1)), .of (e.s _ _ (s _ _ h2))⟩) (fun l x y T σ H hx hy ⟨ρ, F, e, s, k, q⟩ hT => ?_) fun σ H ⟨ρ, F, e, s, k, q⟩ => ?_
      · have hlx : l < ds.length := by rw [r1.length]; exact (List.getElem?_eq_some_iff.mp hx).1
        have hly : l < es.length := by rw [r2.length]; exact (List.getElem?_eq_some_iff.mp hy).1
        obtain ⟨x', hx', rx⟩ := r1.get (List.getElem?_eq_getElem hlx)
        obtain ⟨y', hy', ry⟩ := r2.get (List.getElem?_eq_getElem hly)
        rw [hx] at hx'; cases hx'
        rw [hy] at hy'; cases hy'
        rw [zip_get hlx hly] at q
        have eT : Ext F0 H0 F (upd H T (.tup [x, y])) := e.trans (Ext.grow e.s (same_upd hT))
        have kT := k.ext (Ext.grow e.s (same_upd (o := .tup [x, y]) hT))
        refine ⟨T, [x, y], rfl, .of upd_same, rfl, x, [y], rfl, y, [], rfl, rfl, ?_⟩
        exact ⟨(ρ.set i (.v ds[l])).set j (.v es[l]), F, eT, (kT.set i (rx.mono s)).set j (ry.mono s), PostS.thn q _ rfl fun ρ' _ σ' F' H' e' t k' q' => ⟨ρ', F', e', s.trans t, k', q'⟩⟩
      · rw [List.drop_eq_nil_of_le (by rw [List.length_zip, r1.length]; omega)] at q
        exact PostS.at q e k
    · rw [if_neg hl] at q4; exact q4.elim⟩⟩
theorem ps_whileP (n : Nat) {c : Rho → Res Bool} (hp : PassesOwn (model X.prog X.w) X.A X.env X.xe) (hc : PPT X W e c) (hb : PPSs X W body g) : PPS X W (.While e body [] pos) (gWhile n c g) :=
  ⟨fun F0 H0 => (ps_while hp hc.pt (hb.ps F0 H0)).imp fun D σ H ⟨ρ, F, e0, k, q⟩ => by
    refine ⟨fun m σ H => ∃ ρ F, Ext F0 H0 F H ∧ SOk X.K H0 F H ρ σ ∧ PostS X W F0 H0 (whl c g m ρ) F D, ⟨n, ρ, F, e0, k, q⟩, fun m σ H ⟨ρ, F, e, k, q⟩ => ?_⟩
    cases m with
    | zero => exact q.elim
    | succ m =>
      refine ⟨H0, ρ, F, e.s, k, (PostS.in q e k).mono fun b F1 H1 _ _ ⟨q1, e1, k1, _⟩ => ?_⟩
      cases b with
      | false => rw [if_neg Bool.false_ne_true]; rw [if_neg Bool.false_ne_true] at q1; exact PostS.at q1 e1 k1
      | true =>
        rw [if_pos rfl]; rw [if_pos rfl] at q1
        exact ⟨fun σ H => ∃ ρ F, Ext F0 H0 F H ∧ SOk X.K H0 F H ρ σ ∧ PostS X W F0 H0 (whl c g m ρ) F D, fun σ' H' h => ⟨m, Nat.lt_succ_self m, h⟩,
          ρ, F1, e1, k1, PostS.thn q1 _ rfl fun ρ' _ σ' F' H' e' t k' q' => ⟨ρ', F', e', k', q'⟩⟩⟩
end

def fnD (m : Nat) (g : Rho → SRes) (ds : List D) : Res D := match g (ds.map Slt.v ++ List.replicate (m - ds.length) .un) with
  | .nx _ => .ok .non
  | .rt d => .ok d
  | .exc c _ => .exc c
  | .stk => .stk
theorem Reps.some_get {K : Fr} {F : Hp} : ∀ {ds : List D} {vs : List V} {m : Nat} (i : Nat) (d : D), Reps K F ds vs → (ds.map Slt.v ++ List.replicate m .un)[i]? = some (.v d) → ∃ x, (vs.map some ++ List.replicate m none)[i]? = some (some x) ∧ Rep K F d x
  | [], _, m, i, d, r, h => by
    simp only [List.map_nil, List.nil_append] at h
    rw [List.getElem?_replicate] at h
    split at h <;> cases h
  | e :: ds, _, m, 0, d, r, h => by
    unfold Reps at r
    obtain ⟨x, t, rfl, r1, _⟩ := r
    simp only [List.map_cons, List.cons_append, List.getElem?_cons_zero, Option.some.injEq, Slt.v.injEq] at h
    subst h
    exact ⟨x, rfl, r1⟩
  | e :: ds, _, m, i + 1, d, r, h => by
    unfold Reps at r
    obtain ⟨x, t, rfl, _, r2⟩ := r
    exact Reps.some_get (m := m) i d r2 (by simpa using h)
theorem no_own : ∀ {ds : List D} {m i : Nat} {es : List D}, (ds.map Slt.v ++ List.replicate m .un)[i]? = some (.o es) → False
  | [], m, i, es, h => by
    simp only [List.map_nil, List.nil_append] at h
    rw [List.getElem?_replicate] at h
    split at h <;> cases h
  | e :: ds, m, 0, es, h => by simp at h
  | e :: ds, m, i + 1, es, h => no_own (ds := ds) (m := m) (i := i) (es := es) (by simpa using h)
section
variable {P : Program} {w : World} {K : Fr} {mg : Str → Option Value} {base : Heap}
theorem fn_pure {x qual : Str} {st : Stmt} {f : Addr} {fd : FuncData} {N ps : List Str} {k : Nat} {g : Rho → SRes} (F : Fun K x qual st f fd) (S : FnScope N ps (defScope st))
    (body : ∀ (cdv : Value) (A : Around) (outer : List Env) (s : Shared) (H : Hp) (E : XK), Room k (cxOf (L2.CX P w) P w K mg base N qual (defScope st) f cdv A outer s H E).A →
      Takes (cxOf (L2.CX P w) P w K mg base N qual (defScope st) f cdv A outer s H E) (fun cls d _ H => E cls d H) →
      PassesOwn (model P w) (cxOf (L2.CX P w) P w K mg base N qual (defScope st) f cdv A outer s H E).A (cxOf (L2.CX P w) P w K mg base N qual (defScope st) f cdv A outer s H E).env (cxOf (L2.CX P w) P w K mg base N qual (defScope st) f cdv A outer s H E).xe →
      PPSs (cxOf (L2.CX P w) P w K mg base N qual (defScope st) f cdv A outer s H E) (fun cls d _ H => E cls d H) (defBody st) g) :
    FnOk P w K mg base (L2.CX P w) (k + 1) f fd ps (spP K mg ps.length (fnD N.length g)) := by
  refine F.okX S (fun vs H Q E ⟨_, _, _, _, h, _⟩ => h) fun cdv A outer s H vs Q E hr h => ?_
  obtain ⟨F0, ds, sF, rs, hl, q⟩ := h
  refine ⟨_, (body cdv A outer s H E hr (takes_of rfl rfl rfl rfl) (passes_of rfl)).ps F0 H, ?_⟩
  have hlen : ds.length = vs.length := rs.length
  refine ⟨ds.map Slt.v ++ List.replicate (N.length - ds.length) .un, F0, Ext.refl sF, ?_, ?_⟩
  · unfold L2.start
    rw [hlen]
    exact ⟨by simp [hlen], fun i d h => rs.some_get i d h, fun i es h => (no_own h).elim, fun i j p es fs _ h => (no_own h).elim⟩
  · unfold fnD at q
    cases e : g (ds.map Slt.v ++ List.replicate (N.length - ds.length) .un) with
    | nx ρ => rw [e] at q; exact fun σ' F' H' ex _ _ => q .non F' H' ex (by unfold Rep; rfl)
    | rt d => rw [e] at q; exact fun x F' H' ex r => q x F' H' ex r
    | exc c ρ => rw [e] at q; exact fun A σ' F' H' m ex _ _ => q A H' m ex.h
    | stk => rw [e] at q; exact q
end
end Pu

namespace Pu
open PySem PySem.Spec PyProof.Rows RT
section
variable {prog : Program} {w : World} {A : Around} {E : Value → Shared → Prop} {s : Shared}
theorem extend_rev {R : Result → Shared → Prop} {it l : Addr} {items : Array Value} (hh : A.handled = none) (hit : s.heap.IsRevIter it l ((items.size : Int) - 1)) (hl : s.heap.IsList l items) (hne : l ≠ it) (hn : items.size ≤ sizeLine)
    (S : Addr) (res : Value) (c₀ : Nat) (hS : s.heap.get? S = some { cls := .type "list", data := .seq #[] c₀ }) (hSi : S ≠ it) (hSl : S ≠ l)
    (hR : ∀ h' tk acc' c', (∀ b o, b ≠ S → b ≠ it → s.heap.get? b = some o → h'.get? b = some o) → h'.get? S = some { cls := .type "list", dict := none, data := .seq acc' c', slots := #[] } →
      ItemsOf (fun i v => items[items.size - 1 - i]? = some v) acc' items.size → R (.ok (.ret res)) { s with heap := h', toks := tk }) :
    wpAny (model prog w) A.in1 (Builtin.List.listExtendWith (.ref S) (.ref it) res)
      (fun fin s' => match fin with | .done f => R (.ok f) s' | .again c' => c'.quiet = true ∧ codeAny (model prog w) A c' R s') (fun e s' => R (.error e) s') s := by
  have W := (Walks.listRev (prog := prog) (w := w) (A := A.in1) hh it l hne items).toS
  have hSf : S ∉ [it, l] := by simp only [List.mem_cons, List.not_mem_nil, or_false, not_or]; exact ⟨hSi, hSl⟩
  have hT : s.TypeIs (.ref it) "list_reverseiterator" := Heap.IsRevIter.typeIs (s := s) hit
  have h1 : Builtin.List.listSameRef (.ref S) (.ref it) = false := by simp [Builtin.List.listSameRef, hSi]
  unfold Builtin.List.listExtendWith
  refine wpAny_bind (wpAny_typeOf hT ?_)
  rw [if_neg (by rw [h1]; decide)]
  refine wpAny_bind (wpAny_pyIter_revIter (s := s) hit ?_)
  refine wpAny_bind (wpAny_holding ?_)
  unfold Builtin.List.listLengthHint
  refine wpAny_bind (wpAny_specialOf hT nolen_lri ?_)
  show wpAny _ A.in1 (specialOf (Value.ref it) (Str.ofString "__length_hint__") >>= _) _ _ _
  refine wpAny_bind (wpAny_specialOf hT hint_lri ?_)
  generalize hid : ("list_reverseiterator.__length_hint__" : String) = id0
  wp_delta
  rw [show splitId id0 = some ("list_reverseiterator", "__length_hint__") from by subst hid; decide +kernel]
  subst hid
  refine wpAny_bind (wpAny_isInstance (b := true) hT (by rw [isSubtype_type]; kernel_rfl) ?_)
  refine wpAny_pure ?_
  rw [if_neg (by decide)]
  have e0 : ((items.size : Nat) : Int) - 1 - ((0 : Nat) : Int) = (items.size : Int) - 1 := by omega
  refine wpAny_pure ⟨plainId_quiet F.plain_extend_loop _, codeAny_extend_loopS W hn _ hSf _ items.size 0 _ _ _ rfl (Nat.zero_le _) ⟨Nat.zero_le _, by rw [e0]; exact hit, hl⟩ hS (ItemsOf.nil _) fun s' acc' c' hm hS' hacc => ?_⟩
  rw [Moved.eq_with hm]
  obtain ⟨ol, hol, _⟩ := id hl
  refine hR s'.heap s'.toks acc' c' (fun b o hb hbi e => ?_) hS' hacc
  refine hm.heap b o (fun hmem => ?_) e
  rcases List.mem_cons.mp hmem with e' | hmem
  · exact hb e'
  · exact hbi (List.mem_singleton.mp hmem)
theorem list_init_rev {R : Result → Shared → Prop} {it l : Addr} {items : Array Value} (hh : A.handled = none) (hit : s.heap.IsRevIter it l ((items.size : Int) - 1)) (hl : s.heap.IsList l items) (hne : l ≠ it) (hn : items.size ≤ sizeLine)
    (S : Addr) (hS : s.heap.get? S = some { cls := .type "list", data := .seq #[] }) (hSi : S ≠ it) (hSl : S ≠ l)
    (hR : ∀ h' tk acc' c', (∀ b o, b ≠ S → b ≠ it → s.heap.get? b = some o → h'.get? b = some o) → h'.get? S = some { cls := .type "list", dict := none, data := .seq acc' c', slots := #[] } →
      ItemsOf (fun i v => items[items.size - 1 - i]? = some v) acc' items.size → R (.ok (.ret .none)) { s with heap := h', toks := tk }) :
    wpAny (model prog w) A.in1 (Builtin.«list.__init__» ⟨[.ref S, .ref it], []⟩)
      (fun fin s' => match fin with | .done f => R (.ok f) s' | .again c' => c'.quiet = true ∧ codeAny (model prog w) A c' R s') (fun e s' => R (.error e) s') s := by
  show wpAny _ _ (do let old ← Builtin.List.listItems (.ref S); Builtin.List.listUpdate (.ref S) (fun _ => #[]); letGo old.toList.reverse; Builtin.List.listExtendWith (.ref S) (.ref it) .none) _ _ s
  refine wpAny_bind ?_
  unfold Builtin.List.listItems
  refine wpAny_bind (wpAny_seqItems hS rfl (wpAny_pure ?_))
  show wpAny _ _ (updateSeq S (fun _ => #[]) >>= fun _ => letGo (#[] : Array Value).toList.reverse >>= fun _ => Builtin.List.listExtendWith (.ref S) (.ref it) .none) _ _ s
  refine wpAny_bind (wpAny_updateSeq hS rfl ?_)
  have hS₂ := Heap.get?_update_self (Obj.mapSeq (fun _ => (#[] : Array Value))) hS rfl
  have oth : ∀ b o, b ≠ S → s.heap.get? b = some o → (s.heap.update S (Obj.mapSeq (fun _ => (#[] : Array Value)))).get? b = some o :=
    fun b o hb e => (Heap.get?_update_other _ _ (Ne.symm hb)).trans e
  refine wpAny_bind (wpAny_letGo ?_)
  have hit2 : (s.heap.update S (Obj.mapSeq (fun _ => (#[] : Array Value)))).IsRevIter it l ((items.size : Int) - 1) := hit.at fun o e => oth it o (Ne.symm hSi) e
  have hl2 : (s.heap.update S (Obj.mapSeq (fun _ => (#[] : Array Value)))).IsList l items := by
    obtain ⟨ol, hol, rest⟩ := hl
    exact ⟨ol, oth l ol (Ne.symm hSl) hol, rest⟩
  refine extend_rev (s := { s with heap := s.heap.update S (Obj.mapSeq (fun _ => (#[] : Array Value))) }) hh hit2 hl2 hne hn S .none _ hS₂ hSi hSl fun h' tk acc' c' hk hS' hacc => ?_
  exact hR h' tk acc' c' (fun b o hb hbi e => hk b o hb hbi (oth b o hb e)) hS' hacc
theorem call_list_rev {Q : Value → Shared → Prop} {it l : Addr} {items : Array Value} (hh : A.handled = none) (hit : s.heap.IsRevIter it l ((items.size : Int) - 1)) (hl : s.heap.IsList l items) (hne : l ≠ it) (hn : items.size ≤ sizeLine)
    (hQ : ∀ h' tk acc' c', (∀ b o, b ≠ it → s.heap.get? b = some o → h'.get? b = some o) →
      h'.get? s.heap.objs.size = some { cls := .type "list", dict := none, data := .seq acc' c', slots := #[] } → ItemsOf (fun i v => items[items.size - 1 - i]? = some v) acc' items.size → Q (.ref s.heap.objs.size) { s with heap := h', toks := tk }) :
    wpAny (model prog w) A (call (.type "list") [.ref it]) Q E s := by
  refine callType_codes (Q₁ := fun obj s₁ => obj = .ref s.heap.objs.size ∧ s₁ = { s with heap := s.heap.push { cls := .type "list", data := .seq #[] } }) F.called_list (F.typeCall_list_1 _) F.entry_list_init
    (code_list_new _ ⟨rfl, rfl⟩) fun obj s₁ h₁ => ?_
  obtain ⟨rfl, rfl⟩ := h₁
  have hS : (s.heap.push { cls := .type "list", data := .seq #[] }).get? s.heap.objs.size = some { cls := .type "list", data := .seq #[] } := Heap.get?_push_size _ rfl
  obtain ⟨oi, hoi, _⟩ := id hit
  obtain ⟨ol, hol, _⟩ := id hl
  have hSi : s.heap.objs.size ≠ it := Nat.ne_of_gt (Heap.lt_size hoi)
  have hSl : s.heap.objs.size ≠ l := Nat.ne_of_gt (Heap.lt_size hol)
  refine ⟨⟨_, hS, rfl⟩, F.args_list_init_2 _ _, list_init_rev (A := A.in1) (s := { s with heap := s.heap.push { cls := .type "list", data := .seq #[] } }) hh (hit.at fun o e => Heap.get?_push_of_some _ e) (hl.push _) hne hn _ hS hSi hSl fun h' tk acc' c' hk hS' hacc => ?_⟩
  exact ⟨rfl, hQ h' tk acc' c' (fun b o hb e => hk b o (Nat.ne_of_lt (Heap.lt_size e)) hb (Heap.get?_push_of_some _ e)) hS' hacc⟩
end
end Pu
namespace Pu
open PySem PySem.Spec PyProof.Rows L2
/-- an untracked record of ours has turned, a new object stands behind and is tracked from now on -/
theorem Inv.turnedNew {X : Cx} {pins : List (Addr × Obj)} {σ : L2.St} {H : Hp} {s : Shared} {h' : Heap} {t' : Nat} {it p : Addr} {o : HO} (I : Inv X pins σ H s) (k : ∀ b o, b ≠ it → s.heap.get? b = some o → h'.get? b = some o) (hn : H it = none) (hL : it ≠ X.env.locals)
    (h1 : it ∈ X.ex ∨ X.s_0.heap.objs.size ≤ it) (h2 : ∀ x c, X.env.cells.lookup x = some c → c ≠ it) (h3 : ∀ p ∈ X.pn ++ pins, p.1 ≠ it) (hp : s.heap.objs.size ≤ p) (new : ObjOk X.prog X.w (upd H p o) h' p o) :
    Inv X pins σ (upd H p o) { s with heap := h', toks := t' } := by
  have nit : ∀ b u, H b = some u → b ≠ it := fun b u e z => by rw [z, hn] at e; cases e
  have fp : H p = none := I.hok.fresh hp
  refine I.step (g' := s.gens) (d' := s.drawn) (ch := [it]) (fun b hb => ?_) (fun b o _ _ hc e _ => k b o (fun z => hc (by simp [z])) e) (fun b o _ _ hc e _ => ⟨o.slots, k b o (fun z => hc (by simp [z])) e⟩)
    (fun b ob _ e n => by rw [upd_ne (Nat.ne_of_lt (Nat.lt_of_lt_of_le (Heap.lt_size e) hp))]; exact n)
    (fun b o hc e => ⟨o, k b o (fun z => hc (by simp [z])) e⟩) (fun b xs e => by rw [upd_ne (ne_of_none e fp)]; exact e) (fun b ob u e => by rw [upd_ne (ne_of_none e fp)]; exact e) (fun b ps e => ⟨#[], by rw [upd_ne (ne_of_none e fp), e]; simp⟩) (fun m hm => ?_) (fun b u e => ?_) I.bare
  · have e : b = it := by simpa using hb
    subst e
    exact ⟨h1, hL, h2, h3⟩
  · obtain ⟨o, es, ep, ho, r⟩ := hm
    exact ⟨o, es, ep, k _ o (Ne.symm hL) ho, r⟩
  · by_cases hb : b = p
    · subst hb; rw [upd_same] at e; cases e; exact new
    · rw [upd_ne hb] at e
      refine (I.hok b u e).stay (fun c v hc q => k c v ?_ q) (fun c q => by rw [upd_ne (ne_of_none q fp)]; exact q) fun c xs q => by rw [upd_ne (ne_of_none q fp)]; exact q
      rcases hc with z | z
      · rw [z]; exact nit b u e
      · exact nit c _ z
def tListRev (te : TE) : TE := fun σ H Q => te σ H fun v H1 => ∃ (a : Addr) (xs : List V), v = .ref a ∧ H1 a = some (.lst xs) ∧ ∀ q, H1 q = none → Q (.ref q) (upd H1 q (.lst xs.reverse))
section
variable {X : Cx}
theorem pe_listRev {e : Expr} {te : TE} {p p2 pos pos2 : Pos} (hc : X.calm = true) (hm : X.mg "list" = none) (hm2 : X.mg "reversed" = none) (he : PE X e te) (hg : Gl X "list" := by rfl) (hg2 : Gl X "reversed" := by rfl)
    (hs : starEach [e] X.env = (false, eval e X.env) :: starEach [] X.env := by rfl)
    (hs2 : starEach [.Call (.Name "reversed" p2) [e] [] pos2] X.env = (false, eval (.Call (.Name "reversed" p2) [e] [] pos2) X.env) :: starEach [] X.env := by rfl) :
    PE X (.Call (.Name "list" p) [.Call (.Name "reversed" p2) [e] [] pos2] [] pos) (tListRev te) := by
  refine ⟨fun pins s σ H Q I h => ?_⟩
  refine Call_ (ld_blt I hg hm (show bootBuiltins "list" = some (.type "list") by decide +kernel) (PyProof.Rows.callWith_type1 (args_cons (Call_ (ld_blt I hg2 hm2 PyProof.Rows.boot_reversed (PyProof.Rows.callWith_type1 (args_cons (thn (he.run pins s σ H _ I h) fun u s1 ⟨v, H1, I1, r1, q1⟩ => args_nil ?_) hs) hs rfl))) hs2) hs2 rfl))
  obtain ⟨a, xs, ev, hq, q⟩ := q1
  subst ev
  obtain rfl : u = Value.ref a := r1
  obtain ⟨its, rv, p', hz⟩ := I1.list (.of hq)
  refine call_reversed_list p'.isList (args_nil ?_)
  have k0 : ∀ b o, s1.heap.get? b = some o → (s1.heap.push (revObj a ((its.toArray.size : Int) - 1))).get? b = some o := fun b o e => Heap.get?_push_of_some _ e
  have I2 : Inv X pins σ H1 { s1 with heap := s1.heap.push (revObj a ((its.toArray.size : Int) - 1)) } := I1.kept (t' := s1.toks) k0
  obtain ⟨f0, f1, f2, f3, f4, f5⟩ := I1.fpOk (H' := H1) (b := s1.heap.objs.size) (Nat.le_refl _) (I1.hok.fresh (Nat.le_refl _))
  have hl := p'.isList
  obtain ⟨ol, hol, _⟩ := id hl
  have hne : a ≠ s1.heap.objs.size := Nat.ne_of_lt (Heap.lt_size hol)
  have hn : its.toArray.size ≤ sizeLine := by rw [List.size_toArray, ← rv.length]; exact hz
  have hq2 : H1 (s1.heap.push (revObj a ((its.toArray.size : Int) - 1))).objs.size = none := I2.hok.fresh (Nat.le_refl _)
  refine call_list_rev (s := { s1 with heap := s1.heap.push (revObj a ((its.toArray.size : Int) - 1)) }) (I1.ok.hd hc) ⟨_, Heap.get?_push_size _ rfl, rfl, rfl⟩ (hl.push _) hne hn fun h' tk acc c' hk hS hi => ?_
  refine ⟨.ref (s1.heap.push (revObj a ((its.toArray.size : Int) - 1))).objs.size, upd H1 (s1.heap.push (revObj a ((its.toArray.size : Int) - 1))).objs.size (.lst xs.reverse), ?_, rfl, q _ hq2⟩
  refine Inv.turnedNew (t' := tk) I2 (fun b o hb e => hk b o hb e) f0 f1 f3 f4 f5 (Nat.le_refl _) ⟨by rw [List.length_reverse]; exact hz, acc.toList, c', RT.vals_rev rv hi, ?_⟩
  rw [Array.toArray_toList]
  exact hS
theorem po_listRev {X : Cx} {W : WX} {e : Expr} {f : Rho → Res D} {p p2 pos pos2 : Pos} (hc : X.calm = true) (hm : X.mg "list" = none) (hm2 : X.mg "reversed" = none) (he : PPE X W e f) (hg : Gl X "list" := by rfl) (hg2 : Gl X "reversed" := by rfl)
    (hs : starEach [e] X.env = (false, eval e X.env) :: starEach [] X.env := by rfl)
    (hs2 : starEach [.Call (.Name "reversed" p2) [e] [] pos2] X.env = (false, eval (.Call (.Name "reversed" p2) [e] [] pos2) X.env) :: starEach [] X.env := by rfl) :
    PPO X W (.Call (.Name "list" p) [.Call (.Name "reversed" p2) [e] [] pos2] [] pos) (oUn dRev f) :=
  ⟨(pe_listRev hc hm hm2 he.pe hg hg2 hs hs2).imp fun σ H Q ⟨H0, ρ, F, s, k, q⟩ => tP_in s k (Post.bind q |>.mono fun d F1 H1 _ e1 q1 e2 x rx => by
    cases d <;> first | exact (show False from q1).elim | skip
    unfold Rep at rx
    obtain ⟨a, xs, rfl, ha, r⟩ := rx
    exact ⟨a, xs, rfl, e2.s _ _ ha, fun l nl => q1 F1 _ (Ext.grow e2.s (same_upd nl)) l _ (e2.s.free nl) (e2.h.free nl) upd_same r.rev⟩)⟩
end
end Pu

namespace Pu
open PySem PySem.Spec PyProof.Rows L2
/-- no exception -/
abbrev W0 : WX := fun _ _ _ _ => False
def mapR (h : D → Res D) : List D → Res (List D)
  | [] => .ok []
  | d :: r => match h d with
    | .ok x => match mapR h r with
      | .ok xs => .ok (x :: xs)
      | _ => .stk
    | _ => .stk
theorem mapR_ok {h : D → Res D} : ∀ {ds es : List D}, mapR h ds = .ok es → es.length = ds.length ∧ ∀ (j : Nat) d, ds[j]? = some d → ∃ e, es[j]? = some e ∧ h d = .ok e
  | [], es, e => by
    unfold mapR at e
    injection e with e
    subst e
    exact ⟨rfl, fun j d hj => by simp at hj⟩
  | d :: r, es, e => by
    unfold mapR at e
    cases e1 : h d with
    | exc c => rw [e1] at e; cases e
    | stk => rw [e1] at e; cases e
    | ok x =>
      rw [e1] at e
      cases e2 : mapR h r with
      | exc c => rw [e2] at e; cases e
      | stk => rw [e2] at e; cases e
      | ok xs =>
        rw [e2] at e
        injection e with e
        subst e
        obtain ⟨h1, h2⟩ := mapR_ok e2
        refine ⟨by simp [h1], fun j d' hj => ?_⟩
        cases j with
        | zero =>
          simp only [List.getElem?_cons_zero, Option.some.injEq] at hj
          subst hj
          exact ⟨x, rfl, e1⟩
        | succ j => exact h2 j d' (by simpa using hj)
theorem mapR_res {h : D → Res D} (ds : List D) : (∃ es, mapR h ds = .ok es) ∨ mapR h ds = .stk := by
  induction ds with
  | nil => exact .inl ⟨_, rfl⟩
  | cons d r ih =>
    unfold mapR
    cases h d with
    | exc c => exact .inr rfl
    | stk => exact .inr rfl
    | ok x =>
      rcases ih with ⟨es, e⟩ | e
      · rw [e]; exact .inl ⟨_, rfl⟩
      · rw [e]; exact .inr rfl
def oLc (i : Nat) (f fe : Rho → Res D) (ρ : Rho) : Res (List D) := ((f ρ).bind asL).bind fun ds => if fits ds.length then mapR (fun d => fe ((ρ.set i .un).set i (.v d))) ds else .stk
/-- the reading of a comprehension, from the fresh list's -/
theorem lcP_read {X : Cx} {W : WX} {iter : Expr} {x : Str} {f fe : Rho → Res D} (i : Nat) {σ : L2.St} {H : Hp} {Q : VK} (h : tPO X W (oLc i f fe) σ H Q) : tLc (iList X.K (tP X W f)) (gName i) tYes (tP X W0 fe) ([(x, i)].map (·.2)) σ H Q := by
  obtain ⟨H0, ρ, F, s, k, q⟩ := h
  refine tP_in s k (Post.bind (Post.bind q) |>.mono fun d F1 H1 _ e1 q1 e2 v rv => ?_)
  cases d <;> first | exact (show False from q1).elim | skip
  rename_i ds _
  unfold Rep at rv
  obtain ⟨a, xs, rfl, ha, r⟩ := rv
  have q2 := Post.at e2.s q1
  obtain ⟨hfit, q2⟩ := Post.guard (c := fits ds.length = true) q2
  refine ⟨a, rfl, ⟨xs, .of (e2.s _ _ ha)⟩, fun L hL => ?_⟩
  rcases mapR_res (h := fun d => fe ((ρ.set i .un).set i (.v d))) ds with ⟨es, ee⟩ | ee
  · rw [ee] at q2
    obtain ⟨hlen, hget⟩ := mapR_ok ee
    refine lc_list (xs := xs) (fun j H => ∃ F ys, Ext F1 H1 F H ∧ F L = none ∧ H L = some (.lst ys) ∧ Reps X.K F (es.take j) ys)
      ⟨F1, [], Ext.grow e2.s (same_upd hL), e2.s.free hL, upd_same, by simpa using Reps.nil⟩ (fun j H _ ⟨F, ys, e, _, _, _⟩ => .of (e.s _ _ (e.f _ _ ha))) (fun j x' H' hx ⟨F, ys, e, fL, h1, ry⟩ => ?_) fun H' ⟨F, ys, e, fL, h1, ry⟩ => ?_
    · have hj : j < ds.length := by rw [r.length]; exact (List.getElem?_eq_some_iff.mp hx).1
      obtain ⟨y, hy, rd⟩ := r.get (List.getElem?_eq_getElem hj)
      rw [hx] at hy; cases hy
      obtain ⟨e', he', hfe⟩ := hget j _ (List.getElem?_eq_getElem hj)
      refine ⟨by simp [wipe], ?_⟩
      show tP X W0 fe _ H' _
      refine ⟨H0, (ρ.set i .un).set i (.v ds[j]), F, e.s, (((k.ext e2).ext e).un i none).set i (rd.mono e.f), ?_⟩
      have hfe' : fe ((ρ.set i .un).set i (.v ds[j])) = .ok e' := hfe
      rw [hfe']
      intro F' H'' e3 z rz
      have zL : H'' L = some (.lst ys) := e3.h _ _ h1
      have fL' : F' L = none := e3.n L (by rw [h1]; simp) fL
      have hys : ys.length = j := by rw [← ry.length, List.length_take, hlen]; omega
      refine ⟨ys, zL, by rw [hys]; exact Nat.lt_of_lt_of_le hj (fits_iff.mp hfit), F', ys ++ [z], ?_, fL', upd_same, ?_⟩
      · have e4 := e.trans e3
        exact ⟨e4.f, fun b u eb => by rw [upd_ne (ne_of_none eb hL)]; exact e4.h _ _ eb, fun b u eb => by rw [upd_ne (ne_of_none eb fL')]; exact e4.s _ _ eb, e4.n⟩
      · have et : es.take (j + 1) = es.take j ++ [e'] := by rw [List.take_add_one, he']; rfl
        rw [et]
        exact (ry.mono e3.f).app (Reps.cons rz Reps.nil)
    · rw [List.take_of_length_le (by rw [hlen, r.length]; exact Nat.le_refl _)] at ry
      exact q2 F H' e L ys fL (e2.h.free hL) h1 ry
  · rw [ee] at q2; exact q2.elim
theorem po_lc {X : Cx} {W : WX} {elt iter : Expr} {scope : Scope} {x : Str} {px pos : Pos} {f fe : Rho → Res D} (i : Nat) (hc : X.calm = true) (hN : X.N.Nodup) (ok : BlkOk X.N X.env.scope scope [(x, i)]) (hf : PPE X W iter f)
    (hg : ∀ (s : Shared) (H : Hp) (C : Addr) (cl : List (Str × Addr)) (fp : List Addr), PG (X.blk s H scope (compEnvC scope cl C X.env) fp) (.Name x px) (gName i))
    (he : ∀ (s : Shared) (H : Hp) (C : Addr) (cl : List (Str × Addr)) (fp : List Addr), PPE (X.blk s H scope (compEnvC scope cl C X.env) fp) W0 elt fe) (hs : ∀ x, foldedSetIterable iter X.env x = pure x := by intro _; rfl) :
    PPO X W (.ListComp elt [⟨.Name x px, iter, [], 0⟩] scope pos) (oLc i f fe) :=
  ⟨(pe_lc (te := tP X W0 fe) hc hN (pi_list hf.pe) ok hg (fun _ _ _ _ _ => pts_nil) (fun s H C cl fp => (he s H C cl fp).pe) hs).imp fun σ H Q h => lcP_read (x := x) (iter := iter) i h⟩
end Pu

namespace Pu
open PySem PySem.Spec PyProof.Rows L2
section
variable {X : Cx} {W : WX} {a b e : Expr} {fa fb f fe : Rho → Res D} {pos p : Pos} {x : Str}
def eLenO (i : Nat) (ρ : Rho) : Res D := (ownAt i ρ).bind fun ds => .ok (.int ds.length)
def eIxO (i : Nat) (fb : Rho → Res D) (ρ : Rho) : Res D := (ownAt i ρ).bind fun ds => (fb ρ).bind fun y => dIx (.lst ds) y
theorem ownP {α : Type} {i : Nat} {H0 F H : Hp} {ρ : Rho} {σ : L2.St} {k : List D → Res α} {Q : α → Hp → Hp → Prop} (ok : SOk X.K H0 F H ρ σ) (q : Post X W ((ownAt i ρ).bind k) F H σ Q) :
    ∃ ds p xs, σ[i]? = some (some (.ref p)) ∧ H p = some (.lst xs) ∧ Reps X.K F ds xs ∧ Post X W (k ds) F H σ Q := by
  unfold ownAt at q
  cases e : ρ[i]? with
  | none => rw [e] at q; exact q.elim
  | some sl =>
    rw [e] at q
    cases sl with
    | un => exact q.elim
    | v d => exact q.elim
    | o ds =>
      obtain ⟨p, xs, a, b, c, d, r⟩ := ok.own i ds e
      exact ⟨ds, p, xs, a, d, r, q⟩
theorem pp_lenO (i : Nat) {p2 : Pos} (hm : X.mg "len" = none) (hN : X.N[i]? = some x := by rfl) (hv : Vis X.env.scope x := by first | exact Or.inl rfl | exact Or.inr (Or.inl rfl) | exact Or.inr (Or.inr rfl)) (hd : (x == ("__debug__" : Str)) = false := by decide)
    (hcd : (x == ("__classdict__" : Str)) = false := by decide) (hg : Gl X "len" := by rfl)
    (he : starEach (.Name x p2 :: []) X.env = (false, eval (.Name x p2) X.env) :: starEach [] X.env := by rfl) (hpl : (backTo pos (starEach [] X.env)).any (·.1) = false := by rfl) : PPE X W (.Call (.Name "len" p) [.Name x p2] [] pos) (eLenO i) :=
  ⟨(pe_callB (call_len_seq (X := X)) hg hm PySem.boot_len (pa_cons (pe_var (i := i) hN hv hd hcd) pa_nil he) (by decide) (by decide) he hpl).imp fun σ H Q ⟨H0, ρ, F, s, k, q⟩ => by
    obtain ⟨ds, p, xs, hσ, hp, rs, q⟩ := ownP k q
    exact ⟨.ref p, hσ, p, xs, rfl, .inl (.of hp), Post.at s q _ (by unfold Rep; rw [rs.length])⟩⟩
theorem pp_ixO (i : Nat) {p2 : Pos} (hb : PPE X W b fb) (hN : X.N[i]? = some x := by rfl) (hv : Vis X.env.scope x := by first | exact Or.inl rfl | exact Or.inr (Or.inl rfl) | exact Or.inr (Or.inr rfl)) (hd : (x == ("__debug__" : Str)) = false := by decide)
    (hcd : (x == ("__classdict__" : Str)) = false := by decide) (hs : PlainIx b := by intro _ _; rfl) : PPE X W (.Subscript (.Name x p2) b pos) (eIxO i fb) :=
  ⟨(pe_ix ix_seq (pe_var (i := i) hN hv hd hcd) hb.pe hs).imp fun σ H Q ⟨H0, ρ, F, s, k, q⟩ => by
    obtain ⟨ds, p, xs, hσ, hp, rs, q⟩ := ownP k q
    refine ⟨.ref p, hσ, tP_in s k (Post.bind q |>.mono fun d2 F2 H2 _ e3 q2 e4 y ry => ?_)⟩
    cases d2 <;> first | exact (show False from q2).elim | skip
    rename_i i' _
    have q2 : Post X W (dAt ds i') F2 H2 σ (fun d F' H' => ∀ z, Rep X.K F' d z → Q z H') := q2
    unfold Rep at ry
    unfold dAt at q2
    cases e : atI ds i' with
    | none => rw [e] at q2; exact q2.elim
    | some d =>
      rw [e] at q2
      obtain ⟨z, h1, h2⟩ := (rs.mono e4.f).at e
      exact .inl ⟨p, xs, i', z, rfl, ry, .of (e4.h _ _ hp), h1, Post.at e4.s q2 _ h2⟩⟩
theorem al_nil : ∀ (ρ : Rho) (ds : List D), aNil ρ = .ok ds → ds.length = 0 := fun ρ ds h => by
  unfold aNil at h
  injection h with h
  subst h
  rfl
theorem al_cons {fr : Rho → Res (List D)} {n : Nat} (h : ∀ ρ ds, fr ρ = .ok ds → ds.length = n) : ∀ (ρ : Rho) (ds : List D), aCons fa fr ρ = .ok ds → ds.length = n + 1 := fun ρ ds q => by
  unfold aCons at q
  cases e1 : fa ρ with
  | exc c => rw [e1] at q; cases q
  | stk => rw [e1] at q; cases q
  | ok x =>
    rw [e1] at q
    simp only [Res.bind_ok] at q
    cases e2 : fr ρ with
    | exc c => rw [e2] at q; cases q
    | stk => rw [e2] at q; cases q
    | ok r =>
      rw [e2] at q
      simp only [Res.bind_ok] at q
      injection q with q
      subst q
      rw [List.length_cons, h ρ r e2]
end
/-- y = [elt for x in iter] -/
theorem ps_setLcP {X : Cx} {W : WX} {elt iter : Expr} {scope : Scope} {x y : Str} {px py pos spos : Pos} {f fe : Rho → Res D} (j i : Nat) (hc : X.calm = true) (hN : X.N.Nodup) (ok : BlkOk X.N X.env.scope scope [(x, i)]) (hf : PPE X W iter f)
    (hg : ∀ (s : Shared) (H : Hp) (C : Addr) (cl : List (Str × Addr)) (fp : List Addr), PG (X.blk s H scope (compEnvC scope cl C X.env) fp) (.Name x px) (gName i))
    (he : ∀ (s : Shared) (H : Hp) (C : Addr) (cl : List (Str × Addr)) (fp : List Addr), PPE (X.blk s H scope (compEnvC scope cl C X.env) fp) W0 elt fe)
    (hy : X.N[j]? = some y := by rfl) (hyl : X.env.scope.names.lookup y = some .local := by rfl)
    (hsw : swapsWith (.ListComp elt [⟨.Name x px, iter, [], 0⟩] scope pos) (some (.Name y py)) spos.line X.env = pure true := by exact sw_true rfl rfl rfl (by decide +kernel))
    (hs : ∀ x, foldedSetIterable iter X.env x = pure x := by intro _; rfl) : PPS X W (.Assign [.Name y py] (.ListComp elt [⟨.Name x px, iter, [], 0⟩] scope pos) spos) (gSet j (eO (oLc i f fe))) := by
  refine ⟨fun F0 H0 => ?_⟩
  refine (ps_setLc (i := j) (te := tP X W0 fe) hc hN hy hyl hsw (pi_list hf.pe) ok hg (fun _ _ _ _ _ => pts_nil) (fun s H C cl fp => (he s H C cl fp).pe) hs).imp fun D σ H ⟨ρ, F, e0, k, q⟩ => ?_
  show tLc _ _ _ _ _ σ H (fun x H1 => gName j x σ H1 D.nx)
  refine lcP_read (x := x) (iter := iter) i (fz_read ⟨H0, ρ, F, e0.s, k, ?_⟩)
  exact (PostS.in q e0 k).mono fun d F1 H1 _ _ ⟨q1, e1, k1, _⟩ y ry => PostS.at q1 e1 (k1.set j ry)
/-- the built-in names that the text uses -/
structure Bts (mg : Str → Option Value) : Prop where
  m_len : mg "len" = none
  m_range : mg "range" = none
  m_isinstance : mg "isinstance" = none
  m_int : mg "int" = none
  m_bool : mg "bool" = none
  m_str : mg "str" = none
  m_tuple : mg "tuple" = none
  m_list : mg "list" = none
  m_reversed : mg "reversed" = none
  m_min : mg "min" = none
  m_max : mg "max" = none
  m_sum : mg "sum" = none
  m_zip : mg "zip" = none
end Pu

namespace Pu
open PySem PySem.Spec PyProof.Rows L2
/-- a def of the text as it stands -/
structure DefT (K : Fr) (mg : Str → Option Value) (x : Str) (st : Stmt) (ps : List Str) : Prop where
  ex : ∃ (f : Addr) (fd : FuncData), Fun K x x st f fd ∧ mg x = some (.ref f) ∧ PySem.W.keepIn K (.ref f) = true ∧ ∀ us : List Value, us.length = ps.length → bindArgs fd ⟨us, []⟩ = pure (ps.zip us)
theorem def_mk {K : Fr} {h : Heap} {mg : Str → Option Value} {x : Str} {st : Stmt} {ps : List Str} (X : K.In h) (G : h.Ns mainGlobals mg) {f : Addr} {oc : Value} {od an : Option Addr} {osl : Array (Option Value)} {kV doc pm cdv ct : Value}
    (a : PySem.W.nsIn K mainGlobals x = some (some (.ref f))) (l : K.lookup f = some ⟨oc, od, .func (PySem.W.fnOf x x (defArgs st) (defBody st) (defScope st) .none kV doc pm an cdv ct), osl⟩) (c : PySem.W.codeIn K cdv x = true) (k : PySem.W.keepIn K (.ref f) = true)
    (b : ∀ (kV doc pm : Value) (an : Option Addr) (cdv ct : Value) (us : List Value), us.length = ps.length → bindArgs (PySem.W.fnOf x x (defArgs st) (defBody st) (defScope st) .none kV doc pm an cdv ct) ⟨us, []⟩ = pure (ps.zip us)) : DefT K mg x st ps := by
  have F := fun_mk (x := x) (qual := x) (st := st) l c k
  exact ⟨f, _, F, PySem.W.mg_of X G a, k, b kV doc pm an cdv ct⟩
theorem exc_mk {K : Fr} {h : Heap} {mg : Str → Option Value} {c : String} (X : K.In h) (G : h.Ns mainGlobals mg) {C : Addr} (a : PySem.W.nsIn K mainGlobals (Str.ofString c) = some (some (.ref C)))
    (q : PySem.W.excIn K C [.type "ValueError", .type "Exception", .type "BaseException", .type "object"] "ValueError.__new__" = true) (k : PySem.W.keepIn K (.ref C) = true) (b : PySem.W.subIn K (.ref C) (.type "BaseException") = some true) (t : PySem.W.typeIn K (.ref C) = some (.type "type")) : ExcT K mg c :=
  ⟨C, PySem.W.mg_of X G a, q, k, b, t⟩
theorem glob_mk {K : Fr} {h : Heap} {mg : Str → Option Value} {x : Str} {i : Int} {t : Tok} (X : K.In h) (G : h.Ns mainGlobals mg) (a : PySem.W.nsIn K mainGlobals x = some (some (.int i t))) : ∃ t, mg x = some (.int i t) :=
  ⟨t, PySem.W.mg_of X G a⟩
section
variable {P : Program} {w : World} {K : Fr} {mg : Str → Option Value} {base : Heap} {x : Str} {st : Stmt} {ps : List Str}
theorem DefT.step {n k : Nat} {φ : List D → Res D} (d : DefT K mg x st ps) (h : ∀ {f : Addr} {fd : FuncData}, Fun K x x st f fd → FnOk P w K mg base (L2.CX P w) k f fd ps (spP K mg n φ)) : Cal P w K mg base k x n φ := by
  obtain ⟨f, fd, F, m, kp, b⟩ := d.ex
  exact ⟨f, fd, ps, h F, m, kp, .all b⟩
theorem DefT.zero {n : Nat} (d : DefT K mg x st ps) : Cal P w K mg base 0 x n (fun _ => .stk) :=
  d.step fun _ => ⟨fun _ _ _ _ ⟨_, _, _, _, _, q⟩ => q.elim, fun _ _ _ _ _ _ _ _ _ _ _ _ _ ⟨_, _, _, _, _, q⟩ => q.elim⟩
end
/-- a law's promise -/
def spLaw (K : Fr) : Sp := fun vs H Q _ => ∃ (a : Addr) (ns : List Int), vs = [.ref a] ∧ SqL K H a (ns.map V.int) ∧ ns.length ≤ 63 ∧ ∀ H', Q (.bl true) H'
theorem cx_false {P : Program} {w : World} {l : List Env} {H : Hp} {s s' : Shared} {e : Value} (h : L2.CX P w l H s (fun _ _ _ => False) e s') : False := by
  obtain ⟨_, _, _, _, _, _, _, _, _, _, _, _, z⟩ := h
  exact z
theorem law_end {P : Program} {w : World} {K : Fr} {mg : Str → Option Value} {st : Stmt} {x y : Str} {k : Nat} {φ : List D → Res D} {fa : Addr} (d : DefT K mg x st [y]) (hfa : mg x = some (.ref fa))
    (hb : ∀ base : Heap, K.In base → base.Ns mainGlobals mg → ∀ (f : Addr) (fd : FuncData), Fun K x x st f fd → FnOk P w K mg base (L2.CX P w) k f fd [y] (spP K mg 1 φ)) (ht : ∀ ns : List Int, ns.length ≤ 63 → φ [.scr ns] = .ok (.bl true)) :
    ∃ fd : FuncData, (∀ (s : Shared) (u : Value), BindsTo s fd ⟨[u], []⟩ [(y, u)]) ∧ ∀ base : Heap, K.In base → base.Ns mainGlobals mg → FnOk P w K mg base (L2.CX P w) k fa fd [y] (spLaw K) := by
  obtain ⟨f, fd, F, m, kp, b⟩ := d.ex
  have e : f = fa := by rw [hfa] at m; cases m; rfl
  subst e
  refine ⟨fd, fun s u => .of_eq (b [u] rfl), fun base k1 k2 => (hb base k1 k2 _ _ F).imp fun vs H Q E ⟨a, ns, e1, h1, h2, h3⟩ => ?_⟩
  subst e1
  refine ⟨H, [.scr ns], Same.refl H, Reps.cons ?_ Reps.nil, rfl, ?_⟩
  · unfold Rep
    exact ⟨a, rfl, h1⟩
  · rw [ht ns h2]
    exact fun x F' H' _ r => by
      unfold Rep at r
      rw [r]
      exact h3 H'
end Pu

namespace Pu
open PySem PySem.Spec PyProof.Rows L2
def noX : SRes → SRes
  | .exc _ _ => .stk
  | o => o
/-- cl: of the classes that may come, whether the clause names them -/
def gTry (cl : String → Option Bool) (g h : Rho → SRes) (ρ : Rho) : SRes := match g ρ with
  | .exc c ρ' => match cl c with
    | some true => noX (h ρ')
    | some false => .exc c ρ'
    | none => .stk
  | o => o
/-- what an except clause of the class c says of an error of the class c' -/
structure ExmT (K : Fr) (mg : Str → Option Value) (c' c : String) (b : Bool) : Prop where
  ex : ∃ A C, mg (Str.ofString c') = some (.ref A) ∧ mg (Str.ofString c) = some (.ref C) ∧ PySem.W.exmOne K (.ref A) (.ref C) = some b
theorem exm_any {K : PySem.W.Frag} {A S : Addr} {b : Bool} (h1 : PySem.W.subIn K (.ref S) (.type "BaseException") = some true) (h2 : PySem.W.isClsIn K S = true) (h3 : PySem.W.typeIn K (.ref S) = some (.type "type")) (h4 : PySem.W.subIn K (.ref A) (.ref S) = some b) :
    PySem.W.exmOne K (.ref A) (.ref S) = some b := by
  have e1 : (PySem.W.subIn K (.ref S) (.type "BaseException") == some true) = true := by rw [h1] <;> rfl
  have e2 : ((PySem.W.clsIn K S).isSome && PySem.W.typeIn K (.ref S) == some (.type "type")) = true := by
    have h2' : (PySem.W.clsIn K S).isSome = true := h2
    rw [h2', h3] <;> rfl
  show (if (PySem.W.subIn K (.ref S) (.type "BaseException") == some true) = true then (if ((PySem.W.clsIn K S).isSome && PySem.W.typeIn K (.ref S) == some (.type "type")) = true then PySem.W.subIn K (.ref A) (.ref S) else none) else none) = some b
  rw [if_pos e1, if_pos e2]
  exact h4
theorem exm_mk {K : Fr} {h : Heap} {mg : Str → Option Value} {c' c : String} {b : Bool} (X : K.In h) (G : h.Ns mainGlobals mg) {A C : Addr} (a : PySem.W.nsIn K mainGlobals (Str.ofString c') = some (some (.ref A))) (a2 : PySem.W.nsIn K mainGlobals (Str.ofString c) = some (some (.ref C)))
    (h1 : PySem.W.subIn K (.ref C) (.type "BaseException") = some true) (h2 : PySem.W.isClsIn K C = true) (h3 : PySem.W.typeIn K (.ref C) = some (.type "type")) (h4 : PySem.W.subIn K (.ref A) (.ref C) = some b) : ExmT K mg c' c b :=
  ⟨A, C, PySem.W.mg_of X G a, PySem.W.mg_of X G a2, exm_any h1 h2 h3 h4⟩
/-- the clause's word, for all classes that may come -/
def ClOk (K : Fr) (mg : Str → Option Value) (cl : String → Option Bool) (C : Addr) : Prop := ∀ c' b, cl c' = some b → ∀ A, mg (Str.ofString c') = some (.ref A) → PySem.W.exmOne K (.ref A) (.ref C) = some b
section
variable {X : Cx} {W : WX} {F0 H0 F : Hp} {D : Ends} {ρ : Rho}
theorem postS_noX {r : SRes} (W' : WX) (q : PostS X W F0 H0 (noX r) F D) : PostS X W' F0 H0 r F D := by
  cases r with
  | nx ρ => exact q
  | rt d => exact q
  | exc c ρ => exact q.elim
  | stk => exact q
/-- from the try's end to its body's -/
theorem try_read {g h : Rho → SRes} {cl : String → Option Bool} {W' : WX} (q : PostS X W F0 H0 (gTry cl g h ρ) F D)
    (hyes : ∀ c ρ', cl c = some true → PostS X W F0 H0 (noX (h ρ')) F D → ∀ A σ' F' H', X.mg (Str.ofString c) = some (.ref A) → Ext F0 H0 F' H' → Same F F' → SOk X.K H0 F' H' ρ' σ' → W' (.ref A) none σ' H')
    (hno : ∀ c, cl c = some false → ∀ A σ' H', X.mg (Str.ofString c) = some (.ref A) → W (.ref A) none σ' H' → W' (.ref A) none σ' H') : PostS X W' F0 H0 (g ρ) F D := by
  unfold gTry at q
  cases e : g ρ with
  | nx ρ' => rw [e] at q; exact q
  | rt d => rw [e] at q; exact q
  | stk => rw [e] at q; exact q
  | exc c ρ' =>
    rw [e] at q
    simp only at q
    intro A σ' F' H' m ex s k
    cases ec : cl c with
    | none => rw [ec] at q; exact q.elim
    | some b =>
      rw [ec] at q
      cases b with
      | true => exact hyes c ρ' ec q A σ' F' H' m ex s k
      | false => exact hno c ec A σ' H' m (q A σ' F' H' m ex s k)
end
section
variable {X : Cx} {W : WX} {body suite : List Stmt} {b₀ : Stmt} {np pos pos' : Pos} {g h : Rho → SRes}
/-- try: body, except x: suite -/
theorem ps_tryP {x : String} {C : Addr} (cl : String → Option Bool) (tk : Takes X W) (hC : X.mg (Str.ofString x) = some (.ref C)) (hcl : ClOk X.K X.mg cl C)
    (hb : ∀ (W' : WX) (pn : List (Addr × Obj)) (xe : Value → Shared → Prop), Takes (X.tr pn xe) W' → PassesOwn (model X.prog X.w) X.A X.env xe → PPSs (X.tr pn xe) W' body g)
    (hsu : ∀ (a : Addr) (oe : Obj) (pn : List (Addr × Obj)), PPSs (X.suite a ((a, oe) :: pn)) W0 (b₀ :: suite) h)
    (hs : X.stack = X.env :: X.outer := by rfl) (hf : X.env.frame = some X.env.locals := by rfl) (hg : Gl X (Str.ofString x) := by rfl) (hdb : (Str.ofString x == ("__debug__" : Str)) = false := by decide) :
    PPS X W (.Try body [.ExceptHandler (some (.Name (Str.ofString x) np)) none (b₀ :: suite) pos'] [] [] pos) (gTry cl g h) :=
  ⟨fun F0 H0 => (ps_try_only (tb := fun W' => tPS X W' F0 H0 g) (ts := fun _ _ _ => tPS X W0 F0 H0 h) hs hf ⟨hg, hdb, .inl hC⟩ tk (fun W' pn xe tk' hp' => (hb W' pn xe tk' hp').ps F0 H0) (fun a oe cls d pn _ _ => (hsu a oe pn).ps F0 H0)).imp
    fun D σ H ⟨ρ, F, e0, k, q⟩ => ⟨ρ, F, e0, k, try_read q (fun c ρ' ec q A σ' F' H' m ex s k' => ⟨true, hcl c true ec A m, fun _ a _ => ⟨ρ', F', ex, k', (postS_noX W0 q).mono s⟩, fun z => (nomatch z)⟩)
      (fun c ec A σ' H' m w => ⟨false, hcl c false ec A m, fun z => (nomatch z), fun _ => w⟩)⟩⟩
/-- .. except x as n: a suite that returns what the error's class says -/
def gTryR (i : Nat) (cl : String → Option Bool) (dv : String → D) (g : Rho → SRes) (ρ : Rho) : SRes := match g ρ with
  | .exc c ρ' => match cl c with
    | some true => if i < ρ'.length then .rt (dv c) else .stk
    | some false => .exc c ρ'
    | none => .stk
  | o => o
theorem ps_tryRP {x : String} {n : Str} {C : Addr} (i : Nat) (cl : String → Option Bool) (dv : String → D) (vv : String → V) (hrep : ∀ c K F, Rep K F (dv c) (vv c)) (tk : Takes X W) (hC : X.mg (Str.ofString x) = some (.ref C)) (hcl : ClOk X.K X.mg cl C)
    (hb : ∀ (W' : WX) (pn : List (Addr × Obj)) (xe : Value → Shared → Prop), Takes (X.tr pn xe) W' → PassesOwn (model X.prog X.w) X.A X.env xe → PPSs (X.tr pn xe) W' body g)
    (hsu : ∀ (a : Addr) (oe : Obj) (c : String) (A : Addr) (pn : List (Addr × Obj)), cl c = some true → X.mg (Str.ofString c) = some (.ref A) → Zc (.ref A) none oe → (∃ vs, oe.data = .fields vs) →
      PSs (X.suite a ((a, oe) :: pn)) (b₀ :: suite) (fun D σ H => σ[i]? = some (some (.ref a)) ∧ ∀ H', Same H H' → D.rt (vv c) H'))
    (hN : X.N.Nodup) (hi : X.N[i]? = some n := by rfl) (hln : X.env.kindOf n = some .local := by rfl)
    (hs : X.stack = X.env :: X.outer := by rfl) (hf : X.env.frame = some X.env.locals := by rfl) (hg : Gl X (Str.ofString x) := by rfl) (hdb : (Str.ofString x == ("__debug__" : Str)) = false := by decide) :
    PPS X W (.Try body [.ExceptHandler (some (.Name (Str.ofString x) np)) (some n) (b₀ :: suite) pos'] [] [] pos) (gTryR i cl dv g) :=
  ⟨fun F0 H0 => (ps_try_as (i := i) (tb := fun W' => tPS X W' F0 H0 g)
    (ts := fun a cls d D σ H => ∃ c A, cl c = some true ∧ X.mg (Str.ofString c) = some (.ref A) ∧ cls = .ref A ∧ d = none ∧ σ[i]? = some (some (.ref a)) ∧ ∀ H', Same H H' → D.rt (vv c) H') hs hf hN hi hln ⟨hg, hdb, .inl hC⟩ tk (fun W' pn xe tk' hp' => (hb W' pn xe tk' hp').ps F0 H0)
    (fun a oe cls d pn hz hd => ⟨fun pins s σ H D I ⟨c, A, ec, m, e1, e2, e3, q⟩ => by
      subst e1 e2
      exact (hsu a oe c A pn ec m hz hd).run pins s σ H D I ⟨e3, q⟩⟩)).imp
    fun D σ H ⟨ρ, F, e0, k, q⟩ => ⟨ρ, F, e0, k, by
      unfold gTryR at q
      cases e : g ρ with
      | nx ρ' => rw [e] at q; exact q
      | rt d => rw [e] at q; exact q
      | stk => rw [e] at q; exact q
      | exc c ρ' =>
        rw [e] at q
        simp only at q
        intro A σ' F' H' m ex s k'
        cases ec : cl c with
        | none => rw [ec] at q; exact q.elim
        | some b =>
          rw [ec] at q
          cases b with
          | true =>
            simp only at q
            by_cases hl : i < ρ'.length
            · rw [if_pos hl] at q
              exact ⟨true, hcl c true ec A m, fun _ a _ => ⟨c, A, ec, m, rfl, rfl, List.getElem?_set_self (by rw [← k'.len]; exact hl), fun H'' sh => q (vv c) F' H'' (ex.trans (Ext.grow ex.s sh)) (hrep c _ _)⟩, fun z => (nomatch z)⟩
            · rw [if_neg hl] at q; exact q.elim
          | false => exact ⟨false, hcl c false ec A m, fun z => (nomatch z), fun _ => q A σ' F' H' m ex s k'⟩⟩⟩
end
end Pu

namespace Pu
open PySem PySem.Spec PyProof.Rows L2
structure EcT (K : Fr) (mg : Str → Option Value) (c : String) : Prop where
  ex : ∃ A, mg (Str.ofString c) = some (.ref A) ∧ ExcC K A
theorem ec_mk {K : Fr} {h : Heap} {mg : Str → Option Value} {c : String} {D : Addr} (X : K.In h) (G : h.Ns mainGlobals mg) (a : PySem.W.nsIn K mainGlobals (Str.ofString c) = some (some (.ref D)))
    (hg : PySem.W.findIn K (.ref D) "__getattribute__" = some (some (.builtin "BaseException.__getattribute__"))) (hk : PySem.W.findIn K (.ref D) "__getattr__" = some none) (hs : PySem.W.subIn K (.ref D) (.type "BaseException") = some true) (hd : PySem.W.hasDictIn K D = true)
    (ha : PySem.W.findIn K (.ref D) "__class__" = some (some (.builtin "object.__class__"))) (hn : PySem.W.specialIn K (.builtin "object.__class__") "__get__" = some (some (.builtin "getset_descriptor.__get__"))) (ht : PySem.W.takesIn K (.builtin "object.__class__") = some true) (hm : PySem.W.mroIn K D (.type "object") = some true) : EcT K mg c :=
  ⟨D, PySem.W.mg_of X G a, ⟨hg, hk, hs, hd, ha, hn, ht, hm⟩⟩
/-- isinstance(an error of the class c', c) -/
structure KitT (K : Fr) (mg : Str → Option Value) (c' c : String) (b : Bool) : Prop where
  ex : ∃ A C, mg (Str.ofString c') = some (.ref A) ∧ mg (Str.ofString c) = some (.ref C) ∧ PySem.W.kitOne K (.ref A) (.ref C) = some b
structure KitV (K : Fr) (mg : Str → Option Value) (c' : String) (T : String) (b : Bool) : Prop where
  ex : ∃ A, mg (Str.ofString c') = some (.ref A) ∧ PySem.W.kitOne K (.ref A) (.type T) = some b
theorem kit_other {K : PySem.W.Frag} {A S : Addr} {b : Bool} (hne : A ≠ S) (h2 : PySem.W.isClsIn K S = true) (h3 : PySem.W.typeIn K (.ref S) = some (.type "type")) (h4 : PySem.W.subIn K (.ref A) (.ref S) = some b) : PySem.W.kitOne K (.ref A) (.ref S) = some b := by
  have e2 : ((PySem.W.clsIn K S).isSome && PySem.W.typeIn K (.ref S) == some (.type "type")) = true := by
    have h2' : (PySem.W.clsIn K S).isSome = true := h2
    rw [h2', h3] <;> rfl
  unfold PySem.W.kitOne
  rw [if_neg (by intro z; exact hne (by simpa using z))]
  show (if ((PySem.W.clsIn K S).isSome && PySem.W.typeIn K (.ref S) == some (.type "type")) = true then PySem.W.subIn K (.ref A) (.ref S) else none) = some b
  rw [if_pos e2]
  exact h4
theorem kit_mk {K : Fr} {h : Heap} {mg : Str → Option Value} {c' c : String} {b : Bool} (X : K.In h) (G : h.Ns mainGlobals mg) {A C : Addr} (a : PySem.W.nsIn K mainGlobals (Str.ofString c') = some (some (.ref A))) (a2 : PySem.W.nsIn K mainGlobals (Str.ofString c) = some (some (.ref C)))
    (hne : A ≠ C) (h2 : PySem.W.isClsIn K C = true) (h3 : PySem.W.typeIn K (.ref C) = some (.type "type")) (h4 : PySem.W.subIn K (.ref A) (.ref C) = some b) : KitT K mg c' c b :=
  ⟨A, C, PySem.W.mg_of X G a, PySem.W.mg_of X G a2, kit_other hne h2 h3 h4⟩
theorem kitV_mk {K : Fr} {h : Heap} {mg : Str → Option Value} {c' T : String} {b : Bool} (X : K.In h) (G : h.Ns mainGlobals mg) {A : Addr} (a : PySem.W.nsIn K mainGlobals (Str.ofString c') = some (some (.ref A)))
    (hk : PySem.W.kitMeta T = true) (h4 : PySem.W.subIn K (.ref A) (.type T) = some b) : KitV K mg c' T b := by
  refine ⟨A, PySem.W.mg_of X G a, ?_⟩
  unfold PySem.W.kitOne
  rw [if_neg (by intro z; simp at z)]
  show (if PySem.W.kitMeta T = true then PySem.W.subIn K (.ref A) (.type T) else none) = some b
  rw [if_pos hk]
  exact h4
/-- isinstance(e, (c1, c2, ..)), e the exception that the suite holds -/
def rIsET (K : PySem.W.Frag) (D a : Addr) : List V → Hp → VK → Prop := fun xs H Q => ∃ (tp : Addr) (cs : List V) (us : List Value) (b : Bool), xs = [.ref a, .ref tp] ∧ H tp = some (.tup cs) ∧ Paired ClsV cs us ∧ PySem.W.kitAny K (.ref D) us = some b ∧ Q (.bl b) H
theorem call_isET {X : Cx} {a D : Addr} {oe : Obj} {pn : List (Addr × Obj)} (C : ExcC X.K D) (hz : Zc (.ref D) none oe) (hf : ∃ vs, oe.data = .fields vs) : CallR (X.suite a ((a, oe) :: pn)) (.builtin "isinstance") (rIsET X.K D a) := by
  intro pins s σ H xs us Q I r h
  obtain ⟨tp, cs, ws, b, rfl, hT, k, e, q⟩ := h
  obtain ⟨u1, u2, rfl, r1, r2⟩ := vals2 r
  cases r1
  cases (show u2 = Value.ref tp from r2)
  obtain ⟨hget, _⟩ := I.pin (a, oe) (List.mem_append.mpr (.inl List.mem_cons_self))
  obtain ⟨vs, hv⟩ := hf
  have J : PySem.W.InstAt s.heap a oe D none := by
    obtain ⟨oc, od, oda, osl⟩ := oe
    obtain ⟨h1, h2⟩ := hz
    dsimp only at h1 h2 hv
    subst h1 h2 hv
    exact ⟨hget, rfl, rfl, trivial⟩
  obtain ⟨_, its, rv, o, h1, h2, n, h3⟩ := (show ObjOk X.prog X.w H s.heap tp (.tup cs) from I.hok tp _ hT)
  have e3 := ClsV.all k rv
  subst e3
  obtain ⟨oc, od, dt, sl⟩ := o
  simp only at h2 h3
  subst h2 h3
  exact PySem.W.kia_tup (PySem.W.handS_kitx_exc C.hg C.hk C.hs C.hd C.ha C.hn C.ht C.hm) I.kIn J h1 e (fun z => nomatch z) fun tk => ⟨.bl b, H, I.kept (t' := tk) fun _ _ z => z, rfl, q⟩
section
variable {X : Cx} {a D : Addr} {oe : Obj} {pn : List (Addr × Obj)} {i : Nat} {x : Str} {p p1 p2 pos : Pos}
def tIsE (i : Nat) (a : Addr) (b : Bool) : TE := fun σ H Q => σ[i]? = some (some (.ref a)) ∧ Q (.bl b) H
/-- c an own class -/
theorem pe_isE {c' c : String} {b : Bool} (i : Nat) (ec : EcT X.K X.mg c') (hD : X.mg (Str.ofString c') = some (.ref D)) (hz : Zc (.ref D) none oe) (hf : ∃ vs, oe.data = .fields vs) (k : KitT X.K X.mg c' c b) (hm : X.mg "isinstance" = none)
    (hN : X.N[i]? = some x := by rfl) (hv : Vis X.env.scope x := by first | exact Or.inl rfl | exact Or.inr (Or.inl rfl) | exact Or.inr (Or.inr rfl)) (hd : (x == ("__debug__" : Str)) = false := by decide) (hcd : (x == ("__classdict__" : Str)) = false := by decide)
    (hg : Gl X "isinstance" := by rfl) (hg2 : Gl X (Str.ofString c) := by rfl) (hd2 : (Str.ofString c == ("__debug__" : Str)) = false := by decide)
    (he : starEach (.Name x p1 :: [.Name (Str.ofString c) p2]) X.env = (false, eval (.Name x p1) X.env) :: starEach [.Name (Str.ofString c) p2] X.env := by rfl) :
    PE (X.suite a ((a, oe) :: pn)) (.Call (.Name "isinstance" p) [.Name x p1, .Name (Str.ofString c) p2] [] pos) (tIsE i a b) := by
  obtain ⟨D', m', E⟩ := ec.ex
  rw [hD] at m'; cases m'
  obtain ⟨A, C, m1, m2, kk⟩ := k.ex
  rw [hD] at m1; cases m1
  refine (pe_callB (X := X.suite a ((a, oe) :: pn)) (call_isE E hz hf) hg hm (by decide +kernel) (pa_cons (pe_var (i := i) hN hv hd hcd) (pa_cons (pe_glob (v := .ref C) hg2 m2 rfl hd2) pa_nil rfl) he) (by decide) (by decide) he rfl).imp fun σ H Q ⟨h1, h2⟩ => ?_
  exact ⟨_, h1, .ref C, _, b, rfl, fun u r => r, kk, h2⟩
/-- c a built-in class -/
theorem pe_isEV {c' T : String} {b : Bool} (i : Nat) (ec : EcT X.K X.mg c') (hD : X.mg (Str.ofString c') = some (.ref D)) (hz : Zc (.ref D) none oe) (hf : ∃ vs, oe.data = .fields vs) (k : KitV X.K X.mg c' T b) (hm : X.mg "isinstance" = none) (hm2 : X.mg (Str.ofString T) = none)
    (hv2 : bootBuiltins (Str.ofString T) = some (.type T) := by decide +kernel)
    (hN : X.N[i]? = some x := by rfl) (hv : Vis X.env.scope x := by first | exact Or.inl rfl | exact Or.inr (Or.inl rfl) | exact Or.inr (Or.inr rfl)) (hd : (x == ("__debug__" : Str)) = false := by decide) (hcd : (x == ("__classdict__" : Str)) = false := by decide)
    (hg : Gl X "isinstance" := by rfl) (hg2 : Gl X (Str.ofString T) := by rfl) (hn2 : Str.ofString T ≠ "__name__" := by decide) (hd2 : (Str.ofString T == ("__debug__" : Str)) = false := by decide)
    (he : starEach (.Name x p1 :: [.Name (Str.ofString T) p2]) X.env = (false, eval (.Name x p1) X.env) :: starEach [.Name (Str.ofString T) p2] X.env := by rfl) :
    PE (X.suite a ((a, oe) :: pn)) (.Call (.Name "isinstance" p) [.Name x p1, .Name (Str.ofString T) p2] [] pos) (tIsE i a b) := by
  obtain ⟨D', m', E⟩ := ec.ex
  rw [hD] at m'; cases m'
  obtain ⟨A, m1, kk⟩ := k.ex
  rw [hD] at m1; cases m1
  refine (pe_callB (X := X.suite a ((a, oe) :: pn)) (call_isE E hz hf) hg hm (by decide +kernel) (pa_cons (pe_var (i := i) hN hv hd hcd) (pa_cons (pe_bltn (v := .ty T) hg2 hm2 hv2 rfl hn2 hd2) pa_nil rfl) he) (by decide) (by decide) he rfl).imp fun σ H Q ⟨h1, h2⟩ => ?_
  exact ⟨_, h1, .ty T, _, b, rfl, fun u r => r, kk, h2⟩
/-- written own classes -/
inductive ClsEs (X : Cx) (c' : String) : List Expr → List V → List Value → Bool → Prop
  | nil : ClsEs X c' [] [] [] false
  | cons {c : String} {C : Addr} {p : Pos} {es : List Expr} {vs : List V} {us : List Value} {b : Bool} (m : X.mg (Str.ofString c) = some (.ref C)) (hg : Gl X (Str.ofString c)) (hd : (Str.ofString c == ("__debug__" : Str)) = false)
      (k : ∀ A, X.mg (Str.ofString c') = some (.ref A) → ∃ b1, PySem.W.kitOne X.K (.ref A) (.ref C) = some b1 ∧ (b1 = false)) (hs : starEach (.Name (Str.ofString c) p :: es) X.env = (false, eval (.Name (Str.ofString c) p) X.env) :: starEach es X.env) (r : ClsEs X c' es vs us b) :
      ClsEs X c' (.Name (Str.ofString c) p :: es) (.ref C :: vs) (.ref C :: us) b
theorem ClsEs.pa {Y : Cx} (hY : Y.mg = X.mg) (hE : Y.env = X.env) {c' : String} : ∀ {es : List Expr} {vs : List V} {us : List Value} {b : Bool}, ClsEs X c' es vs us b → PA Y es (fun _ H Q => Q vs H)
  | _, _, _, _, .nil => pa_nil.imp fun σ H Q q => q
  | _, _, _, _, .cons m hg hd k hs r => (pa_cons (pe_glob (v := .ref _) (by unfold Gl at hg ⊢; rw [hE]; exact hg) (by rw [hY]; exact m) rfl hd) (ClsEs.pa hY hE r) (by rw [hE]; exact hs)).imp fun σ H Q q => q
theorem ClsEs.any {c' : String} {A : Addr} (hA : X.mg (Str.ofString c') = some (.ref A)) : ∀ {es : List Expr} {vs : List V} {us : List Value} {b : Bool}, ClsEs X c' es vs us b → PySem.W.kitAny X.K (.ref A) us = some false ∧ Paired ClsV vs us
  | _, _, _, _, .nil => ⟨rfl, .nil⟩
  | _, _, _, _, .cons m hg hd k hs r => by
    obtain ⟨b1, h1, h2⟩ := k A hA
    subst h2
    obtain ⟨h3, h4⟩ := ClsEs.any hA r
    refine ⟨?_, .cons (.own _) h4⟩
    unfold PySem.W.kitAny
    rw [h1]
    exact h3
theorem ClsEs.len {c' : String} : ∀ {es : List Expr} {vs : List V} {us : List Value} {b : Bool}, ClsEs X c' es vs us b → vs.length = es.length
  | _, _, _, _, .nil => rfl
  | _, _, _, _, .cons m hg hd k hs r => by rw [List.length_cons, List.length_cons, ClsEs.len r]
theorem pe_isET {c' : String} {es : List Expr} {vs : List V} {us : List Value} {b : Bool} {k3 : Nat} {p3 : Pos} (i : Nat) (ec : EcT X.K X.mg c') (hD : X.mg (Str.ofString c') = some (.ref D)) (hz : Zc (.ref D) none oe) (hf : ∃ vs, oe.data = .fields vs) (ce : ClsEs X c' es vs us b) (hl : es.length ≤ 20) (hm : X.mg "isinstance" = none)
    (hN : X.N[i]? = some x := by rfl) (hv : Vis X.env.scope x := by first | exact Or.inl rfl | exact Or.inr (Or.inl rfl) | exact Or.inr (Or.inr rfl)) (hd : (x == ("__debug__" : Str)) = false := by decide) (hcd : (x == ("__classdict__" : Str)) = false := by decide)
    (hg : Gl X "isinstance" := by rfl)
    (he : starEach (.Name x p1 :: [.Tuple es k3 p3]) X.env = (false, eval (.Name x p1) X.env) :: starEach [.Tuple es k3 p3] X.env := by rfl) :
    PE (X.suite a ((a, oe) :: pn)) (.Call (.Name "isinstance" p) [.Name x p1, .Tuple es k3 p3] [] pos) (fun σ H Q => σ[i]? = some (some (.ref a)) ∧ ∀ H', Same H H' → Q (.bl false) H') := by
  obtain ⟨D', m', E⟩ := ec.ex
  rw [hD] at m'; cases m'
  obtain ⟨k1, k2⟩ := ce.any hD
  refine (pe_callB (X := X.suite a ((a, oe) :: pn)) (call_isET E hz hf) hg hm (by decide +kernel) (pa_cons (pe_var (i := i) hN hv hd hcd) (pa_cons (pe_tup (ClsEs.pa (X := X) (Y := X.suite a ((a, oe) :: pn)) rfl rfl ce)) pa_nil rfl) he) (by decide) (by decide) he rfl).imp fun σ H Q ⟨h1, h2⟩ => ?_
  refine ⟨_, h1, ?_, fun tp ntp => ?_⟩
  · rw [ce.len, sizeLine_eq]; omega
  · exact ⟨tp, vs, us, false, rfl, upd_same, k2, k1, h2 _ (same_upd ntp)⟩
theorem cls_nil {c' : String} : ∃ vs us, ClsEs X c' [] vs us false := ⟨_, _, .nil⟩
theorem cls_cons {c' c : String} {p : Pos} {es : List Expr} (k : KitT X.K X.mg c' c false) (r : ∃ vs us, ClsEs X c' es vs us false) (hg : Gl X (Str.ofString c) := by rfl) (hd : (Str.ofString c == ("__debug__" : Str)) = false := by decide)
    (hs : starEach (.Name (Str.ofString c) p :: es) X.env = (false, eval (.Name (Str.ofString c) p) X.env) :: starEach es X.env := by rfl) : ∃ vs us, ClsEs X c' (.Name (Str.ofString c) p :: es) vs us false := by
  obtain ⟨A, C, m1, m2, kk⟩ := k.ex
  obtain ⟨vs, us, r⟩ := r
  exact ⟨_, _, .cons m2 hg hd (fun A' h => by rw [m1] at h; cases h; exact ⟨false, kk, rfl⟩) hs r⟩
theorem pe_isET' {c' : String} {es : List Expr} {k3 : Nat} {p3 : Pos} (i : Nat) (ec : EcT X.K X.mg c') (hD : X.mg (Str.ofString c') = some (.ref D)) (hz : Zc (.ref D) none oe) (hf : ∃ vs, oe.data = .fields vs) (ce : ∃ vs us, ClsEs X c' es vs us false) (hm : X.mg "isinstance" = none) (hl : es.length ≤ 20 := by decide)
    (hN : X.N[i]? = some x := by rfl) (hv : Vis X.env.scope x := by first | exact Or.inl rfl | exact Or.inr (Or.inl rfl) | exact Or.inr (Or.inr rfl)) (hd : (x == ("__debug__" : Str)) = false := by decide) (hcd : (x == ("__classdict__" : Str)) = false := by decide)
    (hg : Gl X "isinstance" := by rfl)
    (he : starEach (.Name x p1 :: [.Tuple es k3 p3]) X.env = (false, eval (.Name x p1) X.env) :: starEach [.Tuple es k3 p3] X.env := by rfl) :
    PE (X.suite a ((a, oe) :: pn)) (.Call (.Name "isinstance" p) [.Name x p1, .Tuple es k3 p3] [] pos) (fun σ H Q => σ[i]? = some (some (.ref a)) ∧ ∀ H', Same H H' → Q (.bl false) H') := by
  obtain ⟨vs, us, ce⟩ := ce
  exact pe_isET i ec hD hz hf ce hl hm hN hv hd hcd hg he
end
/-- the classes that may come, and what the clause says of each -/
def clOf (l : List (String × Bool)) (c : String) : Option Bool := l.lookup c
theorem clOf_one {c' c : String} {b : Bool} (h : clOf [(c', b)] c = some true) : c = c' := by
  unfold clOf at h
  rw [List.lookup_cons] at h
  cases e : (c == c') with
  | true => simpa using e
  | false => rw [e] at h; cases h
structure ClT (K : Fr) (mg : Str → Option Value) (c : String) (l : List (String × Bool)) : Prop where
  ex : ∃ C, mg (Str.ofString c) = some (.ref C) ∧ ClOk K mg (clOf l) C
theorem clT_nil {K : Fr} {mg : Str → Option Value} {c c' : String} {b : Bool} (e : ExmT K mg c' c b) : ClT K mg c [] := by
  obtain ⟨A, C, m1, m2, k⟩ := e.ex
  exact ⟨C, m2, fun c' b h => by cases h⟩
theorem clT_cons {K : Fr} {mg : Str → Option Value} {c c' : String} {b : Bool} {l : List (String × Bool)} (e : ExmT K mg c' c b) (r : ClT K mg c l) : ClT K mg c ((c', b) :: l) := by
  obtain ⟨A, C, m1, m2, k⟩ := e.ex
  obtain ⟨C', m3, k3⟩ := r.ex
  rw [m2] at m3; cases m3
  refine ⟨C, m2, fun d b' h A' hA => ?_⟩
  unfold clOf at h
  rw [List.lookup_cons] at h
  cases ed : (d == c') with
  | true =>
    rw [ed] at h
    have e1 : d = c' := by simpa using ed
    subst e1
    cases h
    rw [m1] at hA; cases hA
    exact k
  | false =>
    rw [ed] at h
    exact k3 d b' h A' hA
section
variable {X : Cx} {W : WX} {body suite : List Stmt} {b₀ : Stmt} {np pos pos' : Pos} {g h : Rho → SRes}
theorem ps_tryT {x : String} {l : List (String × Bool)} (t : ClT X.K X.mg x l) (tk : Takes X W)
    (hb : ∀ (W' : WX) (pn : List (Addr × Obj)) (xe : Value → Shared → Prop), Takes (X.tr pn xe) W' → PassesOwn (model X.prog X.w) X.A X.env xe → PPSs (X.tr pn xe) W' body g)
    (hsu : ∀ (a : Addr) (oe : Obj) (pn : List (Addr × Obj)), PPSs (X.suite a ((a, oe) :: pn)) W0 (b₀ :: suite) h)
    (hs : X.stack = X.env :: X.outer := by rfl) (hf : X.env.frame = some X.env.locals := by rfl) (hg : Gl X (Str.ofString x) := by rfl) (hdb : (Str.ofString x == ("__debug__" : Str)) = false := by decide) :
    PPS X W (.Try body [.ExceptHandler (some (.Name (Str.ofString x) np)) none (b₀ :: suite) pos'] [] [] pos) (gTry (clOf l) g h) := by
  obtain ⟨C, m, k⟩ := t.ex
  exact ps_tryP (clOf l) tk m k hb hsu hs hf hg hdb
theorem ps_tryRT {x : String} {l : List (String × Bool)} {n : Str} (i : Nat) (dv : String → D) (vv : String → V) (hrep : ∀ c K F, Rep K F (dv c) (vv c)) (t : ClT X.K X.mg x l) (tk : Takes X W)
    (hb : ∀ (W' : WX) (pn : List (Addr × Obj)) (xe : Value → Shared → Prop), Takes (X.tr pn xe) W' → PassesOwn (model X.prog X.w) X.A X.env xe → PPSs (X.tr pn xe) W' body g)
    (hsu : ∀ (a : Addr) (oe : Obj) (c : String) (A : Addr) (pn : List (Addr × Obj)), clOf l c = some true → X.mg (Str.ofString c) = some (.ref A) → Zc (.ref A) none oe → (∃ vs, oe.data = .fields vs) →
      PSs (X.suite a ((a, oe) :: pn)) (b₀ :: suite) (fun D σ H => σ[i]? = some (some (.ref a)) ∧ ∀ H', Same H H' → D.rt (vv c) H'))
    (hN : X.N.Nodup) (hi : X.N[i]? = some n := by rfl) (hln : X.env.kindOf n = some .local := by rfl)
    (hs : X.stack = X.env :: X.outer := by rfl) (hf : X.env.frame = some X.env.locals := by rfl) (hg : Gl X (Str.ofString x) := by rfl) (hdb : (Str.ofString x == ("__debug__" : Str)) = false := by decide) :
    PPS X W (.Try body [.ExceptHandler (some (.Name (Str.ofString x) np)) (some n) (b₀ :: suite) pos'] [] [] pos) (gTryR i (clOf l) dv g) := by
  obtain ⟨C, m, k⟩ := t.ex
  exact ps_tryRP i (clOf l) dv vv hrep tk m k hb hsu hN hi hln hs hf hg hdb
end
end Pu

namespace Pu
open PySem
def whileFuel : Nat := 20000000
def S_room : List D → Res D := fnD 3 (gSeq (gSet 1 (eC (.int 1)))
  (gSeq (gForR 2 (eVar 0) (gSet 1 (eOp dMul (eVar 1) (eC (.int 2)))))
  (gRet (eVar 1))))
def S_bits_of (p_room : List D → Res D) : List D → Res D := fnD 4 (gSeq (gIf (tOrB (tB (eOp dLt (eVar 0) (eC (.int 0)))) (tB (eOp dGe (eVar 0) (eCall p_room (aCons (eVar 1) aNil))))) (gExc "TooWide") gNx)
  (gSeq (gSetO 2 (oLst aNil))
  (gSeq (gForR 3 (eVar 1) (gSeq (gApp 2 (eOp dMod (eVar 0) (eC (.int 2))))
  (gSet 0 (eOp dDiv (eVar 0) (eC (.int 2))))))
  (gSeq (gRev 2)
  (gFrz 2 (gRet (eVar 2)))))))
def S_number_of : List D → Res D := fnD 3 (gSeq (gSet 1 (eC (.int 0)))
  (gSeq (gFor 2 (eVar 0) (gSet 1 (eOp dAdd (eOp dMul (eVar 1) (eC (.int 2))) (eVar 2))))
  (gRet (eVar 1))))
def S_law_cell_at : List D → Res D := fnD 2 (gSeq (gIf (tB (eOp dLt (eVar 1) (eUn dLen (eVar 0)))) (gRet (eOp dIx (eVar 0) (eVar 1))) gNx)
  (gRet (eC (.int 0))))
def S_law_whole : List D → Res D := fnD 1 (gRet (eAnd (eUn (dIsi .int) (eVar 0)) (eNot (eUn (dIsi .bool) (eVar 0)))))
def S_law_room : List D → Res D := fnD 3 (gSeq (gSet 1 (eC (.int 1)))
  (gSeq (gForR 2 (eVar 0) (gSet 1 (eOp dMul (eVar 1) (eC (.int 2)))))
  (gRet (eVar 1))))
def S_law_written : List D → Res D := fnD 4 (gSeq (gSetO 2 (oLst aNil))
  (gSeq (gForR 3 (eVar 1) (gSeq (gApp 2 (eOp dMod (eVar 0) (eC (.int 2))))
  (gSet 0 (eOp dDiv (eVar 0) (eC (.int 2))))))
  (gFrz 2 (gRet (eO (oUn dRev (eVar 2)))))))
def S_law_alike (p__law_whole p__law_alike : List D → Res D) : List D → Res D := fnD 3 (gSeq (gIf (tB (eUn dIsN (eVar 1))) (gRet (eUn dIsN (eVar 0))) gNx)
  (gSeq (gIf (tB (eUn (dIsi .bool) (eVar 1))) (gRet (eAnd (eUn (dIsi .bool) (eVar 0)) (eOp dEq (eVar 0) (eVar 1)))) gNx)
  (gSeq (gIf (tB (eUn (dIsi .int) (eVar 1))) (gRet (eAnd (eCall p__law_whole (aCons (eVar 0) aNil)) (eOp dEq (eVar 0) (eVar 1)))) gNx)
  (gSeq (gIf (tB (eUn (dIsi .str) (eVar 1))) (gRet (eAnd (eUn (dIsi .str) (eVar 0)) (eOp dEq (eVar 0) (eVar 1)))) gNx)
  (gSeq (gIf (tB (eUn (dIsi .tuple) (eVar 1))) (gIf (tNotB (tB (eUn (dIsi .tuple) (eVar 0)))) (gRet (eC (.bl false))) gNx) (gIf (tNotB (tB (eUn (dIsi .list) (eVar 0)))) (gRet (eC (.bl false))) gNx))
  (gSeq (gIf (tB (eOp dNe (eUn dLen (eVar 0)) (eUn dLen (eVar 1)))) (gRet (eC (.bl false))) gNx)
  (gSeq (gForR 2 (eUn dLen (eVar 1)) (gIf (tNotB (tB (eCall p__law_alike (aCons (eOp dIx (eVar 0) (eVar 2)) (aCons (eOp dIx (eVar 1) (eVar 2)) aNil))))) (gRet (eC (.bl false))) gNx))
  (gRet (eC (.bl true))))))))))
def S_law_as_a_number (p__law_cell_at p__law_room p__law_written p_number_of p__law_alike p__law_whole : List D → Res D) : List D → Res D := fnD 6 (gSeq (gSet 1 (eOp dMod (eCall p__law_cell_at (aCons (eVar 0) (aCons (eC (.int 3)) aNil))) (eC (.int 70))))
  (gSeq (gIf (tB (eOp dEq (eOp dMod (eCall p__law_cell_at (aCons (eVar 0) (aCons (eC (.int 5)) aNil))) (eC (.int 4))) (eC (.int 3)))) (gSet 1 (eOp dAdd (eC (.int 70)) (eOp dMod (eCall p__law_cell_at (aCons (eVar 0) (aCons (eC (.int 3)) aNil))) (eC (.int 531))))) gNx)
  (gSeq (gSet 2 (eCall p__law_room (aCons (eVar 1) aNil)))
  (gSeq (gSet 3 (eOp dMod (eCall p__law_cell_at (aCons (eVar 0) (aCons (eC (.int 4)) aNil))) (eVar 2)))
  (gSeq (gIf (tB (eOp dEq (eOp dMod (eCall p__law_cell_at (aCons (eVar 0) (aCons (eC (.int 5)) aNil))) (eC (.int 4))) (eC (.int 1)))) (gSet 3 (eOp dSub (eVar 2) (eC (.int 1)))) gNx)
  (gSeq (gIf (tB (eOp dEq (eOp dMod (eCall p__law_cell_at (aCons (eVar 0) (aCons (eC (.int 5)) aNil))) (eC (.int 4))) (eC (.int 2)))) (gSet 3 (eOp dMod (eCall p__law_cell_at (aCons (eVar 0) (aCons (eC (.int 4)) aNil))) (eOp dAdd (eC (.int 1)) (eOp dDiv (eVar 2) (eC (.int 8)))))) gNx)
  (gSeq (gSet 4 (eCall p__law_written (aCons (eVar 3) (aCons (eVar 1) aNil))))
  (gSeq (gSet 5 (eCall p_number_of (aCons (eVar 4) aNil)))
  (gRet (eAnd (eCall p__law_whole (aCons (eVar 5) aNil)) (eAnd (eOp dEq (eVar 5) (eVar 3)) (eCall p__law_alike (aCons (eVar 4) (aCons (eCall p__law_written (aCons (eVar 3) (aCons (eVar 1) aNil))) aNil))))))))))))))
def S_read_code (p_bits_of : List D → Res D) : List D → Res D := fnD 11 (gSeq (gSet 5 (eCall p_bits_of (aCons (eVar 3) (aCons (eVar 2) aNil))))
  (gSeq (gSet 6 (eC (.int 0)))
  (gSeq (gSet 7 (eC (.bl true)))
  (gSeq (gForR 8 (eVar 2) (gSeq (gSet 9 (eOp dAdd (eVar 1) (eVar 8)))
  (gSeq (gIf (tAndB (tB (eOp dGe (eVar 9) (eUn dLen (eVar 0)))) (tNotB (tB (eVar 4)))) (gRet (eTup (aCons (eC (.str "short")) (aCons (eVar 9) aNil)))) gNx)
  (gSeq (gSet 10 (eC (.int 0)))
  (gSeq (gIf (tB (eOp dLt (eVar 9) (eUn dLen (eVar 0)))) (gSet 10 (eOp dIx (eVar 0) (eVar 9))) gNx)
  (gSeq (gIf (tAndB (tB (eVar 7)) (tB (eOp dGt (eVar 10) (eOp dIx (eVar 5) (eVar 8))))) (gRet (eTup (aCons (eC (.str "wrong")) (aCons (eVar 9) aNil)))) gNx)
  (gSeq (gIf (tB (eOp dLt (eVar 10) (eOp dIx (eVar 5) (eVar 8)))) (gSet 7 (eC (.bl false))) gNx)
  (gSet 6 (eOp dAdd (eOp dMul (eVar 6) (eC (.int 2))) (eVar 10))))))))))
  (gRet (eTup (aCons (eC (.str "read")) (aCons (eVar 6) (aCons (eOp dAdd (eVar 1) (eVar 2)) aNil)))))))))
def S_code_at (p_read_code : List D → Res D) : List D → Res D := fnD 4 (gRet (eCall p_read_code (aCons (eVar 0) (aCons (eVar 1) (aCons (eVar 2) (aCons (eVar 3) (aCons (eC (.bl false)) aNil)))))))
def S_between : List D → Res D := fnD 3 (gRet (eAnd (eUn (dIsi .int) (eVar 0)) (eAnd (eNot (eUn (dIsi .bool) (eVar 0))) (eChain dLe dLe (eVar 1) (eVar 0) (eVar 2)))))
def S_good_num (p_between p_room : List D → Res D) : List D → Res D := fnD 1 (gSeq (gIf (tOrB (tB (eOp dNe (eUn dLen (eVar 0)) (eC (.int 4)))) (tNotB (tB (eCall p_between (aCons (eOp dIx (eVar 0) (eC (.int 1))) (aCons (eC (.int 0)) (aCons (eC (.int (64))) aNil))))))) (gRet (eC (.bl false))) gNx)
  (gSeq (gIf (tOrB (tNotB (tB (eCall p_between (aCons (eOp dIx (eVar 0) (eC (.int 2))) (aCons (eUn dNeg (eC (.int (100000000000000000000)))) (aCons (eC (.int (100000000000000000000))) aNil)))))) (tNotB (tB (eCall p_between (aCons (eOp dIx (eVar 0) (eC (.int 3))) (aCons (eUn dNeg (eC (.int (100000000000000000000)))) (aCons (eC (.int (100000000000000000000))) aNil))))))) (gRet (eC (.bl false))) gNx)
  (gRet (eAnd (eOp dLe (eOp dIx (eVar 0) (eC (.int 2))) (eOp dIx (eVar 0) (eC (.int 3)))) (eOp dLt (eOp dSub (eOp dIx (eVar 0) (eC (.int 3))) (eOp dIx (eVar 0) (eC (.int 2)))) (eCall p_room (aCons (eOp dIx (eVar 0) (eC (.int 1))) aNil)))))))
def S_good_parts (p_good_at : List D → Res D) : List D → Res D := fnD 3 (gSeq (gIf (tNotB (tB (eUn (dIsi .list) (eVar 0)))) (gRet (eC (.bl false))) gNx)
  (gSeq (gFor 2 (eVar 0) (gIf (tNotB (tB (eCall p_good_at (aCons (eVar 2) (aCons (eVar 1) aNil))))) (gRet (eC (.bl false))) gNx))
  (gRet (eC (.bl true)))))
def S_good_at (p_good_num p_between p_good_at p_good_parts p_room : List D → Res D) : List D → Res D := fnD 2 (gSeq (gIf (tOrB (tB (eOp dEq (eVar 1) (eC (.int 0)))) (tOrB (tNotB (tB (eUn (dIsi .tuple) (eVar 0)))) (tOrB (tB (eOp dEq (eUn dLen (eVar 0)) (eC (.int 0)))) (tNotB (tB (eUn (dIsi .str) (eOp dIx (eVar 0) (eC (.int 0))))))))) (gRet (eC (.bl false))) gNx)
  (gSeq (gIf (tB (eOp dEq (eOp dIx (eVar 0) (eC (.int 0))) (eC (.str "num")))) (gRet (eCall p_good_num (aCons (eVar 0) aNil))) gNx)
  (gSeq (gIf (tB (eOp dEq (eOp dIx (eVar 0) (eC (.int 0))) (eC (.str "pad")))) (gRet (eAnd (eOp dEq (eUn dLen (eVar 0)) (eC (.int 2))) (eCall p_between (aCons (eOp dIx (eVar 0) (eC (.int 1))) (aCons (eC (.int 0)) (aCons (eC (.int (64))) aNil)))))) gNx)
  (gSeq (gIf (tB (eOp dEq (eOp dIx (eVar 0) (eC (.int 0))) (eC (.str "maybe")))) (gRet (eAnd (eOp dEq (eUn dLen (eVar 0)) (eC (.int 2))) (eCall p_good_at (aCons (eOp dIx (eVar 0) (eC (.int 1))) (aCons (eOp dSub (eVar 1) (eC (.int 1))) aNil))))) gNx)
  (gSeq (gIf (tB (eOp dEq (eOp dIx (eVar 0) (eC (.int 0))) (eC (.str "rows")))) (gRet (eAnd (eOp dEq (eUn dLen (eVar 0)) (eC (.int 3))) (eAnd (eCall p_between (aCons (eOp dIx (eVar 0) (eC (.int 1))) (aCons (eC (.int 0)) (aCons (eC (.int (8))) aNil)))) (eCall p_good_at (aCons (eOp dIx (eVar 0) (eC (.int 2))) (aCons (eOp dSub (eVar 1) (eC (.int 1))) aNil)))))) gNx)
  (gSeq (gIf (tB (eOp dEq (eOp dIx (eVar 0) (eC (.int 0))) (eC (.str "group")))) (gRet (eAnd (eOp dEq (eUn dLen (eVar 0)) (eC (.int 2))) (eAnd (eCall p_good_parts (aCons (eOp dIx (eVar 0) (eC (.int 1))) (aCons (eOp dSub (eVar 1) (eC (.int 1))) aNil))) (eOp dLe (eUn dLen (eOp dIx (eVar 0) (eC (.int 1)))) (eC (.int (20))))))) gNx)
  (gSeq (gIf (tAndB (tB (eOp dEq (eOp dIx (eVar 0) (eC (.int 0))) (eC (.str "one")))) (tAndB (tB (eOp dEq (eUn dLen (eVar 0)) (eC (.int 3)))) (tB (eCall p_between (aCons (eOp dIx (eVar 0) (eC (.int 1))) (aCons (eC (.int 0)) (aCons (eC (.int (8))) aNil))))))) (gSeq (gIf (tNotB (tB (eCall p_good_parts (aCons (eOp dIx (eVar 0) (eC (.int 2))) (aCons (eOp dSub (eVar 1) (eC (.int 1))) aNil))))) (gRet (eC (.bl false))) gNx)
  (gRet (eAnd (eChain dLe dLe (eC (.int 1)) (eUn dLen (eOp dIx (eVar 0) (eC (.int 2)))) (eC (.int (16)))) (eOp dLe (eUn dLen (eOp dIx (eVar 0) (eC (.int 2)))) (eCall p_room (aCons (eOp dIx (eVar 0) (eC (.int 1))) aNil)))))) gNx)
  (gRet (eC (.bl false))))))))))
def S_good_shape (p_good_at : List D → Res D) : List D → Res D := fnD 1 (gRet (eCall p_good_at (aCons (eVar 0) (aCons (eC (.int (8))) aNil))))
def S_law_leaf (p__law_cell_at p__law_room : List D → Res D) : List D → Res D := fnD 7 (gSeq (gSet 2 (eOp dDiv (eCall p__law_cell_at (aCons (eVar 0) (aCons (eOp dMul (eC (.int 2)) (eVar 1)) aNil))) (eC (.int 7))))
  (gSeq (gSet 3 (eCall p__law_cell_at (aCons (eVar 0) (aCons (eOp dAdd (eOp dMul (eC (.int 2)) (eVar 1)) (eC (.int 1))) aNil))))
  (gSeq (gSet 4 (eOp dMod (eOp dDiv (eVar 2) (eC (.int 3))) (eC (.int 9))))
  (gSeq (gIf (tB (eOp dEq (eOp dMod (eVar 3) (eC (.int 5))) (eC (.int 4)))) (gSet 4 (eOp dMod (eOp dAdd (eVar 2) (eOp dMul (eC (.int 7)) (eVar 3))) (eC (.int 65)))) gNx)
  (gSeq (gIf (tB (eOp dEq (eOp dMod (eVar 2) (eC (.int 3))) (eC (.int 2)))) (gRet (eTup (aCons (eC (.str "pad")) (aCons (eVar 4) aNil)))) gNx)
  (gSeq (gSet 5 (eOp dSub (eCall p__law_room (aCons (eVar 4) aNil)) (eC (.int 1))))
  (gSeq (gIf (tB (eOp dEq (eOp dMod (eVar 3) (eC (.int 3))) (eC (.int 1)))) (gSet 5 (eOp dMod (eOp dDiv (eVar 3) (eC (.int 12))) (eOp dAdd (eVar 5) (eC (.int 1))))) gNx)
  (gSeq (gIf (tB (eOp dEq (eOp dMod (eVar 3) (eC (.int 3))) (eC (.int 2)))) (gSet 5 (eOp dAdd (eOp dDiv (eVar 5) (eC (.int 2))) (eOp dMin2 (eC (.int 1)) (eOp dDiv (eVar 5) (eC (.int 2)))))) gNx)
  (gSeq (gSet 6 (eOp dSub (eOp dMod (eOp dDiv (eVar 3) (eC (.int 12))) (eC (.int 41))) (eC (.int 20))))
  (gSeq (gIf (tB (eOp dEq (eOp dMod (eOp dDiv (eVar 3) (eC (.int 3))) (eC (.int 4))) (eC (.int 1)))) (gSet 6 (eOp dSub (eOp dMod (eOp dDiv (eVar 3) (eC (.int 12))) (eOp dAdd (eOp dSub (eOp dMul (eC (.int 2)) (eOp dPow (eC (.int 10)) (eC (.int 20)))) (eVar 5)) (eC (.int 1)))) (eOp dPow (eC (.int 10)) (eC (.int 20))))) gNx)
  (gSeq (gIf (tB (eOp dEq (eOp dMod (eOp dDiv (eVar 3) (eC (.int 3))) (eC (.int 4))) (eC (.int 2)))) (gSet 6 (eOp dIx (eO (oLst (aCons (eUn dNeg (eOp dPow (eC (.int 10)) (eC (.int 20)))) (aCons (eOp dSub (eOp dPow (eC (.int 10)) (eC (.int 20))) (eVar 5)) aNil)))) (eOp dMod (eOp dDiv (eVar 3) (eC (.int 12))) (eC (.int 2))))) gNx)
  (gRet (eTup (aCons (eC (.str "num")) (aCons (eVar 4) (aCons (eVar 6) (aCons (eOp dAdd (eVar 6) (eVar 5)) aNil)))))))))))))))))
def S_law_one : List D → Res D := fnD 4 (gSeq (gIf (tB (eOp dEq (eOp dMod (eVar 1) (eC (.int 5))) (eC (.int 4)))) (gSeq (gSet 2 (eOp dAdd (eC (.int 5)) (eOp dMod (eOp dDiv (eVar 1) (eC (.int 5))) (eC (.int 12)))))
  (gSeq (gSet 3 (eOp dAdd (eOp dAdd (eC (.int 3)) (eUn dInt (eOp dGt (eVar 2) (eC (.int 8))))) (eOp dMod (eOp dDiv (eVar 1) (eC (.int 60))) (eC (.int 5)))))
  (gRet (eTup (aCons (eC (.str "one")) (aCons (eVar 3) (aCons (eO (oSl (eOp dMul (eO (oLst (aCons (eOp dIx (eVar 0) (eC (.int 0))) (aCons (eOp dIx (eVar 0) (eC (.int 2))) (aCons (eOp dIx (eVar 0) (eC (.int 1))) (aCons (eOp dIx (eVar 0) (eC (.int 3))) (aCons (eOp dIx (eVar 0) (eC (.int 2))) aNil))))))) (eC (.int 4))) rNone (rSome (eVar 2)))) aNil))))))) gNx)
  (gSeq (gSet 2 (eOp dAdd (eC (.int 1)) (eOp dMod (eOp dMod (eVar 1) (eC (.int 5))) (eC (.int 4)))))
  (gRet (eTup (aCons (eC (.str "one")) (aCons (eOp dAdd (eOp dIx (eO (oLst (aCons (eC (.int 0)) (aCons (eC (.int 1)) (aCons (eC (.int 2)) (aCons (eC (.int 2)) aNil)))))) (eOp dSub (eVar 2) (eC (.int 1)))) (eOp dMod (eOp dDiv (eVar 1) (eC (.int 5))) (eC (.int 3)))) (aCons (eO (oSl (eVar 0) rNone (rSome (eVar 2)))) aNil)))))))
def S_law_group : List D → Res D := fnD 2 (gSeq (gIf (tAndB (tB (eOp dEq (eOp dMod (eVar 1) (eC (.int 4))) (eC (.int 3)))) (tAndB (tB (eOp dIn (eOp dIx (eOp dIx (eVar 0) (eC (.int 0))) (eC (.int 0))) (eTup (aCons (eC (.str "num")) (aCons (eC (.str "pad")) aNil))))) (tB (eOp dIn (eOp dIx (eOp dIx (eVar 0) (eC (.int 1))) (eC (.int 0))) (eTup (aCons (eC (.str "num")) (aCons (eC (.str "pad")) aNil))))))) (gRet (eTup (aCons (eC (.str "group")) (aCons (eO (oSl (eOp dMul (eO (oLst (aCons (eOp dIx (eVar 0) (eC (.int 0))) (aCons (eOp dIx (eVar 0) (eC (.int 2))) (aCons (eOp dIx (eVar 0) (eC (.int 1))) (aCons (eOp dIx (eVar 0) (eC (.int 3))) (aCons (eOp dIx (eVar 0) (eC (.int 0))) aNil))))))) (eC (.int 4))) rNone (rSome (eOp dAdd (eC (.int 4)) (eOp dMod (eOp dDiv (eVar 1) (eC (.int 4))) (eC (.int 17))))))) aNil)))) gNx)
  (gSeq (gIf (tB (eOp dEq (eOp dMod (eVar 1) (eC (.int 12))) (eC (.int 5)))) (gRet (eTup (aCons (eC (.str "group")) (aCons (eO (oSl (eO (oLst (aCons (eOp dIx (eVar 0) (eC (.int 0))) (aCons (eOp dIx (eVar 0) (eC (.int 2))) (aCons (eOp dIx (eVar 0) (eC (.int 1))) (aCons (eOp dIx (eVar 0) (eC (.int 0))) (aCons (eOp dIx (eVar 0) (eC (.int 3))) aNil))))))) rNone (rSome (eOp dAdd (eC (.int 4)) (eOp dMod (eOp dDiv (eVar 1) (eC (.int 12))) (eC (.int 2))))))) aNil)))) gNx)
  (gRet (eTup (aCons (eC (.str "group")) (aCons (eOp dIx (eO (oLst (aCons (eO (oLst aNil)) (aCons (eOp dMul (eO (oLst (aCons (eOp dIx (eVar 0) (eC (.int 0))) aNil))) (eC (.int 3))) (aCons (eO (oLst (aCons (eOp dIx (eVar 0) (eC (.int 2))) (aCons (eOp dIx (eVar 0) (eC (.int 0))) (aCons (eOp dIx (eVar 0) (eC (.int 1))) aNil))))) (aCons (eO (oLst (aCons (eOp dIx (eVar 0) (eC (.int 1))) (aCons (eOp dIx (eVar 0) (eC (.int 1))) aNil)))) aNil)))))) (eOp dMod (eVar 1) (eC (.int 4)))) aNil))))))
def S_law_shape (p__law_cell_at p__law_leaf p__law_shape p__law_one p__law_group : List D → Res D) : List D → Res D := fnD 7 (gSeq (gSet 2 (eCall p__law_cell_at (aCons (eVar 0) (aCons (eOp dMul (eC (.int 2)) (eVar 1)) aNil))))
  (gSeq (gSet 3 (eOp dDiv (eVar 2) (eC (.int 7))))
  (gSeq (gIf (tOrB (tB (eOp dGt (eVar 1) (eC (.int 6)))) (tB (eOp dLt (eOp dMod (eVar 2) (eC (.int 7))) (eC (.int 2))))) (gRet (eCall p__law_leaf (aCons (eVar 0) (aCons (eVar 1) aNil)))) gNx)
  (gSeq (gSet 4 (eCall p__law_shape (aCons (eVar 0) (aCons (eOp dAdd (eOp dMul (eC (.int 2)) (eVar 1)) (eC (.int 1))) aNil))))
  (gSeq (gSet 5 (eCall p__law_shape (aCons (eVar 0) (aCons (eOp dAdd (eOp dMul (eC (.int 2)) (eVar 1)) (eC (.int 2))) aNil))))
  (gSeq (gIf (tB (eOp dEq (eOp dMod (eVar 2) (eC (.int 7))) (eC (.int 2)))) (gRet (eTup (aCons (eC (.str "maybe")) (aCons (eVar 4) aNil)))) gNx)
  (gSeq (gIf (tB (eOp dEq (eOp dMod (eVar 2) (eC (.int 7))) (eC (.int 3)))) (gRet (eTup (aCons (eC (.str "rows")) (aCons (eOp dIx (eO (oLst (aCons (eC (.int 1)) (aCons (eC (.int 2)) (aCons (eC (.int 3)) (aCons (eC (.int 4)) (aCons (eC (.int 5)) (aCons (eC (.int 6)) (aCons (eC (.int 7)) (aCons (eC (.int 8)) (aCons (eC (.int 0)) (aCons (eC (.int 2)) (aCons (eC (.int 3)) aNil))))))))))))) (eOp dMod (eVar 3) (eC (.int 11)))) (aCons (eVar 4) aNil))))) gNx)
  (gSeq (gIf (tB (eOp dEq (eOp dMod (eVar 2) (eC (.int 7))) (eC (.int 4)))) (gRet (eTup (aCons (eC (.str "group")) (aCons (eO (oLst (aCons (eVar 4) (aCons (eVar 5) aNil)))) aNil)))) gNx)
  (gSeq (gSet 6 (eO (oLst (aCons (eVar 4) (aCons (eVar 5) (aCons (eCall p__law_leaf (aCons (eVar 0) (aCons (eOp dAdd (eC (.int 15)) (eVar 1)) aNil))) (aCons (eCall p__law_leaf (aCons (eVar 0) (aCons (eOp dAdd (eC (.int 22)) (eVar 1)) aNil))) aNil)))))))
  (gSeq (gIf (tB (eOp dEq (eOp dMod (eVar 2) (eC (.int 7))) (eC (.int 5)))) (gRet (eCall p__law_one (aCons (eVar 6) (aCons (eVar 3) aNil)))) gNx)
  (gRet (eCall p__law_group (aCons (eVar 6) (aCons (eVar 3) aNil))))))))))))))
def S_law_deeper (p__law_cell_at : List D → Res D) : List D → Res D := fnD 5 (gSeq (gSet 3 (eCall p__law_cell_at (aCons (eVar 0) (aCons (eVar 1) aNil))))
  (gSeq (gForR 4 (eOp dMod (eVar 3) (eC (.int 5))) (gSet 2 (eOp dIx (eO (oLst (aCons (eTup (aCons (eC (.str "group")) (aCons (eO (oLst (aCons (eVar 2) aNil))) aNil))) (aCons (eTup (aCons (eC (.str "maybe")) (aCons (eVar 2) aNil))) (aCons (eTup (aCons (eC (.str "one")) (aCons (eC (.int 0)) (aCons (eO (oLst (aCons (eVar 2) aNil))) aNil)))) aNil))))) (eOp dMod (eOp dDiv (eOp dDiv (eVar 3) (eC (.int 5))) (eOp dAdd (eVar 4) (eC (.int 1)))) (eC (.int 3))))))
  (gRet (eVar 2))))
def S_law_bound : List D → Res D := fnD 3 (gSeq (gSet 1 (eTup (aCons (eC (.str "pad")) (aCons (eC (.int 64)) aNil))))
  (gSeq (gSet 2 (eO (oLst (aCons (eTup (aCons (eC (.str "num")) (aCons (eC (.int 64)) (aCons (eC (.int 0)) (aCons (eOp dSub (eOp dPow (eC (.int 2)) (eC (.int 64))) (eC (.int 1))) aNil))))) (aCons (eTup (aCons (eC (.str "num")) (aCons (eC (.int 0)) (aCons (eUn dNeg (eC (.int 5))) (aCons (eUn dNeg (eC (.int 5))) aNil))))) (aCons (eTup (aCons (eC (.str "num")) (aCons (eC (.int 64)) (aCons (eOp dPow (eC (.int 10)) (eC (.int 20))) (aCons (eOp dPow (eC (.int 10)) (eC (.int 20))) aNil))))) aNil))))))
  (gSeq (gSet 2 (eOp dAdd (eVar 2) (eO (oLst (aCons (eTup (aCons (eC (.str "num")) (aCons (eC (.int 64)) (aCons (eUn dNeg (eOp dPow (eC (.int 10)) (eC (.int 20)))) (aCons (eUn dNeg (eOp dPow (eC (.int 10)) (eC (.int 20)))) aNil))))) (aCons (eTup (aCons (eC (.str "pad")) (aCons (eC (.int 0)) aNil))) (aCons (eVar 1) (aCons (eTup (aCons (eC (.str "group")) (aCons (eO (oLst aNil)) aNil))) aNil))))))))
  (gSeq (gSet 2 (eOp dAdd (eVar 2) (eO (oLst (aCons (eTup (aCons (eC (.str "group")) (aCons (eOp dMul (eO (oLst (aCons (eVar 1) aNil))) (eC (.int 20))) aNil))) (aCons (eTup (aCons (eC (.str "one")) (aCons (eC (.int 4)) (aCons (eOp dMul (eO (oLst (aCons (eVar 1) aNil))) (eC (.int 16))) aNil)))) (aCons (eTup (aCons (eC (.str "one")) (aCons (eC (.int 8)) (aCons (eOp dMul (eO (oLst (aCons (eVar 1) aNil))) (eC (.int 16))) aNil)))) (aCons (eTup (aCons (eC (.str "one")) (aCons (eC (.int 0)) (aCons (eO (oLst (aCons (eVar 1) aNil))) aNil)))) aNil))))))))
  (gSeq (gSet 2 (eOp dAdd (eVar 2) (eO (oLst (aCons (eTup (aCons (eC (.str "rows")) (aCons (eC (.int 8)) (aCons (eVar 1) aNil)))) (aCons (eTup (aCons (eC (.str "rows")) (aCons (eC (.int 0)) (aCons (eVar 1) aNil)))) (aCons (eTup (aCons (eC (.str "num")) (aCons (eC (.int 1)) (aCons (eUn dNeg (eC (.int 1))) (aCons (eC (.int 0)) aNil))))) aNil)))))))
  (gSeq (gSet 2 (eOp dAdd (eVar 2) (eO (oLst (aCons (eTup (aCons (eC (.str "one")) (aCons (eC (.int 1)) (aCons (eOp dMul (eO (oLst (aCons (eVar 1) aNil))) (eC (.int 2))) aNil)))) (aCons (eTup (aCons (eC (.str "one")) (aCons (eC (.int 2)) (aCons (eOp dMul (eO (oLst (aCons (eVar 1) aNil))) (eC (.int 4))) aNil)))) (aCons (eTup (aCons (eC (.str "one")) (aCons (eC (.int 2)) (aCons (eOp dMul (eO (oLst (aCons (eVar 1) aNil))) (eC (.int 3))) aNil)))) (aCons (eTup (aCons (eC (.str "one")) (aCons (eC (.int 3)) (aCons (eOp dMul (eO (oLst (aCons (eVar 1) aNil))) (eC (.int 8))) aNil)))) aNil))))))))
  (gSeq (gSet 2 (eOp dAdd (eVar 2) (eO (oLst (aCons (eTup (aCons (eC (.str "one")) (aCons (eC (.int 3)) (aCons (eOp dMul (eO (oLst (aCons (eVar 1) aNil))) (eC (.int 5))) aNil)))) aNil)))))
  (gRet (eOp dIx (eVar 2) (eOp dMod (eVar 0) (eUn dLen (eVar 2))))))))))))
def S_law_put (p__law_put : List D → Res D) : List D → Res D := fnD 6 (gSeq (gIf (tOrB (tB (eOp dEq (eVar 1) (eC (.int 0)))) (tOrB (tB (eOp dEq (eOp dIx (eVar 0) (eC (.int 0))) (eC (.str "num")))) (tB (eOp dEq (eOp dIx (eVar 0) (eC (.int 0))) (eC (.str "pad")))))) (gRet (eVar 3)) gNx)
  (gSeq (gIf (tB (eOp dEq (eOp dIx (eVar 0) (eC (.int 0))) (eC (.str "maybe")))) (gRet (eTup (aCons (eC (.str "maybe")) (aCons (eCall p__law_put (aCons (eOp dIx (eVar 0) (eC (.int 1))) (aCons (eOp dSub (eVar 1) (eC (.int 1))) (aCons (eOp dDiv (eVar 2) (eC (.int 3))) (aCons (eVar 3) aNil))))) aNil)))) gNx)
  (gSeq (gIf (tB (eOp dEq (eOp dIx (eVar 0) (eC (.int 0))) (eC (.str "rows")))) (gRet (eTup (aCons (eC (.str "rows")) (aCons (eOp dIx (eVar 0) (eC (.int 1))) (aCons (eCall p__law_put (aCons (eOp dIx (eVar 0) (eC (.int 2))) (aCons (eOp dSub (eVar 1) (eC (.int 1))) (aCons (eOp dDiv (eVar 2) (eC (.int 3))) (aCons (eVar 3) aNil))))) aNil))))) gNx)
  (gSeq (gSetO 4 (oUn dList (eOp dIx (eVar 0) (eOp dSub (eUn dLen (eVar 0)) (eC (.int 1))))))
  (gSeq (gIf (tB (eOp dEq (eLenO 4) (eC (.int 0)))) (gRet (eVar 3)) gNx)
  (gSeq (gSet 5 (eOp dMod (eVar 2) (eLenO 4)))
  (gSeq (gPut 4 (eVar 5) (eCall p__law_put (aCons (eIxO 4 (eVar 5)) (aCons (eOp dSub (eVar 1) (eC (.int 1))) (aCons (eOp dDiv (eVar 2) (eC (.int 3))) (aCons (eVar 3) aNil))))))
  (gSeq (gIf (tB (eOp dEq (eOp dIx (eVar 0) (eC (.int 0))) (eC (.str "group")))) (gFrz 4 (gRet (eTup (aCons (eC (.str "group")) (aCons (eVar 4) aNil))))) gNx)
  (gFrz 4 (gRet (eTup (aCons (eC (.str "one")) (aCons (eOp dIx (eVar 0) (eC (.int 1))) (aCons (eVar 4) aNil))))))))))))))
def S_law_round : List D → Res D := fnD 5 (gSeq (gForR 3 (eVar 2) (gSeq (gSet 4 (eO (oLst (aCons (eTup (aCons (eC (.str "group")) (aCons (eO (oLst (aCons (eTup (aCons (eC (.str "pad")) (aCons (eC (.int 3)) aNil))) (aCons (eVar 0) aNil)))) aNil))) (aCons (eTup (aCons (eC (.str "maybe")) (aCons (eVar 0) aNil))) (aCons (eTup (aCons (eC (.str "one")) (aCons (eC (.int 1)) (aCons (eO (oLst (aCons (eVar 0) aNil))) aNil)))) (aCons (eTup (aCons (eC (.str "rows")) (aCons (eC (.int 3)) (aCons (eVar 0) aNil)))) aNil)))))))
  (gSet 0 (eOp dIx (eVar 4) (eOp dMod (eOp dAdd (eVar 1) (eVar 3)) (eC (.int 4)))))))
  (gRet (eVar 0)))
def S_law_told (p_good_shape : List D → Res D) : List D → Res D := fnD 3 (gSeq (gSet 2 (eCall p_good_shape (aCons (eVar 0) aNil)))
  (gRet (eAnd (eUn (dIsi .bool) (eVar 2)) (eOp dEq (eVar 2) (eVar 1)))))
def S_least_bits (p_least_bits : List D → Res D) : List D → Res D := fnD 2 (gSeq (gIf (tB (eOp dEq (eOp dIx (eVar 0) (eC (.int 0))) (eC (.str "maybe")))) (gRet (eC (.int 1))) gNx)
  (gSeq (gIf (tB (eOp dEq (eOp dIx (eVar 0) (eC (.int 0))) (eC (.str "group")))) (gRet (eUn dSum (eO (oLc 1 (eOp dIx (eVar 0) (eC (.int 1))) (eCall p_least_bits (aCons (eVar 1) aNil)))))) gNx)
  (gSeq (gIf (tB (eOp dEq (eOp dIx (eVar 0) (eC (.int 0))) (eC (.str "one")))) (gRet (eOp dAdd (eOp dIx (eVar 0) (eC (.int 1))) (eUn dMinL (eO (oLc 1 (eOp dIx (eVar 0) (eC (.int 2))) (eCall p_least_bits (aCons (eVar 1) aNil))))))) gNx)
  (gRet (eOp dIx (eVar 0) (eC (.int 1)))))))
def S_all_fit (p_fits : List D → Res D) : List D → Res D := fnD 3 (gSeq (gFor 2 (eVar 1) (gIf (tNotB (tB (eCall p_fits (aCons (eVar 0) (aCons (eVar 2) aNil))))) (gRet (eC (.bl false))) gNx))
  (gRet (eC (.bl true))))
def S_group_fits (p_fits : List D → Res D) : List D → Res D := fnD 4 (gSeq (gIf (tB (eOp dNe (eUn dLen (eVar 1)) (eUn dLen (eVar 0)))) (gRet (eC (.bl false))) gNx)
  (gSeq (gForZ 2 3 (eVar 0) (eVar 1) (gIf (tNotB (tB (eCall p_fits (aCons (eVar 2) (aCons (eVar 3) aNil))))) (gRet (eC (.bl false))) gNx))
  (gRet (eC (.bl true)))))
def S_fits (p_between p_fits p_group_fits p_all_fit p_room : List D → Res D) : List D → Res D := fnD 3 (gSeq (gSet 2 (eOp dIx (eVar 0) (eC (.int 0))))
  (gSeq (gIf (tB (eOp dEq (eVar 2) (eC (.str "num")))) (gRet (eCall p_between (aCons (eVar 1) (aCons (eOp dIx (eVar 0) (eC (.int 2))) (aCons (eOp dIx (eVar 0) (eC (.int 3))) aNil))))) gNx)
  (gSeq (gIf (tB (eOp dEq (eVar 2) (eC (.str "pad")))) (gRet (eUn dIsN (eVar 1))) gNx)
  (gSeq (gIf (tB (eOp dEq (eVar 2) (eC (.str "one")))) (gSeq (gIf (tOrB (tNotB (tB (eUn (dIsi .tuple) (eVar 1)))) (tB (eOp dNe (eUn dLen (eVar 1)) (eC (.int 2))))) (gRet (eC (.bl false))) gNx)
  (gRet (eAnd (eCall p_between (aCons (eOp dIx (eVar 1) (eC (.int 0))) (aCons (eC (.int 0)) (aCons (eOp dSub (eUn dLen (eOp dIx (eVar 0) (eC (.int 2)))) (eC (.int 1))) aNil)))) (eCall p_fits (aCons (eOp dIx (eOp dIx (eVar 0) (eC (.int 2))) (eOp dIx (eVar 1) (eC (.int 0)))) (aCons (eOp dIx (eVar 1) (eC (.int 1))) aNil)))))) gNx)
  (gSeq (gIf (tNotB (tB (eUn (dIsi .list) (eVar 1)))) (gRet (eC (.bl false))) gNx)
  (gSeq (gIf (tB (eOp dEq (eVar 2) (eC (.str "group")))) (gRet (eCall p_group_fits (aCons (eOp dIx (eVar 0) (eC (.int 1))) (aCons (eVar 1) aNil)))) gNx)
  (gSeq (gIf (tB (eOp dEq (eVar 2) (eC (.str "maybe")))) (gRet (eAnd (eOp dLe (eUn dLen (eVar 1)) (eC (.int 1))) (eCall p_all_fit (aCons (eOp dIx (eVar 0) (eC (.int 1))) (aCons (eVar 1) aNil))))) gNx)
  (gRet (eAnd (eOp dLt (eUn dLen (eVar 1)) (eCall p_room (aCons (eOp dIx (eVar 0) (eC (.int 1))) aNil))) (eCall p_all_fit (aCons (eOp dIx (eVar 0) (eC (.int 2))) (aCons (eVar 1) aNil))))))))))))
def S_joined (p_bits_by : List D → Res D) : List D → Res D := fnD 4 (gSeq (gSet 2 (eO (oLst aNil)))
  (gSeq (gFor 3 (eVar 1) (gSet 2 (eOp dAdd (eVar 2) (eCall p_bits_by (aCons (eVar 0) (aCons (eVar 3) aNil))))))
  (gRet (eVar 2))))
def S_bits_by (p_bits_of p_joined p_bits_by : List D → Res D) : List D → Res D := fnD 6 (gSeq (gSet 2 (eOp dIx (eVar 0) (eC (.int 0))))
  (gSeq (gIf (tB (eOp dEq (eVar 2) (eC (.str "num")))) (gRet (eCall p_bits_of (aCons (eOp dSub (eVar 1) (eOp dIx (eVar 0) (eC (.int 2)))) (aCons (eOp dIx (eVar 0) (eC (.int 1))) aNil)))) gNx)
  (gSeq (gIf (tB (eOp dEq (eVar 2) (eC (.str "pad")))) (gRet (eCall p_bits_of (aCons (eC (.int 0)) (aCons (eOp dIx (eVar 0) (eC (.int 1))) aNil)))) gNx)
  (gSeq (gIf (tB (eOp dEq (eVar 2) (eC (.str "maybe")))) (gRet (eOp dAdd (eO (oLst (aCons (eUn dLen (eVar 1)) aNil))) (eCall p_joined (aCons (eOp dIx (eVar 0) (eC (.int 1))) (aCons (eVar 1) aNil))))) gNx)
  (gSeq (gIf (tB (eOp dEq (eVar 2) (eC (.str "rows")))) (gRet (eOp dAdd (eCall p_bits_of (aCons (eUn dLen (eVar 1)) (aCons (eOp dIx (eVar 0) (eC (.int 1))) aNil))) (eCall p_joined (aCons (eOp dIx (eVar 0) (eC (.int 2))) (aCons (eVar 1) aNil))))) gNx)
  (gSeq (gIf (tB (eOp dEq (eVar 2) (eC (.str "one")))) (gRet (eOp dAdd (eCall p_bits_of (aCons (eOp dIx (eVar 1) (eC (.int 0))) (aCons (eOp dIx (eVar 0) (eC (.int 1))) aNil))) (eCall p_bits_by (aCons (eOp dIx (eOp dIx (eVar 0) (eC (.int 2))) (eOp dIx (eVar 1) (eC (.int 0)))) (aCons (eOp dIx (eVar 1) (eC (.int 1))) aNil))))) gNx)
  (gSeq (gSet 3 (eO (oLst aNil)))
  (gSeq (gForZ 4 5 (eOp dIx (eVar 0) (eC (.int 1))) (eVar 1) (gSet 3 (eOp dAdd (eVar 3) (eCall p_bits_by (aCons (eVar 4) (aCons (eVar 5) aNil))))))
  (gRet (eVar 3))))))))))
def S_packed (p_fits p_bits_by : List D → Res D) : List D → Res D := fnD 2 (gSeq (gIf (tNotB (tB (eCall p_fits (aCons (eVar 0) (aCons (eVar 1) aNil))))) (gExc "BadRecord") gNx)
  (gRet (eCall p_bits_by (aCons (eVar 0) (aCons (eVar 1) aNil)))))
def S_need_bits (p_least_bits : List D → Res D) : List D → Res D := fnD 1 (gIf (tB (eOp dEq (eCall p_least_bits (aCons (eVar 0) aNil)) (eC (.int 0)))) (gExc "NoBits") gNx)
def S_packed_all (p_need_bits p_packed : List D → Res D) : List D → Res D := fnD 4 (gSeq (gExpr (eCall p_need_bits (aCons (eVar 0) aNil)))
  (gSeq (gSet 2 (eO (oLst aNil)))
  (gSeq (gFor 3 (eVar 1) (gSet 2 (eOp dAdd (eVar 2) (eCall p_packed (aCons (eVar 0) (aCons (eVar 3) aNil))))))
  (gRet (eVar 2)))))
def S_law_number : List D → Res D := fnD 2 (gSeq (gIf (tB (eOp dEq (eUn dLen (eVar 0)) (eC (.int 0)))) (gRet (eVar 1)) gNx)
  (gRet (eOp dAdd (eOp dIx (eVar 0) (eOp dSub (eOp dSub (eUn dLen (eVar 0)) (eC (.int 1))) (eOp dMod (eVar 1) (eUn dLen (eVar 0))))) (eOp dDiv (eVar 1) (eUn dLen (eVar 0))))))
def S_law_wide (p__law_wide p__law_room : List D → Res D) : List D → Res D := fnD 3 (gSeq (gIf (tOrB (tB (eOp dEq (eOp dIx (eVar 0) (eC (.int 0))) (eC (.str "num")))) (tB (eOp dEq (eOp dIx (eVar 0) (eC (.int 0))) (eC (.str "pad"))))) (gRet (eOp dMax2 (eC (.int 1)) (eOp dIx (eVar 0) (eC (.int 1))))) gNx)
  (gSeq (gIf (tB (eOp dEq (eOp dIx (eVar 0) (eC (.int 0))) (eC (.str "maybe")))) (gRet (eOp dAdd (eC (.int 1)) (eCall p__law_wide (aCons (eOp dIx (eVar 0) (eC (.int 1))) aNil)))) gNx)
  (gSeq (gIf (tB (eOp dEq (eOp dIx (eVar 0) (eC (.int 0))) (eC (.str "rows")))) (gRet (eOp dAdd (eOp dIx (eVar 0) (eC (.int 1))) (eOp dMul (eOp dSub (eCall p__law_room (aCons (eOp dIx (eVar 0) (eC (.int 1))) aNil)) (eC (.int 1))) (eOp dMax2 (eC (.int 1)) (eCall p__law_wide (aCons (eOp dIx (eVar 0) (eC (.int 2))) aNil)))))) gNx)
  (gSeq (gSet 1 (eO (oLc 2 (eOp dIx (eVar 0) (eOp dSub (eUn dLen (eVar 0)) (eC (.int 1)))) (eCall p__law_wide (aCons (eVar 2) aNil)))))
  (gSeq (gIf (tB (eOp dEq (eOp dIx (eVar 0) (eC (.int 0))) (eC (.str "one")))) (gRet (eOp dAdd (eOp dIx (eVar 0) (eC (.int 1))) (eUn dMaxL (eVar 1)))) gNx)
  (gRet (eUn dSum (eVar 1))))))))
def S_law_many (p__law_room p__law_wide : List D → Res D) : List D → Res D := fnD 4 (gSeq (gIf (tB (eOp dEq (eOp dIx (eVar 0) (eC (.int 0))) (eC (.str "maybe")))) (gRet (eOp dMin2 (eC (.int 1)) (eOp dMod (eVar 1) (eC (.int 3))))) gNx)
  (gSeq (gSet 2 (eOp dSub (eCall p__law_room (aCons (eOp dIx (eVar 0) (eC (.int 1))) aNil)) (eC (.int 1))))
  (gSeq (gSet 3 (eOp dMax2 (eC (.int 1)) (eCall p__law_wide (aCons (eOp dIx (eVar 0) (eC (.int 2))) aNil))))
  (gSeq (gIf (tB (eOp dGt (eOp dMul (eVar 3) (eVar 2)) (eC (.int 300)))) (gSet 2 (eOp dMin2 (eVar 2) (eOp dMax2 (eC (.int 2)) (eOp dDiv (eOp dIx (eO (oLst (aCons (eC (.int 200)) (aCons (eC (.int 520)) aNil)))) (eUn dInt (eOp dEq (eOp dMod (eVar 1) (eC (.int 64))) (eC (.int 47))))) (eVar 3))))) gNx)
  (gSeq (gIf (tB (eOp dEq (eOp dMod (eVar 1) (eC (.int 4))) (eC (.int 3)))) (gRet (eOp dMod (eOp dDiv (eVar 1) (eC (.int 4))) (eOp dAdd (eVar 2) (eC (.int 1))))) gNx)
  (gRet (eOp dMin2 (eOp dMod (eVar 1) (eC (.int 4))) (eVar 2))))))))
def S_law_record (p__law_number p__law_record p__law_many : List D → Res D) : List D → Res D := fnD 11 (gSeq (gSet 3 (eCall p__law_number (aCons (eVar 1) (aCons (eVar 2) aNil))))
  (gSeq (gSet 4 (eOp dIx (eVar 0) (eC (.int 0))))
  (gSeq (gIf (tB (eOp dEq (eVar 4) (eC (.str "num")))) (gSeq (gSet 5 (eOp dAdd (eOp dSub (eOp dIx (eVar 0) (eC (.int 3))) (eOp dIx (eVar 0) (eC (.int 2)))) (eC (.int 1))))
  (gSeq (gSet 6 (eOp dMod (eOp dDiv (eVar 3) (eC (.int 5))) (eVar 5)))
  (gSeq (gIf (tB (eOp dEq (eOp dMod (eVar 3) (eC (.int 5))) (eC (.int 1)))) (gSet 6 (eOp dSub (eVar 5) (eC (.int 1)))) gNx)
  (gSeq (gIf (tB (eOp dEq (eOp dMod (eVar 3) (eC (.int 5))) (eC (.int 2)))) (gSet 6 (eC (.int 0))) gNx)
  (gRet (eTup (aCons (eOp dAdd (eOp dIx (eVar 0) (eC (.int 2))) (eVar 6)) (aCons (eOp dAdd (eVar 2) (eC (.int 1))) aNil)))))))) gNx)
  (gSeq (gIf (tB (eOp dEq (eVar 4) (eC (.str "pad")))) (gRet (eTup (aCons (eC .non) (aCons (eVar 2) aNil)))) gNx)
  (gSeq (gIf (tB (eOp dEq (eVar 4) (eC (.str "one")))) (gSeq (gSet 6 (eOp dMod (eVar 3) (eUn dLen (eOp dIx (eVar 0) (eC (.int 2))))))
  (gSeq (gSet 7 (eCall p__law_record (aCons (eOp dIx (eOp dIx (eVar 0) (eC (.int 2))) (eVar 6)) (aCons (eVar 1) (aCons (eOp dAdd (eVar 2) (eC (.int 1))) aNil)))))
  (gRet (eTup (aCons (eTup (aCons (eVar 6) (aCons (eOp dIx (eVar 7) (eC (.int 0))) aNil))) (aCons (eOp dIx (eVar 7) (eC (.int 1))) aNil)))))) gNx)
  (gSeq (gIf (tB (eOp dEq (eVar 4) (eC (.str "group")))) (gSet 8 (eOp dIx (eVar 0) (eC (.int 1)))) (gSeq (gSet 8 (eOp dMul (eO (oLst (aCons (eOp dIx (eVar 0) (eOp dSub (eUn dLen (eVar 0)) (eC (.int 1)))) aNil))) (eCall p__law_many (aCons (eVar 0) (aCons (eVar 3) aNil)))))
  (gSet 2 (eOp dAdd (eVar 2) (eC (.int 1))))))
  (gSeq (gSetO 9 (oLst aNil))
  (gSeq (gFor 10 (eVar 8) (gSeq (gSet 7 (eCall p__law_record (aCons (eVar 10) (aCons (eVar 1) (aCons (eVar 2) aNil)))))
  (gSeq (gApp 9 (eOp dIx (eVar 7) (eC (.int 0))))
  (gSet 2 (eOp dIx (eVar 7) (eC (.int 1)))))))
  (gFrz 9 (gRet (eTup (aCons (eVar 9) (aCons (eVar 2) aNil)))))))))))))
def S_law_fits (p__law_whole p__law_fits p__law_room : List D → Res D) : List D → Res D := fnD 6 (gSeq (gSet 2 (eOp dIx (eVar 0) (eC (.int 0))))
  (gSeq (gIf (tB (eOp dEq (eVar 2) (eC (.str "num")))) (gRet (eAnd (eCall p__law_whole (aCons (eVar 1) aNil)) (eChain dLe dLe (eOp dIx (eVar 0) (eC (.int 2))) (eVar 1) (eOp dIx (eVar 0) (eC (.int 3)))))) gNx)
  (gSeq (gIf (tB (eOp dEq (eVar 2) (eC (.str "pad")))) (gRet (eUn dIsN (eVar 1))) gNx)
  (gSeq (gIf (tB (eOp dEq (eVar 2) (eC (.str "one")))) (gSeq (gIf (tOrB (tNotB (tB (eUn (dIsi .tuple) (eVar 1)))) (tOrB (tB (eOp dNe (eUn dLen (eVar 1)) (eC (.int 2)))) (tNotB (tB (eCall p__law_whole (aCons (eOp dIx (eVar 1) (eC (.int 0))) aNil)))))) (gRet (eC (.bl false))) gNx)
  (gRet (eAnd (eChain dLe dLt (eC (.int 0)) (eOp dIx (eVar 1) (eC (.int 0))) (eUn dLen (eOp dIx (eVar 0) (eC (.int 2))))) (eCall p__law_fits (aCons (eOp dIx (eOp dIx (eVar 0) (eC (.int 2))) (eOp dIx (eVar 1) (eC (.int 0)))) (aCons (eOp dIx (eVar 1) (eC (.int 1))) aNil)))))) gNx)
  (gSeq (gIf (tNotB (tB (eUn (dIsi .list) (eVar 1)))) (gRet (eC (.bl false))) gNx)
  (gSeq (gSet 3 (eOp dIx (eVar 0) (eC (.int 1))))
  (gSeq (gIf (tB (eOp dEq (eVar 2) (eC (.str "maybe")))) (gSet 3 (eOp dMul (eO (oLst (aCons (eOp dIx (eVar 0) (eC (.int 1))) aNil))) (eOp dMin2 (eC (.int 1)) (eUn dLen (eVar 1))))) gNx)
  (gSeq (gIf (tB (eOp dEq (eVar 2) (eC (.str "rows")))) (gSet 3 (eOp dMul (eO (oLst (aCons (eOp dIx (eVar 0) (eC (.int 2))) aNil))) (eOp dMin2 (eOp dSub (eCall p__law_room (aCons (eOp dIx (eVar 0) (eC (.int 1))) aNil)) (eC (.int 1))) (eUn dLen (eVar 1))))) gNx)
  (gSeq (gIf (tB (eOp dNe (eUn dLen (eVar 3)) (eUn dLen (eVar 1)))) (gRet (eC (.bl false))) gNx)
  (gSeq (gForZ 4 5 (eVar 3) (eVar 1) (gIf (tNotB (tB (eCall p__law_fits (aCons (eVar 4) (aCons (eVar 5) aNil))))) (gRet (eC (.bl false))) gNx))
  (gRet (eC (.bl true)))))))))))))
def S_law_spoilt (p__law_odd p__law_spoilt : List D → Res D) : List D → Res D := fnD 7 (gSeq (gIf (tOrB (tB (eOp dEq (eVar 2) (eC (.int 0)))) (tOrB (tB (eOp dEq (eOp dIx (eVar 0) (eC (.int 0))) (eC (.str "num")))) (tB (eOp dEq (eOp dIx (eVar 0) (eC (.int 0))) (eC (.str "pad")))))) (gRet (eCall p__law_odd (aCons (eVar 0) (aCons (eVar 1) (aCons (eVar 4) aNil))))) gNx)
  (gSeq (gIf (tB (eOp dEq (eOp dIx (eVar 0) (eC (.int 0))) (eC (.str "one")))) (gRet (eTup (aCons (eOp dIx (eVar 1) (eC (.int 0))) (aCons (eCall p__law_spoilt (aCons (eOp dIx (eOp dIx (eVar 0) (eC (.int 2))) (eOp dIx (eVar 1) (eC (.int 0)))) (aCons (eOp dIx (eVar 1) (eC (.int 1))) (aCons (eOp dSub (eVar 2) (eC (.int 1))) (aCons (eVar 3) (aCons (eVar 4) aNil)))))) aNil)))) gNx)
  (gSeq (gIf (tB (eOp dEq (eUn dLen (eVar 1)) (eC (.int 0)))) (gRet (eCall p__law_odd (aCons (eVar 0) (aCons (eVar 1) (aCons (eVar 4) aNil))))) gNx)
  (gSeq (gSet 5 (eOp dMod (eVar 3) (eUn dLen (eVar 1))))
  (gSeq (gSet 6 (eOp dIx (eVar 0) (eOp dSub (eUn dLen (eVar 0)) (eC (.int 1)))))
  (gSeq (gIf (tB (eOp dEq (eOp dIx (eVar 0) (eC (.int 0))) (eC (.str "group")))) (gSet 6 (eOp dIx (eOp dIx (eVar 0) (eC (.int 1))) (eVar 5))) gNx)
  (gRet (eOp dAdd (eOp dAdd (eO (oSl (eVar 1) rNone (rSome (eVar 5)))) (eO (oLst (aCons (eCall p__law_spoilt (aCons (eVar 6) (aCons (eOp dIx (eVar 1) (eVar 5)) (aCons (eOp dSub (eVar 2) (eC (.int 1))) (aCons (eOp dDiv (eVar 3) (eC (.int 3))) (aCons (eVar 4) aNil)))))) aNil)))) (eO (oSl (eVar 1) (rSome (eOp dAdd (eVar 5) (eC (.int 1)))) rNone))))))))))
def S_law_least (p__law_least : List D → Res D) : List D → Res D := fnD 2 (gSeq (gIf (tB (eOp dEq (eOp dIx (eVar 0) (eC (.int 0))) (eC (.str "maybe")))) (gRet (eC (.int 1))) gNx)
  (gSeq (gIf (tB (eOp dEq (eOp dIx (eVar 0) (eC (.int 0))) (eC (.str "one")))) (gRet (eOp dAdd (eOp dIx (eVar 0) (eC (.int 1))) (eUn dMinL (eO (oLc 1 (eOp dIx (eVar 0) (eC (.int 2))) (eCall p__law_least (aCons (eVar 1) aNil))))))) gNx)
  (gSeq (gIf (tB (eOp dEq (eOp dIx (eVar 0) (eC (.int 0))) (eC (.str "group")))) (gRet (eUn dSum (eO (oLc 1 (eOp dIx (eVar 0) (eC (.int 1))) (eCall p__law_least (aCons (eVar 1) aNil)))))) gNx)
  (gRet (eOp dIx (eVar 0) (eC (.int 1)))))))
def S_law_bits (p__law_written p__law_bits : List D → Res D) : List D → Res D := fnD 7 (gSeq (gSet 2 (eOp dIx (eVar 0) (eC (.int 0))))
  (gSeq (gIf (tB (eOp dEq (eVar 2) (eC (.str "num")))) (gRet (eCall p__law_written (aCons (eOp dSub (eVar 1) (eOp dIx (eVar 0) (eC (.int 2)))) (aCons (eOp dIx (eVar 0) (eC (.int 1))) aNil)))) gNx)
  (gSeq (gIf (tB (eOp dEq (eVar 2) (eC (.str "pad")))) (gRet (eOp dMul (eO (oLst (aCons (eC (.int 0)) aNil))) (eOp dIx (eVar 0) (eC (.int 1))))) gNx)
  (gSeq (gIf (tB (eOp dEq (eVar 2) (eC (.str "one")))) (gRet (eOp dAdd (eCall p__law_written (aCons (eOp dIx (eVar 1) (eC (.int 0))) (aCons (eOp dIx (eVar 0) (eC (.int 1))) aNil))) (eCall p__law_bits (aCons (eOp dIx (eOp dIx (eVar 0) (eC (.int 2))) (eOp dIx (eVar 1) (eC (.int 0)))) (aCons (eOp dIx (eVar 1) (eC (.int 1))) aNil))))) gNx)
  (gSeq (gSet 3 (eO (oLst aNil)))
  (gSeq (gSet 4 (eOp dIx (eVar 0) (eC (.int 1))))
  (gSeq (gIf (tB (eOp dEq (eVar 2) (eC (.str "maybe")))) (gSeq (gSet 3 (eO (oLst (aCons (eUn dLen (eVar 1)) aNil))))
  (gSet 4 (eOp dMul (eO (oLst (aCons (eOp dIx (eVar 0) (eC (.int 1))) aNil))) (eUn dLen (eVar 1))))) gNx)
  (gSeq (gIf (tB (eOp dEq (eVar 2) (eC (.str "rows")))) (gSeq (gSet 3 (eCall p__law_written (aCons (eUn dLen (eVar 1)) (aCons (eOp dIx (eVar 0) (eC (.int 1))) aNil))))
  (gSet 4 (eOp dMul (eO (oLst (aCons (eOp dIx (eVar 0) (eC (.int 2))) aNil))) (eUn dLen (eVar 1))))) gNx)
  (gSeq (gForZ 5 6 (eVar 4) (eVar 1) (gSet 3 (eOp dAdd (eVar 3) (eCall p__law_bits (aCons (eVar 5) (aCons (eVar 6) aNil))))))
  (gRet (eVar 3)))))))))))
def S_most_bits (p_most_bits p_room : List D → Res D) : List D → Res D := fnD 2 (gSeq (gIf (tB (eOp dEq (eOp dIx (eVar 0) (eC (.int 0))) (eC (.str "maybe")))) (gRet (eOp dAdd (eC (.int 1)) (eCall p_most_bits (aCons (eOp dIx (eVar 0) (eC (.int 1))) aNil)))) gNx)
  (gSeq (gIf (tB (eOp dEq (eOp dIx (eVar 0) (eC (.int 0))) (eC (.str "rows")))) (gRet (eOp dAdd (eOp dIx (eVar 0) (eC (.int 1))) (eOp dMul (eOp dSub (eCall p_room (aCons (eOp dIx (eVar 0) (eC (.int 1))) aNil)) (eC (.int 1))) (eCall p_most_bits (aCons (eOp dIx (eVar 0) (eC (.int 2))) aNil))))) gNx)
  (gSeq (gIf (tB (eOp dEq (eOp dIx (eVar 0) (eC (.int 0))) (eC (.str "group")))) (gRet (eUn dSum (eO (oLc 1 (eOp dIx (eVar 0) (eC (.int 1))) (eCall p_most_bits (aCons (eVar 1) aNil)))))) gNx)
  (gSeq (gIf (tB (eOp dEq (eOp dIx (eVar 0) (eC (.int 0))) (eC (.str "one")))) (gRet (eOp dAdd (eOp dIx (eVar 0) (eC (.int 1))) (eUn dMaxL (eO (oLc 1 (eOp dIx (eVar 0) (eC (.int 2))) (eCall p_most_bits (aCons (eVar 1) aNil))))))) gNx)
  (gRet (eOp dIx (eVar 0) (eC (.int 1))))))))
def S_law_lengths (p__law_lengths p__law_room : List D → Res D) : List D → Res D := fnD 4 (gSeq (gIf (tOrB (tB (eOp dEq (eOp dIx (eVar 0) (eC (.int 0))) (eC (.str "num")))) (tB (eOp dEq (eOp dIx (eVar 0) (eC (.int 0))) (eC (.str "pad"))))) (gRet (eTup (aCons (eOp dIx (eVar 0) (eC (.int 1))) (aCons (eOp dIx (eVar 0) (eC (.int 1))) aNil)))) gNx)
  (gSeq (gIf (tB (eOp dEq (eOp dIx (eVar 0) (eC (.int 0))) (eC (.str "maybe")))) (gRet (eTup (aCons (eC (.int 1)) (aCons (eOp dAdd (eC (.int 1)) (eOp dIx (eCall p__law_lengths (aCons (eOp dIx (eVar 0) (eC (.int 1))) aNil)) (eC (.int 1)))) aNil)))) gNx)
  (gSeq (gIf (tB (eOp dEq (eOp dIx (eVar 0) (eC (.int 0))) (eC (.str "rows")))) (gRet (eTup (aCons (eOp dIx (eVar 0) (eC (.int 1))) (aCons (eOp dAdd (eOp dIx (eVar 0) (eC (.int 1))) (eOp dMul (eOp dSub (eCall p__law_room (aCons (eOp dIx (eVar 0) (eC (.int 1))) aNil)) (eC (.int 1))) (eOp dIx (eCall p__law_lengths (aCons (eOp dIx (eVar 0) (eC (.int 2))) aNil)) (eC (.int 1))))) aNil)))) gNx)
  (gSeq (gSet 1 (eO (oLc 2 (eOp dIx (eVar 0) (eOp dSub (eUn dLen (eVar 0)) (eC (.int 1)))) (eCall p__law_lengths (aCons (eVar 2) aNil)))))
  (gSeq (gIf (tB (eOp dEq (eOp dIx (eVar 0) (eC (.int 0))) (eC (.str "one")))) (gRet (eTup (aCons (eOp dAdd (eOp dIx (eVar 0) (eC (.int 1))) (eUn dMinL (eO (oLc 3 (eVar 1) (eOp dIx (eVar 3) (eC (.int 0))))))) (aCons (eOp dAdd (eOp dIx (eVar 0) (eC (.int 1))) (eUn dMaxL (eO (oLc 3 (eVar 1) (eOp dIx (eVar 3) (eC (.int 1))))))) aNil)))) gNx)
  (gRet (eTup (aCons (eUn dSum (eO (oLc 3 (eVar 1) (eOp dIx (eVar 3) (eC (.int 0)))))) (aCons (eUn dSum (eO (oLc 3 (eVar 1) (eOp dIx (eVar 3) (eC (.int 1)))))) aNil)))))))))
def S_read_many (p_read_at : List D → Res D) : List D → Res D := fnD 7 (gSeq (gSetO 4 (oLst aNil))
  (gSeq (gFor 5 (eVar 0) (gSeq (gSet 6 (eCall p_read_at (aCons (eVar 5) (aCons (eVar 1) (aCons (eVar 2) (aCons (eVar 3) aNil))))))
  (gSeq (gIf (tB (eOp dNe (eOp dIx (eVar 6) (eC (.int 0))) (eC (.str "read")))) (gRet (eVar 6)) gNx)
  (gSeq (gApp 4 (eOp dIx (eVar 6) (eC (.int 1))))
  (gSet 2 (eOp dIx (eVar 6) (eC (.int 2))))))))
  (gFrz 4 (gRet (eTup (aCons (eC (.str "read")) (aCons (eVar 4) (aCons (eVar 2) aNil))))))))
def S_read_head (p_read_code p_room : List D → Res D) : List D → Res D := fnD 4 (gSeq (gIf (tB (eOp dEq (eOp dIx (eVar 0) (eC (.int 0))) (eC (.str "maybe")))) (gRet (eCall p_read_code (aCons (eVar 1) (aCons (eVar 2) (aCons (eC (.int 1)) (aCons (eC (.int 1)) (aCons (eVar 3) aNil))))))) gNx)
  (gSeq (gIf (tB (eOp dEq (eOp dIx (eVar 0) (eC (.int 0))) (eC (.str "rows")))) (gRet (eCall p_read_code (aCons (eVar 1) (aCons (eVar 2) (aCons (eOp dIx (eVar 0) (eC (.int 1))) (aCons (eOp dSub (eCall p_room (aCons (eOp dIx (eVar 0) (eC (.int 1))) aNil)) (eC (.int 1))) (aCons (eVar 3) aNil))))))) gNx)
  (gRet (eCall p_read_code (aCons (eVar 1) (aCons (eVar 2) (aCons (eOp dIx (eVar 0) (eC (.int 1))) (aCons (eOp dSub (eUn dLen (eOp dIx (eVar 0) (eC (.int 2)))) (eC (.int 1))) (aCons (eVar 3) aNil)))))))))
def S_read_at (p_read_code p_read_many p_read_head p_read_at : List D → Res D) : List D → Res D := fnD 7 (gSeq (gSet 4 (eOp dIx (eVar 0) (eC (.int 0))))
  (gSeq (gIf (tB (eOp dEq (eVar 4) (eC (.str "num")))) (gSeq (gSet 5 (eCall p_read_code (aCons (eVar 1) (aCons (eVar 2) (aCons (eOp dIx (eVar 0) (eC (.int 1))) (aCons (eOp dSub (eOp dIx (eVar 0) (eC (.int 3))) (eOp dIx (eVar 0) (eC (.int 2)))) (aCons (eVar 3) aNil)))))))
  (gSeq (gIf (tB (eOp dNe (eOp dIx (eVar 5) (eC (.int 0))) (eC (.str "read")))) (gRet (eVar 5)) gNx)
  (gRet (eTup (aCons (eC (.str "read")) (aCons (eOp dAdd (eOp dIx (eVar 0) (eC (.int 2))) (eOp dIx (eVar 5) (eC (.int 1)))) (aCons (eOp dIx (eVar 5) (eC (.int 2))) aNil))))))) gNx)
  (gSeq (gIf (tB (eOp dEq (eVar 4) (eC (.str "pad")))) (gSeq (gSet 5 (eCall p_read_code (aCons (eVar 1) (aCons (eVar 2) (aCons (eOp dIx (eVar 0) (eC (.int 1))) (aCons (eC (.int 0)) (aCons (eVar 3) aNil)))))))
  (gSeq (gIf (tB (eOp dNe (eOp dIx (eVar 5) (eC (.int 0))) (eC (.str "read")))) (gRet (eVar 5)) gNx)
  (gRet (eTup (aCons (eC (.str "read")) (aCons (eC .non) (aCons (eOp dIx (eVar 5) (eC (.int 2))) aNil))))))) gNx)
  (gSeq (gIf (tB (eOp dEq (eVar 4) (eC (.str "group")))) (gRet (eCall p_read_many (aCons (eOp dIx (eVar 0) (eC (.int 1))) (aCons (eVar 1) (aCons (eVar 2) (aCons (eVar 3) aNil)))))) gNx)
  (gSeq (gSet 6 (eCall p_read_head (aCons (eVar 0) (aCons (eVar 1) (aCons (eVar 2) (aCons (eVar 3) aNil))))))
  (gSeq (gIf (tB (eOp dNe (eOp dIx (eVar 6) (eC (.int 0))) (eC (.str "read")))) (gRet (eVar 6)) gNx)
  (gSeq (gIf (tB (eOp dEq (eVar 4) (eC (.str "maybe")))) (gRet (eCall p_read_many (aCons (eOp dMul (eO (oLst (aCons (eOp dIx (eVar 0) (eC (.int 1))) aNil))) (eOp dIx (eVar 6) (eC (.int 1)))) (aCons (eVar 1) (aCons (eOp dIx (eVar 6) (eC (.int 2))) (aCons (eVar 3) aNil)))))) gNx)
  (gSeq (gIf (tB (eOp dEq (eVar 4) (eC (.str "rows")))) (gRet (eCall p_read_many (aCons (eOp dMul (eO (oLst (aCons (eOp dIx (eVar 0) (eC (.int 2))) aNil))) (eOp dIx (eVar 6) (eC (.int 1)))) (aCons (eVar 1) (aCons (eOp dIx (eVar 6) (eC (.int 2))) (aCons (eVar 3) aNil)))))) gNx)
  (gSeq (gSet 5 (eCall p_read_at (aCons (eOp dIx (eOp dIx (eVar 0) (eC (.int 2))) (eOp dIx (eVar 6) (eC (.int 1)))) (aCons (eVar 1) (aCons (eOp dIx (eVar 6) (eC (.int 2))) (aCons (eVar 3) aNil))))))
  (gSeq (gIf (tB (eOp dNe (eOp dIx (eVar 5) (eC (.int 0))) (eC (.str "read")))) (gRet (eVar 5)) gNx)
  (gRet (eTup (aCons (eC (.str "read")) (aCons (eTup (aCons (eOp dIx (eVar 6) (eC (.int 1))) (aCons (eOp dIx (eVar 5) (eC (.int 1))) aNil))) (aCons (eOp dIx (eVar 5) (eC (.int 2))) aNil)))))))))))))))
def S_looked (p_read_at : List D → Res D) : List D → Res D := fnD 3 (gSeq (gSet 2 (eCall p_read_at (aCons (eVar 0) (aCons (eVar 1) (aCons (eC (.int 0)) (aCons (eC (.bl false)) aNil))))))
  (gSeq (gIf (tB (eOp dNe (eOp dIx (eVar 2) (eC (.int 0))) (eC (.str "read")))) (gRet (eVar 2)) gNx)
  (gSeq (gIf (tB (eOp dLt (eOp dIx (eVar 2) (eC (.int 2))) (eUn dLen (eVar 1)))) (gRet (eTup (aCons (eC (.str "left")) (aCons (eOp dIx (eVar 2) (eC (.int 2))) aNil)))) gNx)
  (gRet (eTup (aCons (eC (.str "read")) (aCons (eOp dIx (eVar 2) (eC (.int 1))) aNil)))))))
def S_law_changed (p__law_written : List D → Res D) : List D → Res D := fnD 6 (gSeq (gSet 2 (eOp dMod (eVar 1) (eC (.int 6))))
  (gSeq (gSet 3 (eOp dDiv (eVar 1) (eC (.int 6))))
  (gSeq (gIf (tB (eOp dEq (eVar 2) (eC (.int 1)))) (gRet (eO (oSl (eVar 0) rNone (rSome (eOp dMod (eVar 3) (eOp dAdd (eUn dLen (eVar 0)) (eC (.int 1)))))))) gNx)
  (gSeq (gIf (tB (eOp dEq (eVar 2) (eC (.int 2)))) (gRet (eOp dAdd (eVar 0) (eCall p__law_written (aCons (eOp dMod (eOp dDiv (eVar 3) (eC (.int 6))) (eC (.int 64))) (aCons (eOp dAdd (eC (.int 1)) (eOp dMod (eVar 3) (eC (.int 6)))) aNil))))) gNx)
  (gSeq (gIf (tAndB (tB (eOp dEq (eVar 2) (eC (.int 3)))) (tB (eOp dGt (eUn dLen (eVar 0)) (eC (.int 0))))) (gSeq (gSet 4 (eOp dMod (eVar 3) (eUn dLen (eVar 0))))
  (gRet (eOp dAdd (eOp dAdd (eO (oSl (eVar 0) rNone (rSome (eVar 4)))) (eO (oLst (aCons (eOp dSub (eC (.int 1)) (eOp dIx (eVar 0) (eVar 4))) aNil)))) (eO (oSl (eVar 0) (rSome (eOp dAdd (eVar 4) (eC (.int 1)))) rNone))))) gNx)
  (gSeq (gIf (tB (eOp dEq (eVar 2) (eC (.int 4)))) (gSeq (gSet 5 (eOp dMod (eVar 3) (eC (.int 48))))
  (gRet (eCall p__law_written (aCons (eOp dMul (eOp dMod (eOp dMul (eVar 3) (eC (.int 48271))) (eC (.int 2147483647))) (eC (.int 40692))) (aCons (eVar 5) aNil))))) gNx)
  (gSeq (gIf (tAndB (tB (eOp dEq (eVar 2) (eC (.int 5)))) (tB (eOp dGt (eUn dLen (eVar 0)) (eC (.int 0))))) (gSeq (gSet 4 (eOp dMod (eVar 3) (eUn dLen (eVar 0))))
  (gRet (eOp dAdd (eO (oSl (eVar 0) rNone (rSome (eVar 4)))) (eCall p__law_written (aCons (eOp dMod (eOp dMul (eVar 3) (eC (.int 48271))) (eC (.int 2147483647))) (aCons (eOp dSub (eUn dLen (eVar 0)) (eVar 4)) aNil)))))) gNx)
  (gRet (eVar 0)))))))))
def S_law_code (p__law_room : List D → Res D) : List D → Res D := fnD 6 (gSeq (gSet 4 (eC (.int 0)))
  (gSeq (gForR 5 (eVar 2) (gSeq (gIf (tB (eOp dGe (eOp dAdd (eVar 1) (eVar 5)) (eUn dLen (eVar 0)))) (gRet (eTup (aCons (eC (.str "short")) (aCons (eUn dLen (eVar 0)) aNil)))) gNx)
  (gSeq (gSet 4 (eOp dAdd (eOp dMul (eVar 4) (eC (.int 2))) (eOp dIx (eVar 0) (eOp dAdd (eVar 1) (eVar 5)))))
  (gIf (tB (eOp dGt (eOp dMul (eVar 4) (eCall p__law_room (aCons (eOp dSub (eOp dSub (eVar 2) (eC (.int 1))) (eVar 5)) aNil))) (eVar 3))) (gRet (eTup (aCons (eC (.str "wrong")) (aCons (eOp dAdd (eVar 1) (eVar 5)) aNil)))) gNx))))
  (gRet (eTup (aCons (eC (.str "read")) (aCons (eVar 4) (aCons (eOp dAdd (eVar 1) (eVar 2)) aNil)))))))
def S_law_most (p__law_room : List D → Res D) : List D → Res D := fnD 1 (gSeq (gIf (tB (eOp dEq (eOp dIx (eVar 0) (eC (.int 0))) (eC (.str "num")))) (gRet (eOp dSub (eOp dIx (eVar 0) (eC (.int 3))) (eOp dIx (eVar 0) (eC (.int 2))))) gNx)
  (gSeq (gIf (tB (eOp dEq (eOp dIx (eVar 0) (eC (.int 0))) (eC (.str "rows")))) (gRet (eOp dSub (eCall p__law_room (aCons (eOp dIx (eVar 0) (eC (.int 1))) aNil)) (eC (.int 1)))) gNx)
  (gSeq (gIf (tB (eOp dEq (eOp dIx (eVar 0) (eC (.int 0))) (eC (.str "one")))) (gRet (eOp dSub (eUn dLen (eOp dIx (eVar 0) (eC (.int 2)))) (eC (.int 1)))) gNx)
  (gRet (eC (.int 0))))))
def S_law_read (p__law_code p__law_most p__law_read : List D → Res D) : List D → Res D := fnD 9 (gSeq (gSet 3 (eOp dIx (eVar 0) (eC (.int 0))))
  (gSeq (gSet 4 (eO (oLst aNil)))
  (gSeq (gIf (tB (eOp dEq (eVar 3) (eC (.str "group")))) (gSeq (gSet 5 (eTup (aCons (eC (.str "read")) (aCons (eC (.int 0)) (aCons (eVar 2) aNil)))))
  (gSet 4 (eOp dIx (eVar 0) (eC (.int 1))))) (gIf (tB (eOp dEq (eVar 3) (eC (.str "maybe")))) (gSet 5 (eCall p__law_code (aCons (eVar 1) (aCons (eVar 2) (aCons (eC (.int 1)) (aCons (eC (.int 1)) aNil)))))) (gSet 5 (eCall p__law_code (aCons (eVar 1) (aCons (eVar 2) (aCons (eOp dIx (eVar 0) (eC (.int 1))) (aCons (eCall p__law_most (aCons (eVar 0) aNil)) aNil))))))))
  (gSeq (gIf (tB (eOp dNe (eOp dIx (eVar 5) (eC (.int 0))) (eC (.str "read")))) (gRet (eVar 5)) gNx)
  (gSeq (gIf (tB (eOp dEq (eVar 3) (eC (.str "num")))) (gRet (eTup (aCons (eC (.str "read")) (aCons (eOp dAdd (eOp dIx (eVar 0) (eC (.int 2))) (eOp dIx (eVar 5) (eC (.int 1)))) (aCons (eOp dIx (eVar 5) (eC (.int 2))) aNil))))) gNx)
  (gSeq (gIf (tB (eOp dEq (eVar 3) (eC (.str "pad")))) (gRet (eTup (aCons (eC (.str "read")) (aCons (eC .non) (aCons (eOp dIx (eVar 5) (eC (.int 2))) aNil))))) gNx)
  (gSeq (gIf (tOrB (tB (eOp dEq (eVar 3) (eC (.str "maybe")))) (tB (eOp dEq (eVar 3) (eC (.str "rows"))))) (gSet 4 (eOp dMul (eO (oLst (aCons (eOp dIx (eVar 0) (eOp dSub (eUn dLen (eVar 0)) (eC (.int 1)))) aNil))) (eOp dIx (eVar 5) (eC (.int 1))))) gNx)
  (gSeq (gIf (tB (eOp dEq (eVar 3) (eC (.str "one")))) (gSet 4 (eO (oLst (aCons (eOp dIx (eOp dIx (eVar 0) (eC (.int 2))) (eOp dIx (eVar 5) (eC (.int 1)))) aNil)))) gNx)
  (gSeq (gSetO 6 (oLst aNil))
  (gSeq (gSet 2 (eOp dIx (eVar 5) (eC (.int 2))))
  (gSeq (gFor 7 (eVar 4) (gSeq (gSet 8 (eCall p__law_read (aCons (eVar 7) (aCons (eVar 1) (aCons (eVar 2) aNil)))))
  (gSeq (gIf (tB (eOp dNe (eOp dIx (eVar 8) (eC (.int 0))) (eC (.str "read")))) (gRet (eVar 8)) gNx)
  (gSeq (gApp 6 (eOp dIx (eVar 8) (eC (.int 1))))
  (gSet 2 (eOp dIx (eVar 8) (eC (.int 2))))))))
  (gSeq (gIf (tB (eOp dEq (eVar 3) (eC (.str "one")))) (gRet (eTup (aCons (eC (.str "read")) (aCons (eTup (aCons (eOp dIx (eVar 5) (eC (.int 1))) (aCons (eIxO 6 (eC (.int 0))) aNil))) (aCons (eVar 2) aNil))))) gNx)
  (gFrz 6 (gRet (eTup (aCons (eC (.str "read")) (aCons (eVar 6) (aCons (eVar 2) aNil))))))))))))))))))
def S_unpacked (p_looked : List D → Res D) : List D → Res D := fnD 3 (gSeq (gSet 2 (eCall p_looked (aCons (eVar 0) (aCons (eVar 1) aNil))))
  (gSeq (gIf (tB (eOp dEq (eOp dIx (eVar 2) (eC (.int 0))) (eC (.str "short")))) (gExc "Short") gNx)
  (gSeq (gIf (tB (eOp dEq (eOp dIx (eVar 2) (eC (.int 0))) (eC (.str "left")))) (gExc "Left") gNx)
  (gSeq (gIf (tB (eOp dEq (eOp dIx (eVar 2) (eC (.int 0))) (eC (.str "wrong")))) (gExc "Wrong") gNx)
  (gRet (eOp dIx (eVar 2) (eC (.int 1))))))))
def S_begun (p_read_at : List D → Res D) : List D → Res D := fnD 3 (gSeq (gSet 2 (eCall p_read_at (aCons (eVar 0) (aCons (eVar 1) (aCons (eC (.int 0)) (aCons (eC (.bl true)) aNil))))))
  (gSeq (gIf (tAndB (tB (eOp dEq (eOp dIx (eVar 2) (eC (.int 0))) (eC (.str "read")))) (tB (eOp dGe (eOp dIx (eVar 2) (eC (.int 2))) (eUn dLen (eVar 1))))) (gRet (eO (oLst (aCons (eOp dIx (eVar 2) (eC (.int 1))) aNil)))) gNx)
  (gRet (eO (oLst aNil)))))
def S_law_bit_list (p__law_whole : List D → Res D) : List D → Res D := fnD 2 (gSeq (gIf (tNotB (tB (eUn (dIsi .list) (eVar 0)))) (gRet (eC (.bl false))) gNx)
  (gSeq (gFor 1 (eVar 0) (gIf (tOrB (tNotB (tB (eCall p__law_whole (aCons (eVar 1) aNil)))) (tB (eOp dNotIn (eVar 1) (eTup (aCons (eC (.int 0)) (aCons (eC (.int 1)) aNil)))))) (gRet (eC (.bl false))) gNx))
  (gRet (eC (.bl true)))))
def S_law_begun (p__law_read p_begun p__law_alike p__law_fits p__law_bits : List D → Res D) : List D → Res D := fnD 6 (gSeq (gSet 2 (eCall p__law_read (aCons (eVar 0) (aCons (eVar 1) (aCons (eC (.int 0)) aNil)))))
  (gSeq (gSet 3 (eO (oUn dList (eVar 1))))
  (gSeq (gSet 4 (eCall p_begun (aCons (eVar 0) (aCons (eVar 3) aNil))))
  (gSeq (gIf (tOrB (tNotB (tB (eUn (dIsi .list) (eVar 4)))) (tNotB (tB (eCall p__law_alike (aCons (eVar 3) (aCons (eVar 1) aNil)))))) (gRet (eC (.bl false))) gNx)
  (gSeq (gIf (tOrB (tB (eOp dEq (eOp dIx (eVar 2) (eC (.int 0))) (eC (.str "wrong")))) (tAndB (tB (eOp dEq (eOp dIx (eVar 2) (eC (.int 0))) (eC (.str "read")))) (tB (eOp dLt (eOp dIx (eVar 2) (eC (.int 2))) (eUn dLen (eVar 1)))))) (gRet (eOp dEq (eUn dLen (eVar 4)) (eC (.int 0)))) gNx)
  (gSeq (gIf (tOrB (tB (eOp dNe (eUn dLen (eVar 4)) (eC (.int 1)))) (tNotB (tB (eCall p__law_fits (aCons (eVar 0) (aCons (eOp dIx (eVar 4) (eC (.int 0))) aNil)))))) (gRet (eC (.bl false))) gNx)
  (gSeq (gSet 5 (eCall p__law_bits (aCons (eVar 0) (aCons (eOp dIx (eVar 4) (eC (.int 0))) aNil))))
  (gRet (eOp dEq (eVar 5) (eOp dAdd (eVar 1) (eOp dMul (eO (oLst (aCons (eC (.int 0)) aNil))) (eOp dSub (eUn dLen (eVar 5)) (eUn dLen (eVar 1))))))))))))))
def S_law_goes_on (p_begun p_packed p__law_bit_list : List D → Res D) : List D → Res D := fnD 4 (gSeq (gSet 2 (eCall p_begun (aCons (eVar 0) (aCons (eO (oUn dList (eVar 1))) aNil))))
  (gSeq (gIf (tOrB (tNotB (tB (eUn (dIsi .list) (eVar 2)))) (tB (eOp dNe (eUn dLen (eVar 2)) (eC (.int 1))))) (gRet (eC (.bl false))) gNx)
  (gSeq (gSet 3 (eCall p_packed (aCons (eVar 0) (aCons (eOp dIx (eVar 2) (eC (.int 0))) aNil))))
  (gSeq (gIf (tOrB (tNotB (tB (eCall p__law_bit_list (aCons (eVar 3) aNil)))) (tB (eOp dLe (eUn dLen (eVar 3)) (eUn dLen (eVar 1))))) (gRet (eC (.bl false))) gNx)
  (gRet (eOp dEq (eVar 3) (eOp dAdd (eVar 1) (eOp dMul (eO (oLst (aCons (eC (.int 0)) aNil))) (eOp dSub (eUn dLen (eVar 3)) (eUn dLen (eVar 1)))))))))))
def S_law_read_back (p_looked p__law_alike p_packed : List D → Res D) : List D → Res D := fnD 3 (gSeq (gSet 2 (eCall p_looked (aCons (eVar 0) (aCons (eO (oUn dList (eVar 1))) aNil))))
  (gSeq (gIf (tOrB (tNotB (tB (eUn (dIsi .tuple) (eVar 2)))) (tOrB (tB (eOp dNe (eUn dLen (eVar 2)) (eC (.int 2)))) (tNotB (tB (eCall p__law_alike (aCons (eOp dIx (eVar 2) (eC (.int 0))) (aCons (eC (.str "read")) aNil))))))) (gRet (eC (.bl false))) gNx)
  (gRet (eOp dEq (eCall p_packed (aCons (eVar 0) (aCons (eOp dIx (eVar 2) (eC (.int 1))) aNil))) (eVar 1)))))
def S_law_walked (p_looked p__law_read_back p__law_whole p__law_goes_on p_begun p__law_alike : List D → Res D) : List D → Res D := fnD 5 (gSeq (gSet 3 (eCall p_looked (aCons (eVar 0) (aCons (eO (oUn dList (eVar 1))) aNil))))
  (gSeq (gIf (tOrB (tNotB (tB (eUn (dIsi .tuple) (eVar 3)))) (tOrB (tB (eOp dNe (eUn dLen (eVar 3)) (eC (.int 2)))) (tNotB (tB (eUn (dIsi .str) (eOp dIx (eVar 3) (eC (.int 0)))))))) (gRet (eC (.bl false))) gNx)
  (gSeq (gIf (tB (eOp dEq (eOp dIx (eVar 3) (eC (.int 0))) (eC (.str "read")))) (gRet (eCall p__law_read_back (aCons (eVar 0) (aCons (eVar 1) aNil)))) gNx)
  (gSeq (gSet 4 (eOp dIx (eVar 3) (eC (.int 1))))
  (gSeq (gIf (tOrB (tNotB (tB (eCall p__law_whole (aCons (eVar 4) aNil)))) (tOrB (tB (eOp dLt (eVar 4) (eC (.int 0)))) (tB (eOp dGt (eVar 4) (eUn dLen (eVar 1)))))) (gRet (eC (.bl false))) gNx)
  (gSeq (gIf (tB (eOp dEq (eOp dIx (eVar 3) (eC (.int 0))) (eC (.str "short")))) (gRet (eAnd (eOp dEq (eVar 4) (eUn dLen (eVar 1))) (eCall p__law_goes_on (aCons (eVar 0) (aCons (eVar 1) aNil))))) gNx)
  (gSeq (gIf (tB (eOp dEq (eVar 4) (eUn dLen (eVar 1)))) (gRet (eC (.bl false))) gNx)
  (gSeq (gIf (tB (eOp dEq (eOp dIx (eVar 3) (eC (.int 0))) (eC (.str "left")))) (gRet (eCall p__law_read_back (aCons (eVar 0) (aCons (eO (oSl (eVar 1) rNone (rSome (eVar 4)))) aNil)))) gNx)
  (gSeq (gIf (tOrB (tB (eOp dNe (eOp dIx (eVar 3) (eC (.int 0))) (eC (.str "wrong")))) (tOrB (tB (eOp dNe (eOp dIx (eVar 1) (eVar 4)) (eC (.int 1)))) (tNotB (tB (eCall p__law_goes_on (aCons (eVar 0) (aCons (eO (oSl (eVar 1) rNone (rSome (eVar 4)))) aNil))))))) (gRet (eC (.bl false))) gNx)
  (gSeq (gIf (tB (eOp dNe (eCall p_begun (aCons (eVar 0) (aCons (eO (oSl (eVar 1) rNone (rSome (eOp dAdd (eVar 4) (eC (.int 1)))))) aNil))) (eO (oLst aNil)))) (gRet (eC (.bl false))) gNx)
  (gRet (eCall p__law_alike (aCons (eCall p_looked (aCons (eVar 0) (aCons (eOp dAdd (eO (oSl (eVar 1) rNone (rSome (eOp dAdd (eVar 4) (eC (.int 1)))))) (eVar 2)) aNil))) (aCons (eTup (aCons (eC (.str "wrong")) (aCons (eVar 4) aNil))) aNil))))))))))))))
def S_unpacked_all (p_need_bits p_read_at : List D → Res D) : List D → Res D := fnD 5 (gSeq (gExpr (eCall p_need_bits (aCons (eVar 0) aNil)))
  (gSeq (gSetO 2 (oLst aNil))
  (gSeq (gSet 3 (eC (.int 0)))
  (gSeq (gWhile whileFuel (tB (eOp dLt (eVar 3) (eUn dLen (eVar 1)))) (gSeq (gSet 4 (eCall p_read_at (aCons (eVar 0) (aCons (eVar 1) (aCons (eVar 3) (aCons (eC (.bl false)) aNil))))))
  (gSeq (gIf (tB (eOp dEq (eOp dIx (eVar 4) (eC (.int 0))) (eC (.str "short")))) (gExc "Short") gNx)
  (gSeq (gIf (tB (eOp dEq (eOp dIx (eVar 4) (eC (.int 0))) (eC (.str "wrong")))) (gExc "Wrong") gNx)
  (gSeq (gApp 2 (eOp dIx (eVar 4) (eC (.int 1))))
  (gSet 3 (eOp dIx (eVar 4) (eC (.int 2)))))))))
  (gFrz 2 (gRet (eVar 2)))))))
def S_law_row (p__law_record : List D → Res D) : List D → Res D := fnD 7 (gSeq (gSetO 3 (oLst aNil))
  (gSeq (gSet 4 (eC (.int 0)))
  (gSeq (gForR 5 (eVar 2) (gSeq (gSet 6 (eCall p__law_record (aCons (eVar 0) (aCons (eVar 1) (aCons (eVar 4) aNil)))))
  (gSeq (gApp 3 (eOp dIx (eVar 6) (eC (.int 0))))
  (gSet 4 (eOp dIx (eVar 6) (eC (.int 1)))))))
  (gFrz 3 (gRet (eVar 3))))))
def S_law_odd_in (p__law_odd_in : List D → Res D) : List D → Res D := fnD 4 (gSeq (gIf (tAndB (tB (eOp dGt (eVar 1) (eC (.int 0)))) (tB (eUn (dIsi .tuple) (eVar 0)))) (gRet (eTup (aCons (eOp dIx (eVar 0) (eC (.int 0))) (aCons (eCall p__law_odd_in (aCons (eOp dIx (eVar 0) (eC (.int 1))) (aCons (eOp dSub (eVar 1) (eC (.int 1))) (aCons (eVar 2) aNil)))) aNil)))) gNx)
  (gSeq (gIf (tAndB (tB (eOp dGt (eVar 1) (eC (.int 0)))) (tAndB (tB (eUn (dIsi .list) (eVar 0))) (tB (eOp dGt (eUn dLen (eVar 0)) (eC (.int 0)))))) (gSeq (gSet 3 (eOp dMod (eVar 2) (eUn dLen (eVar 0))))
  (gRet (eOp dAdd (eOp dAdd (eO (oSl (eVar 0) rNone (rSome (eVar 3)))) (eO (oLst (aCons (eCall p__law_odd_in (aCons (eOp dIx (eVar 0) (eVar 3)) (aCons (eOp dSub (eVar 1) (eC (.int 1))) (aCons (eOp dDiv (eVar 2) (eC (.int 3))) aNil)))) aNil)))) (eO (oSl (eVar 0) (rSome (eOp dAdd (eVar 3) (eC (.int 1)))) rNone))))) gNx)
  (gRet (eOp dIx (eO (oLst (aCons (eC (.str "0")) (aCons (eOp dPow (eC (.int 10)) (eC (.int 21))) (aCons (eUn dNeg (eOp dPow (eC (.int 10)) (eC (.int 21)))) (aCons (eOp dMul (eO (oLst (aCons (eC .non) aNil))) (eC (.int 300))) (aCons (eTup (aCons (eC (.int 99)) (aCons (eC .non) aNil))) (aCons (eC (.bl true)) (aCons (eC (.bl false)) aNil))))))))) (eOp dMod (eVar 2) (eC (.int 7)))))))
def S_law_count (p__law_cell_at p__law_wide : List D → Res D) : List D → Res D := fnD 4 (gSeq (gSet 3 (eCall p__law_cell_at (aCons (eVar 1) (aCons (eC (.int 35)) aNil))))
  (gSeq (gIf (tAndB (tB (eOp dEq (eOp dMod (eVar 3) (eC (.int 4))) (eC (.int 1)))) (tB (eOp dLt (eCall p__law_wide (aCons (eVar 0) aNil)) (eC (.int 16))))) (gRet (eOp dMod (eOp dDiv (eVar 3) (eC (.int 4))) (eC (.int 41)))) gNx)
  (gSeq (gIf (tAndB (tB (eOp dEq (eOp dMod (eVar 3) (eC (.int 8))) (eC (.int 2)))) (tB (eOp dLt (eCall p__law_wide (aCons (eVar 0) aNil)) (eC (.int 8))))) (gRet (eOp dMod (eOp dDiv (eVar 3) (eC (.int 8))) (eC (.int 201)))) gNx)
  (gRet (eOp dMod (eVar 2) (eC (.int 5)))))))
def S_law_pieces (p__law_cell_at : List D → Res D) : List D → Res D := fnD 6 (gSeq (gSetO 2 (oLst aNil))
  (gSeq (gSet 3 (eC (.int 0)))
  (gSeq (gWhile whileFuel (tB (eOp dLt (eVar 3) (eUn dLen (eVar 1)))) (gSeq (gSet 4 (eLenO 2))
  (gSeq (gSet 5 (eOp dAdd (eOp dMod (eCall p__law_cell_at (aCons (eVar 0) (aCons (eOp dMod (eOp dAdd (eC (.int 33)) (eVar 4)) (eC (.int 61))) aNil))) (eC (.int 13))) (eOp dDiv (eOp dMul (eVar 4) (eVar 4)) (eC (.int 4)))))
  (gSeq (gApp 2 (eO (oSl (eVar 1) (rSome (eVar 3)) (rSome (eOp dAdd (eVar 3) (eVar 5))))))
  (gSet 3 (eOp dAdd (eVar 3) (eVar 5)))))))
  (gFrz 2 (gRet (eVar 2))))))
end Pu

namespace Pu
open PySem L2
theorem sizeLine_val : sizeLine = 16777216 := sizeLine_eq
theorem fits_le {n : Nat} (h : n ≤ 16777216) : fits n = true := by
  unfold fits
  rw [Nat.ble_eq]
  exact h
theorem rngOk_nat {n : Nat} (h : n ≤ 16777216) : rngOk (n : Int) = true := by
  unfold rngOk
  rw [Nat.ble_eq]
  omega
theorem mulOk_r {a b : Int} (h : b.natAbs ≤ 18446744073709551615) : mulOk a b = true := by
  unfold mulOk
  rw [(Nat.ble_eq ..).mpr h, Bool.or_true, Bool.true_or]
theorem mulOk_l {a b : Int} (h : a.natAbs ≤ 18446744073709551615) : mulOk a b = true := by
  unfold mulOk
  rw [(Nat.ble_eq ..).mpr h, Bool.true_or, Bool.true_or]
theorem mulOk_two {a : Int} : mulOk a 2 = true := mulOk_r (by decide)
theorem divOk_lt {b : Int} (h : 0 < b) (h2 : b.natAbs < 2 ^ 9000) : divOk b = true := by
  unfold divOk
  have := PySem.Flt.log2_lt_of (by omega) h2
  rw [Bool.and_eq_true, Nat.ble_eq, decide_eq_true_eq]
  exact ⟨h, by omega⟩
theorem divOk2 : divOk 2 = true := divOk_lt (by omega) (Nat.lt_of_lt_of_le (by decide : (2 : Int).natAbs < 2 ^ 2) (Nat.pow_le_pow_right (by omega) (by omega)))
/-- the slot of a loop's variable ahead of turn k -/
def stp (u : Slt) : Nat → Slt
  | 0 => u
  | k + 1 => .v (.int (k : Nat))
theorem forR_inv {b : Nat → Rho → SRes} (I : Nat → Rho) (n : Nat) (h : ∀ k, k < n → b k (I k) = .nx (I (k + 1))) : forL b (List.range n) (I 0) = .nx (I n) := by
  have go : ∀ m j, j + m = n → forL b (List.range' j m) (I j) = .nx (I n) := by
    intro m
    induction m with
    | zero => intro j e; simp only [List.range'_zero, forL]; rw [show j = n by omega]
    | succ m ih =>
      intro j e
      rw [List.range'_succ]
      simp only [forL]
      rw [h j (by omega)]
      exact ih (j + 1) (by omega)
  rw [List.range_eq_range']
  exact go n 0 (by omega)
/-- a loop that ends at turn m -/
theorem forR_stop {b : Nat → Rho → SRes} (I : Nat → Rho) (n m : Nat) (hm : m < n) {r : SRes} (h : ∀ k, k < m → b k (I k) = .nx (I (k + 1))) (he : b m (I m) = r) (hr : ∀ ρ, r ≠ .nx ρ) : forL b (List.range n) (I 0) = r := by
  have go : ∀ d j, j + d = m → forL b (List.range' j (n - j)) (I j) = r := by
    intro d
    induction d with
    | zero =>
      intro j e
      have ej : j = m := by omega
      subst ej
      rw [show n - j = (n - j - 1) + 1 by omega, List.range'_succ]
      simp only [forL]
      rw [he]
      cases r with
      | nx ρ => exact absurd rfl (hr ρ)
      | rt d => rfl
      | exc c ρ => rfl
      | stk => rfl
    | succ d ih =>
      intro j e
      rw [show n - j = (n - j - 1) + 1 by omega, List.range'_succ]
      simp only [forL]
      rw [h j (by omega)]
      have := ih (j + 1) (by omega)
      rw [show n - j - 1 = n - (j + 1) by omega]
      exact this
  rw [List.range_eq_range']
  exact go m 0 (by omega)
theorem fnD_rt {m : Nat} {g : Rho → SRes} {ds : List D} {d : D} (h : g (ds.map Slt.v ++ List.replicate (m - ds.length) .un) = .rt d) : fnD m g ds = .ok d := by
  unfold fnD
  rw [h]
section
variable {g h : Rho → SRes} {ρ ρ' : Rho} {r : SRes} {d : D} {c : Rho → Res Bool} {f f2 : Rho → Res D}
theorem seq_nx (h1 : g ρ = .nx ρ') (h2 : h ρ' = r) : gSeq g h ρ = r := by
  unfold gSeq
  rw [h1]
  exact h2
theorem seq_rt (h1 : g ρ = .rt d) : gSeq g h ρ = .rt d := by
  unfold gSeq
  rw [h1]
  rfl
theorem seq_eq (h1 : g ρ = h ρ') : g ρ = h ρ' := h1
theorem if_t (h1 : c ρ = .ok true) : gIf c g h ρ = g ρ := by
  unfold gIf
  rw [h1]
  rfl
theorem if_f (h1 : c ρ = .ok false) : gIf c g h ρ = h ρ := by
  unfold gIf
  rw [h1]
  rfl
theorem set_ok {i : Nat} (h1 : f ρ = .ok d) : gSet i f ρ = .nx (ρ.set i (.v d)) := by
  unfold gSet
  rw [h1]
  rfl
theorem ret_ok (h1 : f ρ = .ok d) : gRet f ρ = .rt d := by
  unfold gRet
  rw [h1]
  rfl
theorem ifset {i : Nat} {b : Bool} {x y : Int} (hc : c ρ = .ok b) (hf : b = true → f ρ = .ok (.int x)) (hi : ρ[i]? = some (.v (.int y))) : gIf c (gSet i f) gNx ρ = .nx (ρ.set i (.v (.int (if b then x else y)))) := by
  cases b with
  | true => rw [if_t hc, set_ok (hf rfl)]; rfl
  | false =>
    rw [if_f hc]
    show SRes.nx ρ = _
    congr 1
    apply List.ext_getElem?
    intro j
    by_cases hj : j = i
    · subst hj
      have hl : j < ρ.length := (List.getElem?_eq_some_iff.mp hi).1
      rw [List.getElem?_set_self hl, hi]
      rfl
    · rw [List.getElem?_set_ne (Ne.symm hj)]
theorem forR_nx {i n : Nat} (I : Nat → Rho) (hf : f ρ = .ok (.int n)) (hn : n ≤ 16777216) (h0 : I 0 = ρ) (ht : ∀ k, k < n → g ((I k).set i (.v (.int (k : Nat)))) = .nx (I (k + 1))) : gForR i f g ρ = .nx (I n) := by
  unfold gForR
  rw [hf]
  simp only [Res.bind_ok, asN, rngOk_nat hn, if_true, sBind_ok, Int.toNat_natCast]
  rw [← h0]
  exact forR_inv I n ht
theorem forR_end {i n m : Nat} (I : Nat → Rho) (hf : f ρ = .ok (.int n)) (hn : n ≤ 16777216) (h0 : I 0 = ρ) (hm : m < n) (ht : ∀ k, k < m → g ((I k).set i (.v (.int (k : Nat)))) = .nx (I (k + 1)))
    (he : g ((I m).set i (.v (.int (m : Nat)))) = .rt d) : gForR i f g ρ = .rt d := by
  unfold gForR
  rw [hf]
  simp only [Res.bind_ok, asN, rngOk_nat hn, if_true, sBind_ok, Int.toNat_natCast]
  rw [← h0]
  exact forR_stop I n m hm ht he (fun _ h => nomatch h)
end
theorem room_eq (w : Nat) (h : w ≤ 16777216) : S_room [.int w] = .ok (.int (2 ^ w)) := by
  refine fnD_rt (seq_nx rfl (seq_nx (forR_nx (fun k => [.v (.int w), .v (.int (2 ^ k)), stp .un k]) rfl h rfl fun k hk => ?_) rfl))
  simp only [fnD, gNx, gSeq, gSet, gSetO, ownAt, gApp, gRev, gPut, frz, gFrz, gRet, gExpr, gIf, gExc, asL, eVar, eC, eOp, eUn, toB, tB, tAndB, tOrB, tNotB, eAnd, eOr, eNot, eChain, aNil, aCons, eTup, oLst, eO, eCall, oUn, oSl, rNone, rSome, toI, dCut, eLenO, eIxO, sBind_ok, sBind_exc, sBind_stk, Res.bind_ok, Res.bind_exc, Res.bind_stk, SRes.thn_nx, SRes.thn_rt, SRes.thn_exc, SRes.thn_stk, List.map_cons, List.map_nil, List.cons_append, List.nil_append, List.length_cons, List.length_nil, List.replicate_succ, List.replicate_zero, List.getElem?_cons_zero, List.getElem?_cons_succ, List.set_cons_zero, List.set_cons_succ, Nat.zero_add, Nat.reduceAdd, Nat.reduceSub, dAdd, dSub, dMul, dDiv, dMod, dNeg, dCmp, dLt, dLe, dGt, dGe, dEq, dNe, dEq?, dIsN, dNotN, dIsi, isTy, dLen, dIx, dList, dRev, dInt, dMax2, dMin2, decide_eq_true_eq, if_true, if_false, Bool.not_true, Bool.not_false, Bool.false_eq_true, reduceIte, Int.reduceLT, Int.reduceLE, Int.reduceEq, Int.reduceNeg, String.reduceEq, mulOk_two, stp, Int.pow_succ]
theorem law_room_eq (w : Nat) (h : w ≤ 16777216) : S_law_room [.int w] = .ok (.int (2 ^ w)) := room_eq w h
/-- the bits of a number, the bit of the least worth first -/
def lowB (n : Int) : Nat → List Int
  | 0 => []
  | k + 1 => n % 2 :: lowB (n / 2) k
/-- the bits of a number in w bits, the bit of the greatest worth first -/
def wr (n : Int) (w : Nat) : List Int := (lowB n w).reverse
abbrev dI (l : List Int) : List D := l.map D.int
theorem lowB_len (n : Int) (w : Nat) : (lowB n w).length = w := by
  induction w generalizing n with
  | zero => rfl
  | succ w ih => rw [lowB, List.length_cons, ih]
theorem wr_len (n : Int) (w : Nat) : (wr n w).length = w := by rw [wr, List.length_reverse, lowB_len]
theorem lowB_snoc (n : Int) (k : Nat) : lowB n (k + 1) = lowB n k ++ [n / 2 ^ k % 2] := by
  induction k generalizing n with
  | zero => simp [lowB]
  | succ k ih =>
    rw [lowB, ih (n / 2)]
    conv => rhs; rw [lowB]
    rw [List.cons_append, Int.ediv_ediv_of_nonneg (by omega), Int.pow_succ, Int.mul_comm 2]
theorem cell_eq (ns : List Int) (k : Int) (h : 0 ≤ k) : S_law_cell_at [.scr ns, .int k] = .ok (.int (ns.getD k.toNat 0)) := by
  refine fnD_rt ?_
  simp only [fnD, gNx, gSeq, gSet, gSetO, ownAt, gApp, gRev, gPut, frz, gFrz, gRet, gExpr, gIf, gExc, asL, eVar, eC, eOp, eUn, toB, tB, tAndB, tOrB, tNotB, eAnd, eOr, eNot, eChain, aNil, aCons, eTup, oLst, eO, eCall, oUn, oSl, rNone, rSome, toI, dCut, eLenO, eIxO, sBind_ok, sBind_exc, sBind_stk, Res.bind_ok, Res.bind_exc, Res.bind_stk, SRes.thn_nx, SRes.thn_rt, SRes.thn_exc, SRes.thn_stk, List.map_cons, List.map_nil, List.cons_append, List.nil_append, List.length_cons, List.length_nil, List.replicate_succ, List.replicate_zero, List.getElem?_cons_zero, List.getElem?_cons_succ, List.set_cons_zero, List.set_cons_succ, Nat.zero_add, Nat.reduceAdd, Nat.reduceSub, dAdd, dSub, dMul, dDiv, dMod, dNeg, dCmp, dLt, dLe, dGt, dGe, dEq, dNe, dEq?, dIsN, dNotN, dIsi, isTy, dLen, dIx, dList, dRev, dInt, dMax2, dMin2, decide_eq_true_eq, if_true, if_false, Bool.not_true, Bool.not_false, Bool.false_eq_true, reduceIte, Int.reduceLT, Int.reduceLE, Int.reduceEq, Int.reduceNeg, String.reduceEq]
  by_cases hk : k < ns.length
  · have hk' : k.toNat < ns.length := by omega
    have e : atI ns k = some ns[k.toNat] := by
      have := atI_nat (xs := ns) (List.getElem?_eq_getElem hk')
      rw [Int.toNat_of_nonneg h] at this
      exact this
    simp only [hk, fnD, gNx, gSeq, gSet, gSetO, ownAt, gApp, gRev, gPut, frz, gFrz, gRet, gExpr, gIf, gExc, asL, eVar, eC, eOp, eUn, toB, tB, tAndB, tOrB, tNotB, eAnd, eOr, eNot, eChain, aNil, aCons, eTup, oLst, eO, eCall, oUn, oSl, rNone, rSome, toI, dCut, eLenO, eIxO, sBind_ok, sBind_exc, sBind_stk, Res.bind_ok, Res.bind_exc, Res.bind_stk, SRes.thn_nx, SRes.thn_rt, SRes.thn_exc, SRes.thn_stk, List.map_cons, List.map_nil, List.cons_append, List.nil_append, List.length_cons, List.length_nil, List.replicate_succ, List.replicate_zero, List.getElem?_cons_zero, List.getElem?_cons_succ, List.set_cons_zero, List.set_cons_succ, Nat.zero_add, Nat.reduceAdd, Nat.reduceSub, dAdd, dSub, dMul, dDiv, dMod, dNeg, dCmp, dLt, dLe, dGt, dGe, dEq, dNe, dEq?, dIsN, dNotN, dIsi, isTy, dLen, dIx, dList, dRev, dInt, dMax2, dMin2, decide_eq_true_eq, if_true, if_false, Bool.not_true, Bool.not_false, Bool.false_eq_true, reduceIte, Int.reduceLT, Int.reduceLE, Int.reduceEq, Int.reduceNeg, String.reduceEq, e, List.getD_eq_getElem?_getD, List.getElem?_eq_getElem hk', Option.getD_some]
  · have e : ns[k.toNat]? = none := List.getElem?_eq_none (by omega)
    simp only [hk, fnD, gNx, gSeq, gSet, gSetO, ownAt, gApp, gRev, gPut, frz, gFrz, gRet, gExpr, gIf, gExc, asL, eVar, eC, eOp, eUn, toB, tB, tAndB, tOrB, tNotB, eAnd, eOr, eNot, eChain, aNil, aCons, eTup, oLst, eO, eCall, oUn, oSl, rNone, rSome, toI, dCut, eLenO, eIxO, sBind_ok, sBind_exc, sBind_stk, Res.bind_ok, Res.bind_exc, Res.bind_stk, SRes.thn_nx, SRes.thn_rt, SRes.thn_exc, SRes.thn_stk, List.map_cons, List.map_nil, List.cons_append, List.nil_append, List.length_cons, List.length_nil, List.replicate_succ, List.replicate_zero, List.getElem?_cons_zero, List.getElem?_cons_succ, List.set_cons_zero, List.set_cons_succ, Nat.zero_add, Nat.reduceAdd, Nat.reduceSub, dAdd, dSub, dMul, dDiv, dMod, dNeg, dCmp, dLt, dLe, dGt, dGe, dEq, dNe, dEq?, dIsN, dNotN, dIsi, isTy, dLen, dIx, dList, dRev, dInt, dMax2, dMin2, decide_eq_true_eq, if_true, if_false, Bool.not_true, Bool.not_false, Bool.false_eq_true, reduceIte, Int.reduceLT, Int.reduceLE, Int.reduceEq, Int.reduceNeg, String.reduceEq, List.getD_eq_getElem?_getD, e, Option.getD_none]
end Pu

namespace Pu
open PySem L2
theorem two_pos (w : Nat) : (0 : Int) < 2 ^ w := Int.pow_pos (by omega)
theorem low_step (n : Int) (k : Nat) : n / 2 ^ k / 2 = n / 2 ^ (k + 1) := by
  rw [Int.ediv_ediv_of_nonneg (Int.le_of_lt (two_pos k)), Int.pow_succ]
theorem dI_len (l : List Int) : (dI l).length = l.length := List.length_map ..
theorem dI_app (a b : List Int) : dI (a ++ b) = dI a ++ dI b := List.map_append ..
theorem dI_rev (a : List Int) : (dI a).reverse = dI a.reverse := (List.map_reverse ..).symm
theorem written_eq (n : Int) (w : Nat) (h : w ≤ 16777216) : S_law_written [.int n, .int w] = .ok (.lst (dI (wr n w))) := by
  refine fnD_rt (seq_nx (ρ' := [.v (.int n), .v (.int w), .o [], .un]) rfl (seq_nx (forR_nx (fun k => [.v (.int (n / 2 ^ k)), .v (.int w), .o (dI (lowB n k)), stp .un k]) rfl h ?_ fun k hk => ?_) ?_))
  · simp [lowB, stp]
  · have hf : fits (k + 1) = true := fits_le (by omega)
    simp only [fnD, gNx, gSeq, gSet, gSetO, ownAt, gApp, gRev, gPut, frz, gFrz, gRet, gExpr, gIf, gExc, asL, eVar, eC, eOp, eUn, toB, tB, tAndB, tOrB, tNotB, eAnd, eOr, eNot, eChain, aNil, aCons, eTup, oLst, eO, eCall, oUn, oSl, rNone, rSome, toI, dCut, eLenO, eIxO, sBind_ok, sBind_exc, sBind_stk, Res.bind_ok, Res.bind_exc, Res.bind_stk, SRes.thn_nx, SRes.thn_rt, SRes.thn_exc, SRes.thn_stk, List.map_cons, List.map_nil, List.cons_append, List.nil_append, List.length_cons, List.length_nil, List.replicate_succ, List.replicate_zero, List.getElem?_cons_zero, List.getElem?_cons_succ, List.set_cons_zero, List.set_cons_succ, Nat.zero_add, Nat.reduceAdd, Nat.reduceSub, dAdd, dSub, dMul, dDiv, dMod, dNeg, dCmp, dLt, dLe, dGt, dGe, dEq, dNe, dEq?, dIsN, dNotN, dIsi, isTy, dLen, dIx, dList, dRev, dInt, dMax2, dMin2, decide_eq_true_eq, if_true, if_false, Bool.not_true, Bool.not_false, Bool.false_eq_true, reduceIte, Int.reduceLT, Int.reduceLE, Int.reduceEq, Int.reduceNeg, String.reduceEq, stp, dI_len, lowB_len, hf, divOk2, low_step, lowB_snoc, dI_app]
  · simp only [fnD, gNx, gSeq, gSet, gSetO, ownAt, gApp, gRev, gPut, frz, gFrz, gRet, gExpr, gIf, gExc, asL, eVar, eC, eOp, eUn, toB, tB, tAndB, tOrB, tNotB, eAnd, eOr, eNot, eChain, aNil, aCons, eTup, oLst, eO, eCall, oUn, oSl, rNone, rSome, toI, dCut, eLenO, eIxO, sBind_ok, sBind_exc, sBind_stk, Res.bind_ok, Res.bind_exc, Res.bind_stk, SRes.thn_nx, SRes.thn_rt, SRes.thn_exc, SRes.thn_stk, List.map_cons, List.map_nil, List.cons_append, List.nil_append, List.length_cons, List.length_nil, List.replicate_succ, List.replicate_zero, List.getElem?_cons_zero, List.getElem?_cons_succ, List.set_cons_zero, List.set_cons_succ, Nat.zero_add, Nat.reduceAdd, Nat.reduceSub, dAdd, dSub, dMul, dDiv, dMod, dNeg, dCmp, dLt, dLe, dGt, dGe, dEq, dNe, dEq?, dIsN, dNotN, dIsi, isTy, dLen, dIx, dList, dRev, dInt, dMax2, dMin2, decide_eq_true_eq, if_true, if_false, Bool.not_true, Bool.not_false, Bool.false_eq_true, reduceIte, Int.reduceLT, Int.reduceLE, Int.reduceEq, Int.reduceNeg, String.reduceEq, dI_rev]
    rfl
theorem bits_of_ok {p_room : List D → Res D} {n : Int} {w : Nat} (hr : p_room [.int w] = .ok (.int (2 ^ w))) (h : w ≤ 16777216) (h0 : 0 ≤ n) (h1 : n < 2 ^ w) : S_bits_of p_room [.int n, .int w] = .ok (.lst (dI (wr n w))) := by
  refine fnD_rt (seq_nx (ρ' := [.v (.int n), .v (.int w), .un, .un]) ?_ (seq_nx (ρ' := [.v (.int n), .v (.int w), .o [], .un]) rfl (seq_nx (forR_nx (fun k => [.v (.int (n / 2 ^ k)), .v (.int w), .o (dI (lowB n k)), stp .un k]) rfl h ?_ fun k hk => ?_) ?_)))
  · have a1 : ¬ n < 0 := by omega
    have a2 : ¬ (2 ^ w : Int) ≤ n := by omega
    simp only [fnD, gNx, gSeq, gSet, gSetO, ownAt, gApp, gRev, gPut, frz, gFrz, gRet, gExpr, gIf, gExc, asL, eVar, eC, eOp, eUn, toB, tB, tAndB, tOrB, tNotB, eAnd, eOr, eNot, eChain, aNil, aCons, eTup, oLst, eO, eCall, oUn, oSl, rNone, rSome, toI, dCut, eLenO, eIxO, sBind_ok, sBind_exc, sBind_stk, Res.bind_ok, Res.bind_exc, Res.bind_stk, SRes.thn_nx, SRes.thn_rt, SRes.thn_exc, SRes.thn_stk, List.map_cons, List.map_nil, List.cons_append, List.nil_append, List.length_cons, List.length_nil, List.replicate_succ, List.replicate_zero, List.getElem?_cons_zero, List.getElem?_cons_succ, List.set_cons_zero, List.set_cons_succ, Nat.zero_add, Nat.reduceAdd, Nat.reduceSub, dAdd, dSub, dMul, dDiv, dMod, dNeg, dCmp, dLt, dLe, dGt, dGe, dEq, dNe, dEq?, dIsN, dNotN, dIsi, isTy, dLen, dIx, dList, dRev, dInt, dMax2, dMin2, decide_eq_true_eq, if_true, if_false, Bool.not_true, Bool.not_false, Bool.false_eq_true, reduceIte, Int.reduceLT, Int.reduceLE, Int.reduceEq, Int.reduceNeg, String.reduceEq, hr, a1, a2, decide_false]
  · simp [lowB, stp]
  · have hf : fits (k + 1) = true := fits_le (by omega)
    simp only [fnD, gNx, gSeq, gSet, gSetO, ownAt, gApp, gRev, gPut, frz, gFrz, gRet, gExpr, gIf, gExc, asL, eVar, eC, eOp, eUn, toB, tB, tAndB, tOrB, tNotB, eAnd, eOr, eNot, eChain, aNil, aCons, eTup, oLst, eO, eCall, oUn, oSl, rNone, rSome, toI, dCut, eLenO, eIxO, sBind_ok, sBind_exc, sBind_stk, Res.bind_ok, Res.bind_exc, Res.bind_stk, SRes.thn_nx, SRes.thn_rt, SRes.thn_exc, SRes.thn_stk, List.map_cons, List.map_nil, List.cons_append, List.nil_append, List.length_cons, List.length_nil, List.replicate_succ, List.replicate_zero, List.getElem?_cons_zero, List.getElem?_cons_succ, List.set_cons_zero, List.set_cons_succ, Nat.zero_add, Nat.reduceAdd, Nat.reduceSub, dAdd, dSub, dMul, dDiv, dMod, dNeg, dCmp, dLt, dLe, dGt, dGe, dEq, dNe, dEq?, dIsN, dNotN, dIsi, isTy, dLen, dIx, dList, dRev, dInt, dMax2, dMin2, decide_eq_true_eq, if_true, if_false, Bool.not_true, Bool.not_false, Bool.false_eq_true, reduceIte, Int.reduceLT, Int.reduceLE, Int.reduceEq, Int.reduceNeg, String.reduceEq, stp, dI_len, lowB_len, hf, divOk2, low_step, lowB_snoc, dI_app]
  · simp only [fnD, gNx, gSeq, gSet, gSetO, ownAt, gApp, gRev, gPut, frz, gFrz, gRet, gExpr, gIf, gExc, asL, eVar, eC, eOp, eUn, toB, tB, tAndB, tOrB, tNotB, eAnd, eOr, eNot, eChain, aNil, aCons, eTup, oLst, eO, eCall, oUn, oSl, rNone, rSome, toI, dCut, eLenO, eIxO, sBind_ok, sBind_exc, sBind_stk, Res.bind_ok, Res.bind_exc, Res.bind_stk, SRes.thn_nx, SRes.thn_rt, SRes.thn_exc, SRes.thn_stk, List.map_cons, List.map_nil, List.cons_append, List.nil_append, List.length_cons, List.length_nil, List.replicate_succ, List.replicate_zero, List.getElem?_cons_zero, List.getElem?_cons_succ, List.set_cons_zero, List.set_cons_succ, Nat.zero_add, Nat.reduceAdd, Nat.reduceSub, dAdd, dSub, dMul, dDiv, dMod, dNeg, dCmp, dLt, dLe, dGt, dGe, dEq, dNe, dEq?, dIsN, dNotN, dIsi, isTy, dLen, dIx, dList, dRev, dInt, dMax2, dMin2, decide_eq_true_eq, if_true, if_false, Bool.not_true, Bool.not_false, Bool.false_eq_true, reduceIte, Int.reduceLT, Int.reduceLE, Int.reduceEq, Int.reduceNeg, String.reduceEq, dI_rev]
    rfl
theorem bits_of_exc {p_room : List D → Res D} {n : Int} {w : Nat} (hr : p_room [.int w] = .ok (.int (2 ^ w))) (h : n < 0 ∨ 2 ^ w ≤ n) : S_bits_of p_room [.int n, .int w] = .exc "TooWide" := by
  have e : gIf (tOrB (tB (eOp dLt (eVar 0) (eC (.int 0)))) (tB (eOp dGe (eVar 0) (eCall p_room (aCons (eVar 1) aNil))))) (gExc "TooWide") gNx [.v (.int n), .v (.int w), .un, .un] = .exc "TooWide" [.v (.int n), .v (.int w), .un, .un] := by
    refine (if_t ?_).trans rfl
    by_cases a1 : n < 0
    · simp only [fnD, gNx, gSeq, gSet, gSetO, ownAt, gApp, gRev, gPut, frz, gFrz, gRet, gExpr, gIf, gExc, asL, eVar, eC, eOp, eUn, toB, tB, tAndB, tOrB, tNotB, eAnd, eOr, eNot, eChain, aNil, aCons, eTup, oLst, eO, eCall, oUn, oSl, rNone, rSome, toI, dCut, eLenO, eIxO, sBind_ok, sBind_exc, sBind_stk, Res.bind_ok, Res.bind_exc, Res.bind_stk, SRes.thn_nx, SRes.thn_rt, SRes.thn_exc, SRes.thn_stk, List.map_cons, List.map_nil, List.cons_append, List.nil_append, List.length_cons, List.length_nil, List.replicate_succ, List.replicate_zero, List.getElem?_cons_zero, List.getElem?_cons_succ, List.set_cons_zero, List.set_cons_succ, Nat.zero_add, Nat.reduceAdd, Nat.reduceSub, dAdd, dSub, dMul, dDiv, dMod, dNeg, dCmp, dLt, dLe, dGt, dGe, dEq, dNe, dEq?, dIsN, dNotN, dIsi, isTy, dLen, dIx, dList, dRev, dInt, dMax2, dMin2, decide_eq_true_eq, if_true, if_false, Bool.not_true, Bool.not_false, Bool.false_eq_true, reduceIte, Int.reduceLT, Int.reduceLE, Int.reduceEq, Int.reduceNeg, String.reduceEq, a1, decide_true]
    · have a2 : (2 ^ w : Int) ≤ n := h.resolve_left a1
      simp only [fnD, gNx, gSeq, gSet, gSetO, ownAt, gApp, gRev, gPut, frz, gFrz, gRet, gExpr, gIf, gExc, asL, eVar, eC, eOp, eUn, toB, tB, tAndB, tOrB, tNotB, eAnd, eOr, eNot, eChain, aNil, aCons, eTup, oLst, eO, eCall, oUn, oSl, rNone, rSome, toI, dCut, eLenO, eIxO, sBind_ok, sBind_exc, sBind_stk, Res.bind_ok, Res.bind_exc, Res.bind_stk, SRes.thn_nx, SRes.thn_rt, SRes.thn_exc, SRes.thn_stk, List.map_cons, List.map_nil, List.cons_append, List.nil_append, List.length_cons, List.length_nil, List.replicate_succ, List.replicate_zero, List.getElem?_cons_zero, List.getElem?_cons_succ, List.set_cons_zero, List.set_cons_succ, Nat.zero_add, Nat.reduceAdd, Nat.reduceSub, dAdd, dSub, dMul, dDiv, dMod, dNeg, dCmp, dLt, dLe, dGt, dGe, dEq, dNe, dEq?, dIsN, dNotN, dIsi, isTy, dLen, dIx, dList, dRev, dInt, dMax2, dMin2, decide_eq_true_eq, if_true, if_false, Bool.not_true, Bool.not_false, Bool.false_eq_true, reduceIte, Int.reduceLT, Int.reduceLE, Int.reduceEq, Int.reduceNeg, String.reduceEq, hr, a1, a2, decide_true, decide_false]
  unfold S_bits_of fnD
  simp only [List.map_cons, List.map_nil, List.length_cons, List.length_nil, Nat.zero_add, Nat.reduceAdd, Nat.reduceSub, List.replicate_succ, List.replicate_zero, List.cons_append, List.nil_append]
  unfold gSeq
  rw [e]
  rfl

mutual
/-- depth of data, as the comparison goes down -/
def dep : D → Nat
  | .tup ds => deps ds + 1
  | .lst ds => deps ds + 1
  | _ => 1
def deps : List D → Nat
  | [] => 0
  | d :: ds => max (dep d) (deps ds)
/-- lists short, no script -/
def okD : D → Bool
  | .tup ds => fits ds.length && okDs ds
  | .lst ds => fits ds.length && okDs ds
  | .scr _ => false
  | _ => true
def okDs : List D → Bool
  | [] => true
  | d :: ds => okD d && okDs ds
end
theorem dep_get : ∀ {ds : List D} {i : Nat} {d : D}, ds[i]? = some d → dep d ≤ deps ds
  | [], _, _, h => by simp at h
  | d :: ds, 0, e, h => by
    simp only [List.getElem?_cons_zero, Option.some.injEq] at h
    subst h
    unfold deps; omega
  | d :: ds, i + 1, e, h => by
    have := dep_get (ds := ds) (i := i) (d := e) (by simpa using h)
    unfold deps; omega
theorem okD_get : ∀ {ds : List D} {i : Nat} {d : D}, okDs ds = true → ds[i]? = some d → okD d = true
  | [], _, _, _, h => by simp at h
  | d :: ds, 0, e, k, h => by
    simp only [List.getElem?_cons_zero, Option.some.injEq] at h
    subst h
    unfold okDs at k
    exact (Bool.and_eq_true_iff.mp k).1
  | d :: ds, i + 1, e, k, h => by
    unfold okDs at k
    exact okD_get (ds := ds) (i := i) (Bool.and_eq_true_iff.mp k).2 (by simpa using h)
theorem whole_int (n : Int) : S_law_whole [.int n] = .ok (.bl true) := by
  refine fnD_rt ?_
  simp only [fnD, gNx, gSeq, gSet, gSetO, ownAt, gApp, gRev, gPut, frz, gFrz, gRet, gExpr, gIf, gExc, asL, eVar, eC, eOp, eUn, toB, tB, tAndB, tOrB, tNotB, eAnd, eOr, eNot, eChain, aNil, aCons, eTup, oLst, eO, eCall, oUn, oSl, rNone, rSome, toI, dCut, eLenO, eIxO, sBind_ok, sBind_exc, sBind_stk, Res.bind_ok, Res.bind_exc, Res.bind_stk, SRes.thn_nx, SRes.thn_rt, SRes.thn_exc, SRes.thn_stk, List.map_cons, List.map_nil, List.cons_append, List.nil_append, List.length_cons, List.length_nil, List.replicate_succ, List.replicate_zero, List.getElem?_cons_zero, List.getElem?_cons_succ, List.set_cons_zero, List.set_cons_succ, Nat.zero_add, Nat.reduceAdd, Nat.reduceSub, dAdd, dSub, dMul, dDiv, dMod, dNeg, dCmp, dLt, dLe, dGt, dGe, dEq, dNe, dEq?, dIsN, dNotN, dIsi, isTy, dLen, dIx, dList, dRev, dInt, dMax2, dMin2, decide_eq_true_eq, if_true, if_false, Bool.not_true, Bool.not_false, Bool.false_eq_true, reduceIte, Int.reduceLT, Int.reduceLE, Int.reduceEq, Int.reduceNeg, String.reduceEq]
/-- the comparison of a thing with itself -/
theorem alike_self (al : Nat → List D → Res D) (wh : Nat → List D → Res D) (hw : ∀ k n, wh (k + 1) [.int n] = .ok (.bl true)) (ha : ∀ k, al (k + 1) = S_law_alike (wh k) (al k)) :
    ∀ (k : Nat) (d : D), okD d = true → dep d ≤ k → al (k + 1) [d, d] = .ok (.bl true) := by
  intro k
  induction k with
  | zero => intro d _ h; cases d <;> (unfold dep at h; omega)
  | succ k ih =>
    intro d ok h
    rw [ha]
    refine fnD_rt ?_
    cases d with
    | non => simp only [fnD, gNx, gSeq, gSet, gSetO, ownAt, gApp, gRev, gPut, frz, gFrz, gRet, gExpr, gIf, gExc, asL, eVar, eC, eOp, eUn, toB, tB, tAndB, tOrB, tNotB, eAnd, eOr, eNot, eChain, aNil, aCons, eTup, oLst, eO, eCall, oUn, oSl, rNone, rSome, toI, dCut, eLenO, eIxO, sBind_ok, sBind_exc, sBind_stk, Res.bind_ok, Res.bind_exc, Res.bind_stk, SRes.thn_nx, SRes.thn_rt, SRes.thn_exc, SRes.thn_stk, List.map_cons, List.map_nil, List.cons_append, List.nil_append, List.length_cons, List.length_nil, List.replicate_succ, List.replicate_zero, List.getElem?_cons_zero, List.getElem?_cons_succ, List.set_cons_zero, List.set_cons_succ, Nat.zero_add, Nat.reduceAdd, Nat.reduceSub, dAdd, dSub, dMul, dDiv, dMod, dNeg, dCmp, dLt, dLe, dGt, dGe, dEq, dNe, dEq?, dIsN, dNotN, dIsi, isTy, dLen, dIx, dList, dRev, dInt, dMax2, dMin2, decide_eq_true_eq, if_true, if_false, Bool.not_true, Bool.not_false, Bool.false_eq_true, reduceIte, Int.reduceLT, Int.reduceLE, Int.reduceEq, Int.reduceNeg, String.reduceEq]
    | bl b => simp only [fnD, gNx, gSeq, gSet, gSetO, ownAt, gApp, gRev, gPut, frz, gFrz, gRet, gExpr, gIf, gExc, asL, eVar, eC, eOp, eUn, toB, tB, tAndB, tOrB, tNotB, eAnd, eOr, eNot, eChain, aNil, aCons, eTup, oLst, eO, eCall, oUn, oSl, rNone, rSome, toI, dCut, eLenO, eIxO, sBind_ok, sBind_exc, sBind_stk, Res.bind_ok, Res.bind_exc, Res.bind_stk, SRes.thn_nx, SRes.thn_rt, SRes.thn_exc, SRes.thn_stk, List.map_cons, List.map_nil, List.cons_append, List.nil_append, List.length_cons, List.length_nil, List.replicate_succ, List.replicate_zero, List.getElem?_cons_zero, List.getElem?_cons_succ, List.set_cons_zero, List.set_cons_succ, Nat.zero_add, Nat.reduceAdd, Nat.reduceSub, dAdd, dSub, dMul, dDiv, dMod, dNeg, dCmp, dLt, dLe, dGt, dGe, dEq, dNe, dEq?, dIsN, dNotN, dIsi, isTy, dLen, dIx, dList, dRev, dInt, dMax2, dMin2, decide_eq_true_eq, if_true, if_false, Bool.not_true, Bool.not_false, Bool.false_eq_true, reduceIte, Int.reduceLT, Int.reduceLE, Int.reduceEq, Int.reduceNeg, String.reduceEq, decide_true]
    | int n => simp only [fnD, gNx, gSeq, gSet, gSetO, ownAt, gApp, gRev, gPut, frz, gFrz, gRet, gExpr, gIf, gExc, asL, eVar, eC, eOp, eUn, toB, tB, tAndB, tOrB, tNotB, eAnd, eOr, eNot, eChain, aNil, aCons, eTup, oLst, eO, eCall, oUn, oSl, rNone, rSome, toI, dCut, eLenO, eIxO, sBind_ok, sBind_exc, sBind_stk, Res.bind_ok, Res.bind_exc, Res.bind_stk, SRes.thn_nx, SRes.thn_rt, SRes.thn_exc, SRes.thn_stk, List.map_cons, List.map_nil, List.cons_append, List.nil_append, List.length_cons, List.length_nil, List.replicate_succ, List.replicate_zero, List.getElem?_cons_zero, List.getElem?_cons_succ, List.set_cons_zero, List.set_cons_succ, Nat.zero_add, Nat.reduceAdd, Nat.reduceSub, dAdd, dSub, dMul, dDiv, dMod, dNeg, dCmp, dLt, dLe, dGt, dGe, dEq, dNe, dEq?, dIsN, dNotN, dIsi, isTy, dLen, dIx, dList, dRev, dInt, dMax2, dMin2, decide_eq_true_eq, if_true, if_false, Bool.not_true, Bool.not_false, Bool.false_eq_true, reduceIte, Int.reduceLT, Int.reduceLE, Int.reduceEq, Int.reduceNeg, String.reduceEq, hw, decide_true]
    | str s => simp only [fnD, gNx, gSeq, gSet, gSetO, ownAt, gApp, gRev, gPut, frz, gFrz, gRet, gExpr, gIf, gExc, asL, eVar, eC, eOp, eUn, toB, tB, tAndB, tOrB, tNotB, eAnd, eOr, eNot, eChain, aNil, aCons, eTup, oLst, eO, eCall, oUn, oSl, rNone, rSome, toI, dCut, eLenO, eIxO, sBind_ok, sBind_exc, sBind_stk, Res.bind_ok, Res.bind_exc, Res.bind_stk, SRes.thn_nx, SRes.thn_rt, SRes.thn_exc, SRes.thn_stk, List.map_cons, List.map_nil, List.cons_append, List.nil_append, List.length_cons, List.length_nil, List.replicate_succ, List.replicate_zero, List.getElem?_cons_zero, List.getElem?_cons_succ, List.set_cons_zero, List.set_cons_succ, Nat.zero_add, Nat.reduceAdd, Nat.reduceSub, dAdd, dSub, dMul, dDiv, dMod, dNeg, dCmp, dLt, dLe, dGt, dGe, dEq, dNe, dEq?, dIsN, dNotN, dIsi, isTy, dLen, dIx, dList, dRev, dInt, dMax2, dMin2, decide_eq_true_eq, if_true, if_false, Bool.not_true, Bool.not_false, Bool.false_eq_true, reduceIte, Int.reduceLT, Int.reduceLE, Int.reduceEq, Int.reduceNeg, String.reduceEq, decide_true]
    | scr ns => unfold okD at ok; cases ok
    | tup ds =>
      unfold okD at ok
      rw [Bool.and_eq_true] at ok
      unfold dep at h
      refine seq_nx (ρ' := [.v (.tup ds), .v (.tup ds), .un]) (by simp only [fnD, gNx, gSeq, gSet, gSetO, ownAt, gApp, gRev, gPut, frz, gFrz, gRet, gExpr, gIf, gExc, asL, eVar, eC, eOp, eUn, toB, tB, tAndB, tOrB, tNotB, eAnd, eOr, eNot, eChain, aNil, aCons, eTup, oLst, eO, eCall, oUn, oSl, rNone, rSome, toI, dCut, eLenO, eIxO, sBind_ok, sBind_exc, sBind_stk, Res.bind_ok, Res.bind_exc, Res.bind_stk, SRes.thn_nx, SRes.thn_rt, SRes.thn_exc, SRes.thn_stk, List.map_cons, List.map_nil, List.cons_append, List.nil_append, List.length_cons, List.length_nil, List.replicate_succ, List.replicate_zero, List.getElem?_cons_zero, List.getElem?_cons_succ, List.set_cons_zero, List.set_cons_succ, Nat.zero_add, Nat.reduceAdd, Nat.reduceSub, dAdd, dSub, dMul, dDiv, dMod, dNeg, dCmp, dLt, dLe, dGt, dGe, dEq, dNe, dEq?, dIsN, dNotN, dIsi, isTy, dLen, dIx, dList, dRev, dInt, dMax2, dMin2, decide_eq_true_eq, if_true, if_false, Bool.not_true, Bool.not_false, Bool.false_eq_true, reduceIte, Int.reduceLT, Int.reduceLE, Int.reduceEq, Int.reduceNeg, String.reduceEq]) (seq_nx (ρ' := [.v (.tup ds), .v (.tup ds), .un]) (by simp only [fnD, gNx, gSeq, gSet, gSetO, ownAt, gApp, gRev, gPut, frz, gFrz, gRet, gExpr, gIf, gExc, asL, eVar, eC, eOp, eUn, toB, tB, tAndB, tOrB, tNotB, eAnd, eOr, eNot, eChain, aNil, aCons, eTup, oLst, eO, eCall, oUn, oSl, rNone, rSome, toI, dCut, eLenO, eIxO, sBind_ok, sBind_exc, sBind_stk, Res.bind_ok, Res.bind_exc, Res.bind_stk, SRes.thn_nx, SRes.thn_rt, SRes.thn_exc, SRes.thn_stk, List.map_cons, List.map_nil, List.cons_append, List.nil_append, List.length_cons, List.length_nil, List.replicate_succ, List.replicate_zero, List.getElem?_cons_zero, List.getElem?_cons_succ, List.set_cons_zero, List.set_cons_succ, Nat.zero_add, Nat.reduceAdd, Nat.reduceSub, dAdd, dSub, dMul, dDiv, dMod, dNeg, dCmp, dLt, dLe, dGt, dGe, dEq, dNe, dEq?, dIsN, dNotN, dIsi, isTy, dLen, dIx, dList, dRev, dInt, dMax2, dMin2, decide_eq_true_eq, if_true, if_false, Bool.not_true, Bool.not_false, Bool.false_eq_true, reduceIte, Int.reduceLT, Int.reduceLE, Int.reduceEq, Int.reduceNeg, String.reduceEq]) (seq_nx (ρ' := [.v (.tup ds), .v (.tup ds), .un]) (by simp only [fnD, gNx, gSeq, gSet, gSetO, ownAt, gApp, gRev, gPut, frz, gFrz, gRet, gExpr, gIf, gExc, asL, eVar, eC, eOp, eUn, toB, tB, tAndB, tOrB, tNotB, eAnd, eOr, eNot, eChain, aNil, aCons, eTup, oLst, eO, eCall, oUn, oSl, rNone, rSome, toI, dCut, eLenO, eIxO, sBind_ok, sBind_exc, sBind_stk, Res.bind_ok, Res.bind_exc, Res.bind_stk, SRes.thn_nx, SRes.thn_rt, SRes.thn_exc, SRes.thn_stk, List.map_cons, List.map_nil, List.cons_append, List.nil_append, List.length_cons, List.length_nil, List.replicate_succ, List.replicate_zero, List.getElem?_cons_zero, List.getElem?_cons_succ, List.set_cons_zero, List.set_cons_succ, Nat.zero_add, Nat.reduceAdd, Nat.reduceSub, dAdd, dSub, dMul, dDiv, dMod, dNeg, dCmp, dLt, dLe, dGt, dGe, dEq, dNe, dEq?, dIsN, dNotN, dIsi, isTy, dLen, dIx, dList, dRev, dInt, dMax2, dMin2, decide_eq_true_eq, if_true, if_false, Bool.not_true, Bool.not_false, Bool.false_eq_true, reduceIte, Int.reduceLT, Int.reduceLE, Int.reduceEq, Int.reduceNeg, String.reduceEq])
        (seq_nx (ρ' := [.v (.tup ds), .v (.tup ds), .un]) (by simp only [fnD, gNx, gSeq, gSet, gSetO, ownAt, gApp, gRev, gPut, frz, gFrz, gRet, gExpr, gIf, gExc, asL, eVar, eC, eOp, eUn, toB, tB, tAndB, tOrB, tNotB, eAnd, eOr, eNot, eChain, aNil, aCons, eTup, oLst, eO, eCall, oUn, oSl, rNone, rSome, toI, dCut, eLenO, eIxO, sBind_ok, sBind_exc, sBind_stk, Res.bind_ok, Res.bind_exc, Res.bind_stk, SRes.thn_nx, SRes.thn_rt, SRes.thn_exc, SRes.thn_stk, List.map_cons, List.map_nil, List.cons_append, List.nil_append, List.length_cons, List.length_nil, List.replicate_succ, List.replicate_zero, List.getElem?_cons_zero, List.getElem?_cons_succ, List.set_cons_zero, List.set_cons_succ, Nat.zero_add, Nat.reduceAdd, Nat.reduceSub, dAdd, dSub, dMul, dDiv, dMod, dNeg, dCmp, dLt, dLe, dGt, dGe, dEq, dNe, dEq?, dIsN, dNotN, dIsi, isTy, dLen, dIx, dList, dRev, dInt, dMax2, dMin2, decide_eq_true_eq, if_true, if_false, Bool.not_true, Bool.not_false, Bool.false_eq_true, reduceIte, Int.reduceLT, Int.reduceLE, Int.reduceEq, Int.reduceNeg, String.reduceEq]) (seq_nx (ρ' := [.v (.tup ds), .v (.tup ds), .un]) (by simp only [fnD, gNx, gSeq, gSet, gSetO, ownAt, gApp, gRev, gPut, frz, gFrz, gRet, gExpr, gIf, gExc, asL, eVar, eC, eOp, eUn, toB, tB, tAndB, tOrB, tNotB, eAnd, eOr, eNot, eChain, aNil, aCons, eTup, oLst, eO, eCall, oUn, oSl, rNone, rSome, toI, dCut, eLenO, eIxO, sBind_ok, sBind_exc, sBind_stk, Res.bind_ok, Res.bind_exc, Res.bind_stk, SRes.thn_nx, SRes.thn_rt, SRes.thn_exc, SRes.thn_stk, List.map_cons, List.map_nil, List.cons_append, List.nil_append, List.length_cons, List.length_nil, List.replicate_succ, List.replicate_zero, List.getElem?_cons_zero, List.getElem?_cons_succ, List.set_cons_zero, List.set_cons_succ, Nat.zero_add, Nat.reduceAdd, Nat.reduceSub, dAdd, dSub, dMul, dDiv, dMod, dNeg, dCmp, dLt, dLe, dGt, dGe, dEq, dNe, dEq?, dIsN, dNotN, dIsi, isTy, dLen, dIx, dList, dRev, dInt, dMax2, dMin2, decide_eq_true_eq, if_true, if_false, Bool.not_true, Bool.not_false, Bool.false_eq_true, reduceIte, Int.reduceLT, Int.reduceLE, Int.reduceEq, Int.reduceNeg, String.reduceEq]) (seq_nx (ρ' := [.v (.tup ds), .v (.tup ds), .un]) (by simp only [fnD, gNx, gSeq, gSet, gSetO, ownAt, gApp, gRev, gPut, frz, gFrz, gRet, gExpr, gIf, gExc, asL, eVar, eC, eOp, eUn, toB, tB, tAndB, tOrB, tNotB, eAnd, eOr, eNot, eChain, aNil, aCons, eTup, oLst, eO, eCall, oUn, oSl, rNone, rSome, toI, dCut, eLenO, eIxO, sBind_ok, sBind_exc, sBind_stk, Res.bind_ok, Res.bind_exc, Res.bind_stk, SRes.thn_nx, SRes.thn_rt, SRes.thn_exc, SRes.thn_stk, List.map_cons, List.map_nil, List.cons_append, List.nil_append, List.length_cons, List.length_nil, List.replicate_succ, List.replicate_zero, List.getElem?_cons_zero, List.getElem?_cons_succ, List.set_cons_zero, List.set_cons_succ, Nat.zero_add, Nat.reduceAdd, Nat.reduceSub, dAdd, dSub, dMul, dDiv, dMod, dNeg, dCmp, dLt, dLe, dGt, dGe, dEq, dNe, dEq?, dIsN, dNotN, dIsi, isTy, dLen, dIx, dList, dRev, dInt, dMax2, dMin2, decide_eq_true_eq, if_true, if_false, Bool.not_true, Bool.not_false, Bool.false_eq_true, reduceIte, Int.reduceLT, Int.reduceLE, Int.reduceEq, Int.reduceNeg, String.reduceEq, decide_true]) ?_)))))
      refine seq_nx (forR_nx (n := ds.length) (fun j => [.v (.tup ds), .v (.tup ds), stp .un j]) (by simp only [fnD, gNx, gSeq, gSet, gSetO, ownAt, gApp, gRev, gPut, frz, gFrz, gRet, gExpr, gIf, gExc, asL, eVar, eC, eOp, eUn, toB, tB, tAndB, tOrB, tNotB, eAnd, eOr, eNot, eChain, aNil, aCons, eTup, oLst, eO, eCall, oUn, oSl, rNone, rSome, toI, dCut, eLenO, eIxO, sBind_ok, sBind_exc, sBind_stk, Res.bind_ok, Res.bind_exc, Res.bind_stk, SRes.thn_nx, SRes.thn_rt, SRes.thn_exc, SRes.thn_stk, List.map_cons, List.map_nil, List.cons_append, List.nil_append, List.length_cons, List.length_nil, List.replicate_succ, List.replicate_zero, List.getElem?_cons_zero, List.getElem?_cons_succ, List.set_cons_zero, List.set_cons_succ, Nat.zero_add, Nat.reduceAdd, Nat.reduceSub, dAdd, dSub, dMul, dDiv, dMod, dNeg, dCmp, dLt, dLe, dGt, dGe, dEq, dNe, dEq?, dIsN, dNotN, dIsi, isTy, dLen, dIx, dList, dRev, dInt, dMax2, dMin2, decide_eq_true_eq, if_true, if_false, Bool.not_true, Bool.not_false, Bool.false_eq_true, reduceIte, Int.reduceLT, Int.reduceLE, Int.reduceEq, Int.reduceNeg, String.reduceEq]) (by have := ok.1; unfold fits at this; rw [Nat.ble_eq] at this; exact this) rfl fun j hj => ?_) (by simp only [fnD, gNx, gSeq, gSet, gSetO, ownAt, gApp, gRev, gPut, frz, gFrz, gRet, gExpr, gIf, gExc, asL, eVar, eC, eOp, eUn, toB, tB, tAndB, tOrB, tNotB, eAnd, eOr, eNot, eChain, aNil, aCons, eTup, oLst, eO, eCall, oUn, oSl, rNone, rSome, toI, dCut, eLenO, eIxO, sBind_ok, sBind_exc, sBind_stk, Res.bind_ok, Res.bind_exc, Res.bind_stk, SRes.thn_nx, SRes.thn_rt, SRes.thn_exc, SRes.thn_stk, List.map_cons, List.map_nil, List.cons_append, List.nil_append, List.length_cons, List.length_nil, List.replicate_succ, List.replicate_zero, List.getElem?_cons_zero, List.getElem?_cons_succ, List.set_cons_zero, List.set_cons_succ, Nat.zero_add, Nat.reduceAdd, Nat.reduceSub, dAdd, dSub, dMul, dDiv, dMod, dNeg, dCmp, dLt, dLe, dGt, dGe, dEq, dNe, dEq?, dIsN, dNotN, dIsi, isTy, dLen, dIx, dList, dRev, dInt, dMax2, dMin2, decide_eq_true_eq, if_true, if_false, Bool.not_true, Bool.not_false, Bool.false_eq_true, reduceIte, Int.reduceLT, Int.reduceLE, Int.reduceEq, Int.reduceNeg, String.reduceEq])
      have hd : ds[j]? = some ds[j] := List.getElem?_eq_getElem hj
      have e : dAt ds (j : Int) = .ok ds[j] := by unfold dAt; rw [atI_nat hd]
      have hi := ih ds[j] (okD_get ok.2 hd) (by have := dep_get hd; omega)
      simp only [fnD, gNx, gSeq, gSet, gSetO, ownAt, gApp, gRev, gPut, frz, gFrz, gRet, gExpr, gIf, gExc, asL, eVar, eC, eOp, eUn, toB, tB, tAndB, tOrB, tNotB, eAnd, eOr, eNot, eChain, aNil, aCons, eTup, oLst, eO, eCall, oUn, oSl, rNone, rSome, toI, dCut, eLenO, eIxO, sBind_ok, sBind_exc, sBind_stk, Res.bind_ok, Res.bind_exc, Res.bind_stk, SRes.thn_nx, SRes.thn_rt, SRes.thn_exc, SRes.thn_stk, List.map_cons, List.map_nil, List.cons_append, List.nil_append, List.length_cons, List.length_nil, List.replicate_succ, List.replicate_zero, List.getElem?_cons_zero, List.getElem?_cons_succ, List.set_cons_zero, List.set_cons_succ, Nat.zero_add, Nat.reduceAdd, Nat.reduceSub, dAdd, dSub, dMul, dDiv, dMod, dNeg, dCmp, dLt, dLe, dGt, dGe, dEq, dNe, dEq?, dIsN, dNotN, dIsi, isTy, dLen, dIx, dList, dRev, dInt, dMax2, dMin2, decide_eq_true_eq, if_true, if_false, Bool.not_true, Bool.not_false, Bool.false_eq_true, reduceIte, Int.reduceLT, Int.reduceLE, Int.reduceEq, Int.reduceNeg, String.reduceEq, stp, e, hi]
    | lst ds =>
      unfold okD at ok
      rw [Bool.and_eq_true] at ok
      unfold dep at h
      refine seq_nx (ρ' := [.v (.lst ds), .v (.lst ds), .un]) (by simp only [fnD, gNx, gSeq, gSet, gSetO, ownAt, gApp, gRev, gPut, frz, gFrz, gRet, gExpr, gIf, gExc, asL, eVar, eC, eOp, eUn, toB, tB, tAndB, tOrB, tNotB, eAnd, eOr, eNot, eChain, aNil, aCons, eTup, oLst, eO, eCall, oUn, oSl, rNone, rSome, toI, dCut, eLenO, eIxO, sBind_ok, sBind_exc, sBind_stk, Res.bind_ok, Res.bind_exc, Res.bind_stk, SRes.thn_nx, SRes.thn_rt, SRes.thn_exc, SRes.thn_stk, List.map_cons, List.map_nil, List.cons_append, List.nil_append, List.length_cons, List.length_nil, List.replicate_succ, List.replicate_zero, List.getElem?_cons_zero, List.getElem?_cons_succ, List.set_cons_zero, List.set_cons_succ, Nat.zero_add, Nat.reduceAdd, Nat.reduceSub, dAdd, dSub, dMul, dDiv, dMod, dNeg, dCmp, dLt, dLe, dGt, dGe, dEq, dNe, dEq?, dIsN, dNotN, dIsi, isTy, dLen, dIx, dList, dRev, dInt, dMax2, dMin2, decide_eq_true_eq, if_true, if_false, Bool.not_true, Bool.not_false, Bool.false_eq_true, reduceIte, Int.reduceLT, Int.reduceLE, Int.reduceEq, Int.reduceNeg, String.reduceEq]) (seq_nx (ρ' := [.v (.lst ds), .v (.lst ds), .un]) (by simp only [fnD, gNx, gSeq, gSet, gSetO, ownAt, gApp, gRev, gPut, frz, gFrz, gRet, gExpr, gIf, gExc, asL, eVar, eC, eOp, eUn, toB, tB, tAndB, tOrB, tNotB, eAnd, eOr, eNot, eChain, aNil, aCons, eTup, oLst, eO, eCall, oUn, oSl, rNone, rSome, toI, dCut, eLenO, eIxO, sBind_ok, sBind_exc, sBind_stk, Res.bind_ok, Res.bind_exc, Res.bind_stk, SRes.thn_nx, SRes.thn_rt, SRes.thn_exc, SRes.thn_stk, List.map_cons, List.map_nil, List.cons_append, List.nil_append, List.length_cons, List.length_nil, List.replicate_succ, List.replicate_zero, List.getElem?_cons_zero, List.getElem?_cons_succ, List.set_cons_zero, List.set_cons_succ, Nat.zero_add, Nat.reduceAdd, Nat.reduceSub, dAdd, dSub, dMul, dDiv, dMod, dNeg, dCmp, dLt, dLe, dGt, dGe, dEq, dNe, dEq?, dIsN, dNotN, dIsi, isTy, dLen, dIx, dList, dRev, dInt, dMax2, dMin2, decide_eq_true_eq, if_true, if_false, Bool.not_true, Bool.not_false, Bool.false_eq_true, reduceIte, Int.reduceLT, Int.reduceLE, Int.reduceEq, Int.reduceNeg, String.reduceEq]) (seq_nx (ρ' := [.v (.lst ds), .v (.lst ds), .un]) (by simp only [fnD, gNx, gSeq, gSet, gSetO, ownAt, gApp, gRev, gPut, frz, gFrz, gRet, gExpr, gIf, gExc, asL, eVar, eC, eOp, eUn, toB, tB, tAndB, tOrB, tNotB, eAnd, eOr, eNot, eChain, aNil, aCons, eTup, oLst, eO, eCall, oUn, oSl, rNone, rSome, toI, dCut, eLenO, eIxO, sBind_ok, sBind_exc, sBind_stk, Res.bind_ok, Res.bind_exc, Res.bind_stk, SRes.thn_nx, SRes.thn_rt, SRes.thn_exc, SRes.thn_stk, List.map_cons, List.map_nil, List.cons_append, List.nil_append, List.length_cons, List.length_nil, List.replicate_succ, List.replicate_zero, List.getElem?_cons_zero, List.getElem?_cons_succ, List.set_cons_zero, List.set_cons_succ, Nat.zero_add, Nat.reduceAdd, Nat.reduceSub, dAdd, dSub, dMul, dDiv, dMod, dNeg, dCmp, dLt, dLe, dGt, dGe, dEq, dNe, dEq?, dIsN, dNotN, dIsi, isTy, dLen, dIx, dList, dRev, dInt, dMax2, dMin2, decide_eq_true_eq, if_true, if_false, Bool.not_true, Bool.not_false, Bool.false_eq_true, reduceIte, Int.reduceLT, Int.reduceLE, Int.reduceEq, Int.reduceNeg, String.reduceEq])
        (seq_nx (ρ' := [.v (.lst ds), .v (.lst ds), .un]) (by simp only [fnD, gNx, gSeq, gSet, gSetO, ownAt, gApp, gRev, gPut, frz, gFrz, gRet, gExpr, gIf, gExc, asL, eVar, eC, eOp, eUn, toB, tB, tAndB, tOrB, tNotB, eAnd, eOr, eNot, eChain, aNil, aCons, eTup, oLst, eO, eCall, oUn, oSl, rNone, rSome, toI, dCut, eLenO, eIxO, sBind_ok, sBind_exc, sBind_stk, Res.bind_ok, Res.bind_exc, Res.bind_stk, SRes.thn_nx, SRes.thn_rt, SRes.thn_exc, SRes.thn_stk, List.map_cons, List.map_nil, List.cons_append, List.nil_append, List.length_cons, List.length_nil, List.replicate_succ, List.replicate_zero, List.getElem?_cons_zero, List.getElem?_cons_succ, List.set_cons_zero, List.set_cons_succ, Nat.zero_add, Nat.reduceAdd, Nat.reduceSub, dAdd, dSub, dMul, dDiv, dMod, dNeg, dCmp, dLt, dLe, dGt, dGe, dEq, dNe, dEq?, dIsN, dNotN, dIsi, isTy, dLen, dIx, dList, dRev, dInt, dMax2, dMin2, decide_eq_true_eq, if_true, if_false, Bool.not_true, Bool.not_false, Bool.false_eq_true, reduceIte, Int.reduceLT, Int.reduceLE, Int.reduceEq, Int.reduceNeg, String.reduceEq]) (seq_nx (ρ' := [.v (.lst ds), .v (.lst ds), .un]) (by simp only [fnD, gNx, gSeq, gSet, gSetO, ownAt, gApp, gRev, gPut, frz, gFrz, gRet, gExpr, gIf, gExc, asL, eVar, eC, eOp, eUn, toB, tB, tAndB, tOrB, tNotB, eAnd, eOr, eNot, eChain, aNil, aCons, eTup, oLst, eO, eCall, oUn, oSl, rNone, rSome, toI, dCut, eLenO, eIxO, sBind_ok, sBind_exc, sBind_stk, Res.bind_ok, Res.bind_exc, Res.bind_stk, SRes.thn_nx, SRes.thn_rt, SRes.thn_exc, SRes.thn_stk, List.map_cons, List.map_nil, List.cons_append, List.nil_append, List.length_cons, List.length_nil, List.replicate_succ, List.replicate_zero, List.getElem?_cons_zero, List.getElem?_cons_succ, List.set_cons_zero, List.set_cons_succ, Nat.zero_add, Nat.reduceAdd, Nat.reduceSub, dAdd, dSub, dMul, dDiv, dMod, dNeg, dCmp, dLt, dLe, dGt, dGe, dEq, dNe, dEq?, dIsN, dNotN, dIsi, isTy, dLen, dIx, dList, dRev, dInt, dMax2, dMin2, decide_eq_true_eq, if_true, if_false, Bool.not_true, Bool.not_false, Bool.false_eq_true, reduceIte, Int.reduceLT, Int.reduceLE, Int.reduceEq, Int.reduceNeg, String.reduceEq]) (seq_nx (ρ' := [.v (.lst ds), .v (.lst ds), .un]) (by simp only [fnD, gNx, gSeq, gSet, gSetO, ownAt, gApp, gRev, gPut, frz, gFrz, gRet, gExpr, gIf, gExc, asL, eVar, eC, eOp, eUn, toB, tB, tAndB, tOrB, tNotB, eAnd, eOr, eNot, eChain, aNil, aCons, eTup, oLst, eO, eCall, oUn, oSl, rNone, rSome, toI, dCut, eLenO, eIxO, sBind_ok, sBind_exc, sBind_stk, Res.bind_ok, Res.bind_exc, Res.bind_stk, SRes.thn_nx, SRes.thn_rt, SRes.thn_exc, SRes.thn_stk, List.map_cons, List.map_nil, List.cons_append, List.nil_append, List.length_cons, List.length_nil, List.replicate_succ, List.replicate_zero, List.getElem?_cons_zero, List.getElem?_cons_succ, List.set_cons_zero, List.set_cons_succ, Nat.zero_add, Nat.reduceAdd, Nat.reduceSub, dAdd, dSub, dMul, dDiv, dMod, dNeg, dCmp, dLt, dLe, dGt, dGe, dEq, dNe, dEq?, dIsN, dNotN, dIsi, isTy, dLen, dIx, dList, dRev, dInt, dMax2, dMin2, decide_eq_true_eq, if_true, if_false, Bool.not_true, Bool.not_false, Bool.false_eq_true, reduceIte, Int.reduceLT, Int.reduceLE, Int.reduceEq, Int.reduceNeg, String.reduceEq, decide_true]) ?_)))))
      refine seq_nx (forR_nx (n := ds.length) (fun j => [.v (.lst ds), .v (.lst ds), stp .un j]) (by simp only [fnD, gNx, gSeq, gSet, gSetO, ownAt, gApp, gRev, gPut, frz, gFrz, gRet, gExpr, gIf, gExc, asL, eVar, eC, eOp, eUn, toB, tB, tAndB, tOrB, tNotB, eAnd, eOr, eNot, eChain, aNil, aCons, eTup, oLst, eO, eCall, oUn, oSl, rNone, rSome, toI, dCut, eLenO, eIxO, sBind_ok, sBind_exc, sBind_stk, Res.bind_ok, Res.bind_exc, Res.bind_stk, SRes.thn_nx, SRes.thn_rt, SRes.thn_exc, SRes.thn_stk, List.map_cons, List.map_nil, List.cons_append, List.nil_append, List.length_cons, List.length_nil, List.replicate_succ, List.replicate_zero, List.getElem?_cons_zero, List.getElem?_cons_succ, List.set_cons_zero, List.set_cons_succ, Nat.zero_add, Nat.reduceAdd, Nat.reduceSub, dAdd, dSub, dMul, dDiv, dMod, dNeg, dCmp, dLt, dLe, dGt, dGe, dEq, dNe, dEq?, dIsN, dNotN, dIsi, isTy, dLen, dIx, dList, dRev, dInt, dMax2, dMin2, decide_eq_true_eq, if_true, if_false, Bool.not_true, Bool.not_false, Bool.false_eq_true, reduceIte, Int.reduceLT, Int.reduceLE, Int.reduceEq, Int.reduceNeg, String.reduceEq]) (by have := ok.1; unfold fits at this; rw [Nat.ble_eq] at this; exact this) rfl fun j hj => ?_) (by simp only [fnD, gNx, gSeq, gSet, gSetO, ownAt, gApp, gRev, gPut, frz, gFrz, gRet, gExpr, gIf, gExc, asL, eVar, eC, eOp, eUn, toB, tB, tAndB, tOrB, tNotB, eAnd, eOr, eNot, eChain, aNil, aCons, eTup, oLst, eO, eCall, oUn, oSl, rNone, rSome, toI, dCut, eLenO, eIxO, sBind_ok, sBind_exc, sBind_stk, Res.bind_ok, Res.bind_exc, Res.bind_stk, SRes.thn_nx, SRes.thn_rt, SRes.thn_exc, SRes.thn_stk, List.map_cons, List.map_nil, List.cons_append, List.nil_append, List.length_cons, List.length_nil, List.replicate_succ, List.replicate_zero, List.getElem?_cons_zero, List.getElem?_cons_succ, List.set_cons_zero, List.set_cons_succ, Nat.zero_add, Nat.reduceAdd, Nat.reduceSub, dAdd, dSub, dMul, dDiv, dMod, dNeg, dCmp, dLt, dLe, dGt, dGe, dEq, dNe, dEq?, dIsN, dNotN, dIsi, isTy, dLen, dIx, dList, dRev, dInt, dMax2, dMin2, decide_eq_true_eq, if_true, if_false, Bool.not_true, Bool.not_false, Bool.false_eq_true, reduceIte, Int.reduceLT, Int.reduceLE, Int.reduceEq, Int.reduceNeg, String.reduceEq])
      have hd : ds[j]? = some ds[j] := List.getElem?_eq_getElem hj
      have e : dAt ds (j : Int) = .ok ds[j] := by unfold dAt; rw [atI_nat hd]
      have hi := ih ds[j] (okD_get ok.2 hd) (by have := dep_get hd; omega)
      simp only [fnD, gNx, gSeq, gSet, gSetO, ownAt, gApp, gRev, gPut, frz, gFrz, gRet, gExpr, gIf, gExc, asL, eVar, eC, eOp, eUn, toB, tB, tAndB, tOrB, tNotB, eAnd, eOr, eNot, eChain, aNil, aCons, eTup, oLst, eO, eCall, oUn, oSl, rNone, rSome, toI, dCut, eLenO, eIxO, sBind_ok, sBind_exc, sBind_stk, Res.bind_ok, Res.bind_exc, Res.bind_stk, SRes.thn_nx, SRes.thn_rt, SRes.thn_exc, SRes.thn_stk, List.map_cons, List.map_nil, List.cons_append, List.nil_append, List.length_cons, List.length_nil, List.replicate_succ, List.replicate_zero, List.getElem?_cons_zero, List.getElem?_cons_succ, List.set_cons_zero, List.set_cons_succ, Nat.zero_add, Nat.reduceAdd, Nat.reduceSub, dAdd, dSub, dMul, dDiv, dMod, dNeg, dCmp, dLt, dLe, dGt, dGe, dEq, dNe, dEq?, dIsN, dNotN, dIsi, isTy, dLen, dIx, dList, dRev, dInt, dMax2, dMin2, decide_eq_true_eq, if_true, if_false, Bool.not_true, Bool.not_false, Bool.false_eq_true, reduceIte, Int.reduceLT, Int.reduceLE, Int.reduceEq, Int.reduceNeg, String.reduceEq, stp, e, hi]
theorem okDs_dI (l : List Int) : okDs (dI l) = true := by
  induction l with
  | nil => rfl
  | cons a l ih => unfold dI at ih ⊢; rw [List.map_cons]; unfold okDs; rw [ih]; rfl
theorem deps_dI (l : List Int) : deps (dI l) ≤ 1 := by
  induction l with
  | nil => unfold dI deps; simp
  | cons a l ih => unfold dI at ih ⊢; rw [List.map_cons]; unfold deps dep; omega
end Pu

namespace Pu
open PySem L2
theorem lowB_get (n : Int) (w i : Nat) (h : i < w) : (lowB n w)[i]? = some (n / 2 ^ i % 2) := by
  induction w generalizing n i with
  | zero => omega
  | succ w ih =>
    cases i with
    | zero => simp [lowB]
    | succ i =>
      rw [lowB, List.getElem?_cons_succ, ih _ _ (by omega), Int.ediv_ediv_of_nonneg (by omega), Int.pow_succ, Int.mul_comm 2]
theorem wr_get (n : Int) (w i : Nat) (h : i < w) : (wr n w)[i]? = some (n / 2 ^ (w - 1 - i) % 2) := by
  unfold wr
  rw [List.getElem?_reverse (by rw [lowB_len]; exact h), lowB_len, lowB_get _ _ _ (by omega)]
theorem dAt_dI {l : List Int} {i : Int} {j : Nat} {a : Int} (e : i = (j : Int)) (h : l[j]? = some a) : dAt (dI l) i = .ok (.int a) := by
  subst e
  have h' : (dI l)[j]? = some (.int a) := by rw [List.getElem?_map, h]; rfl
  unfold dAt
  rw [atI_nat h']
/-- bits -/
def Bts01 (bs : List Int) : Prop := ∀ b ∈ bs, b = 0 ∨ b = 1
theorem Bts01.get {bs : List Int} (h : Bts01 bs) (i : Nat) : bs.getD i 0 = 0 ∨ bs.getD i 0 = 1 := by
  rw [List.getD_eq_getElem?_getD]
  by_cases hi : i < bs.length
  · rw [List.getElem?_eq_getElem hi]; exact h _ (List.getElem_mem hi)
  · rw [List.getElem?_eq_none (by omega)]; exact .inl rfl
/-- what reading a number comes to -/
inductive Co where
  | rd (n : Int) (p : Nat) | sh (p : Nat) | wg (p : Nat)
def Co.enc : Co → D
  | .rd n p => .tup [.str "read", .int n, .int p]
  | .sh p => .tup [.str "short", .int p]
  | .wg p => .tup [.str "wrong", .int p]
def rc (bs : List Int) (fl : Bool) (m : Int) : Nat → Nat → Int → Co
  | 0, p, n => .rd n p
  | j + 1, p, n => if bs.length ≤ p ∧ fl = false then .sh p else if n * 2 + bs.getD p 0 > m / 2 ^ j then .wg p else rc bs fl m j (p + 1) (n * 2 + bs.getD p 0)
theorem rc_place {bs : List Int} {fl : Bool} {m : Int} : ∀ {j p : Nat} {n : Int} {n' : Int} {q : Nat}, rc bs fl m j p n = .rd n' q → q = p + j
  | 0, p, n, n', q, h => by unfold rc at h; injection h with _ h; omega
  | j + 1, p, n, n', q, h => by
    unfold rc at h
    split at h
    · cases h
    · split at h
      · cases h
      · have := rc_place h; omega
theorem half (m : Int) (j : Nat) : m / 2 ^ j = 2 * (m / 2 ^ (j + 1)) + m / 2 ^ j % 2 := by
  rw [← low_step]
  omega
def bodyRC : Rho → SRes := (gSeq (gSet 9 (eOp dAdd (eVar 1) (eVar 8)))
  (gSeq (gIf (tAndB (tB (eOp dGe (eVar 9) (eUn dLen (eVar 0)))) (tNotB (tB (eVar 4)))) (gRet (eTup (aCons (eC (.str "short")) (aCons (eVar 9) aNil)))) gNx)
  (gSeq (gSet 10 (eC (.int 0)))
  (gSeq (gIf (tB (eOp dLt (eVar 9) (eUn dLen (eVar 0)))) (gSet 10 (eOp dIx (eVar 0) (eVar 9))) gNx)
  (gSeq (gIf (tAndB (tB (eVar 7)) (tB (eOp dGt (eVar 10) (eOp dIx (eVar 5) (eVar 8))))) (gRet (eTup (aCons (eC (.str "wrong")) (aCons (eVar 9) aNil)))) gNx)
  (gSeq (gIf (tB (eOp dLt (eVar 10) (eOp dIx (eVar 5) (eVar 8)))) (gSet 7 (eC (.bl false))) gNx)
  (gSet 6 (eOp dAdd (eOp dMul (eVar 6) (eC (.int 2))) (eVar 10)))))))))
theorem fits_num {n : Nat} (h : n ≤ 16777216 := by decide) : fits n = true := fits_le h
/-- one turn -/
theorem turnRC {bs : List Int} {fl t : Bool} {m n : Int} {p w k j : Nat} (a b c : Slt) (hb : Bts01 bs) (hk : k + (j + 1) = w) (hn : n ≤ m / 2 ^ (j + 1)) (ht : t = true ↔ n = m / 2 ^ (j + 1)) :
    bodyRC [.v (.lst (dI bs)), .v (.int p), .v (.int w), .v (.int m), .v (.bl fl), .v (.lst (dI (wr m w))), .v (.int n), .v (.bl t), .v (.int k), b, c] =
      if bs.length ≤ p + k ∧ fl = false then .rt (Co.sh (p + k)).enc else if n * 2 + bs.getD (p + k) 0 > m / 2 ^ j then .rt (Co.wg (p + k)).enc else
        .nx [.v (.lst (dI bs)), .v (.int p), .v (.int w), .v (.int m), .v (.bl fl), .v (.lst (dI (wr m w))), .v (.int (n * 2 + bs.getD (p + k) 0)), .v (.bl (t && !decide (bs.getD (p + k) 0 < m / 2 ^ j % 2))), .v (.int k), .v (.int (p + k)), .v (.int (bs.getD (p + k) 0))] := by
  have hlim : dAt (dI (wr m w)) (k : Int) = .ok (.int (m / 2 ^ j % 2)) := by
    refine dAt_dI rfl ?_
    rw [wr_get _ _ _ (by omega), show w - 1 - k = j by omega]
  have hB := hb.get (p + k)
  have hh := half m j
  have hcast : (p : Int) + (k : Int) = ((p + k : Nat) : Int) := by omega
  unfold bodyRC
  by_cases c1 : bs.length ≤ p + k ∧ fl = false
  · rw [if_pos c1]
    have c1' : (bs.length : Int) ≤ ((p + k : Nat) : Int) := by have := c1.1; omega
    refine seq_nx rfl (seq_rt ?_)
    have f2 : fits 2 = true := fits_num
    simp only [fnD, gNx, gSeq, gSet, gSetO, ownAt, gApp, gRev, gPut, frz, gFrz, gRet, gExpr, gIf, gExc, asL, eVar, eC, eOp, eUn, toB, tB, tAndB, tOrB, tNotB, eAnd, eOr, eNot, eChain, aNil, aCons, eTup, oLst, eO, eCall, oUn, oSl, rNone, rSome, toI, dCut, eLenO, eIxO, sBind_ok, sBind_exc, sBind_stk, Res.bind_ok, Res.bind_exc, Res.bind_stk, SRes.thn_nx, SRes.thn_rt, SRes.thn_exc, SRes.thn_stk, List.map_cons, List.map_nil, List.cons_append, List.nil_append, List.length_cons, List.length_nil, List.replicate_succ, List.replicate_zero, List.getElem?_cons_zero, List.getElem?_cons_succ, List.set_cons_zero, List.set_cons_succ, Nat.zero_add, Nat.reduceAdd, Nat.reduceSub, dAdd, dSub, dMul, dDiv, dMod, dNeg, dCmp, dLt, dLe, dGt, dGe, dEq, dNe, dEq?, dIsN, dNotN, dIsi, isTy, dLen, dIx, dList, dRev, dInt, dMax2, dMin2, decide_eq_true_eq, if_true, if_false, Bool.not_true, Bool.not_false, Bool.false_eq_true, reduceIte, Int.reduceLT, Int.reduceLE, Int.reduceEq, Int.reduceNeg, String.reduceEq, dI_len, hcast, c1', c1.2, decide_true, f2]
    rfl
  · rw [if_neg c1]
    have bit : gSeq (gSet 10 (eC (.int 0))) (gIf (tB (eOp dLt (eVar 9) (eUn dLen (eVar 0)))) (gSet 10 (eOp dIx (eVar 0) (eVar 9))) gNx)
        [.v (.lst (dI bs)), .v (.int p), .v (.int w), .v (.int m), .v (.bl fl), .v (.lst (dI (wr m w))), .v (.int n), .v (.bl t), .v (.int k), .v (.int (p + k)), c] =
        .nx [.v (.lst (dI bs)), .v (.int p), .v (.int w), .v (.int m), .v (.bl fl), .v (.lst (dI (wr m w))), .v (.int n), .v (.bl t), .v (.int k), .v (.int (p + k)), .v (.int (bs.getD (p + k) 0))] := by
      by_cases c2 : p + k < bs.length
      · have c2' : (p : Int) + k < bs.length := by omega
        have e : dAt (dI bs) ((p : Int) + k) = .ok (.int bs[p + k]) := dAt_dI hcast (List.getElem?_eq_getElem c2)
        simp only [fnD, gNx, gSeq, gSet, gSetO, ownAt, gApp, gRev, gPut, frz, gFrz, gRet, gExpr, gIf, gExc, asL, eVar, eC, eOp, eUn, toB, tB, tAndB, tOrB, tNotB, eAnd, eOr, eNot, eChain, aNil, aCons, eTup, oLst, eO, eCall, oUn, oSl, rNone, rSome, toI, dCut, eLenO, eIxO, sBind_ok, sBind_exc, sBind_stk, Res.bind_ok, Res.bind_exc, Res.bind_stk, SRes.thn_nx, SRes.thn_rt, SRes.thn_exc, SRes.thn_stk, List.map_cons, List.map_nil, List.cons_append, List.nil_append, List.length_cons, List.length_nil, List.replicate_succ, List.replicate_zero, List.getElem?_cons_zero, List.getElem?_cons_succ, List.set_cons_zero, List.set_cons_succ, Nat.zero_add, Nat.reduceAdd, Nat.reduceSub, dAdd, dSub, dMul, dDiv, dMod, dNeg, dCmp, dLt, dLe, dGt, dGe, dEq, dNe, dEq?, dIsN, dNotN, dIsi, isTy, dLen, dIx, dList, dRev, dInt, dMax2, dMin2, decide_eq_true_eq, if_true, if_false, Bool.not_true, Bool.not_false, Bool.false_eq_true, reduceIte, Int.reduceLT, Int.reduceLE, Int.reduceEq, Int.reduceNeg, String.reduceEq, dI_len, c2', decide_true, e, List.getD_eq_getElem?_getD, List.getElem?_eq_getElem c2, Option.getD_some]
      · have c2' : ¬ (p : Int) + k < bs.length := by omega
        simp only [fnD, gNx, gSeq, gSet, gSetO, ownAt, gApp, gRev, gPut, frz, gFrz, gRet, gExpr, gIf, gExc, asL, eVar, eC, eOp, eUn, toB, tB, tAndB, tOrB, tNotB, eAnd, eOr, eNot, eChain, aNil, aCons, eTup, oLst, eO, eCall, oUn, oSl, rNone, rSome, toI, dCut, eLenO, eIxO, sBind_ok, sBind_exc, sBind_stk, Res.bind_ok, Res.bind_exc, Res.bind_stk, SRes.thn_nx, SRes.thn_rt, SRes.thn_exc, SRes.thn_stk, List.map_cons, List.map_nil, List.cons_append, List.nil_append, List.length_cons, List.length_nil, List.replicate_succ, List.replicate_zero, List.getElem?_cons_zero, List.getElem?_cons_succ, List.set_cons_zero, List.set_cons_succ, Nat.zero_add, Nat.reduceAdd, Nat.reduceSub, dAdd, dSub, dMul, dDiv, dMod, dNeg, dCmp, dLt, dLe, dGt, dGe, dEq, dNe, dEq?, dIsN, dNotN, dIsi, isTy, dLen, dIx, dList, dRev, dInt, dMax2, dMin2, decide_eq_true_eq, if_true, if_false, Bool.not_true, Bool.not_false, Bool.false_eq_true, reduceIte, Int.reduceLT, Int.reduceLE, Int.reduceEq, Int.reduceNeg, String.reduceEq, dI_len, c2', decide_false, List.getD_eq_getElem?_getD, List.getElem?_eq_none (show bs.length ≤ p + k by omega), Option.getD_none]
    generalize bs.getD (p + k) 0 = B at *
    generalize m / 2 ^ j = Mj at *
    generalize m / 2 ^ (j + 1) = Mk at *
    refine seq_nx rfl (seq_nx (ρ' := [.v (.lst (dI bs)), .v (.int p), .v (.int w), .v (.int m), .v (.bl fl), .v (.lst (dI (wr m w))), .v (.int n), .v (.bl t), .v (.int k), .v (.int (p + k)), c]) ?_ ?_)
    · have c1' : ¬ ((bs.length : Int) ≤ (p : Int) + k ∧ fl = false) := fun z => c1 ⟨by have := z.1; omega, z.2⟩
      by_cases z : (bs.length : Int) ≤ (p : Int) + k
      · have zf : fl = true := by
          cases fl with
          | true => rfl
          | false => exact absurd ⟨z, rfl⟩ c1'
        simp only [fnD, gNx, gSeq, gSet, gSetO, ownAt, gApp, gRev, gPut, frz, gFrz, gRet, gExpr, gIf, gExc, asL, eVar, eC, eOp, eUn, toB, tB, tAndB, tOrB, tNotB, eAnd, eOr, eNot, eChain, aNil, aCons, eTup, oLst, eO, eCall, oUn, oSl, rNone, rSome, toI, dCut, eLenO, eIxO, sBind_ok, sBind_exc, sBind_stk, Res.bind_ok, Res.bind_exc, Res.bind_stk, SRes.thn_nx, SRes.thn_rt, SRes.thn_exc, SRes.thn_stk, List.map_cons, List.map_nil, List.cons_append, List.nil_append, List.length_cons, List.length_nil, List.replicate_succ, List.replicate_zero, List.getElem?_cons_zero, List.getElem?_cons_succ, List.set_cons_zero, List.set_cons_succ, Nat.zero_add, Nat.reduceAdd, Nat.reduceSub, dAdd, dSub, dMul, dDiv, dMod, dNeg, dCmp, dLt, dLe, dGt, dGe, dEq, dNe, dEq?, dIsN, dNotN, dIsi, isTy, dLen, dIx, dList, dRev, dInt, dMax2, dMin2, decide_eq_true_eq, if_true, if_false, Bool.not_true, Bool.not_false, Bool.false_eq_true, reduceIte, Int.reduceLT, Int.reduceLE, Int.reduceEq, Int.reduceNeg, String.reduceEq, dI_len, z, zf, decide_true]
      · simp only [fnD, gNx, gSeq, gSet, gSetO, ownAt, gApp, gRev, gPut, frz, gFrz, gRet, gExpr, gIf, gExc, asL, eVar, eC, eOp, eUn, toB, tB, tAndB, tOrB, tNotB, eAnd, eOr, eNot, eChain, aNil, aCons, eTup, oLst, eO, eCall, oUn, oSl, rNone, rSome, toI, dCut, eLenO, eIxO, sBind_ok, sBind_exc, sBind_stk, Res.bind_ok, Res.bind_exc, Res.bind_stk, SRes.thn_nx, SRes.thn_rt, SRes.thn_exc, SRes.thn_stk, List.map_cons, List.map_nil, List.cons_append, List.nil_append, List.length_cons, List.length_nil, List.replicate_succ, List.replicate_zero, List.getElem?_cons_zero, List.getElem?_cons_succ, List.set_cons_zero, List.set_cons_succ, Nat.zero_add, Nat.reduceAdd, Nat.reduceSub, dAdd, dSub, dMul, dDiv, dMod, dNeg, dCmp, dLt, dLe, dGt, dGe, dEq, dNe, dEq?, dIsN, dNotN, dIsi, isTy, dLen, dIx, dList, dRev, dInt, dMax2, dMin2, decide_eq_true_eq, if_true, if_false, Bool.not_true, Bool.not_false, Bool.false_eq_true, reduceIte, Int.reduceLT, Int.reduceLE, Int.reduceEq, Int.reduceNeg, String.reduceEq, dI_len, z, decide_false]
    · have bit' : ∀ g : Rho → SRes, gSeq (gSet 10 (eC (.int 0))) (gSeq (gIf (tB (eOp dLt (eVar 9) (eUn dLen (eVar 0)))) (gSet 10 (eOp dIx (eVar 0) (eVar 9))) gNx) g)
          [.v (.lst (dI bs)), .v (.int p), .v (.int w), .v (.int m), .v (.bl fl), .v (.lst (dI (wr m w))), .v (.int n), .v (.bl t), .v (.int k), .v (.int (p + k)), c] =
          g [.v (.lst (dI bs)), .v (.int p), .v (.int w), .v (.int m), .v (.bl fl), .v (.lst (dI (wr m w))), .v (.int n), .v (.bl t), .v (.int k), .v (.int (p + k)), .v (.int B)] := fun g => by
        refine seq_nx rfl (seq_nx ?_ rfl)
        exact bit
      rw [bit']
      by_cases c3 : n * 2 + B > Mj
      · rw [if_pos c3]
        refine seq_rt ?_
        have tt : t = true := ht.mpr (by omega)
        have lt : Mj % 2 < B := by omega
        have f2 : fits 2 = true := fits_num
        simp only [fnD, gNx, gSeq, gSet, gSetO, ownAt, gApp, gRev, gPut, frz, gFrz, gRet, gExpr, gIf, gExc, asL, eVar, eC, eOp, eUn, toB, tB, tAndB, tOrB, tNotB, eAnd, eOr, eNot, eChain, aNil, aCons, eTup, oLst, eO, eCall, oUn, oSl, rNone, rSome, toI, dCut, eLenO, eIxO, sBind_ok, sBind_exc, sBind_stk, Res.bind_ok, Res.bind_exc, Res.bind_stk, SRes.thn_nx, SRes.thn_rt, SRes.thn_exc, SRes.thn_stk, List.map_cons, List.map_nil, List.cons_append, List.nil_append, List.length_cons, List.length_nil, List.replicate_succ, List.replicate_zero, List.getElem?_cons_zero, List.getElem?_cons_succ, List.set_cons_zero, List.set_cons_succ, Nat.zero_add, Nat.reduceAdd, Nat.reduceSub, dAdd, dSub, dMul, dDiv, dMod, dNeg, dCmp, dLt, dLe, dGt, dGe, dEq, dNe, dEq?, dIsN, dNotN, dIsi, isTy, dLen, dIx, dList, dRev, dInt, dMax2, dMin2, decide_eq_true_eq, if_true, if_false, Bool.not_true, Bool.not_false, Bool.false_eq_true, reduceIte, Int.reduceLT, Int.reduceLE, Int.reduceEq, Int.reduceNeg, String.reduceEq, hlim, tt, lt, decide_true, f2, hcast]
        rfl
      · rw [if_neg c3]
        refine seq_nx (ρ' := [.v (.lst (dI bs)), .v (.int p), .v (.int w), .v (.int m), .v (.bl fl), .v (.lst (dI (wr m w))), .v (.int n), .v (.bl t), .v (.int k), .v (.int (p + k)), .v (.int B)]) ?_ ?_
        · cases t with
          | false => simp only [fnD, gNx, gSeq, gSet, gSetO, ownAt, gApp, gRev, gPut, frz, gFrz, gRet, gExpr, gIf, gExc, asL, eVar, eC, eOp, eUn, toB, tB, tAndB, tOrB, tNotB, eAnd, eOr, eNot, eChain, aNil, aCons, eTup, oLst, eO, eCall, oUn, oSl, rNone, rSome, toI, dCut, eLenO, eIxO, sBind_ok, sBind_exc, sBind_stk, Res.bind_ok, Res.bind_exc, Res.bind_stk, SRes.thn_nx, SRes.thn_rt, SRes.thn_exc, SRes.thn_stk, List.map_cons, List.map_nil, List.cons_append, List.nil_append, List.length_cons, List.length_nil, List.replicate_succ, List.replicate_zero, List.getElem?_cons_zero, List.getElem?_cons_succ, List.set_cons_zero, List.set_cons_succ, Nat.zero_add, Nat.reduceAdd, Nat.reduceSub, dAdd, dSub, dMul, dDiv, dMod, dNeg, dCmp, dLt, dLe, dGt, dGe, dEq, dNe, dEq?, dIsN, dNotN, dIsi, isTy, dLen, dIx, dList, dRev, dInt, dMax2, dMin2, decide_eq_true_eq, if_true, if_false, Bool.not_true, Bool.not_false, Bool.false_eq_true, reduceIte, Int.reduceLT, Int.reduceLE, Int.reduceEq, Int.reduceNeg, String.reduceEq]
          | true =>
            have e := ht.mp rfl
            have lt : ¬ Mj % 2 < B := by omega
            simp only [fnD, gNx, gSeq, gSet, gSetO, ownAt, gApp, gRev, gPut, frz, gFrz, gRet, gExpr, gIf, gExc, asL, eVar, eC, eOp, eUn, toB, tB, tAndB, tOrB, tNotB, eAnd, eOr, eNot, eChain, aNil, aCons, eTup, oLst, eO, eCall, oUn, oSl, rNone, rSome, toI, dCut, eLenO, eIxO, sBind_ok, sBind_exc, sBind_stk, Res.bind_ok, Res.bind_exc, Res.bind_stk, SRes.thn_nx, SRes.thn_rt, SRes.thn_exc, SRes.thn_stk, List.map_cons, List.map_nil, List.cons_append, List.nil_append, List.length_cons, List.length_nil, List.replicate_succ, List.replicate_zero, List.getElem?_cons_zero, List.getElem?_cons_succ, List.set_cons_zero, List.set_cons_succ, Nat.zero_add, Nat.reduceAdd, Nat.reduceSub, dAdd, dSub, dMul, dDiv, dMod, dNeg, dCmp, dLt, dLe, dGt, dGe, dEq, dNe, dEq?, dIsN, dNotN, dIsi, isTy, dLen, dIx, dList, dRev, dInt, dMax2, dMin2, decide_eq_true_eq, if_true, if_false, Bool.not_true, Bool.not_false, Bool.false_eq_true, reduceIte, Int.reduceLT, Int.reduceLE, Int.reduceEq, Int.reduceNeg, String.reduceEq, hlim, lt, decide_false]
        · by_cases c4 : B < Mj % 2
          · refine seq_nx (ρ' := [.v (.lst (dI bs)), .v (.int p), .v (.int w), .v (.int m), .v (.bl fl), .v (.lst (dI (wr m w))), .v (.int n), .v (.bl false), .v (.int k), .v (.int (p + k)), .v (.int B)]) (by simp only [fnD, gNx, gSeq, gSet, gSetO, ownAt, gApp, gRev, gPut, frz, gFrz, gRet, gExpr, gIf, gExc, asL, eVar, eC, eOp, eUn, toB, tB, tAndB, tOrB, tNotB, eAnd, eOr, eNot, eChain, aNil, aCons, eTup, oLst, eO, eCall, oUn, oSl, rNone, rSome, toI, dCut, eLenO, eIxO, sBind_ok, sBind_exc, sBind_stk, Res.bind_ok, Res.bind_exc, Res.bind_stk, SRes.thn_nx, SRes.thn_rt, SRes.thn_exc, SRes.thn_stk, List.map_cons, List.map_nil, List.cons_append, List.nil_append, List.length_cons, List.length_nil, List.replicate_succ, List.replicate_zero, List.getElem?_cons_zero, List.getElem?_cons_succ, List.set_cons_zero, List.set_cons_succ, Nat.zero_add, Nat.reduceAdd, Nat.reduceSub, dAdd, dSub, dMul, dDiv, dMod, dNeg, dCmp, dLt, dLe, dGt, dGe, dEq, dNe, dEq?, dIsN, dNotN, dIsi, isTy, dLen, dIx, dList, dRev, dInt, dMax2, dMin2, decide_eq_true_eq, if_true, if_false, Bool.not_true, Bool.not_false, Bool.false_eq_true, reduceIte, Int.reduceLT, Int.reduceLE, Int.reduceEq, Int.reduceNeg, String.reduceEq, hlim, c4, decide_true]) ?_
            simp only [fnD, gNx, gSeq, gSet, gSetO, ownAt, gApp, gRev, gPut, frz, gFrz, gRet, gExpr, gIf, gExc, asL, eVar, eC, eOp, eUn, toB, tB, tAndB, tOrB, tNotB, eAnd, eOr, eNot, eChain, aNil, aCons, eTup, oLst, eO, eCall, oUn, oSl, rNone, rSome, toI, dCut, eLenO, eIxO, sBind_ok, sBind_exc, sBind_stk, Res.bind_ok, Res.bind_exc, Res.bind_stk, SRes.thn_nx, SRes.thn_rt, SRes.thn_exc, SRes.thn_stk, List.map_cons, List.map_nil, List.cons_append, List.nil_append, List.length_cons, List.length_nil, List.replicate_succ, List.replicate_zero, List.getElem?_cons_zero, List.getElem?_cons_succ, List.set_cons_zero, List.set_cons_succ, Nat.zero_add, Nat.reduceAdd, Nat.reduceSub, dAdd, dSub, dMul, dDiv, dMod, dNeg, dCmp, dLt, dLe, dGt, dGe, dEq, dNe, dEq?, dIsN, dNotN, dIsi, isTy, dLen, dIx, dList, dRev, dInt, dMax2, dMin2, decide_eq_true_eq, if_true, if_false, Bool.not_true, Bool.not_false, Bool.false_eq_true, reduceIte, Int.reduceLT, Int.reduceLE, Int.reduceEq, Int.reduceNeg, String.reduceEq, mulOk_two, c4, decide_true, Bool.and_false]
          · refine seq_nx (ρ' := [.v (.lst (dI bs)), .v (.int p), .v (.int w), .v (.int m), .v (.bl fl), .v (.lst (dI (wr m w))), .v (.int n), .v (.bl t), .v (.int k), .v (.int (p + k)), .v (.int B)]) (by simp only [fnD, gNx, gSeq, gSet, gSetO, ownAt, gApp, gRev, gPut, frz, gFrz, gRet, gExpr, gIf, gExc, asL, eVar, eC, eOp, eUn, toB, tB, tAndB, tOrB, tNotB, eAnd, eOr, eNot, eChain, aNil, aCons, eTup, oLst, eO, eCall, oUn, oSl, rNone, rSome, toI, dCut, eLenO, eIxO, sBind_ok, sBind_exc, sBind_stk, Res.bind_ok, Res.bind_exc, Res.bind_stk, SRes.thn_nx, SRes.thn_rt, SRes.thn_exc, SRes.thn_stk, List.map_cons, List.map_nil, List.cons_append, List.nil_append, List.length_cons, List.length_nil, List.replicate_succ, List.replicate_zero, List.getElem?_cons_zero, List.getElem?_cons_succ, List.set_cons_zero, List.set_cons_succ, Nat.zero_add, Nat.reduceAdd, Nat.reduceSub, dAdd, dSub, dMul, dDiv, dMod, dNeg, dCmp, dLt, dLe, dGt, dGe, dEq, dNe, dEq?, dIsN, dNotN, dIsi, isTy, dLen, dIx, dList, dRev, dInt, dMax2, dMin2, decide_eq_true_eq, if_true, if_false, Bool.not_true, Bool.not_false, Bool.false_eq_true, reduceIte, Int.reduceLT, Int.reduceLE, Int.reduceEq, Int.reduceNeg, String.reduceEq, hlim, c4, decide_false]) ?_
            simp only [fnD, gNx, gSeq, gSet, gSetO, ownAt, gApp, gRev, gPut, frz, gFrz, gRet, gExpr, gIf, gExc, asL, eVar, eC, eOp, eUn, toB, tB, tAndB, tOrB, tNotB, eAnd, eOr, eNot, eChain, aNil, aCons, eTup, oLst, eO, eCall, oUn, oSl, rNone, rSome, toI, dCut, eLenO, eIxO, sBind_ok, sBind_exc, sBind_stk, Res.bind_ok, Res.bind_exc, Res.bind_stk, SRes.thn_nx, SRes.thn_rt, SRes.thn_exc, SRes.thn_stk, List.map_cons, List.map_nil, List.cons_append, List.nil_append, List.length_cons, List.length_nil, List.replicate_succ, List.replicate_zero, List.getElem?_cons_zero, List.getElem?_cons_succ, List.set_cons_zero, List.set_cons_succ, Nat.zero_add, Nat.reduceAdd, Nat.reduceSub, dAdd, dSub, dMul, dDiv, dMod, dNeg, dCmp, dLt, dLe, dGt, dGe, dEq, dNe, dEq?, dIsN, dNotN, dIsi, isTy, dLen, dIx, dList, dRev, dInt, dMax2, dMin2, decide_eq_true_eq, if_true, if_false, Bool.not_true, Bool.not_false, Bool.false_eq_true, reduceIte, Int.reduceLT, Int.reduceLE, Int.reduceEq, Int.reduceNeg, String.reduceEq, mulOk_two, c4, decide_false, Bool.and_true]
/-- the loop of read_code -/
theorem loopRC {bs : List Int} {fl : Bool} {m : Int} {p w : Nat} (hb : Bts01 bs) : ∀ (j k : Nat) (n : Int) (t : Bool) (a b c : Slt), k + j = w → n ≤ m / 2 ^ j → (t = true ↔ n = m / 2 ^ j) →
    match rc bs fl m j (p + k) n with
    | .rd n' q => ∃ t' a' b' c', forL (fun (k : Nat) ρ => bodyRC (ρ.set 8 (.v (.int k)))) (List.range' k j) [.v (.lst (dI bs)), .v (.int p), .v (.int w), .v (.int m), .v (.bl fl), .v (.lst (dI (wr m w))), .v (.int n), .v (.bl t), a, b, c] =
        .nx [.v (.lst (dI bs)), .v (.int p), .v (.int w), .v (.int m), .v (.bl fl), .v (.lst (dI (wr m w))), .v (.int n'), .v (.bl t'), a', b', c'] ∧ n' ≤ m
    | o => forL (fun (k : Nat) ρ => bodyRC (ρ.set 8 (.v (.int k)))) (List.range' k j) [.v (.lst (dI bs)), .v (.int p), .v (.int w), .v (.int m), .v (.bl fl), .v (.lst (dI (wr m w))), .v (.int n), .v (.bl t), a, b, c] = .rt o.enc := by
  intro j
  induction j with
  | zero =>
    intro k n t a b c hk hn ht
    simp only [rc, List.range'_zero, forL]
    exact ⟨t, a, b, c, rfl, by simpa using hn⟩
  | succ j ih =>
    intro k n t a b c hk hn ht
    rw [List.range'_succ]
    simp only [forL]
    have T := turnRC (fl := fl) (m := m) (p := p) (n := n) (t := t) a b c hb hk hn ht
    have T' : bodyRC ([.v (.lst (dI bs)), .v (.int p), .v (.int w), .v (.int m), .v (.bl fl), .v (.lst (dI (wr m w))), .v (.int n), .v (.bl t), a, b, c].set 8 (.v (.int k))) = _ := T
    rw [T']
    unfold rc
    by_cases c1 : bs.length ≤ p + k ∧ fl = false
    · rw [if_pos c1, if_pos c1]; rfl
    · rw [if_neg c1, if_neg c1]
      by_cases c2 : n * 2 + bs.getD (p + k) 0 > m / 2 ^ j
      · rw [if_pos c2, if_pos c2]; rfl
      · rw [if_neg c2, if_neg c2]
        simp only [SRes.thn_nx]
        have hB := hb.get (p + k)
        have hh := half m j
        refine ih (k + 1) _ _ _ _ _ (by omega) (by omega) ?_
        generalize bs.getD (p + k) 0 = B at *
        generalize m / 2 ^ j = Mj at *
        generalize m / 2 ^ (j + 1) = Mk at *
        rw [Bool.and_eq_true, Bool.not_eq_true', decide_eq_false_iff_not, ht]
        omega
theorem read_code_eq {p_b : List D → Res D} {bs : List Int} {fl : Bool} {m : Int} {p w : Nat} (hp : p_b [.int m, .int w] = .ok (.lst (dI (wr m w)))) (hb : Bts01 bs) (hw : w ≤ 16777216) (h0 : 0 ≤ m) (h1 : m < 2 ^ w) :
    S_read_code p_b [.lst (dI bs), .int p, .int w, .int m, .bl fl] = .ok (rc bs fl m w p 0).enc := by
  have e0 : m / 2 ^ w = 0 := Int.ediv_eq_zero_of_lt h0 h1
  have L := loopRC (fl := fl) (m := m) (p := p) (w := w) hb w 0 0 true .un .un .un (by omega) (by omega) ⟨fun _ => e0.symm, fun _ => rfl⟩
  have F : ∀ r, forL (fun (k : Nat) ρ => bodyRC (ρ.set 8 (.v (.int k)))) (List.range' 0 w) [.v (.lst (dI bs)), .v (.int p), .v (.int w), .v (.int m), .v (.bl fl), .v (.lst (dI (wr m w))), .v (.int 0), .v (.bl true), .un, .un, .un] = r →
      gForR 8 (eVar 2) bodyRC [.v (.lst (dI bs)), .v (.int p), .v (.int w), .v (.int m), .v (.bl fl), .v (.lst (dI (wr m w))), .v (.int 0), .v (.bl true), .un, .un, .un] = r := fun r h => by
    unfold gForR
    have e : (eVar 2 [.v (.lst (dI bs)), .v (.int p), .v (.int w), .v (.int m), .v (.bl fl), .v (.lst (dI (wr m w))), .v (.int 0), .v (.bl true), .un, .un, .un] : Res D) = .ok (.int w) := rfl
    rw [e]
    simp only [Res.bind_ok, asN, rngOk_nat hw, if_true, sBind_ok, Int.toNat_natCast]
    rw [List.range_eq_range']
    exact h
  refine fnD_rt (seq_nx (ρ' := [.v (.lst (dI bs)), .v (.int p), .v (.int w), .v (.int m), .v (.bl fl), .v (.lst (dI (wr m w))), .un, .un, .un, .un, .un]) (by simp only [fnD, gNx, gSeq, gSet, gSetO, ownAt, gApp, gRev, gPut, frz, gFrz, gRet, gExpr, gIf, gExc, asL, eVar, eC, eOp, eUn, toB, tB, tAndB, tOrB, tNotB, eAnd, eOr, eNot, eChain, aNil, aCons, eTup, oLst, eO, eCall, oUn, oSl, rNone, rSome, toI, dCut, eLenO, eIxO, sBind_ok, sBind_exc, sBind_stk, Res.bind_ok, Res.bind_exc, Res.bind_stk, SRes.thn_nx, SRes.thn_rt, SRes.thn_exc, SRes.thn_stk, List.map_cons, List.map_nil, List.cons_append, List.nil_append, List.length_cons, List.length_nil, List.replicate_succ, List.replicate_zero, List.getElem?_cons_zero, List.getElem?_cons_succ, List.set_cons_zero, List.set_cons_succ, Nat.zero_add, Nat.reduceAdd, Nat.reduceSub, dAdd, dSub, dMul, dDiv, dMod, dNeg, dCmp, dLt, dLe, dGt, dGe, dEq, dNe, dEq?, dIsN, dNotN, dIsi, isTy, dLen, dIx, dList, dRev, dInt, dMax2, dMin2, decide_eq_true_eq, if_true, if_false, Bool.not_true, Bool.not_false, Bool.false_eq_true, reduceIte, Int.reduceLT, Int.reduceLE, Int.reduceEq, Int.reduceNeg, String.reduceEq, hp]) (seq_nx rfl (seq_nx rfl ?_)))
  rw [Nat.add_zero] at L
  cases e : rc bs fl m w p 0 with
  | rd n' q =>
    rw [e] at L
    obtain ⟨t', a', b', c', L, _⟩ := L
    have hq := rc_place e
    have f3 : fits 3 = true := fits_num
    refine seq_nx (F _ L) ?_
    have hc : (p : Int) + w = ((q : Nat) : Int) := by omega
    simp only [fnD, gNx, gSeq, gSet, gSetO, ownAt, gApp, gRev, gPut, frz, gFrz, gRet, gExpr, gIf, gExc, asL, eVar, eC, eOp, eUn, toB, tB, tAndB, tOrB, tNotB, eAnd, eOr, eNot, eChain, aNil, aCons, eTup, oLst, eO, eCall, oUn, oSl, rNone, rSome, toI, dCut, eLenO, eIxO, sBind_ok, sBind_exc, sBind_stk, Res.bind_ok, Res.bind_exc, Res.bind_stk, SRes.thn_nx, SRes.thn_rt, SRes.thn_exc, SRes.thn_stk, List.map_cons, List.map_nil, List.cons_append, List.nil_append, List.length_cons, List.length_nil, List.replicate_succ, List.replicate_zero, List.getElem?_cons_zero, List.getElem?_cons_succ, List.set_cons_zero, List.set_cons_succ, Nat.zero_add, Nat.reduceAdd, Nat.reduceSub, dAdd, dSub, dMul, dDiv, dMod, dNeg, dCmp, dLt, dLe, dGt, dGe, dEq, dNe, dEq?, dIsN, dNotN, dIsi, isTy, dLen, dIx, dList, dRev, dInt, dMax2, dMin2, decide_eq_true_eq, if_true, if_false, Bool.not_true, Bool.not_false, Bool.false_eq_true, reduceIte, Int.reduceLT, Int.reduceLE, Int.reduceEq, Int.reduceNeg, String.reduceEq, f3, hc]
    rfl
  | sh q =>
    rw [e] at L
    exact seq_rt (F _ L)
  | wg q =>
    rw [e] at L
    exact seq_rt (F _ L)
end Pu

namespace Pu
open PySem L2
def bodyLC (p__law_room : List D → Res D) : Rho → SRes := (gSeq (gIf (tB (eOp dGe (eOp dAdd (eVar 1) (eVar 5)) (eUn dLen (eVar 0)))) (gRet (eTup (aCons (eC (.str "short")) (aCons (eUn dLen (eVar 0)) aNil)))) gNx)
  (gSeq (gSet 4 (eOp dAdd (eOp dMul (eVar 4) (eC (.int 2))) (eOp dIx (eVar 0) (eOp dAdd (eVar 1) (eVar 5)))))
  (gIf (tB (eOp dGt (eOp dMul (eVar 4) (eCall p__law_room (aCons (eOp dSub (eOp dSub (eVar 2) (eC (.int 1))) (eVar 5)) aNil))) (eVar 3))) (gRet (eTup (aCons (eC (.str "wrong")) (aCons (eOp dAdd (eVar 1) (eVar 5)) aNil)))) gNx)))
theorem pow_le64 {j : Nat} (h : j ≤ 63) : (2 ^ j : Int).natAbs ≤ 18446744073709551615 := by
  have e : (2 ^ j : Int) = ((2 ^ j : Nat) : Int) := by simp
  rw [e, Int.natAbs_natCast]
  have := Nat.pow_le_pow_right (show 0 < 2 by omega) h
  omega
theorem gt_pow {n m : Int} {j : Nat} : m < n * 2 ^ j ↔ n > m / 2 ^ j := by
  constructor
  · intro h; exact (Int.ediv_lt_iff_lt_mul (two_pos j)).mpr h
  · intro h; exact (Int.ediv_lt_iff_lt_mul (two_pos j)).mp h
theorem turnLC {p_r : List D → Res D} (hr : ∀ w : Nat, w ≤ 64 → p_r [.int w] = .ok (.int (2 ^ w))) {bs : List Int} {m n : Int} {p w k j : Nat} (hk : k + (j + 1) = w) (hw : w ≤ 64) (hp : p + k ≤ bs.length) (u : Slt) :
    bodyLC p_r [.v (.lst (dI bs)), .v (.int p), .v (.int w), .v (.int m), .v (.int n), .v (.int k)] =
      if bs.length ≤ p + k ∧ false = false then .rt (Co.sh (p + k)).enc else if n * 2 + bs.getD (p + k) 0 > m / 2 ^ j then .rt (Co.wg (p + k)).enc else
        .nx [.v (.lst (dI bs)), .v (.int p), .v (.int w), .v (.int m), .v (.int (n * 2 + bs.getD (p + k) 0)), .v (.int k)] := by
  have hcast : (p : Int) + (k : Int) = ((p + k : Nat) : Int) := by omega
  have f2 : fits 2 = true := fits_num
  unfold bodyLC
  by_cases c1 : bs.length ≤ p + k
  · rw [if_pos ⟨c1, rfl⟩]
    have e : bs.length = p + k := by omega
    refine seq_rt ?_
    simp only [fnD, gNx, gSeq, gSet, gSetO, ownAt, gApp, gRev, gPut, frz, gFrz, gRet, gExpr, gIf, gExc, asL, eVar, eC, eOp, eUn, toB, tB, tAndB, tOrB, tNotB, eAnd, eOr, eNot, eChain, aNil, aCons, eTup, oLst, eO, eCall, oUn, oSl, rNone, rSome, toI, dCut, eLenO, eIxO, sBind_ok, sBind_exc, sBind_stk, Res.bind_ok, Res.bind_exc, Res.bind_stk, SRes.thn_nx, SRes.thn_rt, SRes.thn_exc, SRes.thn_stk, List.map_cons, List.map_nil, List.cons_append, List.nil_append, List.length_cons, List.length_nil, List.replicate_succ, List.replicate_zero, List.getElem?_cons_zero, List.getElem?_cons_succ, List.set_cons_zero, List.set_cons_succ, Nat.zero_add, Nat.reduceAdd, Nat.reduceSub, dAdd, dSub, dMul, dDiv, dMod, dNeg, dCmp, dLt, dLe, dGt, dGe, dEq, dNe, dEq?, dIsN, dNotN, dIsi, isTy, dLen, dIx, dList, dRev, dInt, dMax2, dMin2, decide_eq_true_eq, if_true, if_false, Bool.not_true, Bool.not_false, Bool.false_eq_true, reduceIte, Int.reduceLT, Int.reduceLE, Int.reduceEq, Int.reduceNeg, String.reduceEq, dI_len, hcast, e, Int.le_refl, decide_true, f2]
    rfl
  · rw [if_neg (fun z => c1 z.1)]
    have c1' : ¬ (bs.length : Int) ≤ ((p + k : Nat) : Int) := by omega
    have e : dAt (dI bs) ((p + k : Nat) : Int) = .ok (.int bs[p + k]) := dAt_dI rfl (List.getElem?_eq_getElem (by omega))
    have eg : bs.getD (p + k) 0 = bs[p + k] := by rw [List.getD_eq_getElem?_getD, List.getElem?_eq_getElem (by omega)]; rfl
    rw [eg]
    have ej : (w : Int) - 1 - (k : Int) = ((j : Nat) : Int) := by omega
    refine seq_nx (ρ' := [.v (.lst (dI bs)), .v (.int p), .v (.int w), .v (.int m), .v (.int n), .v (.int k)]) (by simp only [fnD, gNx, gSeq, gSet, gSetO, ownAt, gApp, gRev, gPut, frz, gFrz, gRet, gExpr, gIf, gExc, asL, eVar, eC, eOp, eUn, toB, tB, tAndB, tOrB, tNotB, eAnd, eOr, eNot, eChain, aNil, aCons, eTup, oLst, eO, eCall, oUn, oSl, rNone, rSome, toI, dCut, eLenO, eIxO, sBind_ok, sBind_exc, sBind_stk, Res.bind_ok, Res.bind_exc, Res.bind_stk, SRes.thn_nx, SRes.thn_rt, SRes.thn_exc, SRes.thn_stk, List.map_cons, List.map_nil, List.cons_append, List.nil_append, List.length_cons, List.length_nil, List.replicate_succ, List.replicate_zero, List.getElem?_cons_zero, List.getElem?_cons_succ, List.set_cons_zero, List.set_cons_succ, Nat.zero_add, Nat.reduceAdd, Nat.reduceSub, dAdd, dSub, dMul, dDiv, dMod, dNeg, dCmp, dLt, dLe, dGt, dGe, dEq, dNe, dEq?, dIsN, dNotN, dIsi, isTy, dLen, dIx, dList, dRev, dInt, dMax2, dMin2, decide_eq_true_eq, if_true, if_false, Bool.not_true, Bool.not_false, Bool.false_eq_true, reduceIte, Int.reduceLT, Int.reduceLE, Int.reduceEq, Int.reduceNeg, String.reduceEq, dI_len, hcast, c1', decide_false]) (seq_nx (ρ' := [.v (.lst (dI bs)), .v (.int p), .v (.int w), .v (.int m), .v (.int (n * 2 + bs[p + k])), .v (.int k)]) (by simp only [fnD, gNx, gSeq, gSet, gSetO, ownAt, gApp, gRev, gPut, frz, gFrz, gRet, gExpr, gIf, gExc, asL, eVar, eC, eOp, eUn, toB, tB, tAndB, tOrB, tNotB, eAnd, eOr, eNot, eChain, aNil, aCons, eTup, oLst, eO, eCall, oUn, oSl, rNone, rSome, toI, dCut, eLenO, eIxO, sBind_ok, sBind_exc, sBind_stk, Res.bind_ok, Res.bind_exc, Res.bind_stk, SRes.thn_nx, SRes.thn_rt, SRes.thn_exc, SRes.thn_stk, List.map_cons, List.map_nil, List.cons_append, List.nil_append, List.length_cons, List.length_nil, List.replicate_succ, List.replicate_zero, List.getElem?_cons_zero, List.getElem?_cons_succ, List.set_cons_zero, List.set_cons_succ, Nat.zero_add, Nat.reduceAdd, Nat.reduceSub, dAdd, dSub, dMul, dDiv, dMod, dNeg, dCmp, dLt, dLe, dGt, dGe, dEq, dNe, dEq?, dIsN, dNotN, dIsi, isTy, dLen, dIx, dList, dRev, dInt, dMax2, dMin2, decide_eq_true_eq, if_true, if_false, Bool.not_true, Bool.not_false, Bool.false_eq_true, reduceIte, Int.reduceLT, Int.reduceLE, Int.reduceEq, Int.reduceNeg, String.reduceEq, hcast, e, mulOk_two]) ?_)
    have mo : mulOk (n * 2 + bs[p + k]) (2 ^ j) = true := mulOk_r (pow_le64 (by omega))
    have hrj := hr j (by omega)
    by_cases c2 : n * 2 + bs[p + k] > m / 2 ^ j
    · rw [if_pos c2]
      have c2' : m < (n * 2 + bs[p + k]) * 2 ^ j := gt_pow.mpr c2
      simp only [fnD, gNx, gSeq, gSet, gSetO, ownAt, gApp, gRev, gPut, frz, gFrz, gRet, gExpr, gIf, gExc, asL, eVar, eC, eOp, eUn, toB, tB, tAndB, tOrB, tNotB, eAnd, eOr, eNot, eChain, aNil, aCons, eTup, oLst, eO, eCall, oUn, oSl, rNone, rSome, toI, dCut, eLenO, eIxO, sBind_ok, sBind_exc, sBind_stk, Res.bind_ok, Res.bind_exc, Res.bind_stk, SRes.thn_nx, SRes.thn_rt, SRes.thn_exc, SRes.thn_stk, List.map_cons, List.map_nil, List.cons_append, List.nil_append, List.length_cons, List.length_nil, List.replicate_succ, List.replicate_zero, List.getElem?_cons_zero, List.getElem?_cons_succ, List.set_cons_zero, List.set_cons_succ, Nat.zero_add, Nat.reduceAdd, Nat.reduceSub, dAdd, dSub, dMul, dDiv, dMod, dNeg, dCmp, dLt, dLe, dGt, dGe, dEq, dNe, dEq?, dIsN, dNotN, dIsi, isTy, dLen, dIx, dList, dRev, dInt, dMax2, dMin2, decide_eq_true_eq, if_true, if_false, Bool.not_true, Bool.not_false, Bool.false_eq_true, reduceIte, Int.reduceLT, Int.reduceLE, Int.reduceEq, Int.reduceNeg, String.reduceEq, ej, hrj, mo, c2', decide_true, f2, hcast]
      rfl
    · rw [if_neg c2]
      have c2' : ¬ m < (n * 2 + bs[p + k]) * 2 ^ j := fun z => c2 (gt_pow.mp z)
      simp only [fnD, gNx, gSeq, gSet, gSetO, ownAt, gApp, gRev, gPut, frz, gFrz, gRet, gExpr, gIf, gExc, asL, eVar, eC, eOp, eUn, toB, tB, tAndB, tOrB, tNotB, eAnd, eOr, eNot, eChain, aNil, aCons, eTup, oLst, eO, eCall, oUn, oSl, rNone, rSome, toI, dCut, eLenO, eIxO, sBind_ok, sBind_exc, sBind_stk, Res.bind_ok, Res.bind_exc, Res.bind_stk, SRes.thn_nx, SRes.thn_rt, SRes.thn_exc, SRes.thn_stk, List.map_cons, List.map_nil, List.cons_append, List.nil_append, List.length_cons, List.length_nil, List.replicate_succ, List.replicate_zero, List.getElem?_cons_zero, List.getElem?_cons_succ, List.set_cons_zero, List.set_cons_succ, Nat.zero_add, Nat.reduceAdd, Nat.reduceSub, dAdd, dSub, dMul, dDiv, dMod, dNeg, dCmp, dLt, dLe, dGt, dGe, dEq, dNe, dEq?, dIsN, dNotN, dIsi, isTy, dLen, dIx, dList, dRev, dInt, dMax2, dMin2, decide_eq_true_eq, if_true, if_false, Bool.not_true, Bool.not_false, Bool.false_eq_true, reduceIte, Int.reduceLT, Int.reduceLE, Int.reduceEq, Int.reduceNeg, String.reduceEq, ej, hrj, mo, c2', decide_false, hcast]
theorem loopLC {p_r : List D → Res D} (hr : ∀ w : Nat, w ≤ 64 → p_r [.int w] = .ok (.int (2 ^ w))) {bs : List Int} {m : Int} {p w : Nat} (hw : w ≤ 64) : ∀ (j k : Nat) (n : Int) (a : Slt), k + j = w → p + k ≤ bs.length →
    match rc bs false m j (p + k) n with
    | .rd n' q => ∃ a', forL (fun (k : Nat) ρ => bodyLC p_r (ρ.set 5 (.v (.int k)))) (List.range' k j) [.v (.lst (dI bs)), .v (.int p), .v (.int w), .v (.int m), .v (.int n), a] =
        .nx [.v (.lst (dI bs)), .v (.int p), .v (.int w), .v (.int m), .v (.int n'), a']
    | o => forL (fun (k : Nat) ρ => bodyLC p_r (ρ.set 5 (.v (.int k)))) (List.range' k j) [.v (.lst (dI bs)), .v (.int p), .v (.int w), .v (.int m), .v (.int n), a] = .rt o.enc := by
  intro j
  induction j with
  | zero =>
    intro k n a hk hp
    simp only [rc, List.range'_zero, forL]
    exact ⟨a, rfl⟩
  | succ j ih =>
    intro k n a hk hp
    rw [List.range'_succ]
    simp only [forL]
    have T := turnLC hr (m := m) (n := n) hk hw hp a
    have T' : bodyLC p_r ([.v (.lst (dI bs)), .v (.int p), .v (.int w), .v (.int m), .v (.int n), a].set 5 (.v (.int k))) = _ := T
    rw [T']
    unfold rc
    by_cases c1 : bs.length ≤ p + k ∧ false = false
    · rw [if_pos c1, if_pos c1]; rfl
    · rw [if_neg c1, if_neg c1]
      by_cases c2 : n * 2 + bs.getD (p + k) 0 > m / 2 ^ j
      · rw [if_pos c2, if_pos c2]; rfl
      · rw [if_neg c2, if_neg c2]
        simp only [SRes.thn_nx]
        have c1' : ¬ bs.length ≤ p + k := fun z => c1 ⟨z, rfl⟩
        exact ih (k + 1) _ _ (by omega) (by omega)
theorem law_code_eq {p_r : List D → Res D} (hr : ∀ w : Nat, w ≤ 64 → p_r [.int w] = .ok (.int (2 ^ w))) {bs : List Int} {m : Int} {p w : Nat} (hw : w ≤ 64) (hp : p ≤ bs.length) :
    S_law_code p_r [.lst (dI bs), .int p, .int w, .int m] = .ok (rc bs false m w p 0).enc := by
  have L := loopLC hr (bs := bs) (m := m) (p := p) hw w 0 0 .un (by omega) (by omega)
  have F : ∀ r, forL (fun (k : Nat) ρ => bodyLC p_r (ρ.set 5 (.v (.int k)))) (List.range' 0 w) [.v (.lst (dI bs)), .v (.int p), .v (.int w), .v (.int m), .v (.int 0), .un] = r →
      gForR 5 (eVar 2) (bodyLC p_r) [.v (.lst (dI bs)), .v (.int p), .v (.int w), .v (.int m), .v (.int 0), .un] = r := fun r h => by
    unfold gForR
    have e : (eVar 2 [.v (.lst (dI bs)), .v (.int p), .v (.int w), .v (.int m), .v (.int 0), .un] : Res D) = .ok (.int w) := rfl
    rw [e]
    simp only [Res.bind_ok, asN, rngOk_nat (show w ≤ 16777216 by omega), if_true, sBind_ok, Int.toNat_natCast]
    rw [List.range_eq_range']
    exact h
  refine fnD_rt (seq_nx rfl ?_)
  rw [Nat.add_zero] at L
  cases e : rc bs false m w p 0 with
  | rd n' q =>
    rw [e] at L
    obtain ⟨a', L⟩ := L
    have hq := rc_place e
    have f3 : fits 3 = true := fits_num
    refine seq_nx (F _ L) ?_
    have hc : (p : Int) + w = ((q : Nat) : Int) := by omega
    simp only [fnD, gNx, gSeq, gSet, gSetO, ownAt, gApp, gRev, gPut, frz, gFrz, gRet, gExpr, gIf, gExc, asL, eVar, eC, eOp, eUn, toB, tB, tAndB, tOrB, tNotB, eAnd, eOr, eNot, eChain, aNil, aCons, eTup, oLst, eO, eCall, oUn, oSl, rNone, rSome, toI, dCut, eLenO, eIxO, sBind_ok, sBind_exc, sBind_stk, Res.bind_ok, Res.bind_exc, Res.bind_stk, SRes.thn_nx, SRes.thn_rt, SRes.thn_exc, SRes.thn_stk, List.map_cons, List.map_nil, List.cons_append, List.nil_append, List.length_cons, List.length_nil, List.replicate_succ, List.replicate_zero, List.getElem?_cons_zero, List.getElem?_cons_succ, List.set_cons_zero, List.set_cons_succ, Nat.zero_add, Nat.reduceAdd, Nat.reduceSub, dAdd, dSub, dMul, dDiv, dMod, dNeg, dCmp, dLt, dLe, dGt, dGe, dEq, dNe, dEq?, dIsN, dNotN, dIsi, isTy, dLen, dIx, dList, dRev, dInt, dMax2, dMin2, decide_eq_true_eq, if_true, if_false, Bool.not_true, Bool.not_false, Bool.false_eq_true, reduceIte, Int.reduceLT, Int.reduceLE, Int.reduceEq, Int.reduceNeg, String.reduceEq, f3, hc]
    rfl
  | sh q =>
    rw [e] at L
    exact seq_rt (F _ L)
  | wg q =>
    rw [e] at L
    exact seq_rt (F _ L)
theorem lowB_01 (n : Int) (w : Nat) : ∀ b ∈ lowB n w, b = 0 ∨ b = 1 := by
  induction w generalizing n with
  | zero => intro b h; cases h
  | succ w ih =>
    intro b h
    rw [lowB] at h
    rcases List.mem_cons.mp h with rfl | h
    · omega
    · exact ih _ b h
theorem wr_01 (n : Int) (w : Nat) : Bts01 (wr n w) := fun b h => lowB_01 n w b (List.mem_reverse.mp h)
theorem Bts01.app {a b : List Int} (h1 : Bts01 a) (h2 : Bts01 b) : Bts01 (a ++ b) := fun x h => (List.mem_append.mp h).elim (h1 x) (h2 x)
theorem Bts01.take {a : List Int} (h : Bts01 a) (n : Nat) : Bts01 (a.take n) := fun x hx => h x (List.mem_of_mem_take hx)
theorem Bts01.drop {a : List Int} (h : Bts01 a) (n : Nat) : Bts01 (a.drop n) := fun x hx => h x (List.mem_of_mem_drop hx)
theorem Bts01.nil : Bts01 [] := fun x h => by cases h
theorem okD_dI {l : List Int} (h : l.length ≤ 16777216) : okD (.lst (dI l)) = true := by
  unfold okD
  rw [okDs_dI, dI_len, fits_le h]
  rfl
theorem okD_co (o : Co) : okD o.enc = true := by
  cases o <;> (unfold Co.enc okD okDs okDs okDs; first | rfl | (unfold okDs; rfl))
theorem dep_co (o : Co) : dep o.enc ≤ 2 := by
  cases o <;> (simp only [Co.enc, dep, deps]; omega)
theorem dep_dI (l : List Int) : dep (.lst (dI l)) ≤ 2 := by
  have := deps_dI l
  unfold dep; omega
end Pu

namespace Pu
open PySem L2
def S_law_refused_by_any (p_bits_of : List D → Res D) : List D → Res D := fnD 3 (gSeq (gTryR 2 (clOf [("TooWide", true)]) (fun _ => .bl true) (gExpr (eCall p_bits_of (aCons (eVar 0) (aCons (eVar 1) aNil)))))
  (gRet (eC (.bl false))))
def S_law (p__law_as_a_number p__law_cell_at p__law_room p_bits_of p__law_refused_by_any p__law_alike p__law_written : List D → Res D) : List D → Res D := fnD 9 (gSeq (gIf (tNotB (tB (eCall p__law_as_a_number (aCons (eVar 0) aNil)))) (gRet (eC (.bl false))) gNx)
  (gSeq (gSet 1 (eOp dMod (eCall p__law_cell_at (aCons (eVar 0) (aCons (eC (.int 0)) aNil))) (eC (.int 65))))
  (gSeq (gSet 2 (eCall p__law_room (aCons (eVar 1) aNil)))
  (gSeq (gSet 3 (eOp dMod (eCall p__law_cell_at (aCons (eVar 0) (aCons (eC (.int 2)) aNil))) (eOp dPow (eC (.int 10)) (eC (.int 30)))))
  (gSeq (gSet 4 (eOp dMod (eCall p__law_cell_at (aCons (eVar 0) (aCons (eC (.int 1)) aNil))) (eC (.int 7))))
  (gSeq (gSet 5 (eOp dMod (eCall p__law_cell_at (aCons (eVar 0) (aCons (eC (.int 2)) aNil))) (eVar 2)))
  (gSeq (gIf (tB (eOp dEq (eVar 4) (eC (.int 1)))) (gSet 5 (eOp dSub (eVar 2) (eC (.int 1)))) gNx)
  (gSeq (gIf (tB (eOp dEq (eVar 4) (eC (.int 2)))) (gSet 5 (eVar 2)) gNx)
  (gSeq (gIf (tB (eOp dEq (eVar 4) (eC (.int 3)))) (gSet 5 (eOp dAdd (eVar 2) (eVar 3))) gNx)
  (gSeq (gIf (tB (eOp dEq (eVar 4) (eC (.int 4)))) (gSet 5 (eOp dSub (eUn dNeg (eC (.int 1))) (eVar 3))) gNx)
  (gSeq (gSet 6 (eOp dNotIn (eVar 4) (eTup (aCons (eC (.int 2)) (aCons (eC (.int 3)) (aCons (eC (.int 4)) aNil))))))
  (gSeq (gSet 7 (eC (.bl false)))
  (gSeq (gSet 8 (eC .non))
  (gSeq (gTry (clOf [("TooWide", true)]) (gSet 8 (eCall p_bits_of (aCons (eVar 5) (aCons (eVar 1) aNil)))) (gSet 7 (eC (.bl true))))
  (gSeq (gIf (tNotB (tB (eVar 6))) (gRet (eAnd (eVar 7) (eCall p__law_refused_by_any (aCons (eVar 5) (aCons (eVar 1) aNil))))) gNx)
  (gRet (eAnd (eNot (eVar 7)) (eCall p__law_alike (aCons (eVar 8) (aCons (eCall p__law_written (aCons (eVar 5) (aCons (eVar 1) aNil))) aNil))))))))))))))))))))

theorem powOk_ten (k : Nat) (h : k ≤ 1000 := by decide) : powOk 10 (k : Int) = true := by
  unfold powOk
  rw [Bool.and_eq_true, Bool.and_eq_true, Nat.ble_eq, Nat.ble_eq, decide_eq_true_eq]
  exact ⟨⟨by omega, by omega⟩, by decide⟩
/-- the number that bits are -/
def valF (l : List Int) (s : Int) : Int := l.foldl (fun n b => n * 2 + b) s
theorem val_wr (n : Int) (w : Nat) (h0 : 0 ≤ n) (h1 : n < 2 ^ w) : valF (wr n w) 0 = n := by
  induction w generalizing n with
  | zero => simp only [Int.pow_zero] at h1; unfold wr lowB valF; simp; omega
  | succ w ih =>
    have e : wr n (w + 1) = wr (n / 2) w ++ [n % 2] := by unfold wr; rw [lowB, List.reverse_cons]
    have h2 : (2 : Int) ^ (w + 1) = 2 ^ w * 2 := Int.pow_succ ..
    rw [e]
    unfold valF at ih ⊢
    rw [List.foldl_append, ih (n / 2) (by omega) (by omega)]
    show n / 2 * 2 + n % 2 = n
    omega
theorem number_of_loop : ∀ (l : List Int) (all : List D) (s : Int) (u : Slt), ∃ u', forL (fun (d : D) ρ => gSet 1 (eOp dAdd (eOp dMul (eVar 1) (eC (.int 2))) (eVar 2)) (ρ.set 2 (.v d))) (dI l) [.v (.lst all), .v (.int s), u] = .nx [.v (.lst all), .v (.int (valF l s)), u']
  | [], all, s, u => ⟨u, rfl⟩
  | a :: l, all, s, u => by
    obtain ⟨u', h⟩ := number_of_loop l all (s * 2 + a) (.v (.int a))
    refine ⟨u', ?_⟩
    show forL _ (D.int a :: dI l) _ = _
    simp only [forL]
    have e : gSet 1 (eOp dAdd (eOp dMul (eVar 1) (eC (.int 2))) (eVar 2)) ([Slt.v (.lst all), Slt.v (.int s), u].set 2 (.v (.int a))) = .nx [.v (.lst all), .v (.int (s * 2 + a)), .v (.int a)] := by
      simp only [fnD, gNx, gSeq, gSet, gSetO, ownAt, gApp, gRev, gPut, frz, gFrz, gRet, gExpr, gIf, gExc, asL, eVar, eC, eOp, eUn, toB, tB, tAndB, tOrB, tNotB, eAnd, eOr, eNot, eChain, aNil, aCons, eTup, oLst, eO, eCall, oUn, oSl, rNone, rSome, toI, dCut, eLenO, eIxO, sBind_ok, sBind_exc, sBind_stk, Res.bind_ok, Res.bind_exc, Res.bind_stk, SRes.thn_nx, SRes.thn_rt, SRes.thn_exc, SRes.thn_stk, List.map_cons, List.map_nil, List.cons_append, List.nil_append, List.length_cons, List.length_nil, List.replicate_succ, List.replicate_zero, List.getElem?_cons_zero, List.getElem?_cons_succ, List.set_cons_zero, List.set_cons_succ, Nat.zero_add, Nat.reduceAdd, Nat.reduceSub, dAdd, dSub, dMul, dDiv, dMod, dNeg, dCmp, dLt, dLe, dGt, dGe, dEq, dNe, dEq?, dIsN, dNotN, dIsi, isTy, dLen, dIx, dList, dRev, dInt, dMax2, dMin2, decide_eq_true_eq, if_true, if_false, Bool.not_true, Bool.not_false, Bool.false_eq_true, reduceIte, Int.reduceLT, Int.reduceLE, Int.reduceEq, Int.reduceNeg, String.reduceEq, mulOk_two]
    rw [e]
    exact h
theorem number_of_eq (l : List Int) : S_number_of [.lst (dI l)] = .ok (.int (valF l 0)) := by
  obtain ⟨u', h⟩ := number_of_loop l (dI l) 0 .un
  refine fnD_rt (seq_nx rfl (seq_nx (ρ' := [.v (.lst (dI l)), .v (.int (valF l 0)), u']) ?_ rfl))
  exact h
theorem k01_num {pc pr pw pn pal pwh : List D → Res D} {ns : List Int} (hC : ∀ k : Int, 0 ≤ k → pc [.scr ns, .int k] = .ok (.int (ns.getD k.toNat 0)))
    (hW : ∀ (n : Int) (w : Nat), w ≤ 1000 → pw [.int n, .int w] = .ok (.lst (dI (wr n w)))) (hR : ∀ w : Nat, w ≤ 1000 → pr [.int w] = .ok (.int (2 ^ w)))
    (hn : ∀ l : List Int, pn [.lst (dI l)] = .ok (.int (valF l 0))) (ha : ∀ d : D, okD d = true → dep d ≤ 3 → pal [d, d] = .ok (.bl true)) (hwh : ∀ n : Int, pwh [.int n] = .ok (.bl true)) :
    S_law_as_a_number pc pr pw pn pal pwh [.scr ns] = .ok (.bl true) := by
  have h3 := hC 3 (by omega)
  have h4 := hC 4 (by omega)
  have h5 := hC 5 (by omega)
  generalize ns.getD (3 : Int).toNat 0 = c3 at h3
  generalize ns.getD (4 : Int).toNat 0 = c4 at h4
  generalize ns.getD (5 : Int).toNat 0 = c5 at h5
  refine fnD_rt ?_
  obtain ⟨L, hL, eL⟩ : ∃ L : Nat, L ≤ 600 ∧ ∀ g : Rho → SRes, gSeq (gSet 1 (eOp dMod (eCall pc (aCons (eVar 0) (aCons (eC (.int 3)) aNil))) (eC (.int 70)))) (gSeq (gIf (tB (eOp dEq (eOp dMod (eCall pc (aCons (eVar 0) (aCons (eC (.int 5)) aNil))) (eC (.int 4))) (eC (.int 3)))) (gSet 1 (eOp dAdd (eC (.int 70)) (eOp dMod (eCall pc (aCons (eVar 0) (aCons (eC (.int 3)) aNil))) (eC (.int 531))))) gNx) g)
      [.v (.scr ns), .un, .un, .un, .un, .un] = g [.v (.scr ns), .v (.int L), .un, .un, .un, .un] := by
    by_cases c : c5 % 4 = 3
    · obtain ⟨w1, ew1⟩ : ∃ w : Nat, 70 + c3 % 531 = (w : Int) := ⟨(70 + c3 % 531).toNat, by omega⟩
      refine ⟨w1, by omega, fun g => seq_nx (by simp only [fnD, gNx, gSeq, gSet, gSetO, ownAt, gApp, gRev, gPut, frz, gFrz, gRet, gExpr, gIf, gExc, asL, eVar, eC, eOp, eUn, toB, tB, tAndB, tOrB, tNotB, eAnd, eOr, eNot, eChain, aNil, aCons, eTup, oLst, eO, eCall, oUn, oSl, rNone, rSome, toI, dCut, eLenO, eIxO, sBind_ok, sBind_exc, sBind_stk, Res.bind_ok, Res.bind_exc, Res.bind_stk, SRes.thn_nx, SRes.thn_rt, SRes.thn_exc, SRes.thn_stk, List.map_cons, List.map_nil, List.cons_append, List.nil_append, List.length_cons, List.length_nil, List.replicate_succ, List.replicate_zero, List.getElem?_cons_zero, List.getElem?_cons_succ, List.set_cons_zero, List.set_cons_succ, Nat.zero_add, Nat.reduceAdd, Nat.reduceSub, dAdd, dSub, dMul, dDiv, dMod, dNeg, dCmp, dLt, dLe, dGt, dGe, dEq, dNe, dEq?, dIsN, dNotN, dIsi, isTy, dLen, dIx, dList, dRev, dInt, dMax2, dMin2, decide_eq_true_eq, if_true, if_false, Bool.not_true, Bool.not_false, Bool.false_eq_true, reduceIte, Int.reduceLT, Int.reduceLE, Int.reduceEq, Int.reduceNeg, String.reduceEq, h3] <;> rfl) (seq_nx ?_ rfl)⟩
      simp only [fnD, gNx, gSeq, gSet, gSetO, ownAt, gApp, gRev, gPut, frz, gFrz, gRet, gExpr, gIf, gExc, asL, eVar, eC, eOp, eUn, toB, tB, tAndB, tOrB, tNotB, eAnd, eOr, eNot, eChain, aNil, aCons, eTup, oLst, eO, eCall, oUn, oSl, rNone, rSome, toI, dCut, eLenO, eIxO, sBind_ok, sBind_exc, sBind_stk, Res.bind_ok, Res.bind_exc, Res.bind_stk, SRes.thn_nx, SRes.thn_rt, SRes.thn_exc, SRes.thn_stk, List.map_cons, List.map_nil, List.cons_append, List.nil_append, List.length_cons, List.length_nil, List.replicate_succ, List.replicate_zero, List.getElem?_cons_zero, List.getElem?_cons_succ, List.set_cons_zero, List.set_cons_succ, Nat.zero_add, Nat.reduceAdd, Nat.reduceSub, dAdd, dSub, dMul, dDiv, dMod, dNeg, dCmp, dLt, dLe, dGt, dGe, dEq, dNe, dEq?, dIsN, dNotN, dIsi, isTy, dLen, dIx, dList, dRev, dInt, dMax2, dMin2, decide_eq_true_eq, if_true, if_false, Bool.not_true, Bool.not_false, Bool.false_eq_true, reduceIte, Int.reduceLT, Int.reduceLE, Int.reduceEq, Int.reduceNeg, String.reduceEq, h3, h5, c, decide_true, ew1] <;> rfl
    · obtain ⟨w1, ew1⟩ : ∃ w : Nat, c3 % 70 = (w : Int) := ⟨(c3 % 70).toNat, by omega⟩
      refine ⟨w1, by omega, fun g => seq_nx (by simp only [fnD, gNx, gSeq, gSet, gSetO, ownAt, gApp, gRev, gPut, frz, gFrz, gRet, gExpr, gIf, gExc, asL, eVar, eC, eOp, eUn, toB, tB, tAndB, tOrB, tNotB, eAnd, eOr, eNot, eChain, aNil, aCons, eTup, oLst, eO, eCall, oUn, oSl, rNone, rSome, toI, dCut, eLenO, eIxO, sBind_ok, sBind_exc, sBind_stk, Res.bind_ok, Res.bind_exc, Res.bind_stk, SRes.thn_nx, SRes.thn_rt, SRes.thn_exc, SRes.thn_stk, List.map_cons, List.map_nil, List.cons_append, List.nil_append, List.length_cons, List.length_nil, List.replicate_succ, List.replicate_zero, List.getElem?_cons_zero, List.getElem?_cons_succ, List.set_cons_zero, List.set_cons_succ, Nat.zero_add, Nat.reduceAdd, Nat.reduceSub, dAdd, dSub, dMul, dDiv, dMod, dNeg, dCmp, dLt, dLe, dGt, dGe, dEq, dNe, dEq?, dIsN, dNotN, dIsi, isTy, dLen, dIx, dList, dRev, dInt, dMax2, dMin2, decide_eq_true_eq, if_true, if_false, Bool.not_true, Bool.not_false, Bool.false_eq_true, reduceIte, Int.reduceLT, Int.reduceLE, Int.reduceEq, Int.reduceNeg, String.reduceEq, h3] <;> rfl) (seq_nx ?_ rfl)⟩
      simp only [fnD, gNx, gSeq, gSet, gSetO, ownAt, gApp, gRev, gPut, frz, gFrz, gRet, gExpr, gIf, gExc, asL, eVar, eC, eOp, eUn, toB, tB, tAndB, tOrB, tNotB, eAnd, eOr, eNot, eChain, aNil, aCons, eTup, oLst, eO, eCall, oUn, oSl, rNone, rSome, toI, dCut, eLenO, eIxO, sBind_ok, sBind_exc, sBind_stk, Res.bind_ok, Res.bind_exc, Res.bind_stk, SRes.thn_nx, SRes.thn_rt, SRes.thn_exc, SRes.thn_stk, List.map_cons, List.map_nil, List.cons_append, List.nil_append, List.length_cons, List.length_nil, List.replicate_succ, List.replicate_zero, List.getElem?_cons_zero, List.getElem?_cons_succ, List.set_cons_zero, List.set_cons_succ, Nat.zero_add, Nat.reduceAdd, Nat.reduceSub, dAdd, dSub, dMul, dDiv, dMod, dNeg, dCmp, dLt, dLe, dGt, dGe, dEq, dNe, dEq?, dIsN, dNotN, dIsi, isTy, dLen, dIx, dList, dRev, dInt, dMax2, dMin2, decide_eq_true_eq, if_true, if_false, Bool.not_true, Bool.not_false, Bool.false_eq_true, reduceIte, Int.reduceLT, Int.reduceLE, Int.reduceEq, Int.reduceNeg, String.reduceEq, h5, c, decide_false, ew1] <;> rfl
  refine (eL _).trans ?_
  have hRL := hR L (by omega)
  have hpos : (0 : Int) < 2 ^ L := two_pos L
  refine seq_nx (ρ' := [.v (.scr ns), .v (.int L), .v (.int (2 ^ L)), .un, .un, .un]) (by simp only [fnD, gNx, gSeq, gSet, gSetO, ownAt, gApp, gRev, gPut, frz, gFrz, gRet, gExpr, gIf, gExc, asL, eVar, eC, eOp, eUn, toB, tB, tAndB, tOrB, tNotB, eAnd, eOr, eNot, eChain, aNil, aCons, eTup, oLst, eO, eCall, oUn, oSl, rNone, rSome, toI, dCut, eLenO, eIxO, sBind_ok, sBind_exc, sBind_stk, Res.bind_ok, Res.bind_exc, Res.bind_stk, SRes.thn_nx, SRes.thn_rt, SRes.thn_exc, SRes.thn_stk, List.map_cons, List.map_nil, List.cons_append, List.nil_append, List.length_cons, List.length_nil, List.replicate_succ, List.replicate_zero, List.getElem?_cons_zero, List.getElem?_cons_succ, List.set_cons_zero, List.set_cons_succ, Nat.zero_add, Nat.reduceAdd, Nat.reduceSub, dAdd, dSub, dMul, dDiv, dMod, dNeg, dCmp, dLt, dLe, dGt, dGe, dEq, dNe, dEq?, dIsN, dNotN, dIsi, isTy, dLen, dIx, dList, dRev, dInt, dMax2, dMin2, decide_eq_true_eq, if_true, if_false, Bool.not_true, Bool.not_false, Bool.false_eq_true, reduceIte, Int.reduceLT, Int.reduceLE, Int.reduceEq, Int.reduceNeg, String.reduceEq, hRL] <;> rfl) ?_
  obtain ⟨n, hn0, hn1, en⟩ : ∃ n : Int, 0 ≤ n ∧ n < 2 ^ L ∧ ∀ g : Rho → SRes, gSeq (gSet 3 (eOp dMod (eCall pc (aCons (eVar 0) (aCons (eC (.int 4)) aNil))) (eVar 2)))
      (gSeq (gIf (tB (eOp dEq (eOp dMod (eCall pc (aCons (eVar 0) (aCons (eC (.int 5)) aNil))) (eC (.int 4))) (eC (.int 1)))) (gSet 3 (eOp dSub (eVar 2) (eC (.int 1)))) gNx)
      (gSeq (gIf (tB (eOp dEq (eOp dMod (eCall pc (aCons (eVar 0) (aCons (eC (.int 5)) aNil))) (eC (.int 4))) (eC (.int 2)))) (gSet 3 (eOp dMod (eCall pc (aCons (eVar 0) (aCons (eC (.int 4)) aNil))) (eOp dAdd (eC (.int 1)) (eOp dDiv (eVar 2) (eC (.int 8)))))) gNx) g))
      [.v (.scr ns), .v (.int L), .v (.int (2 ^ L)), .un, .un, .un] = g [.v (.scr ns), .v (.int L), .v (.int (2 ^ L)), .v (.int n), .un, .un] := by
    have e0 : 0 ≤ c4 % 2 ^ L := Int.emod_nonneg _ (by omega)
    have e1 : c4 % 2 ^ L < 2 ^ L := Int.emod_lt_of_pos _ hpos
    have dv8 : divOk 8 = true := divOk_lt (by omega) (Nat.lt_of_lt_of_le (by decide : (8 : Int).natAbs < 2 ^ 4) (Nat.pow_le_pow_right (by omega) (by omega)))
    have q0 : (0 : Int) < 1 + 2 ^ L / 8 := by omega
    have e2 : 0 ≤ c4 % (1 + 2 ^ L / 8) := Int.emod_nonneg _ (by omega)
    have e3 : c4 % (1 + 2 ^ L / 8) < 1 + 2 ^ L / 8 := Int.emod_lt_of_pos _ q0
    by_cases a1 : c5 % 4 = 1
    · refine ⟨2 ^ L - 1, by omega, by omega, fun g => seq_nx (by simp only [fnD, gNx, gSeq, gSet, gSetO, ownAt, gApp, gRev, gPut, frz, gFrz, gRet, gExpr, gIf, gExc, asL, eVar, eC, eOp, eUn, toB, tB, tAndB, tOrB, tNotB, eAnd, eOr, eNot, eChain, aNil, aCons, eTup, oLst, eO, eCall, oUn, oSl, rNone, rSome, toI, dCut, eLenO, eIxO, sBind_ok, sBind_exc, sBind_stk, Res.bind_ok, Res.bind_exc, Res.bind_stk, SRes.thn_nx, SRes.thn_rt, SRes.thn_exc, SRes.thn_stk, List.map_cons, List.map_nil, List.cons_append, List.nil_append, List.length_cons, List.length_nil, List.replicate_succ, List.replicate_zero, List.getElem?_cons_zero, List.getElem?_cons_succ, List.set_cons_zero, List.set_cons_succ, Nat.zero_add, Nat.reduceAdd, Nat.reduceSub, dAdd, dSub, dMul, dDiv, dMod, dNeg, dCmp, dLt, dLe, dGt, dGe, dEq, dNe, dEq?, dIsN, dNotN, dIsi, isTy, dLen, dIx, dList, dRev, dInt, dMax2, dMin2, decide_eq_true_eq, if_true, if_false, Bool.not_true, Bool.not_false, Bool.false_eq_true, reduceIte, Int.reduceLT, Int.reduceLE, Int.reduceEq, Int.reduceNeg, String.reduceEq, h4, hpos] <;> rfl) (seq_nx (by simp only [fnD, gNx, gSeq, gSet, gSetO, ownAt, gApp, gRev, gPut, frz, gFrz, gRet, gExpr, gIf, gExc, asL, eVar, eC, eOp, eUn, toB, tB, tAndB, tOrB, tNotB, eAnd, eOr, eNot, eChain, aNil, aCons, eTup, oLst, eO, eCall, oUn, oSl, rNone, rSome, toI, dCut, eLenO, eIxO, sBind_ok, sBind_exc, sBind_stk, Res.bind_ok, Res.bind_exc, Res.bind_stk, SRes.thn_nx, SRes.thn_rt, SRes.thn_exc, SRes.thn_stk, List.map_cons, List.map_nil, List.cons_append, List.nil_append, List.length_cons, List.length_nil, List.replicate_succ, List.replicate_zero, List.getElem?_cons_zero, List.getElem?_cons_succ, List.set_cons_zero, List.set_cons_succ, Nat.zero_add, Nat.reduceAdd, Nat.reduceSub, dAdd, dSub, dMul, dDiv, dMod, dNeg, dCmp, dLt, dLe, dGt, dGe, dEq, dNe, dEq?, dIsN, dNotN, dIsi, isTy, dLen, dIx, dList, dRev, dInt, dMax2, dMin2, decide_eq_true_eq, if_true, if_false, Bool.not_true, Bool.not_false, Bool.false_eq_true, reduceIte, Int.reduceLT, Int.reduceLE, Int.reduceEq, Int.reduceNeg, String.reduceEq, h5, a1, decide_true] <;> rfl) (seq_nx (by simp only [fnD, gNx, gSeq, gSet, gSetO, ownAt, gApp, gRev, gPut, frz, gFrz, gRet, gExpr, gIf, gExc, asL, eVar, eC, eOp, eUn, toB, tB, tAndB, tOrB, tNotB, eAnd, eOr, eNot, eChain, aNil, aCons, eTup, oLst, eO, eCall, oUn, oSl, rNone, rSome, toI, dCut, eLenO, eIxO, sBind_ok, sBind_exc, sBind_stk, Res.bind_ok, Res.bind_exc, Res.bind_stk, SRes.thn_nx, SRes.thn_rt, SRes.thn_exc, SRes.thn_stk, List.map_cons, List.map_nil, List.cons_append, List.nil_append, List.length_cons, List.length_nil, List.replicate_succ, List.replicate_zero, List.getElem?_cons_zero, List.getElem?_cons_succ, List.set_cons_zero, List.set_cons_succ, Nat.zero_add, Nat.reduceAdd, Nat.reduceSub, dAdd, dSub, dMul, dDiv, dMod, dNeg, dCmp, dLt, dLe, dGt, dGe, dEq, dNe, dEq?, dIsN, dNotN, dIsi, isTy, dLen, dIx, dList, dRev, dInt, dMax2, dMin2, decide_eq_true_eq, if_true, if_false, Bool.not_true, Bool.not_false, Bool.false_eq_true, reduceIte, Int.reduceLT, Int.reduceLE, Int.reduceEq, Int.reduceNeg, String.reduceEq, h5, a1] <;> rfl) ?_))⟩
      simp only [fnD, gNx, gSeq, gSet, gSetO, ownAt, gApp, gRev, gPut, frz, gFrz, gRet, gExpr, gIf, gExc, asL, eVar, eC, eOp, eUn, toB, tB, tAndB, tOrB, tNotB, eAnd, eOr, eNot, eChain, aNil, aCons, eTup, oLst, eO, eCall, oUn, oSl, rNone, rSome, toI, dCut, eLenO, eIxO, sBind_ok, sBind_exc, sBind_stk, Res.bind_ok, Res.bind_exc, Res.bind_stk, SRes.thn_nx, SRes.thn_rt, SRes.thn_exc, SRes.thn_stk, List.map_cons, List.map_nil, List.cons_append, List.nil_append, List.length_cons, List.length_nil, List.replicate_succ, List.replicate_zero, List.getElem?_cons_zero, List.getElem?_cons_succ, List.set_cons_zero, List.set_cons_succ, Nat.zero_add, Nat.reduceAdd, Nat.reduceSub, dAdd, dSub, dMul, dDiv, dMod, dNeg, dCmp, dLt, dLe, dGt, dGe, dEq, dNe, dEq?, dIsN, dNotN, dIsi, isTy, dLen, dIx, dList, dRev, dInt, dMax2, dMin2, decide_eq_true_eq, if_true, if_false, Bool.not_true, Bool.not_false, Bool.false_eq_true, reduceIte, Int.reduceLT, Int.reduceLE, Int.reduceEq, Int.reduceNeg, String.reduceEq, decide_false] <;> rfl
    · by_cases a2 : c5 % 4 = 2
      · refine ⟨c4 % (1 + 2 ^ L / 8), by omega, by omega, fun g => seq_nx (by simp only [fnD, gNx, gSeq, gSet, gSetO, ownAt, gApp, gRev, gPut, frz, gFrz, gRet, gExpr, gIf, gExc, asL, eVar, eC, eOp, eUn, toB, tB, tAndB, tOrB, tNotB, eAnd, eOr, eNot, eChain, aNil, aCons, eTup, oLst, eO, eCall, oUn, oSl, rNone, rSome, toI, dCut, eLenO, eIxO, sBind_ok, sBind_exc, sBind_stk, Res.bind_ok, Res.bind_exc, Res.bind_stk, SRes.thn_nx, SRes.thn_rt, SRes.thn_exc, SRes.thn_stk, List.map_cons, List.map_nil, List.cons_append, List.nil_append, List.length_cons, List.length_nil, List.replicate_succ, List.replicate_zero, List.getElem?_cons_zero, List.getElem?_cons_succ, List.set_cons_zero, List.set_cons_succ, Nat.zero_add, Nat.reduceAdd, Nat.reduceSub, dAdd, dSub, dMul, dDiv, dMod, dNeg, dCmp, dLt, dLe, dGt, dGe, dEq, dNe, dEq?, dIsN, dNotN, dIsi, isTy, dLen, dIx, dList, dRev, dInt, dMax2, dMin2, decide_eq_true_eq, if_true, if_false, Bool.not_true, Bool.not_false, Bool.false_eq_true, reduceIte, Int.reduceLT, Int.reduceLE, Int.reduceEq, Int.reduceNeg, String.reduceEq, h4, hpos] <;> rfl) (seq_nx (by simp only [fnD, gNx, gSeq, gSet, gSetO, ownAt, gApp, gRev, gPut, frz, gFrz, gRet, gExpr, gIf, gExc, asL, eVar, eC, eOp, eUn, toB, tB, tAndB, tOrB, tNotB, eAnd, eOr, eNot, eChain, aNil, aCons, eTup, oLst, eO, eCall, oUn, oSl, rNone, rSome, toI, dCut, eLenO, eIxO, sBind_ok, sBind_exc, sBind_stk, Res.bind_ok, Res.bind_exc, Res.bind_stk, SRes.thn_nx, SRes.thn_rt, SRes.thn_exc, SRes.thn_stk, List.map_cons, List.map_nil, List.cons_append, List.nil_append, List.length_cons, List.length_nil, List.replicate_succ, List.replicate_zero, List.getElem?_cons_zero, List.getElem?_cons_succ, List.set_cons_zero, List.set_cons_succ, Nat.zero_add, Nat.reduceAdd, Nat.reduceSub, dAdd, dSub, dMul, dDiv, dMod, dNeg, dCmp, dLt, dLe, dGt, dGe, dEq, dNe, dEq?, dIsN, dNotN, dIsi, isTy, dLen, dIx, dList, dRev, dInt, dMax2, dMin2, decide_eq_true_eq, if_true, if_false, Bool.not_true, Bool.not_false, Bool.false_eq_true, reduceIte, Int.reduceLT, Int.reduceLE, Int.reduceEq, Int.reduceNeg, String.reduceEq, h5, a2] <;> rfl) (seq_nx (by simp only [fnD, gNx, gSeq, gSet, gSetO, ownAt, gApp, gRev, gPut, frz, gFrz, gRet, gExpr, gIf, gExc, asL, eVar, eC, eOp, eUn, toB, tB, tAndB, tOrB, tNotB, eAnd, eOr, eNot, eChain, aNil, aCons, eTup, oLst, eO, eCall, oUn, oSl, rNone, rSome, toI, dCut, eLenO, eIxO, sBind_ok, sBind_exc, sBind_stk, Res.bind_ok, Res.bind_exc, Res.bind_stk, SRes.thn_nx, SRes.thn_rt, SRes.thn_exc, SRes.thn_stk, List.map_cons, List.map_nil, List.cons_append, List.nil_append, List.length_cons, List.length_nil, List.replicate_succ, List.replicate_zero, List.getElem?_cons_zero, List.getElem?_cons_succ, List.set_cons_zero, List.set_cons_succ, Nat.zero_add, Nat.reduceAdd, Nat.reduceSub, dAdd, dSub, dMul, dDiv, dMod, dNeg, dCmp, dLt, dLe, dGt, dGe, dEq, dNe, dEq?, dIsN, dNotN, dIsi, isTy, dLen, dIx, dList, dRev, dInt, dMax2, dMin2, decide_eq_true_eq, if_true, if_false, Bool.not_true, Bool.not_false, Bool.false_eq_true, reduceIte, Int.reduceLT, Int.reduceLE, Int.reduceEq, Int.reduceNeg, String.reduceEq, h4, h5, a2, dv8, q0, decide_true] <;> rfl) rfl))⟩
      · refine ⟨c4 % 2 ^ L, e0, e1, fun g => seq_nx (by simp only [fnD, gNx, gSeq, gSet, gSetO, ownAt, gApp, gRev, gPut, frz, gFrz, gRet, gExpr, gIf, gExc, asL, eVar, eC, eOp, eUn, toB, tB, tAndB, tOrB, tNotB, eAnd, eOr, eNot, eChain, aNil, aCons, eTup, oLst, eO, eCall, oUn, oSl, rNone, rSome, toI, dCut, eLenO, eIxO, sBind_ok, sBind_exc, sBind_stk, Res.bind_ok, Res.bind_exc, Res.bind_stk, SRes.thn_nx, SRes.thn_rt, SRes.thn_exc, SRes.thn_stk, List.map_cons, List.map_nil, List.cons_append, List.nil_append, List.length_cons, List.length_nil, List.replicate_succ, List.replicate_zero, List.getElem?_cons_zero, List.getElem?_cons_succ, List.set_cons_zero, List.set_cons_succ, Nat.zero_add, Nat.reduceAdd, Nat.reduceSub, dAdd, dSub, dMul, dDiv, dMod, dNeg, dCmp, dLt, dLe, dGt, dGe, dEq, dNe, dEq?, dIsN, dNotN, dIsi, isTy, dLen, dIx, dList, dRev, dInt, dMax2, dMin2, decide_eq_true_eq, if_true, if_false, Bool.not_true, Bool.not_false, Bool.false_eq_true, reduceIte, Int.reduceLT, Int.reduceLE, Int.reduceEq, Int.reduceNeg, String.reduceEq, h4, hpos] <;> rfl) (seq_nx (by simp only [fnD, gNx, gSeq, gSet, gSetO, ownAt, gApp, gRev, gPut, frz, gFrz, gRet, gExpr, gIf, gExc, asL, eVar, eC, eOp, eUn, toB, tB, tAndB, tOrB, tNotB, eAnd, eOr, eNot, eChain, aNil, aCons, eTup, oLst, eO, eCall, oUn, oSl, rNone, rSome, toI, dCut, eLenO, eIxO, sBind_ok, sBind_exc, sBind_stk, Res.bind_ok, Res.bind_exc, Res.bind_stk, SRes.thn_nx, SRes.thn_rt, SRes.thn_exc, SRes.thn_stk, List.map_cons, List.map_nil, List.cons_append, List.nil_append, List.length_cons, List.length_nil, List.replicate_succ, List.replicate_zero, List.getElem?_cons_zero, List.getElem?_cons_succ, List.set_cons_zero, List.set_cons_succ, Nat.zero_add, Nat.reduceAdd, Nat.reduceSub, dAdd, dSub, dMul, dDiv, dMod, dNeg, dCmp, dLt, dLe, dGt, dGe, dEq, dNe, dEq?, dIsN, dNotN, dIsi, isTy, dLen, dIx, dList, dRev, dInt, dMax2, dMin2, decide_eq_true_eq, if_true, if_false, Bool.not_true, Bool.not_false, Bool.false_eq_true, reduceIte, Int.reduceLT, Int.reduceLE, Int.reduceEq, Int.reduceNeg, String.reduceEq, h5, a1, decide_false] <;> rfl) (seq_nx (by simp only [fnD, gNx, gSeq, gSet, gSetO, ownAt, gApp, gRev, gPut, frz, gFrz, gRet, gExpr, gIf, gExc, asL, eVar, eC, eOp, eUn, toB, tB, tAndB, tOrB, tNotB, eAnd, eOr, eNot, eChain, aNil, aCons, eTup, oLst, eO, eCall, oUn, oSl, rNone, rSome, toI, dCut, eLenO, eIxO, sBind_ok, sBind_exc, sBind_stk, Res.bind_ok, Res.bind_exc, Res.bind_stk, SRes.thn_nx, SRes.thn_rt, SRes.thn_exc, SRes.thn_stk, List.map_cons, List.map_nil, List.cons_append, List.nil_append, List.length_cons, List.length_nil, List.replicate_succ, List.replicate_zero, List.getElem?_cons_zero, List.getElem?_cons_succ, List.set_cons_zero, List.set_cons_succ, Nat.zero_add, Nat.reduceAdd, Nat.reduceSub, dAdd, dSub, dMul, dDiv, dMod, dNeg, dCmp, dLt, dLe, dGt, dGe, dEq, dNe, dEq?, dIsN, dNotN, dIsi, isTy, dLen, dIx, dList, dRev, dInt, dMax2, dMin2, decide_eq_true_eq, if_true, if_false, Bool.not_true, Bool.not_false, Bool.false_eq_true, reduceIte, Int.reduceLT, Int.reduceLE, Int.reduceEq, Int.reduceNeg, String.reduceEq, h5, a2, decide_false] <;> rfl) rfl))⟩
  refine (en _).trans ?_
  have hWn := hW n L (by omega)
  have hnn := hn (wr n L)
  rw [val_wr n L hn0 hn1] at hnn
  have hal := ha (.lst (dI (wr n L))) (okD_dI (by rw [wr_len]; omega)) (by have := dep_dI (wr n L); omega)
  refine seq_nx (by simp only [fnD, gNx, gSeq, gSet, gSetO, ownAt, gApp, gRev, gPut, frz, gFrz, gRet, gExpr, gIf, gExc, asL, eVar, eC, eOp, eUn, toB, tB, tAndB, tOrB, tNotB, eAnd, eOr, eNot, eChain, aNil, aCons, eTup, oLst, eO, eCall, oUn, oSl, rNone, rSome, toI, dCut, eLenO, eIxO, sBind_ok, sBind_exc, sBind_stk, Res.bind_ok, Res.bind_exc, Res.bind_stk, SRes.thn_nx, SRes.thn_rt, SRes.thn_exc, SRes.thn_stk, List.map_cons, List.map_nil, List.cons_append, List.nil_append, List.length_cons, List.length_nil, List.replicate_succ, List.replicate_zero, List.getElem?_cons_zero, List.getElem?_cons_succ, List.set_cons_zero, List.set_cons_succ, Nat.zero_add, Nat.reduceAdd, Nat.reduceSub, dAdd, dSub, dMul, dDiv, dMod, dNeg, dCmp, dLt, dLe, dGt, dGe, dEq, dNe, dEq?, dIsN, dNotN, dIsi, isTy, dLen, dIx, dList, dRev, dInt, dMax2, dMin2, decide_eq_true_eq, if_true, if_false, Bool.not_true, Bool.not_false, Bool.false_eq_true, reduceIte, Int.reduceLT, Int.reduceLE, Int.reduceEq, Int.reduceNeg, String.reduceEq, hWn] <;> rfl) (seq_nx (by simp only [fnD, gNx, gSeq, gSet, gSetO, ownAt, gApp, gRev, gPut, frz, gFrz, gRet, gExpr, gIf, gExc, asL, eVar, eC, eOp, eUn, toB, tB, tAndB, tOrB, tNotB, eAnd, eOr, eNot, eChain, aNil, aCons, eTup, oLst, eO, eCall, oUn, oSl, rNone, rSome, toI, dCut, eLenO, eIxO, sBind_ok, sBind_exc, sBind_stk, Res.bind_ok, Res.bind_exc, Res.bind_stk, SRes.thn_nx, SRes.thn_rt, SRes.thn_exc, SRes.thn_stk, List.map_cons, List.map_nil, List.cons_append, List.nil_append, List.length_cons, List.length_nil, List.replicate_succ, List.replicate_zero, List.getElem?_cons_zero, List.getElem?_cons_succ, List.set_cons_zero, List.set_cons_succ, Nat.zero_add, Nat.reduceAdd, Nat.reduceSub, dAdd, dSub, dMul, dDiv, dMod, dNeg, dCmp, dLt, dLe, dGt, dGe, dEq, dNe, dEq?, dIsN, dNotN, dIsi, isTy, dLen, dIx, dList, dRev, dInt, dMax2, dMin2, decide_eq_true_eq, if_true, if_false, Bool.not_true, Bool.not_false, Bool.false_eq_true, reduceIte, Int.reduceLT, Int.reduceLE, Int.reduceEq, Int.reduceNeg, String.reduceEq, hnn] <;> rfl) ?_)
  have hwn := hwh n
  simp only [fnD, gNx, gSeq, gSet, gSetO, ownAt, gApp, gRev, gPut, frz, gFrz, gRet, gExpr, gIf, gExc, asL, eVar, eC, eOp, eUn, toB, tB, tAndB, tOrB, tNotB, eAnd, eOr, eNot, eChain, aNil, aCons, eTup, oLst, eO, eCall, oUn, oSl, rNone, rSome, toI, dCut, eLenO, eIxO, sBind_ok, sBind_exc, sBind_stk, Res.bind_ok, Res.bind_exc, Res.bind_stk, SRes.thn_nx, SRes.thn_rt, SRes.thn_exc, SRes.thn_stk, List.map_cons, List.map_nil, List.cons_append, List.nil_append, List.length_cons, List.length_nil, List.replicate_succ, List.replicate_zero, List.getElem?_cons_zero, List.getElem?_cons_succ, List.set_cons_zero, List.set_cons_succ, Nat.zero_add, Nat.reduceAdd, Nat.reduceSub, dAdd, dSub, dMul, dDiv, dMod, dNeg, dCmp, dLt, dLe, dGt, dGe, dEq, dNe, dEq?, dIsN, dNotN, dIsi, isTy, dLen, dIx, dList, dRev, dInt, dMax2, dMin2, decide_eq_true_eq, if_true, if_false, Bool.not_true, Bool.not_false, Bool.false_eq_true, reduceIte, Int.reduceLT, Int.reduceLE, Int.reduceEq, Int.reduceNeg, String.reduceEq, hwn, hWn, hal, decide_true] <;> rfl
theorem try_exc {cl : String → Option Bool} {g h : Rho → SRes} {ρ ρ' : Rho} {c : String} {r : SRes} (e : g ρ = .exc c ρ') (ec : cl c = some true) (eh : h ρ' = r) (hr : noX r = r) : gTry cl g h ρ = r := by
  unfold gTry
  rw [e]
  simp only
  rw [ec]
  simp only
  rw [eh, hr]
theorem try_ok {cl : String → Option Bool} {g h : Rho → SRes} {ρ ρ' : Rho} (e : g ρ = .nx ρ') : gTry cl g h ρ = .nx ρ' := by
  unfold gTry
  rw [e]
theorem k01_any {pb : List D → Res D} {n : Int} {w : Nat} (h : pb [.int n, .int w] = .exc "TooWide") : S_law_refused_by_any pb [.int n, .int w] = .ok (.bl true) := by
  refine fnD_rt (seq_rt ?_)
  unfold gTryR
  have e : gExpr (eCall pb (aCons (eVar 0) (aCons (eVar 1) aNil))) [.v (.int n), .v (.int w), .un] = .exc "TooWide" [.v (.int n), .v (.int w), .un] := by
    simp only [fnD, gNx, gSeq, gSet, gSetO, ownAt, gApp, gRev, gPut, frz, gFrz, gRet, gExpr, gIf, gExc, asL, eVar, eC, eOp, eUn, toB, tB, tAndB, tOrB, tNotB, eAnd, eOr, eNot, eChain, aNil, aCons, eTup, oLst, eO, eCall, oUn, oSl, rNone, rSome, toI, dCut, eLenO, eIxO, sBind_ok, sBind_exc, sBind_stk, Res.bind_ok, Res.bind_exc, Res.bind_stk, SRes.thn_nx, SRes.thn_rt, SRes.thn_exc, SRes.thn_stk, List.map_cons, List.map_nil, List.cons_append, List.nil_append, List.length_cons, List.length_nil, List.replicate_succ, List.replicate_zero, List.getElem?_cons_zero, List.getElem?_cons_succ, List.set_cons_zero, List.set_cons_succ, Nat.zero_add, Nat.reduceAdd, Nat.reduceSub, dAdd, dSub, dMul, dDiv, dMod, dNeg, dCmp, dLt, dLe, dGt, dGe, dEq, dNe, dEq?, dIsN, dNotN, dIsi, isTy, dLen, dIx, dList, dRev, dInt, dMax2, dMin2, decide_eq_true_eq, if_true, if_false, Bool.not_true, Bool.not_false, Bool.false_eq_true, reduceIte, Int.reduceLT, Int.reduceLE, Int.reduceEq, Int.reduceNeg, String.reduceEq, h]
  have e' : gExpr (eCall pb (aCons (eVar 0) (aCons (eVar 1) aNil))) ([D.int n, D.int w].map Slt.v ++ List.replicate (3 - [D.int n, D.int w].length) .un) = _ := e
  rw [e']
  rfl
theorem k01_law {pan pc pr pb prf pal pw : List D → Res D} {ns : List Int} (hC : ∀ k : Int, 0 ≤ k → pc [.scr ns, .int k] = .ok (.int (ns.getD k.toNat 0)))
    (hW : ∀ (n : Int) (w : Nat), w ≤ 1000 → pw [.int n, .int w] = .ok (.lst (dI (wr n w)))) (hR : ∀ w : Nat, w ≤ 1000 → pr [.int w] = .ok (.int (2 ^ w)))
    (han : pan [.scr ns] = .ok (.bl true)) (hb : ∀ (n : Int) (w : Nat), w ≤ 64 → 0 ≤ n → n < 2 ^ w → pb [.int n, .int w] = .ok (.lst (dI (wr n w))))
    (hx : ∀ (n : Int) (w : Nat), w ≤ 64 → n < 0 ∨ 2 ^ w ≤ n → pb [.int n, .int w] = .exc "TooWide") (hrf : ∀ (n : Int) (w : Nat), w ≤ 64 → n < 0 ∨ 2 ^ w ≤ n → prf [.int n, .int w] = .ok (.bl true))
    (ha : ∀ d : D, okD d = true → dep d ≤ 3 → pal [d, d] = .ok (.bl true)) : S_law pan pc pr pb prf pal pw [.scr ns] = .ok (.bl true) := by
  have h0 := hC 0 (by omega)
  have h1 := hC 1 (by omega)
  have h2 := hC 2 (by omega)
  generalize ns.getD (0 : Int).toNat 0 = c0 at h0
  generalize ns.getD (1 : Int).toNat 0 = c1 at h1
  generalize ns.getD (2 : Int).toNat 0 = c2 at h2
  refine fnD_rt (seq_nx (by simp only [fnD, gNx, gSeq, gSet, gSetO, ownAt, gApp, gRev, gPut, frz, gFrz, gRet, gExpr, gIf, gExc, asL, eVar, eC, eOp, eUn, toB, tB, tAndB, tOrB, tNotB, eAnd, eOr, eNot, eChain, aNil, aCons, eTup, oLst, eO, eCall, oUn, oSl, rNone, rSome, toI, dCut, eLenO, eIxO, sBind_ok, sBind_exc, sBind_stk, Res.bind_ok, Res.bind_exc, Res.bind_stk, SRes.thn_nx, SRes.thn_rt, SRes.thn_exc, SRes.thn_stk, List.map_cons, List.map_nil, List.cons_append, List.nil_append, List.length_cons, List.length_nil, List.replicate_succ, List.replicate_zero, List.getElem?_cons_zero, List.getElem?_cons_succ, List.set_cons_zero, List.set_cons_succ, Nat.zero_add, Nat.reduceAdd, Nat.reduceSub, dAdd, dSub, dMul, dDiv, dMod, dNeg, dCmp, dLt, dLe, dGt, dGe, dEq, dNe, dEq?, dIsN, dNotN, dIsi, isTy, dLen, dIx, dList, dRev, dInt, dMax2, dMin2, decide_eq_true_eq, if_true, if_false, Bool.not_true, Bool.not_false, Bool.false_eq_true, reduceIte, Int.reduceLT, Int.reduceLE, Int.reduceEq, Int.reduceNeg, String.reduceEq, han] <;> rfl) ?_)
  obtain ⟨W, eW⟩ : ∃ w : Nat, c0 % 65 = (w : Int) := ⟨(c0 % 65).toNat, by omega⟩
  have hW64 : W ≤ 64 := by omega
  have hRW := hR W (by omega)
  have hpos : (0 : Int) < 2 ^ W := two_pos W
  have hp : powOk 10 30 = true := powOk_ten 30
  have hpos10 : (0 : Int) < 10 ^ (30 : Int).toNat := Int.pow_pos (by omega)
  have far0 : 0 ≤ c2 % 10 ^ (30 : Int).toNat := Int.emod_nonneg _ (by omega)
  refine seq_nx (by simp only [fnD, gNx, gSeq, gSet, gSetO, ownAt, gApp, gRev, gPut, frz, gFrz, gRet, gExpr, gIf, gExc, asL, eVar, eC, eOp, eUn, toB, tB, tAndB, tOrB, tNotB, eAnd, eOr, eNot, eChain, aNil, aCons, eTup, oLst, eO, eCall, oUn, oSl, rNone, rSome, toI, dCut, eLenO, eIxO, sBind_ok, sBind_exc, sBind_stk, Res.bind_ok, Res.bind_exc, Res.bind_stk, SRes.thn_nx, SRes.thn_rt, SRes.thn_exc, SRes.thn_stk, List.map_cons, List.map_nil, List.cons_append, List.nil_append, List.length_cons, List.length_nil, List.replicate_succ, List.replicate_zero, List.getElem?_cons_zero, List.getElem?_cons_succ, List.set_cons_zero, List.set_cons_succ, Nat.zero_add, Nat.reduceAdd, Nat.reduceSub, dAdd, dSub, dMul, dDiv, dMod, dNeg, dCmp, dLt, dLe, dGt, dGe, dEq, dNe, dEq?, dIsN, dNotN, dIsi, isTy, dLen, dIx, dList, dRev, dInt, dMax2, dMin2, decide_eq_true_eq, if_true, if_false, Bool.not_true, Bool.not_false, Bool.false_eq_true, reduceIte, Int.reduceLT, Int.reduceLE, Int.reduceEq, Int.reduceNeg, String.reduceEq, h0, eW] <;> rfl) (seq_nx (by simp only [fnD, gNx, gSeq, gSet, gSetO, ownAt, gApp, gRev, gPut, frz, gFrz, gRet, gExpr, gIf, gExc, asL, eVar, eC, eOp, eUn, toB, tB, tAndB, tOrB, tNotB, eAnd, eOr, eNot, eChain, aNil, aCons, eTup, oLst, eO, eCall, oUn, oSl, rNone, rSome, toI, dCut, eLenO, eIxO, sBind_ok, sBind_exc, sBind_stk, Res.bind_ok, Res.bind_exc, Res.bind_stk, SRes.thn_nx, SRes.thn_rt, SRes.thn_exc, SRes.thn_stk, List.map_cons, List.map_nil, List.cons_append, List.nil_append, List.length_cons, List.length_nil, List.replicate_succ, List.replicate_zero, List.getElem?_cons_zero, List.getElem?_cons_succ, List.set_cons_zero, List.set_cons_succ, Nat.zero_add, Nat.reduceAdd, Nat.reduceSub, dAdd, dSub, dMul, dDiv, dMod, dNeg, dCmp, dLt, dLe, dGt, dGe, dEq, dNe, dEq?, dIsN, dNotN, dIsi, isTy, dLen, dIx, dList, dRev, dInt, dMax2, dMin2, decide_eq_true_eq, if_true, if_false, Bool.not_true, Bool.not_false, Bool.false_eq_true, reduceIte, Int.reduceLT, Int.reduceLE, Int.reduceEq, Int.reduceNeg, String.reduceEq, hRW] <;> rfl) (seq_nx (by simp only [fnD, gNx, gSeq, gSet, gSetO, ownAt, gApp, gRev, gPut, frz, gFrz, gRet, gExpr, gIf, gExc, asL, eVar, eC, eOp, eUn, toB, tB, tAndB, tOrB, tNotB, eAnd, eOr, eNot, eChain, aNil, aCons, eTup, oLst, eO, eCall, oUn, oSl, rNone, rSome, toI, dCut, eLenO, eIxO, sBind_ok, sBind_exc, sBind_stk, Res.bind_ok, Res.bind_exc, Res.bind_stk, SRes.thn_nx, SRes.thn_rt, SRes.thn_exc, SRes.thn_stk, List.map_cons, List.map_nil, List.cons_append, List.nil_append, List.length_cons, List.length_nil, List.replicate_succ, List.replicate_zero, List.getElem?_cons_zero, List.getElem?_cons_succ, List.set_cons_zero, List.set_cons_succ, Nat.zero_add, Nat.reduceAdd, Nat.reduceSub, dAdd, dSub, dMul, dDiv, dMod, dNeg, dCmp, dLt, dLe, dGt, dGe, dEq, dNe, dEq?, dIsN, dNotN, dIsi, isTy, dLen, dIx, dList, dRev, dInt, dMax2, dMin2, decide_eq_true_eq, if_true, if_false, Bool.not_true, Bool.not_false, Bool.false_eq_true, reduceIte, Int.reduceLT, Int.reduceLE, Int.reduceEq, Int.reduceNeg, String.reduceEq, h2, dPow, hp, hpos10] <;> rfl) (seq_nx (by simp only [fnD, gNx, gSeq, gSet, gSetO, ownAt, gApp, gRev, gPut, frz, gFrz, gRet, gExpr, gIf, gExc, asL, eVar, eC, eOp, eUn, toB, tB, tAndB, tOrB, tNotB, eAnd, eOr, eNot, eChain, aNil, aCons, eTup, oLst, eO, eCall, oUn, oSl, rNone, rSome, toI, dCut, eLenO, eIxO, sBind_ok, sBind_exc, sBind_stk, Res.bind_ok, Res.bind_exc, Res.bind_stk, SRes.thn_nx, SRes.thn_rt, SRes.thn_exc, SRes.thn_stk, List.map_cons, List.map_nil, List.cons_append, List.nil_append, List.length_cons, List.length_nil, List.replicate_succ, List.replicate_zero, List.getElem?_cons_zero, List.getElem?_cons_succ, List.set_cons_zero, List.set_cons_succ, Nat.zero_add, Nat.reduceAdd, Nat.reduceSub, dAdd, dSub, dMul, dDiv, dMod, dNeg, dCmp, dLt, dLe, dGt, dGe, dEq, dNe, dEq?, dIsN, dNotN, dIsi, isTy, dLen, dIx, dList, dRev, dInt, dMax2, dMin2, decide_eq_true_eq, if_true, if_false, Bool.not_true, Bool.not_false, Bool.false_eq_true, reduceIte, Int.reduceLT, Int.reduceLE, Int.reduceEq, Int.reduceNeg, String.reduceEq, h1] <;> rfl) (seq_nx (by simp only [fnD, gNx, gSeq, gSet, gSetO, ownAt, gApp, gRev, gPut, frz, gFrz, gRet, gExpr, gIf, gExc, asL, eVar, eC, eOp, eUn, toB, tB, tAndB, tOrB, tNotB, eAnd, eOr, eNot, eChain, aNil, aCons, eTup, oLst, eO, eCall, oUn, oSl, rNone, rSome, toI, dCut, eLenO, eIxO, sBind_ok, sBind_exc, sBind_stk, Res.bind_ok, Res.bind_exc, Res.bind_stk, SRes.thn_nx, SRes.thn_rt, SRes.thn_exc, SRes.thn_stk, List.map_cons, List.map_nil, List.cons_append, List.nil_append, List.length_cons, List.length_nil, List.replicate_succ, List.replicate_zero, List.getElem?_cons_zero, List.getElem?_cons_succ, List.set_cons_zero, List.set_cons_succ, Nat.zero_add, Nat.reduceAdd, Nat.reduceSub, dAdd, dSub, dMul, dDiv, dMod, dNeg, dCmp, dLt, dLe, dGt, dGe, dEq, dNe, dEq?, dIsN, dNotN, dIsi, isTy, dLen, dIx, dList, dRev, dInt, dMax2, dMin2, decide_eq_true_eq, if_true, if_false, Bool.not_true, Bool.not_false, Bool.false_eq_true, reduceIte, Int.reduceLT, Int.reduceLE, Int.reduceEq, Int.reduceNeg, String.reduceEq, h2, hpos] <;> rfl) ?_))))
  generalize c2 % 10 ^ (30 : Int).toNat = far at far0
  have g0 : 0 ≤ c2 % 2 ^ W := Int.emod_nonneg _ (by omega)
  have g1 : c2 % 2 ^ W < 2 ^ W := Int.emod_lt_of_pos _ hpos
  have f3 : fits 3 = true := fits_num
  -- what follows the number: refused, or written
  have good : ∀ (n : Int) (way : Int), 0 ≤ n → n < 2 ^ W → way ≠ 2 → way ≠ 3 → way ≠ 4 → (gSeq (gSet 6 (eOp dNotIn (eVar 4) (eTup (aCons (eC (.int 2)) (aCons (eC (.int 3)) (aCons (eC (.int 4)) aNil))))))
      (gSeq (gSet 7 (eC (.bl false)))
      (gSeq (gSet 8 (eC .non))
      (gSeq (gTry (clOf [("TooWide", true)]) (gSet 8 (eCall pb (aCons (eVar 5) (aCons (eVar 1) aNil)))) (gSet 7 (eC (.bl true))))
      (gSeq (gIf (tNotB (tB (eVar 6))) (gRet (eAnd (eVar 7) (eCall prf (aCons (eVar 5) (aCons (eVar 1) aNil))))) gNx)
      (gRet (eAnd (eNot (eVar 7)) (eCall pal (aCons (eVar 8) (aCons (eCall pw (aCons (eVar 5) (aCons (eVar 1) aNil))) aNil))))))))))
      [.v (.scr ns), .v (.int W), .v (.int (2 ^ W)), .v (.int far), .v (.int way), .v (.int n), .un, .un, .un] = .rt (.bl true) := by
    intro n way n0 n1 w2 w3 w4
    have hbn := hb n W hW64 n0 n1
    have hWn := hW n W (by omega)
    have hal := ha (.lst (dI (wr n W))) (okD_dI (by rw [wr_len]; omega)) (by have := dep_dI (wr n W); omega)
    have nin : dNotIn (.int way) (.tup [.int 2, .int 3, .int 4]) = .ok (.bl true) := by
      unfold dNotIn
      have a2 : ((2 : Int) == way) = false := by simpa using (Ne.symm w2)
      have a3 : ((3 : Int) == way) = false := by simpa using (Ne.symm w3)
      have a4 : ((4 : Int) == way) = false := by simpa using (Ne.symm w4)
      simp only [flat, List.all_cons, List.all_nil, List.any_cons, List.any_nil, eqF, a2, a3, a4, Bool.and_self, Bool.or_self, Bool.not_false, if_true]
    refine seq_nx (by simp only [fnD, gNx, gSeq, gSet, gSetO, ownAt, gApp, gRev, gPut, frz, gFrz, gRet, gExpr, gIf, gExc, asL, eVar, eC, eOp, eUn, toB, tB, tAndB, tOrB, tNotB, eAnd, eOr, eNot, eChain, aNil, aCons, eTup, oLst, eO, eCall, oUn, oSl, rNone, rSome, toI, dCut, eLenO, eIxO, sBind_ok, sBind_exc, sBind_stk, Res.bind_ok, Res.bind_exc, Res.bind_stk, SRes.thn_nx, SRes.thn_rt, SRes.thn_exc, SRes.thn_stk, List.map_cons, List.map_nil, List.cons_append, List.nil_append, List.length_cons, List.length_nil, List.replicate_succ, List.replicate_zero, List.getElem?_cons_zero, List.getElem?_cons_succ, List.set_cons_zero, List.set_cons_succ, Nat.zero_add, Nat.reduceAdd, Nat.reduceSub, dAdd, dSub, dMul, dDiv, dMod, dNeg, dCmp, dLt, dLe, dGt, dGe, dEq, dNe, dEq?, dIsN, dNotN, dIsi, isTy, dLen, dIx, dList, dRev, dInt, dMax2, dMin2, decide_eq_true_eq, if_true, if_false, Bool.not_true, Bool.not_false, Bool.false_eq_true, reduceIte, Int.reduceLT, Int.reduceLE, Int.reduceEq, Int.reduceNeg, String.reduceEq, f3, nin] <;> rfl) (seq_nx rfl (seq_nx rfl (seq_nx (try_ok (by simp only [fnD, gNx, gSeq, gSet, gSetO, ownAt, gApp, gRev, gPut, frz, gFrz, gRet, gExpr, gIf, gExc, asL, eVar, eC, eOp, eUn, toB, tB, tAndB, tOrB, tNotB, eAnd, eOr, eNot, eChain, aNil, aCons, eTup, oLst, eO, eCall, oUn, oSl, rNone, rSome, toI, dCut, eLenO, eIxO, sBind_ok, sBind_exc, sBind_stk, Res.bind_ok, Res.bind_exc, Res.bind_stk, SRes.thn_nx, SRes.thn_rt, SRes.thn_exc, SRes.thn_stk, List.map_cons, List.map_nil, List.cons_append, List.nil_append, List.length_cons, List.length_nil, List.replicate_succ, List.replicate_zero, List.getElem?_cons_zero, List.getElem?_cons_succ, List.set_cons_zero, List.set_cons_succ, Nat.zero_add, Nat.reduceAdd, Nat.reduceSub, dAdd, dSub, dMul, dDiv, dMod, dNeg, dCmp, dLt, dLe, dGt, dGe, dEq, dNe, dEq?, dIsN, dNotN, dIsi, isTy, dLen, dIx, dList, dRev, dInt, dMax2, dMin2, decide_eq_true_eq, if_true, if_false, Bool.not_true, Bool.not_false, Bool.false_eq_true, reduceIte, Int.reduceLT, Int.reduceLE, Int.reduceEq, Int.reduceNeg, String.reduceEq, hbn] <;> rfl)) (seq_nx (by simp only [fnD, gNx, gSeq, gSet, gSetO, ownAt, gApp, gRev, gPut, frz, gFrz, gRet, gExpr, gIf, gExc, asL, eVar, eC, eOp, eUn, toB, tB, tAndB, tOrB, tNotB, eAnd, eOr, eNot, eChain, aNil, aCons, eTup, oLst, eO, eCall, oUn, oSl, rNone, rSome, toI, dCut, eLenO, eIxO, sBind_ok, sBind_exc, sBind_stk, Res.bind_ok, Res.bind_exc, Res.bind_stk, SRes.thn_nx, SRes.thn_rt, SRes.thn_exc, SRes.thn_stk, List.map_cons, List.map_nil, List.cons_append, List.nil_append, List.length_cons, List.length_nil, List.replicate_succ, List.replicate_zero, List.getElem?_cons_zero, List.getElem?_cons_succ, List.set_cons_zero, List.set_cons_succ, Nat.zero_add, Nat.reduceAdd, Nat.reduceSub, dAdd, dSub, dMul, dDiv, dMod, dNeg, dCmp, dLt, dLe, dGt, dGe, dEq, dNe, dEq?, dIsN, dNotN, dIsi, isTy, dLen, dIx, dList, dRev, dInt, dMax2, dMin2, decide_eq_true_eq, if_true, if_false, Bool.not_true, Bool.not_false, Bool.false_eq_true, reduceIte, Int.reduceLT, Int.reduceLE, Int.reduceEq, Int.reduceNeg, String.reduceEq] <;> rfl) ?_))))
    simp only [fnD, gNx, gSeq, gSet, gSetO, ownAt, gApp, gRev, gPut, frz, gFrz, gRet, gExpr, gIf, gExc, asL, eVar, eC, eOp, eUn, toB, tB, tAndB, tOrB, tNotB, eAnd, eOr, eNot, eChain, aNil, aCons, eTup, oLst, eO, eCall, oUn, oSl, rNone, rSome, toI, dCut, eLenO, eIxO, sBind_ok, sBind_exc, sBind_stk, Res.bind_ok, Res.bind_exc, Res.bind_stk, SRes.thn_nx, SRes.thn_rt, SRes.thn_exc, SRes.thn_stk, List.map_cons, List.map_nil, List.cons_append, List.nil_append, List.length_cons, List.length_nil, List.replicate_succ, List.replicate_zero, List.getElem?_cons_zero, List.getElem?_cons_succ, List.set_cons_zero, List.set_cons_succ, Nat.zero_add, Nat.reduceAdd, Nat.reduceSub, dAdd, dSub, dMul, dDiv, dMod, dNeg, dCmp, dLt, dLe, dGt, dGe, dEq, dNe, dEq?, dIsN, dNotN, dIsi, isTy, dLen, dIx, dList, dRev, dInt, dMax2, dMin2, decide_eq_true_eq, if_true, if_false, Bool.not_true, Bool.not_false, Bool.false_eq_true, reduceIte, Int.reduceLT, Int.reduceLE, Int.reduceEq, Int.reduceNeg, String.reduceEq, hWn, hal] <;> rfl
  have bad : ∀ (n : Int) (way : Int), n < 0 ∨ 2 ^ W ≤ n → way = 2 ∨ way = 3 ∨ way = 4 → (gSeq (gSet 6 (eOp dNotIn (eVar 4) (eTup (aCons (eC (.int 2)) (aCons (eC (.int 3)) (aCons (eC (.int 4)) aNil))))))
      (gSeq (gSet 7 (eC (.bl false)))
      (gSeq (gSet 8 (eC .non))
      (gSeq (gTry (clOf [("TooWide", true)]) (gSet 8 (eCall pb (aCons (eVar 5) (aCons (eVar 1) aNil)))) (gSet 7 (eC (.bl true))))
      (gSeq (gIf (tNotB (tB (eVar 6))) (gRet (eAnd (eVar 7) (eCall prf (aCons (eVar 5) (aCons (eVar 1) aNil))))) gNx)
      (gRet (eAnd (eNot (eVar 7)) (eCall pal (aCons (eVar 8) (aCons (eCall pw (aCons (eVar 5) (aCons (eVar 1) aNil))) aNil))))))))))
      [.v (.scr ns), .v (.int W), .v (.int (2 ^ W)), .v (.int far), .v (.int way), .v (.int n), .un, .un, .un] = .rt (.bl true) := by
    intro n way hn hw
    have hbn := hx n W hW64 hn
    have hrn := hrf n W hW64 hn
    have nin : dNotIn (.int way) (.tup [.int 2, .int 3, .int 4]) = .ok (.bl false) := by
      rcases hw with rfl | rfl | rfl <;> rfl
    refine seq_nx (by simp only [fnD, gNx, gSeq, gSet, gSetO, ownAt, gApp, gRev, gPut, frz, gFrz, gRet, gExpr, gIf, gExc, asL, eVar, eC, eOp, eUn, toB, tB, tAndB, tOrB, tNotB, eAnd, eOr, eNot, eChain, aNil, aCons, eTup, oLst, eO, eCall, oUn, oSl, rNone, rSome, toI, dCut, eLenO, eIxO, sBind_ok, sBind_exc, sBind_stk, Res.bind_ok, Res.bind_exc, Res.bind_stk, SRes.thn_nx, SRes.thn_rt, SRes.thn_exc, SRes.thn_stk, List.map_cons, List.map_nil, List.cons_append, List.nil_append, List.length_cons, List.length_nil, List.replicate_succ, List.replicate_zero, List.getElem?_cons_zero, List.getElem?_cons_succ, List.set_cons_zero, List.set_cons_succ, Nat.zero_add, Nat.reduceAdd, Nat.reduceSub, dAdd, dSub, dMul, dDiv, dMod, dNeg, dCmp, dLt, dLe, dGt, dGe, dEq, dNe, dEq?, dIsN, dNotN, dIsi, isTy, dLen, dIx, dList, dRev, dInt, dMax2, dMin2, decide_eq_true_eq, if_true, if_false, Bool.not_true, Bool.not_false, Bool.false_eq_true, reduceIte, Int.reduceLT, Int.reduceLE, Int.reduceEq, Int.reduceNeg, String.reduceEq, f3, nin] <;> rfl) (seq_nx rfl (seq_nx rfl (seq_nx (try_exc (c := "TooWide") (by simp only [fnD, gNx, gSeq, gSet, gSetO, ownAt, gApp, gRev, gPut, frz, gFrz, gRet, gExpr, gIf, gExc, asL, eVar, eC, eOp, eUn, toB, tB, tAndB, tOrB, tNotB, eAnd, eOr, eNot, eChain, aNil, aCons, eTup, oLst, eO, eCall, oUn, oSl, rNone, rSome, toI, dCut, eLenO, eIxO, sBind_ok, sBind_exc, sBind_stk, Res.bind_ok, Res.bind_exc, Res.bind_stk, SRes.thn_nx, SRes.thn_rt, SRes.thn_exc, SRes.thn_stk, List.map_cons, List.map_nil, List.cons_append, List.nil_append, List.length_cons, List.length_nil, List.replicate_succ, List.replicate_zero, List.getElem?_cons_zero, List.getElem?_cons_succ, List.set_cons_zero, List.set_cons_succ, Nat.zero_add, Nat.reduceAdd, Nat.reduceSub, dAdd, dSub, dMul, dDiv, dMod, dNeg, dCmp, dLt, dLe, dGt, dGe, dEq, dNe, dEq?, dIsN, dNotN, dIsi, isTy, dLen, dIx, dList, dRev, dInt, dMax2, dMin2, decide_eq_true_eq, if_true, if_false, Bool.not_true, Bool.not_false, Bool.false_eq_true, reduceIte, Int.reduceLT, Int.reduceLE, Int.reduceEq, Int.reduceNeg, String.reduceEq, hbn] <;> rfl) rfl (by simp only [fnD, gNx, gSeq, gSet, gSetO, ownAt, gApp, gRev, gPut, frz, gFrz, gRet, gExpr, gIf, gExc, asL, eVar, eC, eOp, eUn, toB, tB, tAndB, tOrB, tNotB, eAnd, eOr, eNot, eChain, aNil, aCons, eTup, oLst, eO, eCall, oUn, oSl, rNone, rSome, toI, dCut, eLenO, eIxO, sBind_ok, sBind_exc, sBind_stk, Res.bind_ok, Res.bind_exc, Res.bind_stk, SRes.thn_nx, SRes.thn_rt, SRes.thn_exc, SRes.thn_stk, List.map_cons, List.map_nil, List.cons_append, List.nil_append, List.length_cons, List.length_nil, List.replicate_succ, List.replicate_zero, List.getElem?_cons_zero, List.getElem?_cons_succ, List.set_cons_zero, List.set_cons_succ, Nat.zero_add, Nat.reduceAdd, Nat.reduceSub, dAdd, dSub, dMul, dDiv, dMod, dNeg, dCmp, dLt, dLe, dGt, dGe, dEq, dNe, dEq?, dIsN, dNotN, dIsi, isTy, dLen, dIx, dList, dRev, dInt, dMax2, dMin2, decide_eq_true_eq, if_true, if_false, Bool.not_true, Bool.not_false, Bool.false_eq_true, reduceIte, Int.reduceLT, Int.reduceLE, Int.reduceEq, Int.reduceNeg, String.reduceEq] <;> rfl) rfl) (seq_rt ?_))))
    simp only [fnD, gNx, gSeq, gSet, gSetO, ownAt, gApp, gRev, gPut, frz, gFrz, gRet, gExpr, gIf, gExc, asL, eVar, eC, eOp, eUn, toB, tB, tAndB, tOrB, tNotB, eAnd, eOr, eNot, eChain, aNil, aCons, eTup, oLst, eO, eCall, oUn, oSl, rNone, rSome, toI, dCut, eLenO, eIxO, sBind_ok, sBind_exc, sBind_stk, Res.bind_ok, Res.bind_exc, Res.bind_stk, SRes.thn_nx, SRes.thn_rt, SRes.thn_exc, SRes.thn_stk, List.map_cons, List.map_nil, List.cons_append, List.nil_append, List.length_cons, List.length_nil, List.replicate_succ, List.replicate_zero, List.getElem?_cons_zero, List.getElem?_cons_succ, List.set_cons_zero, List.set_cons_succ, Nat.zero_add, Nat.reduceAdd, Nat.reduceSub, dAdd, dSub, dMul, dDiv, dMod, dNeg, dCmp, dLt, dLe, dGt, dGe, dEq, dNe, dEq?, dIsN, dNotN, dIsi, isTy, dLen, dIx, dList, dRev, dInt, dMax2, dMin2, decide_eq_true_eq, if_true, if_false, Bool.not_true, Bool.not_false, Bool.false_eq_true, reduceIte, Int.reduceLT, Int.reduceLE, Int.reduceEq, Int.reduceNeg, String.reduceEq, hrn] <;> rfl
  generalize hway : c1 % 7 = way
  by_cases b1 : way = 1
  · subst b1
    refine seq_nx (by simp only [fnD, gNx, gSeq, gSet, gSetO, ownAt, gApp, gRev, gPut, frz, gFrz, gRet, gExpr, gIf, gExc, asL, eVar, eC, eOp, eUn, toB, tB, tAndB, tOrB, tNotB, eAnd, eOr, eNot, eChain, aNil, aCons, eTup, oLst, eO, eCall, oUn, oSl, rNone, rSome, toI, dCut, eLenO, eIxO, sBind_ok, sBind_exc, sBind_stk, Res.bind_ok, Res.bind_exc, Res.bind_stk, SRes.thn_nx, SRes.thn_rt, SRes.thn_exc, SRes.thn_stk, List.map_cons, List.map_nil, List.cons_append, List.nil_append, List.length_cons, List.length_nil, List.replicate_succ, List.replicate_zero, List.getElem?_cons_zero, List.getElem?_cons_succ, List.set_cons_zero, List.set_cons_succ, Nat.zero_add, Nat.reduceAdd, Nat.reduceSub, dAdd, dSub, dMul, dDiv, dMod, dNeg, dCmp, dLt, dLe, dGt, dGe, dEq, dNe, dEq?, dIsN, dNotN, dIsi, isTy, dLen, dIx, dList, dRev, dInt, dMax2, dMin2, decide_eq_true_eq, if_true, if_false, Bool.not_true, Bool.not_false, Bool.false_eq_true, reduceIte, Int.reduceLT, Int.reduceLE, Int.reduceEq, Int.reduceNeg, String.reduceEq, decide_true] <;> rfl) (seq_nx (by simp only [fnD, gNx, gSeq, gSet, gSetO, ownAt, gApp, gRev, gPut, frz, gFrz, gRet, gExpr, gIf, gExc, asL, eVar, eC, eOp, eUn, toB, tB, tAndB, tOrB, tNotB, eAnd, eOr, eNot, eChain, aNil, aCons, eTup, oLst, eO, eCall, oUn, oSl, rNone, rSome, toI, dCut, eLenO, eIxO, sBind_ok, sBind_exc, sBind_stk, Res.bind_ok, Res.bind_exc, Res.bind_stk, SRes.thn_nx, SRes.thn_rt, SRes.thn_exc, SRes.thn_stk, List.map_cons, List.map_nil, List.cons_append, List.nil_append, List.length_cons, List.length_nil, List.replicate_succ, List.replicate_zero, List.getElem?_cons_zero, List.getElem?_cons_succ, List.set_cons_zero, List.set_cons_succ, Nat.zero_add, Nat.reduceAdd, Nat.reduceSub, dAdd, dSub, dMul, dDiv, dMod, dNeg, dCmp, dLt, dLe, dGt, dGe, dEq, dNe, dEq?, dIsN, dNotN, dIsi, isTy, dLen, dIx, dList, dRev, dInt, dMax2, dMin2, decide_eq_true_eq, if_true, if_false, Bool.not_true, Bool.not_false, Bool.false_eq_true, reduceIte, Int.reduceLT, Int.reduceLE, Int.reduceEq, Int.reduceNeg, String.reduceEq] <;> rfl) (seq_nx (by simp only [fnD, gNx, gSeq, gSet, gSetO, ownAt, gApp, gRev, gPut, frz, gFrz, gRet, gExpr, gIf, gExc, asL, eVar, eC, eOp, eUn, toB, tB, tAndB, tOrB, tNotB, eAnd, eOr, eNot, eChain, aNil, aCons, eTup, oLst, eO, eCall, oUn, oSl, rNone, rSome, toI, dCut, eLenO, eIxO, sBind_ok, sBind_exc, sBind_stk, Res.bind_ok, Res.bind_exc, Res.bind_stk, SRes.thn_nx, SRes.thn_rt, SRes.thn_exc, SRes.thn_stk, List.map_cons, List.map_nil, List.cons_append, List.nil_append, List.length_cons, List.length_nil, List.replicate_succ, List.replicate_zero, List.getElem?_cons_zero, List.getElem?_cons_succ, List.set_cons_zero, List.set_cons_succ, Nat.zero_add, Nat.reduceAdd, Nat.reduceSub, dAdd, dSub, dMul, dDiv, dMod, dNeg, dCmp, dLt, dLe, dGt, dGe, dEq, dNe, dEq?, dIsN, dNotN, dIsi, isTy, dLen, dIx, dList, dRev, dInt, dMax2, dMin2, decide_eq_true_eq, if_true, if_false, Bool.not_true, Bool.not_false, Bool.false_eq_true, reduceIte, Int.reduceLT, Int.reduceLE, Int.reduceEq, Int.reduceNeg, String.reduceEq] <;> rfl) (seq_nx (by simp only [fnD, gNx, gSeq, gSet, gSetO, ownAt, gApp, gRev, gPut, frz, gFrz, gRet, gExpr, gIf, gExc, asL, eVar, eC, eOp, eUn, toB, tB, tAndB, tOrB, tNotB, eAnd, eOr, eNot, eChain, aNil, aCons, eTup, oLst, eO, eCall, oUn, oSl, rNone, rSome, toI, dCut, eLenO, eIxO, sBind_ok, sBind_exc, sBind_stk, Res.bind_ok, Res.bind_exc, Res.bind_stk, SRes.thn_nx, SRes.thn_rt, SRes.thn_exc, SRes.thn_stk, List.map_cons, List.map_nil, List.cons_append, List.nil_append, List.length_cons, List.length_nil, List.replicate_succ, List.replicate_zero, List.getElem?_cons_zero, List.getElem?_cons_succ, List.set_cons_zero, List.set_cons_succ, Nat.zero_add, Nat.reduceAdd, Nat.reduceSub, dAdd, dSub, dMul, dDiv, dMod, dNeg, dCmp, dLt, dLe, dGt, dGe, dEq, dNe, dEq?, dIsN, dNotN, dIsi, isTy, dLen, dIx, dList, dRev, dInt, dMax2, dMin2, decide_eq_true_eq, if_true, if_false, Bool.not_true, Bool.not_false, Bool.false_eq_true, reduceIte, Int.reduceLT, Int.reduceLE, Int.reduceEq, Int.reduceNeg, String.reduceEq] <;> rfl) ?_)))
    exact good _ _ (by omega) (by omega) (by omega) (by omega) (by omega)
  · by_cases b2 : way = 2
    · subst b2
      refine seq_nx (by simp only [fnD, gNx, gSeq, gSet, gSetO, ownAt, gApp, gRev, gPut, frz, gFrz, gRet, gExpr, gIf, gExc, asL, eVar, eC, eOp, eUn, toB, tB, tAndB, tOrB, tNotB, eAnd, eOr, eNot, eChain, aNil, aCons, eTup, oLst, eO, eCall, oUn, oSl, rNone, rSome, toI, dCut, eLenO, eIxO, sBind_ok, sBind_exc, sBind_stk, Res.bind_ok, Res.bind_exc, Res.bind_stk, SRes.thn_nx, SRes.thn_rt, SRes.thn_exc, SRes.thn_stk, List.map_cons, List.map_nil, List.cons_append, List.nil_append, List.length_cons, List.length_nil, List.replicate_succ, List.replicate_zero, List.getElem?_cons_zero, List.getElem?_cons_succ, List.set_cons_zero, List.set_cons_succ, Nat.zero_add, Nat.reduceAdd, Nat.reduceSub, dAdd, dSub, dMul, dDiv, dMod, dNeg, dCmp, dLt, dLe, dGt, dGe, dEq, dNe, dEq?, dIsN, dNotN, dIsi, isTy, dLen, dIx, dList, dRev, dInt, dMax2, dMin2, decide_eq_true_eq, if_true, if_false, Bool.not_true, Bool.not_false, Bool.false_eq_true, reduceIte, Int.reduceLT, Int.reduceLE, Int.reduceEq, Int.reduceNeg, String.reduceEq] <;> rfl) (seq_nx (by simp only [fnD, gNx, gSeq, gSet, gSetO, ownAt, gApp, gRev, gPut, frz, gFrz, gRet, gExpr, gIf, gExc, asL, eVar, eC, eOp, eUn, toB, tB, tAndB, tOrB, tNotB, eAnd, eOr, eNot, eChain, aNil, aCons, eTup, oLst, eO, eCall, oUn, oSl, rNone, rSome, toI, dCut, eLenO, eIxO, sBind_ok, sBind_exc, sBind_stk, Res.bind_ok, Res.bind_exc, Res.bind_stk, SRes.thn_nx, SRes.thn_rt, SRes.thn_exc, SRes.thn_stk, List.map_cons, List.map_nil, List.cons_append, List.nil_append, List.length_cons, List.length_nil, List.replicate_succ, List.replicate_zero, List.getElem?_cons_zero, List.getElem?_cons_succ, List.set_cons_zero, List.set_cons_succ, Nat.zero_add, Nat.reduceAdd, Nat.reduceSub, dAdd, dSub, dMul, dDiv, dMod, dNeg, dCmp, dLt, dLe, dGt, dGe, dEq, dNe, dEq?, dIsN, dNotN, dIsi, isTy, dLen, dIx, dList, dRev, dInt, dMax2, dMin2, decide_eq_true_eq, if_true, if_false, Bool.not_true, Bool.not_false, Bool.false_eq_true, reduceIte, Int.reduceLT, Int.reduceLE, Int.reduceEq, Int.reduceNeg, String.reduceEq, decide_true] <;> rfl) (seq_nx (by simp only [fnD, gNx, gSeq, gSet, gSetO, ownAt, gApp, gRev, gPut, frz, gFrz, gRet, gExpr, gIf, gExc, asL, eVar, eC, eOp, eUn, toB, tB, tAndB, tOrB, tNotB, eAnd, eOr, eNot, eChain, aNil, aCons, eTup, oLst, eO, eCall, oUn, oSl, rNone, rSome, toI, dCut, eLenO, eIxO, sBind_ok, sBind_exc, sBind_stk, Res.bind_ok, Res.bind_exc, Res.bind_stk, SRes.thn_nx, SRes.thn_rt, SRes.thn_exc, SRes.thn_stk, List.map_cons, List.map_nil, List.cons_append, List.nil_append, List.length_cons, List.length_nil, List.replicate_succ, List.replicate_zero, List.getElem?_cons_zero, List.getElem?_cons_succ, List.set_cons_zero, List.set_cons_succ, Nat.zero_add, Nat.reduceAdd, Nat.reduceSub, dAdd, dSub, dMul, dDiv, dMod, dNeg, dCmp, dLt, dLe, dGt, dGe, dEq, dNe, dEq?, dIsN, dNotN, dIsi, isTy, dLen, dIx, dList, dRev, dInt, dMax2, dMin2, decide_eq_true_eq, if_true, if_false, Bool.not_true, Bool.not_false, Bool.false_eq_true, reduceIte, Int.reduceLT, Int.reduceLE, Int.reduceEq, Int.reduceNeg, String.reduceEq] <;> rfl) (seq_nx (by simp only [fnD, gNx, gSeq, gSet, gSetO, ownAt, gApp, gRev, gPut, frz, gFrz, gRet, gExpr, gIf, gExc, asL, eVar, eC, eOp, eUn, toB, tB, tAndB, tOrB, tNotB, eAnd, eOr, eNot, eChain, aNil, aCons, eTup, oLst, eO, eCall, oUn, oSl, rNone, rSome, toI, dCut, eLenO, eIxO, sBind_ok, sBind_exc, sBind_stk, Res.bind_ok, Res.bind_exc, Res.bind_stk, SRes.thn_nx, SRes.thn_rt, SRes.thn_exc, SRes.thn_stk, List.map_cons, List.map_nil, List.cons_append, List.nil_append, List.length_cons, List.length_nil, List.replicate_succ, List.replicate_zero, List.getElem?_cons_zero, List.getElem?_cons_succ, List.set_cons_zero, List.set_cons_succ, Nat.zero_add, Nat.reduceAdd, Nat.reduceSub, dAdd, dSub, dMul, dDiv, dMod, dNeg, dCmp, dLt, dLe, dGt, dGe, dEq, dNe, dEq?, dIsN, dNotN, dIsi, isTy, dLen, dIx, dList, dRev, dInt, dMax2, dMin2, decide_eq_true_eq, if_true, if_false, Bool.not_true, Bool.not_false, Bool.false_eq_true, reduceIte, Int.reduceLT, Int.reduceLE, Int.reduceEq, Int.reduceNeg, String.reduceEq] <;> rfl) ?_)))
      exact bad _ _ (by omega) (by omega)
    · by_cases b3 : way = 3
      · subst b3
        refine seq_nx (by simp only [fnD, gNx, gSeq, gSet, gSetO, ownAt, gApp, gRev, gPut, frz, gFrz, gRet, gExpr, gIf, gExc, asL, eVar, eC, eOp, eUn, toB, tB, tAndB, tOrB, tNotB, eAnd, eOr, eNot, eChain, aNil, aCons, eTup, oLst, eO, eCall, oUn, oSl, rNone, rSome, toI, dCut, eLenO, eIxO, sBind_ok, sBind_exc, sBind_stk, Res.bind_ok, Res.bind_exc, Res.bind_stk, SRes.thn_nx, SRes.thn_rt, SRes.thn_exc, SRes.thn_stk, List.map_cons, List.map_nil, List.cons_append, List.nil_append, List.length_cons, List.length_nil, List.replicate_succ, List.replicate_zero, List.getElem?_cons_zero, List.getElem?_cons_succ, List.set_cons_zero, List.set_cons_succ, Nat.zero_add, Nat.reduceAdd, Nat.reduceSub, dAdd, dSub, dMul, dDiv, dMod, dNeg, dCmp, dLt, dLe, dGt, dGe, dEq, dNe, dEq?, dIsN, dNotN, dIsi, isTy, dLen, dIx, dList, dRev, dInt, dMax2, dMin2, decide_eq_true_eq, if_true, if_false, Bool.not_true, Bool.not_false, Bool.false_eq_true, reduceIte, Int.reduceLT, Int.reduceLE, Int.reduceEq, Int.reduceNeg, String.reduceEq] <;> rfl) (seq_nx (by simp only [fnD, gNx, gSeq, gSet, gSetO, ownAt, gApp, gRev, gPut, frz, gFrz, gRet, gExpr, gIf, gExc, asL, eVar, eC, eOp, eUn, toB, tB, tAndB, tOrB, tNotB, eAnd, eOr, eNot, eChain, aNil, aCons, eTup, oLst, eO, eCall, oUn, oSl, rNone, rSome, toI, dCut, eLenO, eIxO, sBind_ok, sBind_exc, sBind_stk, Res.bind_ok, Res.bind_exc, Res.bind_stk, SRes.thn_nx, SRes.thn_rt, SRes.thn_exc, SRes.thn_stk, List.map_cons, List.map_nil, List.cons_append, List.nil_append, List.length_cons, List.length_nil, List.replicate_succ, List.replicate_zero, List.getElem?_cons_zero, List.getElem?_cons_succ, List.set_cons_zero, List.set_cons_succ, Nat.zero_add, Nat.reduceAdd, Nat.reduceSub, dAdd, dSub, dMul, dDiv, dMod, dNeg, dCmp, dLt, dLe, dGt, dGe, dEq, dNe, dEq?, dIsN, dNotN, dIsi, isTy, dLen, dIx, dList, dRev, dInt, dMax2, dMin2, decide_eq_true_eq, if_true, if_false, Bool.not_true, Bool.not_false, Bool.false_eq_true, reduceIte, Int.reduceLT, Int.reduceLE, Int.reduceEq, Int.reduceNeg, String.reduceEq] <;> rfl) (seq_nx (by simp only [fnD, gNx, gSeq, gSet, gSetO, ownAt, gApp, gRev, gPut, frz, gFrz, gRet, gExpr, gIf, gExc, asL, eVar, eC, eOp, eUn, toB, tB, tAndB, tOrB, tNotB, eAnd, eOr, eNot, eChain, aNil, aCons, eTup, oLst, eO, eCall, oUn, oSl, rNone, rSome, toI, dCut, eLenO, eIxO, sBind_ok, sBind_exc, sBind_stk, Res.bind_ok, Res.bind_exc, Res.bind_stk, SRes.thn_nx, SRes.thn_rt, SRes.thn_exc, SRes.thn_stk, List.map_cons, List.map_nil, List.cons_append, List.nil_append, List.length_cons, List.length_nil, List.replicate_succ, List.replicate_zero, List.getElem?_cons_zero, List.getElem?_cons_succ, List.set_cons_zero, List.set_cons_succ, Nat.zero_add, Nat.reduceAdd, Nat.reduceSub, dAdd, dSub, dMul, dDiv, dMod, dNeg, dCmp, dLt, dLe, dGt, dGe, dEq, dNe, dEq?, dIsN, dNotN, dIsi, isTy, dLen, dIx, dList, dRev, dInt, dMax2, dMin2, decide_eq_true_eq, if_true, if_false, Bool.not_true, Bool.not_false, Bool.false_eq_true, reduceIte, Int.reduceLT, Int.reduceLE, Int.reduceEq, Int.reduceNeg, String.reduceEq, decide_true] <;> rfl) (seq_nx (by simp only [fnD, gNx, gSeq, gSet, gSetO, ownAt, gApp, gRev, gPut, frz, gFrz, gRet, gExpr, gIf, gExc, asL, eVar, eC, eOp, eUn, toB, tB, tAndB, tOrB, tNotB, eAnd, eOr, eNot, eChain, aNil, aCons, eTup, oLst, eO, eCall, oUn, oSl, rNone, rSome, toI, dCut, eLenO, eIxO, sBind_ok, sBind_exc, sBind_stk, Res.bind_ok, Res.bind_exc, Res.bind_stk, SRes.thn_nx, SRes.thn_rt, SRes.thn_exc, SRes.thn_stk, List.map_cons, List.map_nil, List.cons_append, List.nil_append, List.length_cons, List.length_nil, List.replicate_succ, List.replicate_zero, List.getElem?_cons_zero, List.getElem?_cons_succ, List.set_cons_zero, List.set_cons_succ, Nat.zero_add, Nat.reduceAdd, Nat.reduceSub, dAdd, dSub, dMul, dDiv, dMod, dNeg, dCmp, dLt, dLe, dGt, dGe, dEq, dNe, dEq?, dIsN, dNotN, dIsi, isTy, dLen, dIx, dList, dRev, dInt, dMax2, dMin2, decide_eq_true_eq, if_true, if_false, Bool.not_true, Bool.not_false, Bool.false_eq_true, reduceIte, Int.reduceLT, Int.reduceLE, Int.reduceEq, Int.reduceNeg, String.reduceEq] <;> rfl) ?_)))
        exact bad _ _ (by omega) (by omega)
      · by_cases b4 : way = 4
        · subst b4
          refine seq_nx (by simp only [fnD, gNx, gSeq, gSet, gSetO, ownAt, gApp, gRev, gPut, frz, gFrz, gRet, gExpr, gIf, gExc, asL, eVar, eC, eOp, eUn, toB, tB, tAndB, tOrB, tNotB, eAnd, eOr, eNot, eChain, aNil, aCons, eTup, oLst, eO, eCall, oUn, oSl, rNone, rSome, toI, dCut, eLenO, eIxO, sBind_ok, sBind_exc, sBind_stk, Res.bind_ok, Res.bind_exc, Res.bind_stk, SRes.thn_nx, SRes.thn_rt, SRes.thn_exc, SRes.thn_stk, List.map_cons, List.map_nil, List.cons_append, List.nil_append, List.length_cons, List.length_nil, List.replicate_succ, List.replicate_zero, List.getElem?_cons_zero, List.getElem?_cons_succ, List.set_cons_zero, List.set_cons_succ, Nat.zero_add, Nat.reduceAdd, Nat.reduceSub, dAdd, dSub, dMul, dDiv, dMod, dNeg, dCmp, dLt, dLe, dGt, dGe, dEq, dNe, dEq?, dIsN, dNotN, dIsi, isTy, dLen, dIx, dList, dRev, dInt, dMax2, dMin2, decide_eq_true_eq, if_true, if_false, Bool.not_true, Bool.not_false, Bool.false_eq_true, reduceIte, Int.reduceLT, Int.reduceLE, Int.reduceEq, Int.reduceNeg, String.reduceEq] <;> rfl) (seq_nx (by simp only [fnD, gNx, gSeq, gSet, gSetO, ownAt, gApp, gRev, gPut, frz, gFrz, gRet, gExpr, gIf, gExc, asL, eVar, eC, eOp, eUn, toB, tB, tAndB, tOrB, tNotB, eAnd, eOr, eNot, eChain, aNil, aCons, eTup, oLst, eO, eCall, oUn, oSl, rNone, rSome, toI, dCut, eLenO, eIxO, sBind_ok, sBind_exc, sBind_stk, Res.bind_ok, Res.bind_exc, Res.bind_stk, SRes.thn_nx, SRes.thn_rt, SRes.thn_exc, SRes.thn_stk, List.map_cons, List.map_nil, List.cons_append, List.nil_append, List.length_cons, List.length_nil, List.replicate_succ, List.replicate_zero, List.getElem?_cons_zero, List.getElem?_cons_succ, List.set_cons_zero, List.set_cons_succ, Nat.zero_add, Nat.reduceAdd, Nat.reduceSub, dAdd, dSub, dMul, dDiv, dMod, dNeg, dCmp, dLt, dLe, dGt, dGe, dEq, dNe, dEq?, dIsN, dNotN, dIsi, isTy, dLen, dIx, dList, dRev, dInt, dMax2, dMin2, decide_eq_true_eq, if_true, if_false, Bool.not_true, Bool.not_false, Bool.false_eq_true, reduceIte, Int.reduceLT, Int.reduceLE, Int.reduceEq, Int.reduceNeg, String.reduceEq] <;> rfl) (seq_nx (by simp only [fnD, gNx, gSeq, gSet, gSetO, ownAt, gApp, gRev, gPut, frz, gFrz, gRet, gExpr, gIf, gExc, asL, eVar, eC, eOp, eUn, toB, tB, tAndB, tOrB, tNotB, eAnd, eOr, eNot, eChain, aNil, aCons, eTup, oLst, eO, eCall, oUn, oSl, rNone, rSome, toI, dCut, eLenO, eIxO, sBind_ok, sBind_exc, sBind_stk, Res.bind_ok, Res.bind_exc, Res.bind_stk, SRes.thn_nx, SRes.thn_rt, SRes.thn_exc, SRes.thn_stk, List.map_cons, List.map_nil, List.cons_append, List.nil_append, List.length_cons, List.length_nil, List.replicate_succ, List.replicate_zero, List.getElem?_cons_zero, List.getElem?_cons_succ, List.set_cons_zero, List.set_cons_succ, Nat.zero_add, Nat.reduceAdd, Nat.reduceSub, dAdd, dSub, dMul, dDiv, dMod, dNeg, dCmp, dLt, dLe, dGt, dGe, dEq, dNe, dEq?, dIsN, dNotN, dIsi, isTy, dLen, dIx, dList, dRev, dInt, dMax2, dMin2, decide_eq_true_eq, if_true, if_false, Bool.not_true, Bool.not_false, Bool.false_eq_true, reduceIte, Int.reduceLT, Int.reduceLE, Int.reduceEq, Int.reduceNeg, String.reduceEq] <;> rfl) (seq_nx (by simp only [fnD, gNx, gSeq, gSet, gSetO, ownAt, gApp, gRev, gPut, frz, gFrz, gRet, gExpr, gIf, gExc, asL, eVar, eC, eOp, eUn, toB, tB, tAndB, tOrB, tNotB, eAnd, eOr, eNot, eChain, aNil, aCons, eTup, oLst, eO, eCall, oUn, oSl, rNone, rSome, toI, dCut, eLenO, eIxO, sBind_ok, sBind_exc, sBind_stk, Res.bind_ok, Res.bind_exc, Res.bind_stk, SRes.thn_nx, SRes.thn_rt, SRes.thn_exc, SRes.thn_stk, List.map_cons, List.map_nil, List.cons_append, List.nil_append, List.length_cons, List.length_nil, List.replicate_succ, List.replicate_zero, List.getElem?_cons_zero, List.getElem?_cons_succ, List.set_cons_zero, List.set_cons_succ, Nat.zero_add, Nat.reduceAdd, Nat.reduceSub, dAdd, dSub, dMul, dDiv, dMod, dNeg, dCmp, dLt, dLe, dGt, dGe, dEq, dNe, dEq?, dIsN, dNotN, dIsi, isTy, dLen, dIx, dList, dRev, dInt, dMax2, dMin2, decide_eq_true_eq, if_true, if_false, Bool.not_true, Bool.not_false, Bool.false_eq_true, reduceIte, Int.reduceLT, Int.reduceLE, Int.reduceEq, Int.reduceNeg, String.reduceEq, decide_true] <;> rfl) ?_)))
          exact bad _ _ (by omega) (by omega)
        · refine seq_nx (by simp only [fnD, gNx, gSeq, gSet, gSetO, ownAt, gApp, gRev, gPut, frz, gFrz, gRet, gExpr, gIf, gExc, asL, eVar, eC, eOp, eUn, toB, tB, tAndB, tOrB, tNotB, eAnd, eOr, eNot, eChain, aNil, aCons, eTup, oLst, eO, eCall, oUn, oSl, rNone, rSome, toI, dCut, eLenO, eIxO, sBind_ok, sBind_exc, sBind_stk, Res.bind_ok, Res.bind_exc, Res.bind_stk, SRes.thn_nx, SRes.thn_rt, SRes.thn_exc, SRes.thn_stk, List.map_cons, List.map_nil, List.cons_append, List.nil_append, List.length_cons, List.length_nil, List.replicate_succ, List.replicate_zero, List.getElem?_cons_zero, List.getElem?_cons_succ, List.set_cons_zero, List.set_cons_succ, Nat.zero_add, Nat.reduceAdd, Nat.reduceSub, dAdd, dSub, dMul, dDiv, dMod, dNeg, dCmp, dLt, dLe, dGt, dGe, dEq, dNe, dEq?, dIsN, dNotN, dIsi, isTy, dLen, dIx, dList, dRev, dInt, dMax2, dMin2, decide_eq_true_eq, if_true, if_false, Bool.not_true, Bool.not_false, Bool.false_eq_true, reduceIte, Int.reduceLT, Int.reduceLE, Int.reduceEq, Int.reduceNeg, String.reduceEq, b1, decide_false] <;> rfl) (seq_nx (by simp only [fnD, gNx, gSeq, gSet, gSetO, ownAt, gApp, gRev, gPut, frz, gFrz, gRet, gExpr, gIf, gExc, asL, eVar, eC, eOp, eUn, toB, tB, tAndB, tOrB, tNotB, eAnd, eOr, eNot, eChain, aNil, aCons, eTup, oLst, eO, eCall, oUn, oSl, rNone, rSome, toI, dCut, eLenO, eIxO, sBind_ok, sBind_exc, sBind_stk, Res.bind_ok, Res.bind_exc, Res.bind_stk, SRes.thn_nx, SRes.thn_rt, SRes.thn_exc, SRes.thn_stk, List.map_cons, List.map_nil, List.cons_append, List.nil_append, List.length_cons, List.length_nil, List.replicate_succ, List.replicate_zero, List.getElem?_cons_zero, List.getElem?_cons_succ, List.set_cons_zero, List.set_cons_succ, Nat.zero_add, Nat.reduceAdd, Nat.reduceSub, dAdd, dSub, dMul, dDiv, dMod, dNeg, dCmp, dLt, dLe, dGt, dGe, dEq, dNe, dEq?, dIsN, dNotN, dIsi, isTy, dLen, dIx, dList, dRev, dInt, dMax2, dMin2, decide_eq_true_eq, if_true, if_false, Bool.not_true, Bool.not_false, Bool.false_eq_true, reduceIte, Int.reduceLT, Int.reduceLE, Int.reduceEq, Int.reduceNeg, String.reduceEq, b2, decide_false] <;> rfl) (seq_nx (by simp only [fnD, gNx, gSeq, gSet, gSetO, ownAt, gApp, gRev, gPut, frz, gFrz, gRet, gExpr, gIf, gExc, asL, eVar, eC, eOp, eUn, toB, tB, tAndB, tOrB, tNotB, eAnd, eOr, eNot, eChain, aNil, aCons, eTup, oLst, eO, eCall, oUn, oSl, rNone, rSome, toI, dCut, eLenO, eIxO, sBind_ok, sBind_exc, sBind_stk, Res.bind_ok, Res.bind_exc, Res.bind_stk, SRes.thn_nx, SRes.thn_rt, SRes.thn_exc, SRes.thn_stk, List.map_cons, List.map_nil, List.cons_append, List.nil_append, List.length_cons, List.length_nil, List.replicate_succ, List.replicate_zero, List.getElem?_cons_zero, List.getElem?_cons_succ, List.set_cons_zero, List.set_cons_succ, Nat.zero_add, Nat.reduceAdd, Nat.reduceSub, dAdd, dSub, dMul, dDiv, dMod, dNeg, dCmp, dLt, dLe, dGt, dGe, dEq, dNe, dEq?, dIsN, dNotN, dIsi, isTy, dLen, dIx, dList, dRev, dInt, dMax2, dMin2, decide_eq_true_eq, if_true, if_false, Bool.not_true, Bool.not_false, Bool.false_eq_true, reduceIte, Int.reduceLT, Int.reduceLE, Int.reduceEq, Int.reduceNeg, String.reduceEq, b3, decide_false] <;> rfl) (seq_nx (by simp only [fnD, gNx, gSeq, gSet, gSetO, ownAt, gApp, gRev, gPut, frz, gFrz, gRet, gExpr, gIf, gExc, asL, eVar, eC, eOp, eUn, toB, tB, tAndB, tOrB, tNotB, eAnd, eOr, eNot, eChain, aNil, aCons, eTup, oLst, eO, eCall, oUn, oSl, rNone, rSome, toI, dCut, eLenO, eIxO, sBind_ok, sBind_exc, sBind_stk, Res.bind_ok, Res.bind_exc, Res.bind_stk, SRes.thn_nx, SRes.thn_rt, SRes.thn_exc, SRes.thn_stk, List.map_cons, List.map_nil, List.cons_append, List.nil_append, List.length_cons, List.length_nil, List.replicate_succ, List.replicate_zero, List.getElem?_cons_zero, List.getElem?_cons_succ, List.set_cons_zero, List.set_cons_succ, Nat.zero_add, Nat.reduceAdd, Nat.reduceSub, dAdd, dSub, dMul, dDiv, dMod, dNeg, dCmp, dLt, dLe, dGt, dGe, dEq, dNe, dEq?, dIsN, dNotN, dIsi, isTy, dLen, dIx, dList, dRev, dInt, dMax2, dMin2, decide_eq_true_eq, if_true, if_false, Bool.not_true, Bool.not_false, Bool.false_eq_true, reduceIte, Int.reduceLT, Int.reduceLE, Int.reduceEq, Int.reduceNeg, String.reduceEq, b4, decide_false] <;> rfl) ?_)))
          exact good _ _ g0 g1 b2 b3 b4
end Pu

namespace Pw
open PySem PySem.Spec PyProof.Rows L2 Pu
def topS (i : Nat) : Stmt := PySem.Challenge.pw_bitpack_k01_numbers_written.main.body.getD i (.Pass ⟨0, 0, 0, 0⟩)
section
variable {P : Program} {w : World} {K : Fr} {mg : Str → Option Value} {base : Heap} {k : Nat}
abbrev s_room : Stmt := topS 9
theorem sc_room : FnScope ["width", "size", "step"] ["width"] (defScope s_room) := ⟨rfl, rfl, rfl, by decide +kernel, rfl, by decide +kernel, by decide +kernel⟩
theorem ok_room {f : Addr} {fd : FuncData} (F : Fun K "room" "room" s_room f fd) (m_range : mg "range" = none) : FnOk P w K mg base (L2.CX P w) (k + 1) f fd ["width"] (spP K mg 1 (S_room)) :=
  have sc := sc_room
  fn_pure F sc fun cdv A outer s H E hr tk hp => (pss_consP (ps_setP 1 pp_int sc.nd)
    (pss_consP (ps_forRP 2 hp rfl m_range (pp_var 0) (pss_oneP (ps_setP 1 (pp_op o2_mul (pp_var 1) pp_int) sc.nd)) sc.nd)
    (pss_oneP (ps_retP (pp_var 1)))))

abbrev s_bits_of : Stmt := topS 10
theorem sc_bits_of : FnScope ["number", "width", "bits", "step"] ["number", "width"] (defScope s_bits_of) := ⟨rfl, rfl, rfl, by decide +kernel, rfl, by decide +kernel, by decide +kernel⟩
theorem ok_bits_of {f : Addr} {fd : FuncData} {p_room : List D → Res D} (F : Fun K "bits_of" "bits_of" s_bits_of f fd) (c_room : Cal P w K mg base k "room" 1 p_room) (m_range : mg "range" = none) (x_TooWide : ExcT K mg "TooWide") : FnOk P w K mg base (L2.CX P w) (k + 1) f fd ["number", "width"] (spP K mg 2 (S_bits_of p_room)) :=
  have sc := sc_bits_of
  fn_pure F sc fun cdv A outer s H E hr tk hp => (pss_consP (ps_ifP (pw_orP (pt_cmpP o2_lt (pp_var 0) pp_int) (pw_or1P (pt_cmpP o2_ge (pp_var 0) (pp_call c_room hr tk (pa_consP (pp_var 1) pa_nilP) (al_cons al_nil))))).pt' (pss_oneP (ps_raiseP (c := "TooWide") x_TooWide tk)) pss_nilP)
    (pss_consP (ps_setOP 2 (po_lst pa_nilP) sc.nd)
    (pss_consP (ps_forRP 3 hp rfl m_range (pp_var 1) (pss_consP (ps_appP 2 (pp_op o2_mod (pp_var 0) pp_int))
    (pss_oneP (ps_setP 0 (pp_op o2_div (pp_var 0) pp_int) sc.nd))) sc.nd)
    (pss_consP (ps_revP 2)
    ((pss_oneP (ps_retP (pp_var 2))).frz 2)))))

abbrev s_number_of : Stmt := topS 11
theorem sc_number_of : FnScope ["bits", "number", "bit"] ["bits"] (defScope s_number_of) := ⟨rfl, rfl, rfl, by decide +kernel, rfl, by decide +kernel, by decide +kernel⟩
theorem ok_number_of {f : Addr} {fd : FuncData} (F : Fun K "number_of" "number_of" s_number_of f fd) : FnOk P w K mg base (L2.CX P w) (k + 1) f fd ["bits"] (spP K mg 1 (S_number_of)) :=
  have sc := sc_number_of
  fn_pure F sc fun cdv A outer s H E hr tk hp => (pss_consP (ps_setP 1 pp_int sc.nd)
    (pss_consP (ps_forP 2 hp rfl (pp_var 0) (pss_oneP (ps_setP 1 (pp_op o2_add (pp_op o2_mul (pp_var 1) pp_int) (pp_var 2)) sc.nd)) sc.nd)
    (pss_oneP (ps_retP (pp_var 1)))))

abbrev s__law_cell_at : Stmt := topS 13
theorem sc__law_cell_at : FnScope ["_law_script", "_law_k"] ["_law_script", "_law_k"] (defScope s__law_cell_at) := ⟨rfl, rfl, rfl, by decide +kernel, rfl, by decide +kernel, by decide +kernel⟩
theorem ok__law_cell_at {f : Addr} {fd : FuncData} (F : Fun K "_law_cell_at" "_law_cell_at" s__law_cell_at f fd) (m_len : mg "len" = none) : FnOk P w K mg base (L2.CX P w) (k + 1) f fd ["_law_script", "_law_k"] (spP K mg 2 (S_law_cell_at)) :=
  have sc := sc__law_cell_at
  fn_pure F sc fun cdv A outer s H E hr tk hp => (pss_consP (ps_ifP (pt_cmpP o2_lt (pp_var 1) (pp_b1 c1_len m_len (pp_var 0))) (pss_oneP (ps_retP (pp_ix (pp_var 0) (pp_var 1)))) pss_nilP)
    (pss_oneP (ps_retP pp_int)))

abbrev s__law_whole : Stmt := topS 14
theorem sc__law_whole : FnScope ["_law_found"] ["_law_found"] (defScope s__law_whole) := ⟨rfl, rfl, rfl, by decide +kernel, rfl, by decide +kernel, by decide +kernel⟩
theorem ok__law_whole {f : Addr} {fd : FuncData} (F : Fun K "_law_whole" "_law_whole" s__law_whole f fd) (m_isinstance : mg "isinstance" = none) (m_bool : mg "bool" = none) (m_int : mg "int" = none) : FnOk P w K mg base (L2.CX P w) (k + 1) f fd ["_law_found"] (spP K mg 1 (S_law_whole)) :=
  have sc := sc__law_whole
  fn_pure F sc fun cdv A outer s H E hr tk hp => (pss_oneP (ps_retP (pp_and (pp_isi .int m_isinstance m_int (pp_var 0)) (pp_one (pp_not (pp_isi .bool m_isinstance m_bool (pp_var 0)))))))

abbrev s__law_room : Stmt := topS 15
theorem sc__law_room : FnScope ["_law_width", "_law_size", "_law_step"] ["_law_width"] (defScope s__law_room) := ⟨rfl, rfl, rfl, by decide +kernel, rfl, by decide +kernel, by decide +kernel⟩
theorem ok__law_room {f : Addr} {fd : FuncData} (F : Fun K "_law_room" "_law_room" s__law_room f fd) (m_range : mg "range" = none) : FnOk P w K mg base (L2.CX P w) (k + 1) f fd ["_law_width"] (spP K mg 1 (S_law_room)) :=
  have sc := sc__law_room
  fn_pure F sc fun cdv A outer s H E hr tk hp => (pss_consP (ps_setP 1 pp_int sc.nd)
    (pss_consP (ps_forRP 2 hp rfl m_range (pp_var 0) (pss_oneP (ps_setP 1 (pp_op o2_mul (pp_var 1) pp_int) sc.nd)) sc.nd)
    (pss_oneP (ps_retP (pp_var 1)))))

abbrev s__law_written : Stmt := topS 16
theorem sc__law_written : FnScope ["_law_number", "_law_width", "_law_bits", "_law_step"] ["_law_number", "_law_width"] (defScope s__law_written) := ⟨rfl, rfl, rfl, by decide +kernel, rfl, by decide +kernel, by decide +kernel⟩
theorem ok__law_written {f : Addr} {fd : FuncData} (F : Fun K "_law_written" "_law_written" s__law_written f fd) (m_range : mg "range" = none) (m_list : mg "list" = none) (m_reversed : mg "reversed" = none) : FnOk P w K mg base (L2.CX P w) (k + 1) f fd ["_law_number", "_law_width"] (spP K mg 2 (S_law_written)) :=
  have sc := sc__law_written
  fn_pure F sc fun cdv A outer s H E hr tk hp => (pss_consP (ps_setOP 2 (po_lst pa_nilP) sc.nd)
    (pss_consP (ps_forRP 3 hp rfl m_range (pp_var 1) (pss_consP (ps_appP 2 (pp_op o2_mod (pp_var 0) pp_int))
    (pss_oneP (ps_setP 0 (pp_op o2_div (pp_var 0) pp_int) sc.nd))) sc.nd)
    ((pss_oneP (ps_retP ((po_listRev rfl m_list m_reversed (pp_var 2))).fz)).frz 2)))

abbrev s__law_alike : Stmt := topS 17
theorem sc__law_alike : FnScope ["_law_found", "_law_due", "_law_k"] ["_law_found", "_law_due"] (defScope s__law_alike) := ⟨rfl, rfl, rfl, by decide +kernel, rfl, by decide +kernel, by decide +kernel⟩
theorem ok__law_alike {f : Addr} {fd : FuncData} {p__law_whole p__law_alike : List D → Res D} (F : Fun K "_law_alike" "_law_alike" s__law_alike f fd) (c__law_whole : Cal P w K mg base k "_law_whole" 1 p__law_whole) (c__law_alike : Cal P w K mg base k "_law_alike" 2 p__law_alike) (m_isinstance : mg "isinstance" = none) (m_bool : mg "bool" = none) (m_int : mg "int" = none) (m_str : mg "str" = none) (m_tuple : mg "tuple" = none) (m_list : mg "list" = none) (m_len : mg "len" = none) (m_range : mg "range" = none) : FnOk P w K mg base (L2.CX P w) (k + 1) f fd ["_law_found", "_law_due"] (spP K mg 2 (S_law_alike p__law_whole p__law_alike)) :=
  have sc := sc__law_alike
  fn_pure F sc fun cdv A outer s H E hr tk hp => (pss_consP (ps_ifP (pt_isN (pp_var 1)) (pss_oneP (ps_retP (pp_isN (pp_var 0)))) pss_nilP)
    (pss_consP (ps_ifP (pt_valP (pp_isi .bool m_isinstance m_bool (pp_var 1))) (pss_oneP (ps_retP (pp_and (pp_isi .bool m_isinstance m_bool (pp_var 0)) (pp_one (pp_cmp (o2_eq hr.units) (pp_var 0) (pp_var 1)))))) pss_nilP)
    (pss_consP (ps_ifP (pt_valP (pp_isi .int m_isinstance m_int (pp_var 1))) (pss_oneP (ps_retP (pp_and (pp_call c__law_whole hr tk (pa_consP (pp_var 0) pa_nilP) (al_cons al_nil)) (pp_one (pp_cmp (o2_eq hr.units) (pp_var 0) (pp_var 1)))))) pss_nilP)
    (pss_consP (ps_ifP (pt_valP (pp_isi .str m_isinstance m_str (pp_var 1))) (pss_oneP (ps_retP (pp_and (pp_isi .str m_isinstance m_str (pp_var 0)) (pp_one (pp_cmp (o2_eq hr.units) (pp_var 0) (pp_var 1)))))) pss_nilP)
    (pss_consP (ps_ifP (pt_valP (pp_isi .tuple m_isinstance m_tuple (pp_var 1))) (pss_oneP (ps_ifP (pt_notP (pt_valP (pp_isi .tuple m_isinstance m_tuple (pp_var 0)))) (pss_oneP (ps_retP pp_bl)) pss_nilP)) (pss_oneP (ps_ifP (pt_notP (pt_valP (pp_isi .list m_isinstance m_list (pp_var 0)))) (pss_oneP (ps_retP pp_bl)) pss_nilP)))
    (pss_consP (ps_ifP (pt_cmpP (o2_ne hr.units) (pp_b1 c1_len m_len (pp_var 0)) (pp_b1 c1_len m_len (pp_var 1))) (pss_oneP (ps_retP pp_bl)) pss_nilP)
    (pss_consP (ps_forRP 2 hp rfl m_range (pp_b1 c1_len m_len (pp_var 1)) (pss_oneP (ps_ifP (pt_notP (pt_valP (pp_call c__law_alike hr tk (pa_consP (pp_ix (pp_var 0) (pp_var 2)) (pa_consP (pp_ix (pp_var 1) (pp_var 2)) pa_nilP)) (al_cons (al_cons al_nil))))) (pss_oneP (ps_retP pp_bl)) pss_nilP)) sc.nd)
    (pss_oneP (ps_retP pp_bl)))))))))

abbrev s__law_refused_by_any : Stmt := topS 18
theorem sc__law_refused_by_any : FnScope ["_law_number", "_law_width", "e"] ["_law_number", "_law_width"] (defScope s__law_refused_by_any) := ⟨rfl, rfl, rfl, by decide +kernel, rfl, by decide +kernel, by decide +kernel⟩
theorem ok__law_refused_by_any {f : Addr} {fd : FuncData} {p_bits_of : List D → Res D} (F : Fun K "_law_refused_by_any" "_law_refused_by_any" s__law_refused_by_any f fd) (c_bits_of : Cal P w K mg base k "bits_of" 2 p_bits_of) (m_isinstance : mg "isinstance" = none) (m_ValueError : mg "ValueError" = none) (t_PackError_TooWide : ClT K mg "PackError" [("TooWide", true)]) (ec_TooWide : EcT K mg "TooWide") (k_TooWide_BadRecord : KitT K mg "TooWide" "BadRecord" false) (kv_TooWide_ValueError : KitV K mg "TooWide" "ValueError" true) (k_TooWide_Wrong : KitT K mg "TooWide" "Wrong" false) (k_TooWide_Short : KitT K mg "TooWide" "Short" false) (k_TooWide_NoBits : KitT K mg "TooWide" "NoBits" false) (k_TooWide_Left : KitT K mg "TooWide" "Left" false) : FnOk P w K mg base (L2.CX P w) (k + 1) f fd ["_law_number", "_law_width"] (spP K mg 2 (S_law_refused_by_any p_bits_of)) :=
  have sc := sc__law_refused_by_any
  fn_pure F sc fun cdv A outer s H E hr tk hp => (pss_consP (ps_tryRT 2 (fun _ => .bl true) (fun _ => .bl true) (fun _ _ _ => by unfold Rep; rfl) t_PackError_TooWide tk (fun W' pn xe tk hp => (pss_oneP (ps_exprP (pp_call c_bits_of hr tk (pa_consP (pp_var 0) (pa_consP (pp_var 1) pa_nilP)) (al_cons (al_cons al_nil)))))) (fun a oe c A pn ec m hz hf => (by obtain rfl : c = "TooWide" := clOf_one ec; exact (pss_cons (ps_if (PW.pt (pw_or (pt_val (pe_isE 2 ec_TooWide m hz hf k_TooWide_BadRecord m_isinstance)) (pw_or1 (pt_val (pe_isET' 2 ec_TooWide m hz hf (cls_cons k_TooWide_Left (cls_cons k_TooWide_NoBits (cls_cons k_TooWide_Short (cls_cons k_TooWide_Wrong cls_nil)))) m_isinstance))))) pss_never pss_nil) (pss_one (ps_ret (pe_isEV 2 ec_TooWide m hz hf kv_TooWide_ValueError m_isinstance m_ValueError)))).imp fun D σ H ⟨h1, h2⟩ => ⟨h1, false, rfl, iteF ⟨h1, fun H' s => ⟨false, rfl, iteF ⟨h1, h2 H' s⟩⟩⟩⟩)) sc.nd)
    (pss_oneP (ps_retP pp_bl)))

abbrev s__law_as_a_number : Stmt := topS 19
theorem sc__law_as_a_number : FnScope ["_law_script", "_law_long", "_law_holds", "_law_number", "_law_bits", "_law_found"] ["_law_script"] (defScope s__law_as_a_number) := ⟨rfl, rfl, rfl, by decide +kernel, rfl, by decide +kernel, by decide +kernel⟩
theorem ok__law_as_a_number {f : Addr} {fd : FuncData} {p__law_cell_at p__law_room p__law_written p_number_of p__law_alike p__law_whole : List D → Res D} (F : Fun K "_law_as_a_number" "_law_as_a_number" s__law_as_a_number f fd) (c__law_cell_at : Cal P w K mg base k "_law_cell_at" 2 p__law_cell_at) (c__law_room : Cal P w K mg base k "_law_room" 1 p__law_room) (c__law_written : Cal P w K mg base k "_law_written" 2 p__law_written) (c_number_of : Cal P w K mg base k "number_of" 1 p_number_of) (c__law_alike : Cal P w K mg base k "_law_alike" 2 p__law_alike) (c__law_whole : Cal P w K mg base k "_law_whole" 1 p__law_whole) : FnOk P w K mg base (L2.CX P w) (k + 1) f fd ["_law_script"] (spP K mg 1 (S_law_as_a_number p__law_cell_at p__law_room p__law_written p_number_of p__law_alike p__law_whole)) :=
  have sc := sc__law_as_a_number
  fn_pure F sc fun cdv A outer s H E hr tk hp => (pss_consP (ps_setP 1 (pp_op o2_mod (pp_call c__law_cell_at hr tk (pa_consP (pp_var 0) (pa_consP pp_int pa_nilP)) (al_cons (al_cons al_nil))) pp_int) sc.nd)
    (pss_consP (ps_ifP (pt_cmpP (o2_eq hr.units) (pp_op o2_mod (pp_call c__law_cell_at hr tk (pa_consP (pp_var 0) (pa_consP pp_int pa_nilP)) (al_cons (al_cons al_nil))) pp_int) pp_int) (pss_oneP (ps_setP 1 (pp_op o2_add pp_int (pp_op o2_mod (pp_call c__law_cell_at hr tk (pa_consP (pp_var 0) (pa_consP pp_int pa_nilP)) (al_cons (al_cons al_nil))) pp_int)) sc.nd)) pss_nilP)
    (pss_consP (ps_setP 2 (pp_call c__law_room hr tk (pa_consP (pp_var 1) pa_nilP) (al_cons al_nil)) sc.nd)
    (pss_consP (ps_setP 3 (pp_op o2_mod (pp_call c__law_cell_at hr tk (pa_consP (pp_var 0) (pa_consP pp_int pa_nilP)) (al_cons (al_cons al_nil))) (pp_var 2)) sc.nd)
    (pss_consP (ps_ifP (pt_cmpP (o2_eq hr.units) (pp_op o2_mod (pp_call c__law_cell_at hr tk (pa_consP (pp_var 0) (pa_consP pp_int pa_nilP)) (al_cons (al_cons al_nil))) pp_int) pp_int) (pss_oneP (ps_setP 3 (pp_op o2_sub (pp_var 2) pp_int) sc.nd)) pss_nilP)
    (pss_consP (ps_ifP (pt_cmpP (o2_eq hr.units) (pp_op o2_mod (pp_call c__law_cell_at hr tk (pa_consP (pp_var 0) (pa_consP pp_int pa_nilP)) (al_cons (al_cons al_nil))) pp_int) pp_int) (pss_oneP (ps_setP 3 (pp_op o2_mod (pp_call c__law_cell_at hr tk (pa_consP (pp_var 0) (pa_consP pp_int pa_nilP)) (al_cons (al_cons al_nil))) (pp_op o2_add pp_int (pp_op o2_div (pp_var 2) pp_int))) sc.nd)) pss_nilP)
    (pss_consP (ps_setP 4 (pp_call c__law_written hr tk (pa_consP (pp_var 3) (pa_consP (pp_var 1) pa_nilP)) (al_cons (al_cons al_nil))) sc.nd)
    (pss_consP (ps_setP 5 (pp_call c_number_of hr tk (pa_consP (pp_var 4) pa_nilP) (al_cons al_nil)) sc.nd)
    (pss_oneP (ps_retP (pp_and (pp_call c__law_whole hr tk (pa_consP (pp_var 5) pa_nilP) (al_cons al_nil)) (pp_and (pp_cmp (o2_eq hr.units) (pp_var 5) (pp_var 3)) (pp_one (pp_call c__law_alike hr tk (pa_consP (pp_var 4) (pa_consP (pp_call c__law_written hr tk (pa_consP (pp_var 3) (pa_consP (pp_var 1) pa_nilP)) (al_cons (al_cons al_nil))) pa_nilP)) (al_cons (al_cons al_nil))))))))))))))))

abbrev s_law : Stmt := topS 20
theorem sc_law : FnScope ["_law_script", "_law_width", "_law_holds", "_law_far", "_law_way", "_law_number", "_law_good", "_law_refused", "_law_found"] ["_law_script"] (defScope s_law) := ⟨rfl, rfl, rfl, by decide +kernel, rfl, by decide +kernel, by decide +kernel⟩
theorem ok_law {f : Addr} {fd : FuncData} {p__law_as_a_number p__law_cell_at p__law_room p_bits_of p__law_refused_by_any p__law_alike p__law_written : List D → Res D} (F : Fun K "law" "law" s_law f fd) (c__law_as_a_number : Cal P w K mg base k "_law_as_a_number" 1 p__law_as_a_number) (c__law_cell_at : Cal P w K mg base k "_law_cell_at" 2 p__law_cell_at) (c__law_room : Cal P w K mg base k "_law_room" 1 p__law_room) (c_bits_of : Cal P w K mg base k "bits_of" 2 p_bits_of) (c__law_refused_by_any : Cal P w K mg base k "_law_refused_by_any" 2 p__law_refused_by_any) (c__law_alike : Cal P w K mg base k "_law_alike" 2 p__law_alike) (c__law_written : Cal P w K mg base k "_law_written" 2 p__law_written) (t_TooWide_TooWide : ClT K mg "TooWide" [("TooWide", true)]) : FnOk P w K mg base (L2.CX P w) (k + 1) f fd ["_law_script"] (spP K mg 1 (S_law p__law_as_a_number p__law_cell_at p__law_room p_bits_of p__law_refused_by_any p__law_alike p__law_written)) :=
  have sc := sc_law
  fn_pure F sc fun cdv A outer s H E hr tk hp => (pss_consP (ps_ifP (pt_notP (pt_valP (pp_call c__law_as_a_number hr tk (pa_consP (pp_var 0) pa_nilP) (al_cons al_nil)))) (pss_oneP (ps_retP pp_bl)) pss_nilP)
    (pss_consP (ps_setP 1 (pp_op o2_mod (pp_call c__law_cell_at hr tk (pa_consP (pp_var 0) (pa_consP pp_int pa_nilP)) (al_cons (al_cons al_nil))) pp_int) sc.nd)
    (pss_consP (ps_setP 2 (pp_call c__law_room hr tk (pa_consP (pp_var 1) pa_nilP) (al_cons al_nil)) sc.nd)
    (pss_consP (ps_setP 3 (pp_op o2_mod (pp_call c__law_cell_at hr tk (pa_consP (pp_var 0) (pa_consP pp_int pa_nilP)) (al_cons (al_cons al_nil))) (pp_op o2_pow pp_int pp_int)) sc.nd)
    (pss_consP (ps_setP 4 (pp_op o2_mod (pp_call c__law_cell_at hr tk (pa_consP (pp_var 0) (pa_consP pp_int pa_nilP)) (al_cons (al_cons al_nil))) pp_int) sc.nd)
    (pss_consP (ps_setP 5 (pp_op o2_mod (pp_call c__law_cell_at hr tk (pa_consP (pp_var 0) (pa_consP pp_int pa_nilP)) (al_cons (al_cons al_nil))) (pp_var 2)) sc.nd)
    (pss_consP (ps_ifP (pt_cmpP (o2_eq hr.units) (pp_var 4) pp_int) (pss_oneP (ps_setP 5 (pp_op o2_sub (pp_var 2) pp_int) sc.nd)) pss_nilP)
    (pss_consP (ps_ifP (pt_cmpP (o2_eq hr.units) (pp_var 4) pp_int) (pss_oneP (ps_setP 5 (pp_var 2) sc.nd)) pss_nilP)
    (pss_consP (ps_ifP (pt_cmpP (o2_eq hr.units) (pp_var 4) pp_int) (pss_oneP (ps_setP 5 (pp_op o2_add (pp_var 2) (pp_var 3)) sc.nd)) pss_nilP)
    (pss_consP (ps_ifP (pt_cmpP (o2_eq hr.units) (pp_var 4) pp_int) (pss_oneP (ps_setP 5 (pp_op o2_sub (pp_neg pp_int) (pp_var 3)) sc.nd)) pss_nilP)
    (pss_consP (ps_setP 6 (pp_cmp o2_notIn (pp_var 4) (pp_tup (pa_consP pp_int (pa_consP pp_int (pa_consP pp_int pa_nilP))))) sc.nd)
    (pss_consP (ps_setP 7 pp_bl sc.nd)
    (pss_consP (ps_setP 8 pp_non sc.nd)
    (pss_consP (ps_tryT t_TooWide_TooWide tk (fun W' pn xe tk hp => (pss_oneP (ps_setP 8 (pp_call c_bits_of hr tk (pa_consP (pp_var 5) (pa_consP (pp_var 1) pa_nilP)) (al_cons (al_cons al_nil))) sc.nd))) (fun a oe pn => (pss_oneP (ps_setP 7 pp_bl sc.nd))))
    (pss_consP (ps_ifP (pt_notP (pt_valP (pp_var 6))) (pss_oneP (ps_retP (pp_and (pp_var 7) (pp_one (pp_call c__law_refused_by_any hr tk (pa_consP (pp_var 5) (pa_consP (pp_var 1) pa_nilP)) (al_cons (al_cons al_nil))))))) pss_nilP)
    (pss_oneP (ps_retP (pp_and (pp_not (pp_var 7)) (pp_one (pp_call c__law_alike hr tk (pa_consP (pp_var 8) (pa_consP (pp_call c__law_written hr tk (pa_consP (pp_var 5) (pa_consP (pp_var 1) pa_nilP)) (al_cons (al_cons al_nil))) pa_nilP)) (al_cons (al_cons al_nil))))))))))))))))))))))

end
inductive Fn where
  | f_room | f_bits_of | f_number_of | f__law_cell_at | f__law_whole | f__law_room | f__law_written | f__law_alike | f__law_refused_by_any | f__law_as_a_number | f_law
def M : Nat → Fn → List D → Res D
  | 0, _ => fun _ => .stk
  | k + 1, .f_room => S_room
  | k + 1, .f_bits_of => S_bits_of (M k .f_room)
  | k + 1, .f_number_of => S_number_of
  | k + 1, .f__law_cell_at => S_law_cell_at
  | k + 1, .f__law_whole => S_law_whole
  | k + 1, .f__law_room => S_law_room
  | k + 1, .f__law_written => S_law_written
  | k + 1, .f__law_alike => S_law_alike (M k .f__law_whole) (M k .f__law_alike)
  | k + 1, .f__law_refused_by_any => S_law_refused_by_any (M k .f_bits_of)
  | k + 1, .f__law_as_a_number => S_law_as_a_number (M k .f__law_cell_at) (M k .f__law_room) (M k .f__law_written) (M k .f_number_of) (M k .f__law_alike) (M k .f__law_whole)
  | k + 1, .f_law => S_law (M k .f__law_as_a_number) (M k .f__law_cell_at) (M k .f__law_room) (M k .f_bits_of) (M k .f__law_refused_by_any) (M k .f__law_alike) (M k .f__law_written)
structure Txt (K : Fr) (mg : Str → Option Value) : Prop where
  m_ValueError : mg "ValueError" = none
  m_bool : mg "bool" = none
  m_int : mg "int" = none
  m_isinstance : mg "isinstance" = none
  m_len : mg "len" = none
  m_list : mg "list" = none
  m_range : mg "range" = none
  m_reversed : mg "reversed" = none
  m_str : mg "str" = none
  m_tuple : mg "tuple" = none
  d_room : DefT K mg "room" s_room ["width"]
  d_bits_of : DefT K mg "bits_of" s_bits_of ["number", "width"]
  d_number_of : DefT K mg "number_of" s_number_of ["bits"]
  d__law_cell_at : DefT K mg "_law_cell_at" s__law_cell_at ["_law_script", "_law_k"]
  d__law_whole : DefT K mg "_law_whole" s__law_whole ["_law_found"]
  d__law_room : DefT K mg "_law_room" s__law_room ["_law_width"]
  d__law_written : DefT K mg "_law_written" s__law_written ["_law_number", "_law_width"]
  d__law_alike : DefT K mg "_law_alike" s__law_alike ["_law_found", "_law_due"]
  d__law_refused_by_any : DefT K mg "_law_refused_by_any" s__law_refused_by_any ["_law_number", "_law_width"]
  d__law_as_a_number : DefT K mg "_law_as_a_number" s__law_as_a_number ["_law_script"]
  d_law : DefT K mg "law" s_law ["_law_script"]
  x_TooWide : ExcT K mg "TooWide"
  t_PackError_TooWide : ClT K mg "PackError" [("TooWide", true)]
  ec_TooWide : EcT K mg "TooWide"
  k_TooWide_BadRecord : KitT K mg "TooWide" "BadRecord" false
  kv_TooWide_ValueError : KitV K mg "TooWide" "ValueError" true
  k_TooWide_Wrong : KitT K mg "TooWide" "Wrong" false
  k_TooWide_Short : KitT K mg "TooWide" "Short" false
  k_TooWide_NoBits : KitT K mg "TooWide" "NoBits" false
  k_TooWide_Left : KitT K mg "TooWide" "Left" false
  t_TooWide_TooWide : ClT K mg "TooWide" [("TooWide", true)]
theorem txt_of {K : Fr} {h : Heap} {mg : Str → Option Value} (_ : K.In h) (X : Txt K mg) : Txt K mg := X
structure AllC (P : Program) (w : World) (K : Fr) (mg : Str → Option Value) (base : Heap) (k : Nat) : Prop where
  c_room : Cal P w K mg base k "room" 1 (M k .f_room)
  c_bits_of : Cal P w K mg base k "bits_of" 2 (M k .f_bits_of)
  c_number_of : Cal P w K mg base k "number_of" 1 (M k .f_number_of)
  c__law_cell_at : Cal P w K mg base k "_law_cell_at" 2 (M k .f__law_cell_at)
  c__law_whole : Cal P w K mg base k "_law_whole" 1 (M k .f__law_whole)
  c__law_room : Cal P w K mg base k "_law_room" 1 (M k .f__law_room)
  c__law_written : Cal P w K mg base k "_law_written" 2 (M k .f__law_written)
  c__law_alike : Cal P w K mg base k "_law_alike" 2 (M k .f__law_alike)
  c__law_refused_by_any : Cal P w K mg base k "_law_refused_by_any" 2 (M k .f__law_refused_by_any)
  c__law_as_a_number : Cal P w K mg base k "_law_as_a_number" 1 (M k .f__law_as_a_number)
  c_law : Cal P w K mg base k "law" 1 (M k .f_law)
theorem all_ok {P : Program} {w : World} {K : Fr} {mg : Str → Option Value} {base : Heap} (X : Txt K mg) : ∀ k, AllC P w K mg base k
  | 0 => ⟨X.d_room.zero, X.d_bits_of.zero, X.d_number_of.zero, X.d__law_cell_at.zero, X.d__law_whole.zero, X.d__law_room.zero, X.d__law_written.zero, X.d__law_alike.zero, X.d__law_refused_by_any.zero, X.d__law_as_a_number.zero, X.d_law.zero⟩
  | k + 1 => by
    have I := all_ok (P := P) (w := w) (base := base) X k
    have h_room : Cal P w K mg base (k + 1) "room" 1 (M (k + 1) .f_room) := by exact X.d_room.step fun F => ok_room F X.m_range
    have h_bits_of : Cal P w K mg base (k + 1) "bits_of" 2 (M (k + 1) .f_bits_of) := by exact X.d_bits_of.step fun F => ok_bits_of F I.c_room X.m_range X.x_TooWide
    have h_number_of : Cal P w K mg base (k + 1) "number_of" 1 (M (k + 1) .f_number_of) := by exact X.d_number_of.step fun F => ok_number_of F
    have h__law_cell_at : Cal P w K mg base (k + 1) "_law_cell_at" 2 (M (k + 1) .f__law_cell_at) := by exact X.d__law_cell_at.step fun F => ok__law_cell_at F X.m_len
    have h__law_whole : Cal P w K mg base (k + 1) "_law_whole" 1 (M (k + 1) .f__law_whole) := by exact X.d__law_whole.step fun F => ok__law_whole F X.m_isinstance X.m_bool X.m_int
    have h__law_room : Cal P w K mg base (k + 1) "_law_room" 1 (M (k + 1) .f__law_room) := by exact X.d__law_room.step fun F => ok__law_room F X.m_range
    have h__law_written : Cal P w K mg base (k + 1) "_law_written" 2 (M (k + 1) .f__law_written) := by exact X.d__law_written.step fun F => ok__law_written F X.m_range X.m_list X.m_reversed
    have h__law_alike : Cal P w K mg base (k + 1) "_law_alike" 2 (M (k + 1) .f__law_alike) := by exact X.d__law_alike.step fun F => ok__law_alike F I.c__law_whole I.c__law_alike X.m_isinstance X.m_bool X.m_int X.m_str X.m_tuple X.m_list X.m_len X.m_range
    have h__law_refused_by_any : Cal P w K mg base (k + 1) "_law_refused_by_any" 2 (M (k + 1) .f__law_refused_by_any) := by exact X.d__law_refused_by_any.step fun F => ok__law_refused_by_any F I.c_bits_of X.m_isinstance X.m_ValueError X.t_PackError_TooWide X.ec_TooWide X.k_TooWide_BadRecord X.kv_TooWide_ValueError X.k_TooWide_Wrong X.k_TooWide_Short X.k_TooWide_NoBits X.k_TooWide_Left
    have h__law_as_a_number : Cal P w K mg base (k + 1) "_law_as_a_number" 1 (M (k + 1) .f__law_as_a_number) := by exact X.d__law_as_a_number.step fun F => ok__law_as_a_number F I.c__law_cell_at I.c__law_room I.c__law_written I.c_number_of I.c__law_alike I.c__law_whole
    have h_law : Cal P w K mg base (k + 1) "law" 1 (M (k + 1) .f_law) := by exact X.d_law.step fun F => ok_law F I.c__law_as_a_number I.c__law_cell_at I.c__law_room I.c_bits_of I.c__law_refused_by_any I.c__law_alike I.c__law_written X.t_TooWide_TooWide
    exact ⟨h_room, h_bits_of, h_number_of, h__law_cell_at, h__law_whole, h__law_room, h__law_written, h__law_alike, h__law_refused_by_any, h__law_as_a_number, h_law⟩
end Pw
namespace Pw
open PySem Pu
def KJ : Nat := 20
theorem law_true (ns : List Int) (_ : ns.length ≤ 63) : M (KJ + 1) .f_law [.scr ns] = .ok (.bl true) := by
  have e : M (KJ + 1) .f_law = S_law (M KJ .f__law_as_a_number) (M KJ .f__law_cell_at) (M KJ .f__law_room) (M KJ .f_bits_of) (M KJ .f__law_refused_by_any) (M KJ .f__law_alike) (M KJ .f__law_written) := rfl
  rw [e]
  have rm : ∀ w : Nat, w ≤ 64 → M 18 .f_room [.int w] = .ok (.int (2 ^ w)) := fun w h => room_eq w (by omega)
  refine k01_law (fun k h => cell_eq ns k h) (fun n w h => written_eq n w (by omega)) (fun w h => law_room_eq w (by omega)) ?_ (fun n w hw h0 h1 => bits_of_ok (p_room := M 19 .f_room) (room_eq w (by omega)) (by omega) h0 h1)
    (fun n w hw h => bits_of_exc (p_room := M 19 .f_room) (room_eq w (by omega)) h) (fun n w hw h => k01_any (pb := M 19 .f_bits_of) (bits_of_exc (p_room := M 18 .f_room) (rm w hw) h)) fun d h1 h2 => ?_
  · have e2 : M KJ .f__law_as_a_number = S_law_as_a_number (M 19 .f__law_cell_at) (M 19 .f__law_room) (M 19 .f__law_written) (M 19 .f_number_of) (M 19 .f__law_alike) (M 19 .f__law_whole) := rfl
    rw [e2]
    refine k01_num (fun k h => cell_eq ns k h) (fun n w h => written_eq n w (by omega)) (fun w h => law_room_eq w (by omega)) (fun l => number_of_eq l) (fun d h1 h2 => ?_) fun n => whole_int n
    exact alike_self (fun k => M k .f__law_alike) (fun k => M k .f__law_whole) (fun k n => whole_int n) (fun k => rfl) 18 d h1 (by omega)
  · exact alike_self (fun k => M k .f__law_alike) (fun k => M k .f__law_whole) (fun k n => whole_int n) (fun k => rfl) 19 d h1 (by omega)
end Pw
open PySem PySem.W PyProof.Rows
set_option maxRecDepth 100000 in
set_option maxHeartbeats 0 in
theorem PySem.Challenge.cw_bitpack_k01_numbers_written_holds : PySem.Challenge.rw_bitpack_k01_numbers_written.Holds := by
  w_on; o_law; k_head; (case hw => w_witness2)
  k_fill
  refine L2.walk_of (l := PySem.Challenge.rw_bitpack_k01_numbers_written) (n := 63) (k := Pw.KJ + 1) (x := "_law_script") (CX := fun w => L2.CX PySem.Challenge.rw_bitpack_k01_numbers_written.prog w) (sp := fun w => Pu.spLaw _) rfl (by decide) rfl ⟨rfl, by decide, by decide⟩ (fun w h Y => PySem.W.kIn_of Y) ?F (fun w H a ns hl hO hS => ⟨a, ns, rfl, hS, hl, fun _ => rfl⟩) (fun _ _ _ _ _ h => Pu.cx_false h)
  case F =>
    intro w mg fa h KX G hmg
    have X := Pw.txt_of (mg := mg) KX (by
      clear hmg
      refine' ⟨?b0, ?b1, ?b2, ?b3, ?b4, ?b5, ?b6, ?b7, ?b8, ?b9, ?d10, ?d11, ?d12, ?d13, ?d14, ?d15, ?d16, ?d17, ?d18, ?d19, ?d20, ?x21, ?f22, ?f23, ?f24, ?f25, ?f26, ?f27, ?f28, ?f29, ?f30⟩
      (case b0 => exact PySem.W.mg_none_of KX G (by k_is))
      (case b1 => exact PySem.W.mg_none_of KX G (by k_is))
      (case b2 => exact PySem.W.mg_none_of KX G (by k_is))
      (case b3 => exact PySem.W.mg_none_of KX G (by k_is))
      (case b4 => exact PySem.W.mg_none_of KX G (by k_is))
      (case b5 => exact PySem.W.mg_none_of KX G (by k_is))
      (case b6 => exact PySem.W.mg_none_of KX G (by k_is))
      (case b7 => exact PySem.W.mg_none_of KX G (by k_is))
      (case b8 => exact PySem.W.mg_none_of KX G (by k_is))
      (case b9 => exact PySem.W.mg_none_of KX G (by k_is))
      (case d10 => refine' Pu.def_mk KX G ?xa ?xl ?xc ?xk ?xb; (case xa => k_is); (case xl => k_is); (case xc => k_is); (case xk => k_is); (case xb => exact fun _ _ _ _ _ _ us hl => match us, hl with | [_], _ => rfl))
      (case d11 => refine' Pu.def_mk KX G ?xa ?xl ?xc ?xk ?xb; (case xa => k_is); (case xl => k_is); (case xc => k_is); (case xk => k_is); (case xb => exact fun _ _ _ _ _ _ us hl => match us, hl with | [_, _], _ => rfl))
      (case d12 => refine' Pu.def_mk KX G ?xa ?xl ?xc ?xk ?xb; (case xa => k_is); (case xl => k_is); (case xc => k_is); (case xk => k_is); (case xb => exact fun _ _ _ _ _ _ us hl => match us, hl with | [_], _ => rfl))
      (case d13 => refine' Pu.def_mk KX G ?xa ?xl ?xc ?xk ?xb; (case xa => k_is); (case xl => k_is); (case xc => k_is); (case xk => k_is); (case xb => exact fun _ _ _ _ _ _ us hl => match us, hl with | [_, _], _ => rfl))
      (case d14 => refine' Pu.def_mk KX G ?xa ?xl ?xc ?xk ?xb; (case xa => k_is); (case xl => k_is); (case xc => k_is); (case xk => k_is); (case xb => exact fun _ _ _ _ _ _ us hl => match us, hl with | [_], _ => rfl))
      (case d15 => refine' Pu.def_mk KX G ?xa ?xl ?xc ?xk ?xb; (case xa => k_is); (case xl => k_is); (case xc => k_is); (case xk => k_is); (case xb => exact fun _ _ _ _ _ _ us hl => match us, hl with | [_], _ => rfl))
      (case d16 => refine' Pu.def_mk KX G ?xa ?xl ?xc ?xk ?xb; (case xa => k_is); (case xl => k_is); (case xc => k_is); (case xk => k_is); (case xb => exact fun _ _ _ _ _ _ us hl => match us, hl with | [_, _], _ => rfl))
      (case d17 => refine' Pu.def_mk KX G ?xa ?xl ?xc ?xk ?xb; (case xa => k_is); (case xl => k_is); (case xc => k_is); (case xk => k_is); (case xb => exact fun _ _ _ _ _ _ us hl => match us, hl with | [_, _], _ => rfl))
      (case d18 => refine' Pu.def_mk KX G ?xa ?xl ?xc ?xk ?xb; (case xa => k_is); (case xl => k_is); (case xc => k_is); (case xk => k_is); (case xb => exact fun _ _ _ _ _ _ us hl => match us, hl with | [_, _], _ => rfl))
      (case d19 => refine' Pu.def_mk KX G ?xa ?xl ?xc ?xk ?xb; (case xa => k_is); (case xl => k_is); (case xc => k_is); (case xk => k_is); (case xb => exact fun _ _ _ _ _ _ us hl => match us, hl with | [_], _ => rfl))
      (case d20 => refine' Pu.def_mk KX G ?xa ?xl ?xc ?xk ?xb; (case xa => k_is); (case xl => k_is); (case xc => k_is); (case xk => k_is); (case xb => exact fun _ _ _ _ _ _ us hl => match us, hl with | [_], _ => rfl))
      (case x21 => refine' Pu.exc_mk KX G ?xa ?xq ?xk ?xb ?xt; (case xa => k_is); (case xq => first | k_exc | k_is); (case xk => k_is); (case xb => k_is); (case xt => k_is))
      (case f22 => refine' (Pu.clT_cons ?y1 (Pu.clT_nil ?y1)); (case y1 => refine' Pu.exm_mk KX G ?za ?zb ?zc ?zd ?ze ?zf; (case za => k_is); (case zb => k_is); (case zc => k_is); (case zd => k_is); (case ze => k_is); (case zf => first | rfl | k_is)))
      (case f23 => refine' Pu.ec_mk KX G ?xa ?xg ?xk ?xs ?xd ?xh ?xn ?xt ?xm; (case xa => k_is); (case xg => k_is); (case xk => k_is); (case xs => k_is); (case xd => k_is); (case xh => k_is); (case xn => k_is); (case xt => k_is); (case xm => k_is))
      (case f24 => refine' Pu.kit_mk KX G ?xa ?xb ?xn ?xc ?xd ?xe; (case xa => k_is); (case xb => k_is); (case xn => decide); (case xc => k_is); (case xd => k_is); (case xe => first | rfl | k_is))
      (case f25 => refine' Pu.kitV_mk KX G ?xa ?xc ?xe; (case xa => k_is); (case xc => decide +kernel); (case xe => first | rfl | k_is))
      (case f26 => refine' Pu.kit_mk KX G ?xa ?xb ?xn ?xc ?xd ?xe; (case xa => k_is); (case xb => k_is); (case xn => decide); (case xc => k_is); (case xd => k_is); (case xe => first | rfl | k_is))
      (case f27 => refine' Pu.kit_mk KX G ?xa ?xb ?xn ?xc ?xd ?xe; (case xa => k_is); (case xb => k_is); (case xn => decide); (case xc => k_is); (case xd => k_is); (case xe => first | rfl | k_is))
      (case f28 => refine' Pu.kit_mk KX G ?xa ?xb ?xn ?xc ?xd ?xe; (case xa => k_is); (case xb => k_is); (case xn => decide); (case xc => k_is); (case xd => k_is); (case xe => first | rfl | k_is))
      (case f29 => refine' Pu.kit_mk KX G ?xa ?xb ?xn ?xc ?xd ?xe; (case xa => k_is); (case xb => k_is); (case xn => decide); (case xc => k_is); (case xd => k_is); (case xe => first | rfl | k_is))
      (case f30 => refine' (Pu.clT_cons ?y1 (Pu.clT_nil ?y1)); (case y1 => refine' Pu.exm_mk KX G ?za ?zb ?zc ?zd ?ze ?zf; (case za => k_is); (case zb => k_is); (case zc => k_is); (case zd => k_is); (case ze => k_is); (case zf => first | rfl | k_is))))
    exact Pu.law_end X.d_law hmg (fun base _ _ _ _ F => Pw.ok_law F (Pw.all_ok (base := base) X Pw.KJ).c__law_as_a_number (Pw.all_ok (base := base) X Pw.KJ).c__law_cell_at (Pw.all_ok (base := base) X Pw.KJ).c__law_room (Pw.all_ok (base := base) X Pw.KJ).c_bits_of (Pw.all_ok (base := base) X Pw.KJ).c__law_refused_by_any (Pw.all_ok (base := base) X Pw.KJ).c__law_alike (Pw.all_ok (base := base) X Pw.KJ).c__law_written X.t_TooWide_TooWide) Pw.law_true
