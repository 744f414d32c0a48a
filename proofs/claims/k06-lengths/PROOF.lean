import PyProof.Rows.All
import Wide.All
import OpenK.AllK
import Wide.FinOn
import PySem.Challenge.RW_bitpack_k06_lengths
import HandS.ForMost
import HandS.ForExc
import HandS.IsInst
import HandS.Wide
import HandS.Rev
import HandS.Zip
import PyProof.ListRange
import HandS.ExcIs
set_option Elab.async false
set_option linter.all false
set_option maxRecDepth 100000
set_option maxHeartbeats 4000000
set_option autoImplicit false
namespace Pu
open PySem PySem.Spec PyProof.Rows L2

/-- plain data -/
inductive D where
  | non | bl (b : Bool) | int (i : Int) | str (x : String) | tup (ds : List D) | lst (ds : List D) | scr (ns : List Int)
instance : Inhabited D := ⟨.non⟩

inductive Res (α : Type) where
  | ok (a : α) | exc (c : String) | stk
def Res.bind {α β : Type} (r : Res α) (k : α → Res β) : Res β := match r with
  | .ok a => k a
  | .exc c => .exc c
  | .stk => .stk
@[simp] theorem Res.bind_ok {α β : Type} (a : α) (k : α → Res β) : (Res.ok a).bind k = k a := rfl
@[simp] theorem Res.bind_exc {α β : Type} (c : String) (k : α → Res β) : (Res.exc c : Res α).bind k = .exc c := rfl
@[simp] theorem Res.bind_stk {α β : Type} (k : α → Res β) : (Res.stk : Res α).bind k = .stk := rfl

abbrev Fr := PySem.W.Frag
mutual
/-- v is d: every object that d leans on stands in F -/
def Rep (K : Fr) (F : Hp) : D → V → Prop
  | .non, v => v = .non
  | .bl b, v => v = .bl b
  | .int i, v => v = .int i
  | .str x, v => v = .str (Str.ofString x)
  | .tup ds, v => ∃ a xs, v = .ref a ∧ F a = some (.tup xs) ∧ Reps K F ds xs
  | .lst ds, v => ∃ a xs, v = .ref a ∧ F a = some (.lst xs) ∧ Reps K F ds xs
  | .scr ns, v => ∃ a, v = .ref a ∧ SqL K F a (ns.map V.int)
def Reps (K : Fr) (F : Hp) : List D → List V → Prop
  | [], xs => xs = []
  | d :: ds, xs => ∃ x r, xs = x :: r ∧ Rep K F d x ∧ Reps K F ds r
end
mutual
theorem Rep.mono {K : Fr} {F F' : Hp} (s : Same F F') : ∀ {d : D} {v : V}, Rep K F d v → Rep K F' d v
  | .non, _, h => h
  | .bl _, _, h => h
  | .int _, _, h => h
  | .str _, _, h => h
  | .tup ds, v, h => by
    unfold Rep at h ⊢
    obtain ⟨a, xs, e, q, r⟩ := h
    exact ⟨a, xs, e, s _ _ q, Reps.mono s r⟩
  | .lst ds, v, h => by
    unfold Rep at h ⊢
    obtain ⟨a, xs, e, q, r⟩ := h
    exact ⟨a, xs, e, s _ _ q, Reps.mono s r⟩
  | .scr ns, v, h => by
    unfold Rep at h ⊢
    obtain ⟨a, e, q⟩ := h
    exact ⟨a, e, s.seq q⟩
theorem Reps.mono {K : Fr} {F F' : Hp} (s : Same F F') : ∀ {ds : List D} {xs : List V}, Reps K F ds xs → Reps K F' ds xs
  | [], _, h => h
  | d :: ds, xs, h => by
    unfold Reps at h ⊢
    obtain ⟨x, r, e, h1, h2⟩ := h
    exact ⟨x, r, e, Rep.mono s h1, Reps.mono s h2⟩
end
section
variable {K : Fr} {F : Hp}
theorem Reps.length : ∀ {ds : List D} {xs : List V}, Reps K F ds xs → ds.length = xs.length
  | [], _, h => by unfold Reps at h; subst h; rfl
  | d :: ds, xs, h => by
    unfold Reps at h
    obtain ⟨x, r, rfl, _, h2⟩ := h
    simp only [List.length_cons, Reps.length h2]
theorem Reps.nil : Reps K F [] [] := by unfold Reps; rfl
theorem Reps.cons {d : D} {x : V} {ds : List D} {xs : List V} (h : Rep K F d x) (t : Reps K F ds xs) : Reps K F (d :: ds) (x :: xs) := by unfold Reps; exact ⟨x, xs, rfl, h, t⟩
theorem Reps.app : ∀ {ds es : List D} {xs ys : List V}, Reps K F ds xs → Reps K F es ys → Reps K F (ds ++ es) (xs ++ ys)
  | [], _, _, _, h, t => by unfold Reps at h; subst h; exact t
  | d :: ds, _, _, _, h, t => by
    unfold Reps at h
    obtain ⟨x, r, rfl, h1, h2⟩ := h
    exact Reps.cons h1 (Reps.app h2 t)
theorem Reps.get : ∀ {ds : List D} {xs : List V} {i : Nat} {d : D}, Reps K F ds xs → ds[i]? = some d → ∃ x, xs[i]? = some x ∧ Rep K F d x
  | [], _, _, _, _, e => by simp at e
  | d :: ds, xs, 0, d', h, e => by
    unfold Reps at h
    obtain ⟨x, r, rfl, h1, h2⟩ := h
    simp only [List.getElem?_cons_zero, Option.some.injEq] at e
    subst e
    exact ⟨x, rfl, h1⟩
  | d :: ds, xs, i + 1, d', h, e => by
    unfold Reps at h
    obtain ⟨x, r, rfl, h1, h2⟩ := h
    exact Reps.get (i := i) h2 (by simpa using e)
theorem Reps.take (n : Nat) : ∀ {ds : List D} {xs : List V}, Reps K F ds xs → Reps K F (ds.take n) (xs.take n) := by
  induction n with
  | zero => intro ds xs _; simpa using Reps.nil
  | succ n ih =>
    intro ds xs h
    cases ds with
    | nil => unfold Reps at h; subst h; simpa using Reps.nil
    | cons d ds =>
      unfold Reps at h
      obtain ⟨x, r, rfl, h1, h2⟩ := h
      exact Reps.cons h1 (ih h2)
theorem Reps.drop (n : Nat) : ∀ {ds : List D} {xs : List V}, Reps K F ds xs → Reps K F (ds.drop n) (xs.drop n) := by
  induction n with
  | zero => intro ds xs h; exact h
  | succ n ih =>
    intro ds xs h
    cases ds with
    | nil => unfold Reps at h; subst h; simpa using Reps.nil
    | cons d ds =>
      unfold Reps at h
      obtain ⟨x, r, rfl, h1, h2⟩ := h
      exact ih h2
theorem Reps.rev : ∀ {ds : List D} {xs : List V}, Reps K F ds xs → Reps K F ds.reverse xs.reverse
  | [], _, h => by unfold Reps at h; subst h; exact Reps.nil
  | d :: ds, xs, h => by
    unfold Reps at h
    obtain ⟨x, r, rfl, h1, h2⟩ := h
    rw [List.reverse_cons, List.reverse_cons]
    exact Reps.app (Reps.rev h2) (Reps.cons h1 Reps.nil)
theorem Reps.set : ∀ {ds : List D} {xs : List V} (i : Nat) {d : D} {x : V}, Reps K F ds xs → Rep K F d x → Reps K F (ds.set i d) (xs.set i x)
  | [], _, _, _, _, h, _ => by unfold Reps at h; subst h; exact Reps.nil
  | e :: ds, xs, 0, d, x, h, t => by
    unfold Reps at h
    obtain ⟨y, r, rfl, h1, h2⟩ := h
    exact Reps.cons t h2
  | e :: ds, xs, i + 1, d, x, h, t => by
    unfold Reps at h
    obtain ⟨y, r, rfl, h1, h2⟩ := h
    exact Reps.cons h1 (Reps.set i h2 t)
theorem Reps.cycle : ∀ (n : Nat) {ds : List D} {xs : List V}, Reps K F ds xs → Reps K F (List.replicate n ds).flatten (List.replicate n xs).flatten
  | 0, _, _, _ => by simpa using Reps.nil
  | n + 1, ds, xs, h => by
    rw [List.replicate_succ, List.replicate_succ, List.flatten_cons, List.flatten_cons]
    exact Reps.app h (Reps.cycle n h)
theorem Reps.ints : ∀ {ns : List Int} {xs : List V}, Reps K F (ns.map D.int) xs → xs = ns.map V.int
  | [], xs, h => by simp only [List.map_nil] at h; unfold Reps at h; exact h
  | n :: ns, xs, h => by
    simp only [List.map_cons] at h
    unfold Reps at h
    obtain ⟨x, r, rfl, h1, h2⟩ := h
    unfold Rep at h1
    rw [h1, Reps.ints h2]
    rfl
end

/-- from (F, H) on: nothing tracked is changed; what was not frozen ahead is not frozen now -/
structure Ext (F H F' H' : Hp) : Prop where
  f : Same F F'
  h : Same H H'
  s : Same F' H'
  n : ∀ b, H b ≠ none → F b = none → F' b = none
theorem Ext.refl {F H : Hp} (s : Same F H) : Ext F H F H := ⟨Same.refl F, Same.refl H, s, fun _ _ h => h⟩
theorem Ext.trans {F H F1 H1 F2 H2 : Hp} (a : Ext F H F1 H1) (b : Ext F1 H1 F2 H2) : Ext F H F2 H2 :=
  ⟨a.f.trans b.f, a.h.trans b.h, b.s, fun c h1 h2 => b.n c (fun z => h1 (a.h.free z)) (a.n c h1 h2)⟩
/-- the heap alone grew -/
theorem Ext.grow {F H H' : Hp} (s : Same F H) (t : Same H H') : Ext F H F H' := ⟨Same.refl F, t, s.trans t, fun _ _ h => h⟩
theorem same_upd {H : Hp} {p : Addr} {o : HO} (h : H p = none) : Same H (upd H p o) := fun b x e => by
  rw [upd_ne (ne_of_none e h)]
  exact e
theorem same_upd2 {F H : Hp} {p : Addr} {o : HO} (s : Same F H) : Same (upd F p o) (upd H p o) := fun b x e => by
  by_cases hb : b = p
  · subst hb
    rw [upd_same] at e ⊢
    exact e
  · rw [upd_ne hb] at e ⊢
    exact s _ _ e
/-- a new object, frozen at once -/
theorem Ext.new {F H : Hp} {p : Addr} {o : HO} (s : Same F H) (h : H p = none) : Ext F H (upd F p o) (upd H p o) :=
  ⟨same_upd (s.free h), same_upd h, same_upd2 s, fun b h1 h2 => by
    have hb : b ≠ p := fun e => h1 (by rw [e]; exact h)
    rw [upd_ne hb]
    exact h2⟩

/-- a slot: nothing known; a thing; an own list, that no one else holds -/
inductive Slt where
  | un | v (d : D) | o (ds : List D)
abbrev Rho := List Slt

structure SOk (K : Fr) (H0 F H : Hp) (ρ : Rho) (σ : L2.St) : Prop where
  len : ρ.length = σ.length
  get : ∀ (i : Nat) (d : D), ρ[i]? = some (.v d) → ∃ x, σ[i]? = some (some x) ∧ Rep K F d x
  own : ∀ (i : Nat) (ds : List D), ρ[i]? = some (.o ds) → ∃ p xs, σ[i]? = some (some (.ref p)) ∧ F p = none ∧ H0 p = none ∧ H p = some (.lst xs) ∧ Reps K F ds xs
  dis : ∀ (i j : Nat) (p : Addr) (ds es : List D), i ≠ j → ρ[i]? = some (.o ds) → ρ[j]? = some (.o es) → σ[i]? = some (some (.ref p)) → σ[j]? = some (some (.ref p)) → False
theorem SOk.ext {K : Fr} {H0 F H F' H' : Hp} {ρ : Rho} {σ : L2.St} (k : SOk K H0 F H ρ σ) (e : Ext F H F' H') : SOk K H0 F' H' ρ σ :=
  ⟨k.len, fun i d h => let ⟨x, a, b⟩ := k.get i d h; ⟨x, a, b.mono e.f⟩, fun i ds h => by
    obtain ⟨p, xs, a, b, c, d, r⟩ := k.own i ds h
    exact ⟨p, xs, a, e.n p (by rw [d]; simp) b, c, e.h _ _ d, r.mono e.f⟩, k.dis⟩

section
variable (X : Cx) (W : WX)
/-- what must hold so that all ways of r are served -/
def Post {α : Type} (r : Res α) (F H : Hp) (σ : L2.St) (Q : α → Hp → Hp → Prop) : Prop := match r with
  | .ok d => ∀ F' H', Ext F H F' H' → Q d F' H'
  | .exc c => ∀ A H', X.mg (Str.ofString c) = some (.ref A) → Same H H' → W (.ref A) none σ H'
  | .stk => False
end
section
variable {X : Cx} {W : WX} {α β : Type} {F H F1 H1 : Hp} {σ : L2.St}
theorem Post.ext {r : Res α} {Q : α → Hp → Hp → Prop} (h : Post X W r F H σ Q) (e : Ext F H F1 H1) : Post X W r F1 H1 σ Q := by
  cases r with
  | ok d => exact fun F' H' e' => h F' H' (e.trans e')
  | exc c => exact fun A H' m s => h A H' m (e.h.trans s)
  | stk => exact h
theorem Post.mono {r : Res α} {Q Q' : α → Hp → Hp → Prop} (h : Post X W r F H σ Q) (m : ∀ d F' H', r = .ok d → Ext F H F' H' → Q d F' H' → Q' d F' H') : Post X W r F H σ Q' := by
  cases r with
  | ok d => exact fun F' H' e' => m d F' H' rfl e' (h F' H' e')
  | exc c => exact h
  | stk => exact h
theorem Post.bind {r : Res α} {k : α → Res β} {Q : β → Hp → Hp → Prop} (h : Post X W (r.bind k) F H σ Q) : Post X W r F H σ fun a F1 H1 => Post X W (k a) F1 H1 σ Q := by
  cases r with
  | ok d => exact fun F' H' e' => Post.ext (r := k d) h e'
  | exc c => exact h
  | stk => exact h
end
section
variable (X : Cx) (W : WX)
/-- the reading of an expression that is worth f -/
def tP (f : Rho → Res D) : TE := fun σ H Q => ∃ H0 ρ F, Same F H ∧ SOk X.K H0 F H ρ σ ∧ Post X W (f ρ) F H σ fun d F' H' => ∀ x, Rep X.K F' d x → Q x H'
def tPT (f : Rho → Res Bool) : TT := fun σ H Q => ∃ H0 ρ F, Same F H ∧ SOk X.K H0 F H ρ σ ∧ Post X W (f ρ) F H σ fun b _ H' => Q b H'
def tPA (f : Rho → Res (List D)) : TA := fun σ H Q => ∃ H0 ρ F, Same F H ∧ SOk X.K H0 F H ρ σ ∧ Post X W (f ρ) F H σ fun ds F' H' => ∀ xs, Reps X.K F' ds xs → Q xs H'
/-- a fresh list, held by no one yet -/
def tPO (f : Rho → Res (List D)) : TE := fun σ H Q => ∃ H0 ρ F, Same F H ∧ SOk X.K H0 F H ρ σ ∧ Post X W (f ρ) F H σ fun ds F' H' => ∀ p xs, F' p = none → H p = none → H' p = some (.lst xs) → Reps X.K F' ds xs → Q (.ref p) H'
structure PPE (e : Expr) (f : Rho → Res D) : Prop where
  pe : PE X e (tP X W f)
structure PPT (e : Expr) (f : Rho → Res Bool) : Prop where
  pt : PT X e (tPT X W f)
structure PPW (e : Expr) (f : Rho → Res Bool) : Prop where
  pw : PW X e (tPT X W f)
structure PPA (es : List Expr) (f : Rho → Res (List D)) : Prop where
  pa : PA X es (tPA X W f)
structure PPO (e : Expr) (f : Rho → Res (List D)) : Prop where
  pe : PE X e (tPO X W f)
end
theorem _root_.L2.PE.imp {X : Cx} {e : Expr} {t t' : TE} (h : PE X e t) (m : ∀ σ H Q, t' σ H Q → t σ H Q) : PE X e t' := ⟨fun pins s σ H Q I q => h.run pins s σ H Q I (m _ _ _ q)⟩
theorem _root_.L2.PT.imp {X : Cx} {e : Expr} {t t' : TT} (h : PT X e t) (m : ∀ σ H Q, t' σ H Q → t σ H Q) : PT X e t' := ⟨fun pins s σ H Q I q => h.run pins s σ H Q I (m _ _ _ q)⟩
theorem _root_.L2.PW.imp {X : Cx} {e : Expr} {t t' : TT} (h : PW X e t) (m : ∀ σ H Q, t' σ H Q → t σ H Q) : PW X e t' := ⟨fun whole pins s σ H Q I q => h.run whole pins s σ H Q I (m _ _ _ q)⟩
theorem _root_.L2.PA.imp {X : Cx} {es : List Expr} {t t' : TA} (h : PA X es t) (m : ∀ σ H Q, t' σ H Q → t σ H Q) : PA X es t' := ⟨fun pos pins s σ H Q I q => h.run pos pins s σ H Q I (m _ _ _ q)⟩
theorem _root_.L2.PS.imp {X : Cx} {e : Stmt} {t t' : TS} (h : PS X e t) (m : ∀ D σ H, t' D σ H → t D σ H) : PS X e t' := ⟨fun pins s σ H D I q => h.run pins s σ H D I (m _ _ _ q)⟩
theorem _root_.L2.PSs.imp {X : Cx} {e : List Stmt} {t t' : TS} (h : PSs X e t) (m : ∀ D σ H, t' D σ H → t D σ H) : PSs X e t' := ⟨fun pins s σ H D I q => h.run pins s σ H D I (m _ _ _ q)⟩

section
variable {X : Cx} {W : WX} {H0 F H : Hp} {ρ : Rho} {σ : L2.St}
/-- into a reading: what is known behind it -/
theorem tP_in {fa : Rho → Res D} {Q : VK} (s : Same F H) (k : SOk X.K H0 F H ρ σ)
    (h : Post X W (fa ρ) F H σ fun d F1 H1 => Ext F H F1 H1 → ∀ x, Rep X.K F1 d x → Q x H1) : tP X W fa σ H Q :=
  ⟨H0, ρ, F, s, k, h.mono fun d F' H' _ e q => q e⟩
theorem tPT_in {fa : Rho → Res Bool} {Q : Bool → Hp → Prop} (s : Same F H) (k : SOk X.K H0 F H ρ σ)
    (h : Post X W (fa ρ) F H σ fun b F1 H1 => Ext F H F1 H1 → Q b H1) : tPT X W fa σ H Q :=
  ⟨H0, ρ, F, s, k, h.mono fun d F' H' _ e q => q e⟩
theorem tPA_in {fa : Rho → Res (List D)} {Q : List V → Hp → Prop} (s : Same F H) (k : SOk X.K H0 F H ρ σ)
    (h : Post X W (fa ρ) F H σ fun ds F1 H1 => Ext F H F1 H1 → ∀ xs, Reps X.K F1 ds xs → Q xs H1) : tPA X W fa σ H Q :=
  ⟨H0, ρ, F, s, k, h.mono fun d F' H' _ e q => q e⟩
end
end Pu

namespace Pu
open PySem PySem.Spec PyProof.Rows L2

theorem str_inj {a b : String} (h : Str.ofString a = Str.ofString b) : a = b := by
  rw [Str.ofString_eq_toList, Str.ofString_eq_toList] at h
  injection h with h
  have h2 : a.toList.map Char.toNat = b.toList.map Char.toNat := by simpa using congrArg Array.toList h
  have inj : ∀ c d : Char, c.toNat = d.toNat → c = d := fun c d e => by
    apply Char.ext
    apply UInt32.toNat_inj.mp
    exact e
  have go : ∀ l m : List Char, l.map Char.toNat = m.map Char.toNat → l = m := by
    intro l
    induction l with
    | nil => intro m e; cases m with
      | nil => rfl
      | cons _ _ => simp at e
    | cons x l ih => intro m e; cases m with
      | nil => simp at e
      | cons y m =>
        simp only [List.map_cons, List.cons.injEq] at e
        rw [inj x y e.1, ih m e.2]
  have h3 := go _ _ h2
  exact String.toList_inj.mp h3

def dBl (b : Bool) : Res D := .ok (.bl b)
def fits (n : Nat) : Bool := Nat.ble n 16777216
def mulOk (a b : Int) : Bool := Nat.ble a.natAbs 18446744073709551615 || Nat.ble b.natAbs 18446744073709551615 || Nat.ble (a.natAbs.log2 + b.natAbs.log2) 999999
def divOk (b : Int) : Bool := decide (0 < b) && Nat.ble b.natAbs.log2 8999
def powOk (a b : Int) : Bool := decide (0 ≤ b) && Nat.ble b.natAbs 1000000 && Nat.ble a.natAbs 18446744073709551615
def repOk (n : Nat) (k : Int) : Bool := Nat.ble k.natAbs 4611686018427387903 && Nat.ble (n * k.toNat) 16777216
theorem fits_iff {n : Nat} : fits n = true ↔ n ≤ sizeLine := by
  unfold fits
  rw [Nat.ble_eq, sizeLine_eq]
theorem mulOk_is {a b : Int} (h : mulOk a b = true) : (-(2 ^ 64) < a ∧ a < 2 ^ 64) ∨ (-(2 ^ 64) < b ∧ b < 2 ^ 64) ∨ a.natAbs.log2 + b.natAbs.log2 < 1000000 := by
  unfold mulOk at h
  rw [Bool.or_eq_true, Bool.or_eq_true, Nat.ble_eq, Nat.ble_eq, Nat.ble_eq] at h
  rcases h with (h | h) | h
  · exact .inl ⟨by omega, by omega⟩
  · exact .inr (.inl ⟨by omega, by omega⟩)
  · exact .inr (.inr (by omega))
theorem divOk_is {b : Int} (h : divOk b = true) : 0 < b ∧ b.natAbs.log2 < 9000 := by
  unfold divOk at h
  rw [Bool.and_eq_true, Nat.ble_eq, decide_eq_true_eq] at h
  exact ⟨h.1, by omega⟩
theorem powOk_is {a b : Int} (h : powOk a b = true) : 0 ≤ b ∧ b ≤ 1000000 ∧ a.natAbs < 2 ^ 64 := by
  unfold powOk at h
  rw [Bool.and_eq_true, Bool.and_eq_true, Nat.ble_eq, Nat.ble_eq, decide_eq_true_eq] at h
  exact ⟨h.1.1, by omega, by omega⟩
theorem repOk_is {n : Nat} {k : Int} (h : repOk n k = true) : -(2 ^ 63) ≤ k ∧ k < 2 ^ 63 ∧ n * k.toNat ≤ sizeLine := by
  unfold repOk at h
  rw [Bool.and_eq_true, Nat.ble_eq, Nat.ble_eq] at h
  rw [sizeLine_eq]
  exact ⟨by omega, by omega, h.2⟩
def dAdd : D → D → Res D
  | .int a, .int b => .ok (.int (a + b))
  | .lst a, .lst b => if fits (a.length + b.length) then .ok (.lst (a ++ b)) else .stk
  | _, _ => .stk
def dSub : D → D → Res D
  | .int a, .int b => .ok (.int (a - b))
  | _, _ => .stk
def dMul : D → D → Res D
  | .int a, .int b => if mulOk a b then .ok (.int (a * b)) else .stk
  | .lst a, .int k => if repOk a.length k then .ok (.lst (List.replicate k.toNat a).flatten) else .stk
  | _, _ => .stk
def dDiv : D → D → Res D
  | .int a, .int b => if divOk b then .ok (.int (a / b)) else .stk
  | _, _ => .stk
def dMod : D → D → Res D
  | .int a, .int b => if 0 < b then .ok (.int (a % b)) else .stk
  | _, _ => .stk
def dPow : D → D → Res D
  | .int a, .int b => if powOk a b then .ok (.int (a ^ b.toNat)) else .stk
  | _, _ => .stk
def dNeg : D → Res D
  | .int a => .ok (.int (-a))
  | _ => .stk
def dCmp (p : Int → Int → Bool) : D → D → Res D
  | .int a, .int b => .ok (.bl (p a b))
  | _, _ => .stk
def dLt : D → D → Res D := dCmp fun i j => decide (i < j)
def dLe : D → D → Res D := dCmp fun i j => decide (i ≤ j)
def dGt : D → D → Res D := dCmp fun i j => decide (j < i)
def dGe : D → D → Res D := dCmp fun i j => decide (j ≤ i)
/-- == of two scalars -/
def dEq? : D → D → Option Bool
  | .int a, .int b => some (decide (a = b))
  | .str a, .str b => some (decide (a = b))
  | .bl a, .bl b => some (decide (a = b))
  | .non, .non => some true
  | .non, .int _ => some false | .int _, .non => some false | .non, .bl _ => some false | .bl _, .non => some false
  | .non, .str _ => some false | .str _, .non => some false | .int _, .str _ => some false | .str _, .int _ => some false
  | .bl _, .str _ => some false | .str _, .bl _ => some false
  | _, _ => none
mutual
def toPy : D → PyData
  | .non => .none
  | .bl b => .bool b
  | .int i => .int i
  | .str x => .str (Str.ofString x)
  | .tup ds => .tuple (toPys ds)
  | .lst ds => .list (toPys ds)
  | .scr ns => .list (ns.map .int)
def toPys : List D → List PyData
  | [] => []
  | d :: ds => toPy d :: toPys ds
end
def deepOk (a : D) : Bool := SeqAt.shaped (toPy a)
def dEq (a b : D) : Res D := match dEq? a b with
  | some k => .ok (.bl k)
  | none => if deepOk a && deepOk b then .ok (.bl (PyData.eqv (toPy a) (toPy b))) else .stk
def dNe (a b : D) : Res D := match dEq? a b with
  | some k => .ok (.bl (!k))
  | none => if deepOk a && deepOk b then .ok (.bl (!PyData.eqv (toPy a) (toPy b))) else .stk
def dIsN : D → Res D
  | .non => .ok (.bl true)
  | _ => .ok (.bl false)
def dNotN : D → Res D
  | .non => .ok (.bl false)
  | _ => .ok (.bl true)
def flat : D → Bool
  | .non => true | .bl _ => true | .int _ => true | .str _ => true
  | _ => false
/-- == of flat data -/
def eqF : D → D → Bool
  | .non, .non => true
  | .bl a, .bl b => a == b
  | .bl a, .int b => (if a then 1 else 0) == b
  | .int a, .bl b => a == (if b then 1 else 0)
  | .int a, .int b => a == b
  | .str a, .str b => a == b
  | _, _ => false
def dIn (x y : D) : Res D := match y with
  | .tup ds => if flat x && ds.all flat then .ok (.bl (ds.any fun d => eqF d x)) else .stk
  | .lst ds => if flat x && ds.all flat then .ok (.bl (ds.any fun d => eqF d x)) else .stk
  | _ => .stk
def dNotIn (x y : D) : Res D := match y with
  | .tup ds => if flat x && ds.all flat then .ok (.bl (!ds.any fun d => eqF d x)) else .stk
  | .lst ds => if flat x && ds.all flat then .ok (.bl (!ds.any fun d => eqF d x)) else .stk
  | _ => .stk
def dAt (ds : List D) (i : Int) : Res D := match atI ds i with
  | some d => .ok d
  | none => .stk
def dIx (x y : D) : Res D := match x, y with
  | .lst ds, .int i => dAt ds i
  | .tup ds, .int i => dAt ds i
  | .scr ns, .int i => match atI ns i with
    | some n => .ok (.int n)
    | none => .stk
  | _, _ => .stk
def dLen : D → Res D
  | .lst ds => .ok (.int ds.length)
  | .tup ds => .ok (.int ds.length)
  | .scr ns => .ok (.int ns.length)
  | _ => .stk
def cutD (xs : List D) (lo hi : Option Int) : List D := (xs.drop (HT.sIx xs.length 0 lo)).take (HT.sIx xs.length xs.length hi - HT.sIx xs.length 0 lo)

section
variable (X : Cx) (W : WX)
def Op2 (f : Value → Value → Sem Value) (g : D → D → Res D) : Prop := ∃ r : R2, OpR X f r ∧ ∀ (F H : Hp) (σ : L2.St) (dx dy : D) (x y : V) (Q : VK), Same F H → Rep X.K F dx x → Rep X.K F dy y →
  Post X W (g dx dy) F H σ (fun d F' H' => ∀ z, Rep X.K F' d z → Q z H') → r x y H Q
end
section
variable {X : Cx} {W : WX}
theorem Post.guard {α : Type} {c : Prop} [Decidable c] {r : Res α} {F H : Hp} {σ : L2.St} {Q : α → Hp → Hp → Prop} (h : Post X W (if c then r else .stk) F H σ Q) : c ∧ Post X W r F H σ Q := by
  by_cases hc : c
  · rw [if_pos hc] at h; exact ⟨hc, h⟩
  · rw [if_neg hc] at h; exact h.elim
theorem Post.at {α : Type} {a : α} {F H : Hp} {σ : L2.St} {Q : α → Hp → Hp → Prop} (s : Same F H) (h : Post X W (.ok a) F H σ Q) : Q a F H := h F H (Ext.refl s)
theorem op2_int {f : Value → Value → Sem Value} {g : Int → Int → Int} {gd : D → D → Res D} {C : Int → Int → Prop} (o : OpR X f (rI C fun i j => .int (g i j)))
    (h : ∀ dx dy, gd dx dy = .stk ∨ ∃ i j, dx = .int i ∧ dy = .int j ∧ C i j ∧ gd dx dy = .ok (.int (g i j))) : Op2 X W f gd := ⟨_, o, fun F H σ dx dy x y Q s rx ry q => by
  rcases h dx dy with e | ⟨i, j, rfl, rfl, c, e⟩
  · rw [e] at q; exact q.elim
  · rw [e] at q
    unfold Rep at rx ry
    exact ⟨i, j, rx, ry, c, Post.at s q _ (by unfold Rep; rfl)⟩⟩
theorem o2_add : Op2 X W (binaryOp .Add) dAdd := ⟨_, (op_add (X := X)).or op_cat, fun F H σ dx dy x y Q s rx ry q => by
  cases dx <;> cases dy <;> first | exact (show False from q).elim | skip
  · unfold Rep at rx ry
    exact .inl ⟨_, _, rx, ry, Post.at s q _ (by unfold Rep; rfl)⟩
  · rename_i a b
    obtain ⟨hf, q⟩ := Post.guard (c := fits (a.length + b.length) = true) q
    unfold Rep at rx ry
    obtain ⟨p, xs, rfl, hp, r1⟩ := rx
    obtain ⟨p2, ys, rfl, hp2, r2⟩ := ry
    refine .inr ⟨p, p2, xs, ys, rfl, rfl, s _ _ hp, s _ _ hp2, ?_, fun l hl => ?_⟩
    · rw [← r1.length, ← r2.length]; exact fits_iff.mp hf
    · refine q _ _ (Ext.new s hl) _ ?_
      unfold Rep
      exact ⟨l, xs ++ ys, rfl, upd_same, (r1.app r2).mono (same_upd (s.free hl))⟩⟩
theorem o2_sub : Op2 X W (binaryOp .Sub) dSub := op2_int (C := fun _ _ => True) (fun pins s σ H x y v u Q I rx ry ⟨i, j, a, b, _, q⟩ => op_sub pins s σ H x y v u Q I rx ry ⟨i, j, a, b, q⟩) fun dx dy => by
  cases dx <;> cases dy <;> first | exact .inl rfl | exact .inr ⟨_, _, rfl, rfl, trivial, rfl⟩
def CMulD (i j : Int) : Prop := mulOk i j = true
theorem op_mulD : OpR X (binaryOp .Mult) (rI CMulD fun i j => .int (i * j)) := fun pins s σ H x y v u Q I rx ry ⟨i, j, a, b, c, q⟩ => by
  rcases mulOk_is c with c | c | c
  · exact op_mul pins s σ H x y v u Q I rx ry ⟨i, j, a, b, .inl c, q⟩
  · exact op_mul pins s σ H x y v u Q I rx ry ⟨i, j, a, b, .inr c, q⟩
  · exact op_mulW pins s σ H x y v u Q I rx ry ⟨i, j, a, b, c, q⟩
theorem o2_mul : Op2 X W (binaryOp .Mult) dMul := ⟨_, (op_mulD (X := X)).or op_rep, fun F H σ dx dy x y Q s rx ry q => by
  cases dx <;> cases dy <;> first | exact (show False from q).elim | skip
  · rename_i a b
    obtain ⟨hf, q⟩ := Post.guard (c := mulOk a b = true) q
    unfold Rep at rx ry
    exact .inl ⟨_, _, rx, ry, hf, Post.at s q _ (by unfold Rep; rfl)⟩
  · rename_i a k
    obtain ⟨hf, q⟩ := Post.guard (c := repOk a.length k = true) q
    unfold Rep at rx ry
    obtain ⟨p, xs, rfl, hp, r1⟩ := rx
    have hc := repOk_is hf
    rw [r1.length] at hc
    refine .inr ⟨p, k, xs, rfl, ry, s _ _ hp, hc.1, hc.2.1, hc.2.2, fun l hl => ?_⟩
    refine q _ _ (Ext.new s hl) _ ?_
    unfold Rep
    exact ⟨l, _, rfl, upd_same, (r1.cycle k.toNat).mono (same_upd (s.free hl))⟩⟩
theorem o2_div : Op2 X W (binaryOp .FloorDiv) dDiv := op2_int (op_fdivW (X := X)) fun dx dy => by
  cases dx <;> cases dy <;> first | exact .inl rfl | skip
  rename_i a b
  by_cases h : divOk b = true
  · exact .inr ⟨_, _, rfl, rfl, by first | exact divOk_is h | exact powOk_is h, if_pos h⟩
  · exact .inl (if_neg h)
theorem o2_mod : Op2 X W (binaryOp .Mod) dMod := op2_int (op_mod (X := X)) fun dx dy => by
  cases dx <;> cases dy <;> first | exact .inl rfl | skip
  rename_i a b
  by_cases h : 0 < b
  · exact .inr ⟨_, _, rfl, rfl, h, if_pos h⟩
  · exact .inl (if_neg h)
theorem o2_pow : Op2 X W (binaryOp .Pow) dPow := op2_int (op_pow (X := X)) fun dx dy => by
  cases dx <;> cases dy <;> first | exact .inl rfl | skip
  rename_i a b
  by_cases h : powOk a b = true
  · exact .inr ⟨_, _, rfl, rfl, by first | exact divOk_is h | exact powOk_is h, if_pos h⟩
  · exact .inl (if_neg h)
theorem op2_cmp {f : Value → Value → Sem Value} {p : Int → Int → Bool} (o : OpR X f (rI0 fun i j => .bl (p i j))) : Op2 X W f (dCmp p) := ⟨_, o, fun F H σ dx dy x y Q s rx ry q => by
  cases dx <;> cases dy <;> first | exact (show False from q).elim | skip
  unfold Rep at rx ry
  exact ⟨_, _, rx, ry, Post.at s q _ (by unfold Rep; rfl)⟩⟩
theorem o2_lt : Op2 X W (compareOp .Lt) dLt := op2_cmp op_lt
theorem o2_le : Op2 X W (compareOp .LtE) dLe := op2_cmp op_le
theorem o2_gt : Op2 X W (compareOp .Gt) dGt := op2_cmp op_gt
theorem o2_ge : Op2 X W (compareOp .GtE) dGe := op2_cmp op_ge
theorem dec_strS (a b : String) : decide (V.str (Str.ofString a) = V.str (Str.ofString b)) = decide (a = b) := by
  by_cases e : a = b
  · subst e; simp
  · rw [decide_eq_false e, decide_eq_false (fun q => e (str_inj (V.str.inj q)))]
theorem eq_scal {K : Fr} {F : Hp} {dx dy : D} {x y : V} {k : Bool} (h : dEq? dx dy = some k) (rx : Rep K F dx x) (ry : Rep K F dy y) : scal x y = true ∧ decide (x = y) = k := by
  cases dx <;> cases dy <;> first | (cases (show (none : Option Bool) = some k from h)) | skip
  all_goals (unfold Rep at rx ry; subst rx; subst ry; have h := Option.some.inj h; subst h; refine ⟨rfl, ?_⟩)
  all_goals first | exact dec_strS _ _ | exact dec_int.trans (Bool.beq_eq_decide_eq _ _) | exact dec_bl.trans (Bool.beq_eq_decide_eq _ _) | exact decide_eq_true rfl | exact decide_eq_false (fun z => nomatch z)
theorem dp_ints {K : Fr} {H : Hp} : ∀ (ns : List Int), DpAll K H (ns.map V.int) (ns.map PyData.int)
  | [] => .nil
  | n :: ns => .cons (.int n) (dp_ints ns)
mutual
theorem rep_dp {K : Fr} {F H : Hp} (s : Same F H) : ∀ {d : D} {x : V}, Rep K F d x → Dp K H x (toPy d)
  | .non, _, h => by unfold Rep at h; subst h; exact .non
  | .bl b, _, h => by unfold Rep at h; subst h; exact .bl b
  | .int i, _, h => by unfold Rep at h; subst h; exact .int i
  | .str x, _, h => by unfold Rep at h; subst h; exact .str _
  | .tup ds, _, h => by
    unfold Rep at h
    obtain ⟨a, xs, rfl, ha, r⟩ := h
    unfold toPy
    exact .tup (.of (s _ _ ha)) (reps_dp s r)
  | .lst ds, _, h => by
    unfold Rep at h
    obtain ⟨a, xs, rfl, ha, r⟩ := h
    unfold toPy
    exact .lst (.of (s _ _ ha)) (reps_dp s r)
  | .scr ns, _, h => by
    unfold Rep at h
    obtain ⟨a, rfl, ha⟩ := h
    unfold toPy
    exact .lst (s.seq ha) (dp_ints ns)
theorem reps_dp {K : Fr} {F H : Hp} (s : Same F H) : ∀ {ds : List D} {xs : List V}, Reps K F ds xs → DpAll K H xs (toPys ds)
  | [], _, h => by unfold Reps at h; subst h; unfold toPys; exact .nil
  | d :: ds, _, h => by
    unfold Reps at h
    obtain ⟨x, r, rfl, h1, h2⟩ := h
    unfold toPys
    exact .cons (rep_dp s h1) (reps_dp s h2)
end
theorem o2_eq (hu : X.A.units + 64 < cLine) : Op2 X W (compareOp .Eq) dEq := ⟨_, (op_eq (X := X)).or (op_eqD hu), fun F H σ dx dy x y Q s rx ry q => by
  unfold dEq at q
  cases e : dEq? dx dy with
  | none =>
    rw [e] at q
    obtain ⟨hc, q⟩ := Post.guard (c := (deepOk dx && deepOk dy) = true) q
    rw [Bool.and_eq_true] at hc
    exact .inr ⟨_, _, rep_dp s rx, rep_dp s ry, hc.1, hc.2, Post.at s q _ (by unfold Rep; rfl)⟩
  | some k =>
    rw [e] at q
    obtain ⟨h1, h2⟩ := eq_scal e rx ry
    refine .inl ⟨h1, ?_⟩
    rw [h2]
    exact Post.at s q _ (by unfold Rep; rfl)⟩
theorem o2_ne (hu : X.A.units + 64 < cLine) : Op2 X W (compareOp .NotEq) dNe := ⟨_, (op_ne (X := X)).or (op_neD hu), fun F H σ dx dy x y Q s rx ry q => by
  unfold dNe at q
  cases e : dEq? dx dy with
  | none =>
    rw [e] at q
    obtain ⟨hc, q⟩ := Post.guard (c := (deepOk dx && deepOk dy) = true) q
    rw [Bool.and_eq_true] at hc
    exact .inr ⟨_, _, rep_dp s rx, rep_dp s ry, hc.1, hc.2, Post.at s q _ (by unfold Rep; rfl)⟩
  | some k =>
    rw [e] at q
    obtain ⟨h1, h2⟩ := eq_scal e rx ry
    refine .inl ⟨h1, ?_⟩
    rw [h2]
    exact Post.at s q _ (by unfold Rep; rfl)⟩
theorem flat_V {K : Fr} {F : Hp} {d : D} {x : V} (h : flat d = true) (r : Rep K F d x) : flatV x = true := by
  cases d <;> first | (cases (show false = true from h)) | (unfold Rep at r; subst r; rfl)
theorem eqF_V {K : Fr} {F : Hp} {d e : D} {x y : V} (h : flat d = true) (h2 : flat e = true) (r : Rep K F d x) (r2 : Rep K F e y) : eqV x y = eqF d e := by
  cases d <;> first | (cases (show false = true from h)) | skip
  all_goals (cases e <;> first | (cases (show false = true from h2)) | skip)
  all_goals (unfold Rep at r r2; subst r; subst r2; first | rfl | skip)
  rename_i a b
  show (Str.ofString a == Str.ofString b) = (a == b)
  by_cases e : a = b
  · subst e; simp
  · have z : ¬ Str.ofString a = Str.ofString b := fun q => e (str_inj q)
    rw [beq_eq_false_iff_ne.mpr z, beq_eq_false_iff_ne.mpr e]
theorem flats_V {K : Fr} {F : Hp} : ∀ {ds : List D} {xs : List V}, ds.all flat = true → Reps K F ds xs → xs.all flatV = true
  | [], _, _, r => by unfold Reps at r; subst r; rfl
  | d :: ds, _, h, r => by
    unfold Reps at r
    obtain ⟨x, t, rfl, r1, r2⟩ := r
    rw [List.all_cons, Bool.and_eq_true] at h ⊢
    exact ⟨flat_V h.1 r1, flats_V h.2 r2⟩
theorem any_V {K : Fr} {F : Hp} {e : D} {y : V} (he : flat e = true) (r2 : Rep K F e y) : ∀ {ds : List D} {xs : List V}, ds.all flat = true → Reps K F ds xs → (xs.any fun x => eqV x y) = ds.any fun d => eqF d e
  | [], _, _, r => by unfold Reps at r; subst r; rfl
  | d :: ds, _, h, r => by
    unfold Reps at r
    obtain ⟨x, t, rfl, r1, r3⟩ := r
    rw [List.all_cons, Bool.and_eq_true] at h
    rw [List.any_cons, List.any_cons, eqF_V h.1 he r1 r2, any_V he r2 h.2 r3]
theorem o2_in : Op2 X W (compareOp .In) dIn := ⟨_, op_in_seq (X := X), fun F H σ dx dy x y Q s rx ry q => by
  cases dy <;> first | exact (show False from q).elim | skip
  all_goals
    rename_i ds
    obtain ⟨hf, q⟩ := Post.guard (c := (flat dx && ds.all flat) = true) q
    · rw [Bool.and_eq_true] at hf
      unfold Rep at ry
      obtain ⟨a, xs, rfl, ha, r⟩ := ry
      refine ⟨a, xs, rfl, ?_, flat_V hf.1 rx, flats_V hf.2 r, ?_⟩
      · first | exact .inr (.of (s _ _ ha)) | exact .inl (.of (s _ _ ha))
      · rw [if_neg Bool.false_ne_true, inV, any_V hf.1 rx hf.2 r]
        exact Post.at s q _ (by unfold Rep; rfl)⟩
theorem o2_notIn : Op2 X W (compareOp .NotIn) dNotIn := ⟨_, op_notIn_seq (X := X), fun F H σ dx dy x y Q s rx ry q => by
  cases dy <;> first | exact (show False from q).elim | skip
  all_goals
    rename_i ds
    obtain ⟨hf, q⟩ := Post.guard (c := (flat dx && ds.all flat) = true) q
    · rw [Bool.and_eq_true] at hf
      unfold Rep at ry
      obtain ⟨a, xs, rfl, ha, r⟩ := ry
      refine ⟨a, xs, rfl, ?_, flat_V hf.1 rx, flats_V hf.2 r, ?_⟩
      · first | exact .inr (.of (s _ _ ha)) | exact .inl (.of (s _ _ ha))
      · rw [if_pos rfl, inV, any_V hf.1 rx hf.2 r]
        exact Post.at s q _ (by unfold Rep; rfl)⟩
end
def eVar (i : Nat) (ρ : Rho) : Res D := match ρ[i]? with
  | some (.v d) => .ok d
  | _ => .stk
def eC (d : D) (_ : Rho) : Res D := .ok d
def eOp (g : D → D → Res D) (fa fb : Rho → Res D) (ρ : Rho) : Res D := (fa ρ).bind fun x => (fb ρ).bind fun y => g x y
def eUn (g : D → Res D) (fa : Rho → Res D) (ρ : Rho) : Res D := (fa ρ).bind g
def toB : D → Res Bool
  | .bl b => .ok b
  | _ => .stk
def tB (fa : Rho → Res D) (ρ : Rho) : Res Bool := (fa ρ).bind toB
def tAndB (fa fb : Rho → Res Bool) (ρ : Rho) : Res Bool := (fa ρ).bind fun a => if a then fb ρ else .ok false
def tOrB (fa fb : Rho → Res Bool) (ρ : Rho) : Res Bool := (fa ρ).bind fun a => if a then .ok true else fb ρ
def tNotB (fa : Rho → Res Bool) (ρ : Rho) : Res Bool := (fa ρ).bind fun a => .ok (!a)
/-- and, or of bools as values -/
def eAnd (fa fb : Rho → Res D) (ρ : Rho) : Res D := (tB fa ρ).bind fun a => if a then fb ρ else .ok (.bl false)
def eOr (fa fb : Rho → Res D) (ρ : Rho) : Res D := (tB fa ρ).bind fun a => if a then .ok (.bl true) else fb ρ
def eNot (fa : Rho → Res D) (ρ : Rho) : Res D := (tB fa ρ).bind fun a => .ok (.bl (!a))
def eChain (g g' : D → D → Res D) (fa fb fc : Rho → Res D) (ρ : Rho) : Res D := (fa ρ).bind fun x => (fb ρ).bind fun y => (g x y).bind fun z => (toB z).bind fun k => if k then (fc ρ).bind fun w => g' y w else .ok (.bl false)
def aNil (_ : Rho) : Res (List D) := .ok []
def aCons (fa : Rho → Res D) (fr : Rho → Res (List D)) (ρ : Rho) : Res (List D) := (fa ρ).bind fun x => (fr ρ).bind fun r => .ok (x :: r)
def eTup (fa : Rho → Res (List D)) (ρ : Rho) : Res D := (fa ρ).bind fun ds => if fits ds.length then .ok (.tup ds) else .stk
def oLst (fa : Rho → Res (List D)) (ρ : Rho) : Res (List D) := (fa ρ).bind fun ds => if fits ds.length then .ok ds else .stk
def eO (f : Rho → Res (List D)) (ρ : Rho) : Res D := (f ρ).bind fun ds => .ok (.lst ds)
def eCall (φ : List D → Res D) (fa : Rho → Res (List D)) (ρ : Rho) : Res D := (fa ρ).bind φ

section
variable {X : Cx} {W : WX} {a b c e : Expr} {es : List Expr} {fa fb fc : Rho → Res D} {pos : Pos}
theorem pp_var (i : Nat) {x : Str} (hN : X.N[i]? = some x := by rfl) (hv : Vis X.env.scope x := by first | exact Or.inl rfl | exact Or.inr (Or.inl rfl) | exact Or.inr (Or.inr rfl)) (hd : (x == ("__debug__" : Str)) = false := by decide)
    (hcd : (x == ("__classdict__" : Str)) = false := by decide) : PPE X W (.Name x pos) (eVar i) := ⟨(pe_var (i := i) hN hv hd hcd).imp fun σ H Q ⟨H0, ρ, F, s, k, q⟩ => by
  unfold eVar at q
  cases e : ρ[i]? with
  | none => rw [e] at q; exact q.elim
  | some sl =>
    rw [e] at q
    cases sl with
    | un => exact q.elim
    | o ds => exact q.elim
    | v d =>
      obtain ⟨x, h1, h2⟩ := k.get i d e
      exact ⟨x, h1, Post.at s q x h2⟩⟩
theorem pp_cst {t : V} {d : D} (h : PE X e (tC t)) (hr : ∀ K F, Rep K F d t) : PPE X W e (eC d) := ⟨h.imp fun σ H Q ⟨H0, ρ, F, s, k, q⟩ => Post.at s q _ (hr _ _)⟩
theorem pp_int {i j} : PPE X W (.Constant (.int i) j pos) (eC (.int i)) := pp_cst pe_int fun _ _ => by unfold Rep; rfl
theorem pp_bl {i j} : PPE X W (.Constant (.bool i) j pos) (eC (.bl i)) := pp_cst pe_bl fun _ _ => by unfold Rep; rfl
theorem pp_non {j} : PPE X W (.Constant .none j pos) (eC .non) := pp_cst pe_non fun _ _ => by unfold Rep; rfl
theorem pp_str {x : String} {j} : PPE X W (.Constant (.str (Str.ofString x)) j pos) (eC (.str x)) := pp_cst pe_str fun _ _ => by unfold Rep; rfl
/-- a constant of the module -/
theorem pp_globI {x : Str} {i : Int} {u : Value} (hg : Gl X x) (hm : X.mg x = some u) (r : ∃ t, u = .int i t) (hd : (x == ("__debug__" : Str)) = false := by decide) : PPE X W (.Name x pos) (eC (.int i)) := pp_cst (pe_glob (v := .int i) hg hm r hd) fun _ _ => by unfold Rep; rfl
theorem pp_op {op : Operator} {g : D → D → Res D} (o : Op2 X W (binaryOp op) g) (ha : PPE X W a fa) (hb : PPE X W b fb) : PPE X W (.BinOp a op b pos) (eOp g fa fb) := by
  obtain ⟨r, ho, hr⟩ := o
  refine ⟨(pe_op ho ha.pe hb.pe).imp fun σ H Q ⟨H0, ρ, F, s, k, q⟩ => ?_⟩
  refine tP_in s k (Post.bind q |>.mono fun d F1 H1 _ e1 q1 e2 x rx => ?_)
  refine tP_in e2.s (k.ext e2) (Post.bind q1 |>.mono fun d2 F2 H2 _ e3 q2 e4 y ry => ?_)
  exact hr F2 H2 σ d d2 x y Q e4.s (rx.mono e4.f) ry q2
theorem pp_cmp {op : CmpOp} {g : D → D → Res D} (o : Op2 X W (compareOp op) g) (ha : PPE X W a fa) (hb : PPE X W b fb) (hm : behindInMarks op b = false := by first | exact nomark _ | rfl) : PPE X W (.Compare a [op] [b] pos) (eOp g fa fb) := by
  obtain ⟨r, ho, hr⟩ := o
  refine ⟨(pe_cmpR ho ha.pe hb.pe hm).imp fun σ H Q ⟨H0, ρ, F, s, k, q⟩ => ?_⟩
  refine tP_in s k (Post.bind q |>.mono fun d F1 H1 _ e1 q1 e2 x rx => ?_)
  refine tP_in e2.s (k.ext e2) (Post.bind q1 |>.mono fun d2 F2 H2 _ e3 q2 e4 y ry => ?_)
  exact hr F2 H2 σ d d2 x y Q e4.s (rx.mono e4.f) ry q2
theorem rep_toB {K : Fr} {F F' H H' : Hp} {d : D} {x : V} {σ : L2.St} {Q : Bool → Hp → Hp → Prop} (s : Same F H) (r : Rep K F d x) (q : Post X W (toB d) F H σ Q) : ∃ k, x = .bl k ∧ Post X W (.ok k) F H σ Q := by
  cases d <;> first | exact (show False from q).elim | skip
  unfold Rep at r
  exact ⟨_, r, q⟩
theorem pt_cmpP {op : CmpOp} {g : D → D → Res D} (o : Op2 X W (compareOp op) g) (ha : PPE X W a fa) (hb : PPE X W b fb) (hm : behindInMarks op b = false := by first | exact nomark _ | rfl) : PPT X W (.Compare a [op] [b] pos) (tB (eOp g fa fb)) := by
  obtain ⟨r, ho, hr⟩ := o
  refine ⟨(pt_cmpR ho ha.pe hb.pe hm).imp fun σ H Q ⟨H0, ρ, F, s, k, q⟩ => ?_⟩
  have q := Post.bind q
  refine tP_in s k (Post.bind q |>.mono fun d F1 H1 _ e1 q1 e2 x rx => ?_)
  refine tP_in e2.s (k.ext e2) (Post.bind q1 |>.mono fun d2 F2 H2 _ e3 q2 e4 y ry => ?_)
  refine hr F2 H2 σ d d2 x y _ e4.s (rx.mono e4.f) ry (q2.mono fun d3 F3 H3 _ e5 q3 z rz => ?_)
  obtain ⟨b, e6, q4⟩ := rep_toB (F' := F3) (H' := H3) e5.s rz q3
  exact ⟨b, e6, Post.at e5.s q4⟩
theorem pe_chainP {op op' : CmpOp} {g g' : D → D → Res D} (o : Op2 X W (compareOp op) g) (o' : Op2 X W (compareOp op') g') (ha : PPE X W a fa) (hb : PPE X W b fb) (hc : PPE X W c fc)
    (hm : lastMarks [op, op'] [b, c] = false := by with_unfolding_all rfl) : PPE X W (.Compare a [op, op'] [b, c] pos) (eChain g g' fa fb fc) := by
  obtain ⟨r, ho, hr⟩ := o
  obtain ⟨r', ho', hr'⟩ := o'
  refine ⟨(pe_chain ho ho' ha.pe hb.pe hc.pe hm).imp fun σ H Q ⟨H0, ρ, F, s, k, q⟩ => ?_⟩
  refine tP_in s k (Post.bind q |>.mono fun d F1 H1 _ e1 q1 e2 x rx => ?_)
  refine tP_in e2.s (k.ext e2) (Post.bind q1 |>.mono fun d2 F2 H2 _ e3 q2 e4 y ry => ?_)
  refine hr F2 H2 σ d d2 x y _ e4.s (rx.mono e4.f) ry (Post.bind q2 |>.mono fun d3 F3 H3 _ e5 q3 z rz => ?_)
  obtain ⟨b, e6, q4⟩ := rep_toB (F' := F3) (H' := H3) e5.s rz (Post.bind q3)
  refine ⟨b, e6, ?_⟩
  have q5 := Post.at e5.s q4
  cases b with
  | false =>
    rw [if_neg Bool.false_ne_true]
    exact Post.at e5.s q5 _ (by unfold Rep; rfl)
  | true =>
    rw [if_pos rfl]
    rw [if_pos rfl] at q5
    refine tP_in e5.s ((k.ext (e2.trans e4)).ext e5) (Post.bind q5 |>.mono fun d4 F4 H4 _ e7 q6 e8 w rw' => ?_)
    exact hr' F4 H4 σ d2 d4 y w Q e8.s ((ry.mono e5.f).mono e8.f) rw' q6
/-- a test by its value -/
theorem pt_valP (ha : PPE X W a fa) (he : ∀ whole, isTrue a X.env whole = (do let v ← whole; standAt a.pos; holding [v] (truthy v)) := by intro _; rfl) : PPT X W a (tB fa) :=
  ⟨(pt_val ha.pe he).imp fun σ H Q ⟨H0, ρ, F, s, k, q⟩ => tP_in s k (Post.bind q |>.mono fun d F1 H1 _ e1 q1 e2 x rx => by
    obtain ⟨b, e6, q4⟩ := rep_toB (F' := F1) (H' := H1) e2.s rx q1
    exact ⟨b, e6, Post.at e2.s q4⟩)⟩
theorem pt_chainP {op op' : CmpOp} {g g' : D → D → Res D} (o : Op2 X W (compareOp op) g) (o' : Op2 X W (compareOp op') g') (ha : PPE X W a fa) (hb : PPE X W b fb) (hc : PPE X W c fc)
    (hm : lastMarks [op, op'] [b, c] = false := by with_unfolding_all rfl) : PPT X W (.Compare a [op, op'] [b, c] pos) (tB (eChain g g' fa fb fc)) := by
  obtain ⟨r, ho, hr⟩ := o
  obtain ⟨r', ho', hr'⟩ := o'
  refine ⟨(pt_chain ho ho' ha.pe hb.pe hc.pe hm).imp fun σ H Q ⟨H0, ρ, F, s, k, q⟩ => ?_⟩
  have q := Post.bind q
  refine tP_in s k (Post.bind q |>.mono fun d F1 H1 _ e1 q1 e2 x rx => ?_)
  refine tP_in e2.s (k.ext e2) (Post.bind q1 |>.mono fun d2 F2 H2 _ e3 q2 e4 y ry => ?_)
  refine hr F2 H2 σ d d2 x y _ e4.s (rx.mono e4.f) ry (Post.bind q2 |>.mono fun d3 F3 H3 _ e5 q3 z rz => ?_)
  obtain ⟨b, e6, q4⟩ := rep_toB (F' := F3) (H' := H3) e5.s rz (Post.bind q3)
  refine ⟨b, e6, ?_⟩
  have q5 := Post.at e5.s q4
  cases b with
  | false =>
    rw [if_neg Bool.false_ne_true]
    exact ⟨false, rfl, Post.at e5.s (Post.at e5.s q5)⟩
  | true =>
    rw [if_pos rfl]
    rw [if_pos rfl] at q5
    refine tP_in e5.s ((k.ext (e2.trans e4)).ext e5) (Post.bind q5 |>.mono fun d4 F4 H4 _ e7 q6 e8 w rw' => ?_)
    refine hr' F4 H4 σ d2 d4 y w _ e8.s ((ry.mono e5.f).mono e8.f) rw' (q6.mono fun d5 F5 H5 _ e9 q7 z' rz' => ?_)
    obtain ⟨b, e10, q8⟩ := rep_toB (F' := F5) (H' := H5) e9.s rz' q7
    exact ⟨b, e10, Post.at e9.s q8⟩
section
variable {ta tb : Rho → Res Bool}
theorem pw_and1P (ha : PPT X W a ta) : PPW X W (.BoolOp .And [a] pos) ta := ⟨pw_and1 ha.pt⟩
theorem pw_or1P (ha : PPT X W a ta) : PPW X W (.BoolOp .Or [a] pos) ta := ⟨pw_or1 ha.pt⟩
theorem pw_andP {rest : List Expr} (ha : PPT X W a ta) (hb : PPW X W (.BoolOp .And (b :: rest) pos) tb) : PPW X W (.BoolOp .And (a :: b :: rest) pos) (tAndB ta tb) :=
  ⟨(pw_and ha.pt hb.pw).imp fun σ H Q ⟨H0, ρ, F, s, k, q⟩ => tPT_in s k (Post.bind q |>.mono fun c F1 H1 _ e1 q1 e2 => by
    cases c with
    | false => rw [if_neg Bool.false_ne_true]; exact Post.at e2.s q1
    | true =>
      rw [if_pos rfl]
      rw [if_pos rfl] at q1
      exact ⟨H0, ρ, F1, e2.s, k.ext e2, q1⟩)⟩
theorem pw_orP {rest : List Expr} (ha : PPT X W a ta) (hb : PPW X W (.BoolOp .Or (b :: rest) pos) tb) : PPW X W (.BoolOp .Or (a :: b :: rest) pos) (tOrB ta tb) :=
  ⟨(pw_or ha.pt hb.pw).imp fun σ H Q ⟨H0, ρ, F, s, k, q⟩ => tPT_in s k (Post.bind q |>.mono fun c F1 H1 _ e1 q1 e2 => by
    cases c with
    | true => rw [if_pos rfl]; exact Post.at e2.s q1
    | false =>
      rw [if_neg Bool.false_ne_true]
      rw [if_neg Bool.false_ne_true] at q1
      exact ⟨H0, ρ, F1, e2.s, k.ext e2, q1⟩)⟩
theorem PPW.pt' (h : PPW X W a ta) : PPT X W a ta := ⟨h.pw.pt⟩
theorem pt_notP (ha : PPT X W a ta) : PPT X W (.UnaryOp .Not a pos) (tNotB ta) :=
  ⟨(pt_not ha.pt).imp fun σ H Q ⟨H0, ρ, F, s, k, q⟩ => tPT_in s k (Post.bind q |>.mono fun c F1 H1 _ e1 q1 e2 => Post.at e2.s q1)⟩
end
theorem pp_one {op} (h : PPE X W a fa) : PPE X W (.BoolOp op [a] pos) fa := ⟨pe_one h.pe⟩
theorem pp_and {rest : List Expr} (ha : PPE X W a fa) (hb : PPE X W (.BoolOp .And (b :: rest) pos) fb) : PPE X W (.BoolOp .And (a :: b :: rest) pos) (eAnd fa fb) :=
  ⟨(pe_and ha.pe hb.pe).imp fun σ H Q ⟨H0, ρ, F, s, k, q⟩ => tP_in s k (Post.bind (Post.bind q) |>.mono fun d F1 H1 _ e1 q1 e2 x rx => by
    obtain ⟨b, e6, q4⟩ := rep_toB (F' := F1) (H' := H1) e2.s rx q1
    refine ⟨b, e6, ?_⟩
    have q5 := Post.at e2.s q4
    cases b with
    | false => rw [if_neg Bool.false_ne_true]; exact Post.at e2.s q5 _ (by unfold Rep; rfl)
    | true =>
      rw [if_pos rfl]
      exact ⟨H0, ρ, F1, e2.s, k.ext e2, q5⟩)⟩
theorem pp_or {rest : List Expr} (ha : PPE X W a fa) (hb : PPE X W (.BoolOp .Or (b :: rest) pos) fb) : PPE X W (.BoolOp .Or (a :: b :: rest) pos) (eOr fa fb) :=
  ⟨(pe_or ha.pe hb.pe).imp fun σ H Q ⟨H0, ρ, F, s, k, q⟩ => tP_in s k (Post.bind (Post.bind q) |>.mono fun d F1 H1 _ e1 q1 e2 x rx => by
    obtain ⟨b, e6, q4⟩ := rep_toB (F' := F1) (H' := H1) e2.s rx q1
    refine ⟨b, e6, ?_⟩
    have q5 := Post.at e2.s q4
    cases b with
    | true => rw [if_pos rfl]; exact Post.at e2.s q5 _ (by unfold Rep; rfl)
    | false =>
      rw [if_neg Bool.false_ne_true]
      exact ⟨H0, ρ, F1, e2.s, k.ext e2, q5⟩)⟩
theorem pp_not (ha : PPE X W a fa) : PPE X W (.UnaryOp .Not a pos) (eNot fa) :=
  ⟨(pe_not ha.pe).imp fun σ H Q ⟨H0, ρ, F, s, k, q⟩ => tP_in s k (Post.bind (Post.bind q) |>.mono fun d F1 H1 _ e1 q1 e2 x rx => by
    obtain ⟨b, e6, q4⟩ := rep_toB (F' := F1) (H' := H1) e2.s rx q1
    exact ⟨b, e6, Post.at e2.s (Post.at e2.s q4) _ (by unfold Rep; rfl)⟩)⟩
theorem pp_neg (ha : PPE X W a fa) : PPE X W (.UnaryOp .USub a pos) (eUn dNeg fa) :=
  ⟨(pe_un un_neg ha.pe).imp fun σ H Q ⟨H0, ρ, F, s, k, q⟩ => tP_in s k (Post.bind q |>.mono fun d F1 H1 _ e1 q1 e2 x rx => by
    cases d <;> first | exact (show False from q1).elim | skip
    unfold Rep at rx
    exact ⟨_, rx, Post.at e2.s q1 _ (by unfold Rep; rfl)⟩)⟩
theorem rep_non {K : Fr} {F : Hp} {d : D} {x : V} (r : Rep K F d x) : decide (x = .non) = (match d with | .non => true | _ => false) := by
  cases d <;> unfold Rep at r <;> first | (subst r; simp; done) | (obtain ⟨_, _, e, _⟩ := r; subst e; simp; done) | (obtain ⟨_, e, _⟩ := r; subst e; simp; done)
theorem pp_isN {j} {pos'} (ha : PPE X W a fa) : PPE X W (.Compare a [.Is] [.Constant .none j pos'] pos) (eUn dIsN fa) :=
  ⟨(pe_cmpR op_isN ha.pe pe_non (nomark _)).imp fun σ H Q ⟨H0, ρ, F, s, k, q⟩ => tP_in s k (Post.bind q |>.mono fun d F1 H1 _ e1 q1 e2 x rx => by
    refine ⟨rfl, ?_⟩
    rw [rep_non rx]
    cases d <;> exact Post.at e2.s q1 _ (by unfold Rep; rfl))⟩
theorem pp_notN {j} {pos'} (ha : PPE X W a fa) : PPE X W (.Compare a [.IsNot] [.Constant .none j pos'] pos) (eUn dNotN fa) :=
  ⟨(pe_cmpR op_notN ha.pe pe_non (nomark _)).imp fun σ H Q ⟨H0, ρ, F, s, k, q⟩ => tP_in s k (Post.bind q |>.mono fun d F1 H1 _ e1 q1 e2 x rx => by
    refine ⟨rfl, ?_⟩
    rw [rep_non rx]
    cases d <;> exact Post.at e2.s q1 _ (by unfold Rep; rfl))⟩
theorem pt_isN {j} {pos'} (ha : PPE X W a fa) : PPT X W (.Compare a [.Is] [.Constant .none j pos'] pos) (tB (eUn dIsN fa)) :=
  ⟨(pt_cmpR op_isN ha.pe pe_non (nomark _)).imp fun σ H Q ⟨H0, ρ, F, s, k, q⟩ => tP_in s k (Post.bind (Post.bind q) |>.mono fun d F1 H1 _ e1 q1 e2 x rx => by
    refine ⟨rfl, _, rfl, ?_⟩
    rw [rep_non rx]
    cases d <;> exact Post.at e2.s (Post.at e2.s q1))⟩
theorem pt_notN {j} {pos'} (ha : PPE X W a fa) : PPT X W (.Compare a [.IsNot] [.Constant .none j pos'] pos) (tB (eUn dNotN fa)) :=
  ⟨(pt_cmpR op_notN ha.pe pe_non (nomark _)).imp fun σ H Q ⟨H0, ρ, F, s, k, q⟩ => tP_in s k (Post.bind (Post.bind q) |>.mono fun d F1 H1 _ e1 q1 e2 x rx => by
    refine ⟨rfl, _, rfl, ?_⟩
    rw [rep_non rx]
    cases d <;> exact Post.at e2.s (Post.at e2.s q1))⟩
theorem pa_nilP : PPA X W [] aNil := ⟨pa_nil.imp fun σ H Q ⟨H0, ρ, F, s, k, q⟩ => Post.at s q [] Reps.nil⟩
theorem pa_consP {fr : Rho → Res (List D)} (ha : PPE X W e fa) (hr : PPA X W es fr) (hs : starEach (e :: es) X.env = (false, eval e X.env) :: starEach es X.env := by rfl) : PPA X W (e :: es) (aCons fa fr) :=
  ⟨(pa_cons ha.pe hr.pa hs).imp fun σ H Q ⟨H0, ρ, F, s, k, q⟩ => tP_in s k (Post.bind q |>.mono fun d F1 H1 _ e1 q1 e2 x rx =>
    tPA_in e2.s (k.ext e2) (Post.bind q1 |>.mono fun ds F2 H2 _ e3 q2 e4 xs rxs => Post.at e4.s q2 _ (Reps.cons (rx.mono e4.f) rxs)))⟩
variable {fl : Rho → Res (List D)}
theorem pp_tup {x1} (h : PPA X W es fl) : PPE X W (.Tuple es x1 pos) (eTup fl) :=
  ⟨(pe_tup h.pa).imp fun σ H Q ⟨H0, ρ, F, s, k, q⟩ => tPA_in s k (Post.bind q |>.mono fun ds F1 H1 _ e1 q1 e2 xs rx => by
    by_cases hf : fits ds.length = true
    · rw [if_pos hf] at q1
      refine ⟨by rw [← rx.length]; exact fits_iff.mp hf, fun p np => q1 _ _ (Ext.new e2.s np) _ ?_⟩
      unfold Rep
      exact ⟨p, xs, rfl, upd_same, rx.mono (same_upd (e2.s.free np))⟩
    · rw [if_neg hf] at q1; exact q1.elim)⟩
theorem po_lst (h : PPA X W es fl) : PPO X W (.List es pos) (oLst fl) :=
  ⟨(pe_lst h.pa).imp fun σ H Q ⟨H0, ρ, F, s, k, q⟩ => tPA_in s k (Post.bind q |>.mono fun ds F1 H1 _ e1 q1 e2 xs rx => by
    by_cases hf : fits ds.length = true
    · rw [if_pos hf] at q1
      refine ⟨by rw [← rx.length]; exact fits_iff.mp hf, fun p np => q1 F1 _ (Ext.grow e2.s (same_upd np)) p xs (e2.s.free np) (e2.h.free np) upd_same rx⟩
    · rw [if_neg hf] at q1; exact q1.elim)⟩
/-- a fresh list, frozen at once -/
theorem fz_read {X : Cx} {W : WX} {fl : Rho → Res (List D)} {σ : L2.St} {H : Hp} {Q : VK} (h : tP X W (eO fl) σ H Q) : tPO X W fl σ H Q := by
  obtain ⟨H0, ρ, F, s, k, q⟩ := h
  refine ⟨H0, ρ, F, s, k, ?_⟩
  unfold eO at q
  cases ef : fl ρ with
  | stk => rw [ef] at q; exact q
  | exc c => rw [ef] at q; exact q
  | ok ds =>
    rw [ef] at q
    intro F1 H1 e1 p xs fp hp h1 rs
    refine q (upd F1 p (.lst xs)) H1 ⟨e1.f.trans (same_upd fp), e1.h, ?_, fun b hb hb2 => ?_⟩ _ ?_
    · intro c o ec
      by_cases hc : c = p
      · subst hc; rw [upd_same] at ec; cases ec; exact h1
      · rw [upd_ne hc] at ec; exact e1.s _ _ ec
    · have hne : b ≠ p := fun z => hb (by rw [z]; exact hp)
      rw [upd_ne hne]
      exact e1.n b hb hb2
    · unfold Rep
      exact ⟨p, xs, rfl, upd_same, rs.mono (same_upd fp)⟩
theorem PPO.fz (h : PPO X W e fl) : PPE X W e (eO fl) := ⟨h.pe.imp fun σ H Q h => fz_read h⟩
end
end Pu

namespace Pu
open PySem PySem.Spec PyProof.Rows L2

theorem Reps.at {K : Fr} {F : Hp} {ds : List D} {xs : List V} {i : Int} {d : D} (r : Reps K F ds xs) (h : atI ds i = some d) : ∃ x, atI xs i = some x ∧ Rep K F d x := by
  unfold atI at h ⊢
  rw [← r.length]
  cases e : ixN ds.length i with
  | none => rw [e] at h; cases h
  | some j =>
    rw [e] at h
    exact r.get h
theorem Reps.cut {K : Fr} {F : Hp} {ds : List D} {xs : List V} (lo hi : Option Int) (r : Reps K F ds xs) : Reps K F (cutD ds lo hi) (cutV xs lo hi) := by
  unfold cutD cutV
  rw [← r.length]
  exact (r.drop _).take _
theorem atI_map {α β : Type} (f : α → β) {xs : List α} {i : Int} {a : α} (h : atI xs i = some a) : atI (xs.map f) i = some (f a) := by
  unfold atI at h ⊢
  rw [List.length_map]
  cases e : ixN xs.length i with
  | none => rw [e] at h; cases h
  | some j =>
    rw [e] at h
    show (xs.map f)[j]? = some (f a)
    have h' : xs[j]? = some a := h
    rw [List.getElem?_map, h']
    rfl

theorem Reps.ints' {K : Fr} {F : Hp} : ∀ {ns : List Int}, Reps K F (ns.map D.int) (ns.map V.int)
  | [] => Reps.nil
  | n :: ns => Reps.cons (by unfold Rep; rfl) (Reps.ints' (ns := ns))
/-- isinstance of a built-in class, by the class's name -/
def tyN : D → String
  | .non => "NoneType" | .bl _ => "bool" | .int _ => "int" | .str _ => "str" | .tup _ => "tuple" | .lst _ => "list" | .scr _ => "list"
inductive Ty where
  | int | bool | str | tuple | list
def Ty.nm : Ty → String
  | .int => "int" | .bool => "bool" | .str => "str" | .tuple => "tuple" | .list => "list"
def isTy : Ty → D → Bool
  | .int, .int _ => true | .int, .bl _ => true
  | .bool, .bl _ => true
  | .str, .str _ => true
  | .tuple, .tup _ => true
  | .list, .lst _ => true | .list, .scr _ => true
  | _, _ => false
def dIsi (T : Ty) (d : D) : Res D := .ok (.bl (isTy T d))
theorem kit_isTy (T : Ty) (d : D) : kitB (tyN d) T.nm = some (isTy T d) := by
  cases T <;> cases d <;> kernel_rfl
def dList : D → Res (List D)
  | .lst ds => .ok ds
  | .tup ds => .ok ds
  | .scr ns => .ok (ns.map .int)
  | _ => .stk
def dRev : D → Res (List D)
  | .lst ds => .ok ds.reverse
  | _ => .stk
def dInt : D → Res D
  | .int i => .ok (.int i)
  | .bl k => .ok (.int (if k then 1 else 0))
  | _ => .stk
def strOk (i : Int) : Bool := Nat.ble i.natAbs.log2 1919
theorem strOk_is {i : Int} (h : strOk i = true) : i.natAbs.log2 < 1920 := by
  unfold strOk at h
  rw [Nat.ble_eq] at h
  omega
def dStr : D → Res D
  | .int i => if strOk i then .ok (.str (toString i)) else .stk
  | _ => .stk
def dTuple : D → Res D
  | .lst ds => .ok (.tup ds)
  | .tup ds => .ok (.tup ds)
  | _ => .stk
def dMax2 : D → D → Res D
  | .int i, .int j => .ok (.int (if j > i then j else i))
  | _, _ => .stk
def dMin2 : D → D → Res D
  | .int i, .int j => .ok (.int (if j < i then j else i))
  | _, _ => .stk
def intsOf : List D → Option (List Int)
  | [] => some []
  | .int i :: r => (intsOf r).map fun l => i :: l
  | _ :: _ => none
def maxL : List Int → Int
  | [] => 0
  | [a] => a
  | a :: b :: r => if maxL (b :: r) > a then maxL (b :: r) else a
def minL : List Int → Int
  | [] => 0
  | [a] => a
  | a :: b :: r => if minL (b :: r) < a then minL (b :: r) else a
theorem maxL_mem : ∀ {l : List Int}, l ≠ [] → maxL l ∈ l ∧ ∀ y ∈ l, y ≤ maxL l
  | [], h => absurd rfl h
  | [a], _ => by simp [maxL]
  | a :: b :: r, _ => by
    obtain ⟨h1, h2⟩ := maxL_mem (l := b :: r) (by simp)
    unfold maxL
    split
    · rename_i hc
      exact ⟨List.mem_cons_of_mem _ h1, fun y hy => by
        rcases List.mem_cons.mp hy with rfl | hy
        · omega
        · exact h2 y hy⟩
    · rename_i hc
      exact ⟨List.mem_cons_self, fun y hy => by
        rcases List.mem_cons.mp hy with rfl | hy
        · omega
        · have := h2 y hy; omega⟩
theorem minL_mem : ∀ {l : List Int}, l ≠ [] → minL l ∈ l ∧ ∀ y ∈ l, minL l ≤ y
  | [], h => absurd rfl h
  | [a], _ => by simp [minL]
  | a :: b :: r, _ => by
    obtain ⟨h1, h2⟩ := minL_mem (l := b :: r) (by simp)
    unfold minL
    split
    · rename_i hc
      exact ⟨List.mem_cons_of_mem _ h1, fun y hy => by
        rcases List.mem_cons.mp hy with rfl | hy
        · omega
        · exact h2 y hy⟩
    · rename_i hc
      exact ⟨List.mem_cons_self, fun y hy => by
        rcases List.mem_cons.mp hy with rfl | hy
        · omega
        · have := h2 y hy; omega⟩
def dInts (g : List Int → Res D) : D → Res D
  | .lst ds => match intsOf ds with
    | some ns => g ns
    | none => .stk
  | _ => .stk
def dSum : D → Res D := dInts fun ns => .ok (.int ns.sum)
def dMaxL : D → Res D := dInts fun ns => if 0 < ns.length then .ok (.int (maxL ns)) else .stk
def dMinL : D → Res D := dInts fun ns => if 0 < ns.length then .ok (.int (minL ns)) else .stk
theorem rep_ints {K : Fr} {F : Hp} : ∀ {ds : List D} {xs : List V} {ns : List Int}, intsOf ds = some ns → Reps K F ds xs → xs = ns.map V.int
  | [], _, ns, h, r => by
    have h := Option.some.inj h
    subst h
    unfold Reps at r; subst r; rfl
  | .int i :: ds, _, ns, h, r => by
    unfold intsOf at h
    unfold Reps at r
    obtain ⟨x, t, rfl, r1, r2⟩ := r
    cases e : intsOf ds with
    | none => rw [e] at h; cases h
    | some l =>
      rw [e] at h
      have h := Option.some.inj h
      subst h
      unfold Rep at r1
      rw [r1, rep_ints e r2]
      rfl
  | .non :: ds, _, ns, h, r => nomatch h
  | .bl _ :: ds, _, ns, h, r => nomatch h
  | .str _ :: ds, _, ns, h, r => nomatch h
  | .tup _ :: ds, _, ns, h, r => nomatch h
  | .lst _ :: ds, _, ns, h, r => nomatch h
  | .scr _ :: ds, _, ns, h, r => nomatch h

/-- a call of a built-in with one value -/
def Call1 (X : Cx) (W : WX) (f : Value) (g : D → Res D) : Prop := ∃ r, CallR X f r ∧ ∀ (F H : Hp) (σ : L2.St) (d : D) (x : V) (Q : VK), Same F H → Rep X.K F d x →
  Post X W (g d) F H σ (fun d F' H' => ∀ z, Rep X.K F' d z → Q z H') → r [x] H Q
def Call2 (X : Cx) (W : WX) (f : Value) (g : D → D → Res D) : Prop := ∃ r, CallR X f r ∧ ∀ (F H : Hp) (σ : L2.St) (d e : D) (x y : V) (Q : VK), Same F H → Rep X.K F d x → Rep X.K F e y →
  Post X W (g d e) F H σ (fun d F' H' => ∀ z, Rep X.K F' d z → Q z H') → r [x, y] H Q
/-- .. that makes a fresh list -/
def CallO (X : Cx) (W : WX) (f : Value) (g : D → Res (List D)) : Prop := ∃ r, CallR X f r ∧ ∀ (F H : Hp) (σ : L2.St) (d : D) (x : V) (Q : VK), Same F H → Rep X.K F d x →
  Post X W (g d) F H σ (fun ds F' H' => ∀ p xs, F' p = none → H p = none → H' p = some (.lst xs) → Reps X.K F' ds xs → Q (.ref p) H') → r [x] H Q
section
variable {X : Cx} {W : WX}
theorem c1_len : Call1 X W (.builtin "len") dLen := ⟨_, call_len_seq (X := X), fun F H σ d x Q s r q => by
  cases d <;> first | exact (show False from q).elim | skip
  all_goals unfold Rep at r
  · obtain ⟨a, xs, rfl, ha, r⟩ := r
    exact ⟨a, xs, rfl, .inr (.of (s _ _ ha)), Post.at s q _ (by unfold Rep; rw [r.length])⟩
  · obtain ⟨a, xs, rfl, ha, r⟩ := r
    exact ⟨a, xs, rfl, .inl (.of (s _ _ ha)), Post.at s q _ (by unfold Rep; rw [r.length])⟩
  · obtain ⟨a, rfl, ha⟩ := r
    exact ⟨a, _, rfl, .inl (s.seq ha), Post.at s q _ (by unfold Rep; rw [List.length_map])⟩⟩
theorem c1_int : Call1 X W (.type "int") dInt := ⟨_, call_int1 (X := X), fun F H σ d x Q s r q => by
  cases d <;> first | exact (show False from q).elim | skip
  all_goals unfold Rep at r
  · exact .inr ⟨_, by rw [r], Post.at s q _ (by unfold Rep; rfl)⟩
  · exact .inl ⟨_, by rw [r], Post.at s q _ (by unfold Rep; rfl)⟩⟩
theorem c1_str : Call1 X W (.type "str") dStr := ⟨_, call_str_int (X := X), fun F H σ d x Q s r q => by
  cases d <;> first | exact (show False from q).elim | skip
  rename_i i
  obtain ⟨hc, q⟩ := Post.guard (c := strOk i = true) q
  have hc := strOk_is hc
  unfold Rep at r
  exact ⟨_, by rw [r], hc, Post.at s q _ (by unfold Rep; rfl)⟩⟩
theorem c1_tuple : Call1 X W (.type "tuple") dTuple := ⟨_, call_tuple_of (X := X), fun F H σ d x Q s r q => by
  cases d <;> first | exact (show False from q).elim | skip
  · have r' := r
    unfold Rep at r
    obtain ⟨a, xs, rfl, ha, r⟩ := r
    exact ⟨a, xs, rfl, .inr ⟨.of (s _ _ ha), Post.at s q _ r'⟩⟩
  · unfold Rep at r
    obtain ⟨a, xs, rfl, ha, r⟩ := r
    refine ⟨a, xs, rfl, .inl ⟨.of (s _ _ ha), fun l nl => q _ _ (Ext.new s nl) _ ?_⟩⟩
    unfold Rep
    exact ⟨l, xs, rfl, upd_same, r.mono (same_upd (s.free nl))⟩⟩
theorem co_list : CallO X W (.type "list") dList := ⟨_, call_list_of (X := X), fun F H σ d x Q s r q => by
  cases d <;> first | exact (show False from q).elim | skip
  all_goals unfold Rep at r
  · obtain ⟨a, xs, rfl, ha, r⟩ := r
    exact ⟨a, xs, rfl, .inr (.of (s _ _ ha)), fun l nl => q F _ (Ext.grow s (same_upd nl)) l xs (s.free nl) nl upd_same r⟩
  · obtain ⟨a, xs, rfl, ha, r⟩ := r
    exact ⟨a, xs, rfl, .inl (.of (s _ _ ha)), fun l nl => q F _ (Ext.grow s (same_upd nl)) l xs (s.free nl) nl upd_same r⟩
  · obtain ⟨a, rfl, ha⟩ := r
    exact ⟨a, _, rfl, .inl (s.seq ha), fun l nl => q F _ (Ext.grow s (same_upd nl)) l _ (s.free nl) nl upd_same Reps.ints'⟩⟩
theorem c2_max (hc : X.calm = true) : Call2 X W (.builtin "max") dMax2 := ⟨_, call_max2 hc, fun F H σ d e x y Q s r r2 q => by
  cases d <;> cases e <;> first | exact (show False from q).elim | skip
  unfold Rep at r r2
  exact ⟨_, _, by rw [r, r2], Post.at s q _ (by unfold Rep; rfl)⟩⟩
theorem c2_min (hc : X.calm = true) : Call2 X W (.builtin "min") dMin2 := ⟨_, call_min2 hc, fun F H σ d e x y Q s r r2 q => by
  cases d <;> cases e <;> first | exact (show False from q).elim | skip
  unfold Rep at r r2
  exact ⟨_, _, by rw [r, r2], Post.at s q _ (by unfold Rep; rfl)⟩⟩
theorem dInts_in {g : List Int → Res D} {F H : Hp} {σ : L2.St} {d : D} {x : V} {Q : D → Hp → Hp → Prop} (s : Same F H) (r : Rep X.K F d x) (q : Post X W (dInts g d) F H σ Q) :
    ∃ a ns, x = .ref a ∧ SqL X.K H a (ns.map V.int) ∧ Post X W (g ns) F H σ Q := by
  cases d <;> first | exact (show False from q).elim | skip
  rename_i ds
  unfold Rep at r
  obtain ⟨a, xs, rfl, ha, r⟩ := r
  unfold dInts at q
  simp only at q
  cases e : intsOf ds with
  | none => rw [e] at q; exact q.elim
  | some ns =>
    rw [e] at q
    exact ⟨a, ns, rfl, .of (by rw [← rep_ints e r]; exact s _ _ ha), q⟩
theorem c1_sum (hc : X.calm = true) : Call1 X W (.builtin "sum") dSum := ⟨_, cr_sum hc, fun F H σ d x Q s r q => by
  obtain ⟨a, ns, rfl, h, q⟩ := dInts_in s r q
  exact ⟨a, ns, rfl, h, Post.at s q _ (by unfold Rep; rfl)⟩⟩
theorem c1_maxL (hc : X.calm = true) : Call1 X W (.builtin "max") dMaxL := ⟨_, cr_max hc, fun F H σ d x Q s r q => by
  obtain ⟨a, ns, rfl, h, q⟩ := dInts_in s r q
  obtain ⟨hl, q⟩ := Post.guard (c := 0 < ns.length) q
  refine ⟨a, ns, rfl, h, hl, fun m h1 h2 => ?_⟩
  have hne : ns ≠ [] := fun z => by rw [z] at hl; exact absurd hl (Nat.lt_irrefl _)
  obtain ⟨h3, h4⟩ := maxL_mem hne
  have e : m = maxL ns := Int.le_antisymm (h4 m h1) (h2 _ h3)
  rw [e]
  exact Post.at s q _ (by unfold Rep; rfl)⟩
theorem c1_minL (hc : X.calm = true) : Call1 X W (.builtin "min") dMinL := ⟨_, cr_min hc, fun F H σ d x Q s r q => by
  obtain ⟨a, ns, rfl, h, q⟩ := dInts_in s r q
  obtain ⟨hl, q⟩ := Post.guard (c := 0 < ns.length) q
  refine ⟨a, ns, rfl, h, hl, fun m h1 h2 => ?_⟩
  have hne : ns ≠ [] := fun z => by rw [z] at hl; exact absurd hl (Nat.lt_irrefl _)
  obtain ⟨h3, h4⟩ := minL_mem hne
  have e : m = minL ns := Int.le_antisymm (h2 _ h3) (h4 m h1)
  rw [e]
  exact Post.at s q _ (by unfold Rep; rfl)⟩

variable {a b c e : Expr} {es : List Expr} {fa fb fc : Rho → Res D} {pos p apos : Pos} {x : Str}
theorem ix_leaf {F H : Hp} {σ : L2.St} {Q : VK} (s : Same F H) : ∀ (d d2 : D) {x y : V}, Rep X.K F d x → Rep X.K F d2 y → Post X W (dIx d d2) F H σ (fun d F' H' => ∀ z, Rep X.K F' d z → Q z H') → rIx X.K x y H Q
  | .tup ds, .int i, x, y, rx, ry, q => by
    unfold Rep at rx ry
    obtain ⟨a, xs, rfl, ha, r⟩ := rx
    have q2 : Post X W (dAt ds i) F H σ (fun d F' H' => ∀ z, Rep X.K F' d z → Q z H') := q
    unfold dAt at q2
    cases e : atI ds i with
    | none => rw [e] at q2; exact q2.elim
    | some d =>
      rw [e] at q2
      obtain ⟨z, h1, h2⟩ := r.at e
      exact .inr (.inl ⟨a, xs, i, z, rfl, ry, .of (s _ _ ha), h1, Post.at s q2 _ h2⟩)
  | .lst ds, .int i, x, y, rx, ry, q => by
    unfold Rep at rx ry
    obtain ⟨a, xs, rfl, ha, r⟩ := rx
    have q2 : Post X W (dAt ds i) F H σ (fun d F' H' => ∀ z, Rep X.K F' d z → Q z H') := q
    unfold dAt at q2
    cases e : atI ds i with
    | none => rw [e] at q2; exact q2.elim
    | some d =>
      rw [e] at q2
      obtain ⟨z, h1, h2⟩ := r.at e
      exact .inl ⟨a, xs, i, z, rfl, ry, .of (s _ _ ha), h1, Post.at s q2 _ h2⟩
  | .scr ns, .int i, x, y, rx, ry, q => by
    unfold Rep at rx ry
    obtain ⟨a, rfl, ha⟩ := rx
    unfold dIx at q
    simp only at q
    cases e : atI ns i with
    | none => rw [e] at q; exact q.elim
    | some n =>
      rw [e] at q
      exact .inl ⟨a, _, i, .int n, rfl, ry, s.seq ha, atI_map V.int e, Post.at s q _ (by unfold Rep; rfl)⟩
  | .non, _, _, _, _, _, q => (show False from q).elim
  | .bl _, _, _, _, _, _, q => (show False from q).elim
  | .int _, _, _, _, _, _, q => (show False from q).elim
  | .str _, _, _, _, _, _, q => (show False from q).elim
  | .tup _, .non, _, _, _, _, q => (show False from q).elim
  | .tup _, .bl _, _, _, _, _, q => (show False from q).elim
  | .tup _, .str _, _, _, _, _, q => (show False from q).elim
  | .tup _, .tup _, _, _, _, _, q => (show False from q).elim
  | .tup _, .lst _, _, _, _, _, q => (show False from q).elim
  | .tup _, .scr _, _, _, _, _, q => (show False from q).elim
  | .lst _, .non, _, _, _, _, q => (show False from q).elim
  | .lst _, .bl _, _, _, _, _, q => (show False from q).elim
  | .lst _, .str _, _, _, _, _, q => (show False from q).elim
  | .lst _, .tup _, _, _, _, _, q => (show False from q).elim
  | .lst _, .lst _, _, _, _, _, q => (show False from q).elim
  | .lst _, .scr _, _, _, _, _, q => (show False from q).elim
  | .scr _, .non, _, _, _, _, q => (show False from q).elim
  | .scr _, .bl _, _, _, _, _, q => (show False from q).elim
  | .scr _, .str _, _, _, _, _, q => (show False from q).elim
  | .scr _, .tup _, _, _, _, _, q => (show False from q).elim
  | .scr _, .lst _, _, _, _, _, q => (show False from q).elim
  | .scr _, .scr _, _, _, _, _, q => (show False from q).elim
theorem pp_ix (ha : PPE X W a fa) (hb : PPE X W b fb) (hs : PlainIx b := by intro _ _; rfl) : PPE X W (.Subscript a b pos) (eOp dIx fa fb) :=
  ⟨(pe_ix ix_seq ha.pe hb.pe hs).imp fun σ H Q ⟨H0, ρ, F, s, k, q⟩ => tP_in s k (Post.bind q |>.mono fun d F1 H1 _ e1 q1 e2 x rx =>
    tP_in e2.s (k.ext e2) (Post.bind q1 |>.mono fun d2 F2 H2 _ e3 q2 e4 y ry => ix_leaf e4.s d d2 (rx.mono e4.f) ry q2))⟩
def rNone (_ : Rho) : Res (Option Int) := .ok none
def toI : D → Res (Option Int)
  | .int i => .ok (some i)
  | _ => .stk
def rSome (f : Rho → Res D) (ρ : Rho) : Res (Option Int) := (f ρ).bind toI
def dCut (lo hi : Option Int) : D → Res (List D)
  | .lst ds => .ok (cutD ds lo hi)
  | _ => .stk
def oSl (fa : Rho → Res D) (fl fh : Rho → Res (Option Int)) (ρ : Rho) : Res (List D) := (fa ρ).bind fun d => (fl ρ).bind fun lo => (fh ρ).bind fun hi => dCut lo hi d
def tPO' (X : Cx) (W : WX) (f : Rho → Res (Option Int)) : TO := fun σ H Q => ∃ H0 ρ F, Same F H ∧ SOk X.K H0 F H ρ σ ∧ Post X W (f ρ) F H σ fun i _ H' => Q i H'
structure PPart (X : Cx) (W : WX) (e : Option Expr) (f : Rho → Res (Option Int)) : Prop where
  po : PO X e (tPO' X W f)
theorem _root_.L2.PO.imp {X : Cx} {e : Option Expr} {t t' : TO} (h : PO X e t) (m : ∀ σ H Q, t' σ H Q → t σ H Q) : PO X e t' := ⟨fun pins s σ H Q I q => h.run pins s σ H Q I (m _ _ _ q)⟩
theorem pn_none : PPart X W none rNone := ⟨po_none.imp fun σ H Q ⟨H0, ρ, F, s, k, q⟩ => Post.at s q⟩
theorem pn_some (h : PPE X W e fa) : PPart X W (some e) (rSome fa) := ⟨(po_some h.pe).imp fun σ H Q ⟨H0, ρ, F, s, k, q⟩ => tP_in s k (Post.bind q |>.mono fun d F1 H1 _ e1 q1 e2 x rx => by
  cases d <;> first | exact (show False from q1).elim | skip
  unfold Rep at rx
  exact ⟨_, rx, Post.at e2.s q1⟩)⟩
theorem po_slice {lo hi : Option Expr} {fl fh : Rho → Res (Option Int)} {p2 : Pos} (ha : PPE X W a fa) (hl : PPart X W lo fl) (hh : PPart X W hi fh) : PPO X W (.Subscript a (.Slice lo hi none p2) pos) (oSl fa fl fh) :=
  ⟨(pe_slice sl_list ha.pe hl.po hh.po).imp fun σ H Q ⟨H0, ρ, F, s, k, q⟩ => tP_in s k (Post.bind q |>.mono fun d F1 H1 _ e1 q1 e2 x rx =>
    ⟨H0, ρ, F1, e2.s, k.ext e2, Post.bind q1 |>.mono fun lo F2 H2 _ e3 q2 => ⟨H0, ρ, F2, e3.s, (k.ext e2).ext e3, Post.bind q2 |>.mono fun hi F3 H3 _ e4 q3 => by
      cases d <;> first | exact (show False from q3).elim | skip
      have rx := (rx.mono e3.f).mono e4.f
      unfold Rep at rx
      obtain ⟨a, xs, rfl, ha, r⟩ := rx
      refine ⟨a, xs, rfl, .of (e4.s _ _ ha), fun l nl => q3 F3 _ (Ext.grow e4.s (same_upd nl)) l _ (e4.s.free nl) (((e2.trans e3).trans e4).h.free nl) upd_same (r.cut lo hi)⟩⟩⟩)⟩
theorem pp_b1 {id : String} {g : D → Res D} (c : Call1 X W (.builtin id) g) (hm : X.mg x = none) (ha : PPE X W a fa) (hg : Gl X x := by rfl) (hv : bootBuiltins x = some (.builtin id) := by decide +kernel) (hn : x ≠ "__name__" := by decide) (hdb : (x == ("__debug__" : Str)) = false := by decide)
    (he : starEach (a :: []) X.env = (false, eval a X.env) :: starEach [] X.env := by rfl) (hpl : (backTo pos (starEach [] X.env)).any (·.1) = false := by rfl) : PPE X W (.Call (.Name x p) [a] [] pos) (eUn g fa) := by
  obtain ⟨r, hc, hr⟩ := c
  exact ⟨(pe_callB hc hg hm hv (pa_cons ha.pe pa_nil he) hn hdb he hpl).imp fun σ H Q ⟨H0, ρ, F, s, k, q⟩ => tP_in s k (Post.bind q |>.mono fun d F1 H1 _ e1 q1 e2 x rx => hr F1 H1 σ d x Q e2.s rx q1)⟩
theorem pp_t1 {T : String} {g : D → Res D} (c : Call1 X W (.type T) g) (hm : X.mg x = none) (ha : PPE X W a fa) (hg : Gl X x := by rfl) (hv : bootBuiltins x = some (.type T) := by decide +kernel) (hn : x ≠ "__name__" := by decide) (hdb : (x == ("__debug__" : Str)) = false := by decide)
    (he : starEach (a :: []) X.env = (false, eval a X.env) :: starEach [] X.env := by rfl) (hpl : (backTo pos (starEach [] X.env)).any (·.1) = false := by rfl) : PPE X W (.Call (.Name x p) [a] [] pos) (eUn g fa) := by
  obtain ⟨r, hc, hr⟩ := c
  exact ⟨(pe_callTy hc hg hm hv (pa_cons ha.pe pa_nil he) hn hdb he hpl).imp fun σ H Q ⟨H0, ρ, F, s, k, q⟩ => tP_in s k (Post.bind q |>.mono fun d F1 H1 _ e1 q1 e2 x rx => hr F1 H1 σ d x Q e2.s rx q1)⟩
def oUn (g : D → Res (List D)) (fa : Rho → Res D) (ρ : Rho) : Res (List D) := (fa ρ).bind g
theorem po_t1 {T : String} {g : D → Res (List D)} (c : CallO X W (.type T) g) (hm : X.mg x = none) (ha : PPE X W a fa) (hg : Gl X x := by rfl) (hv : bootBuiltins x = some (.type T) := by decide +kernel) (hn : x ≠ "__name__" := by decide) (hdb : (x == ("__debug__" : Str)) = false := by decide)
    (he : starEach (a :: []) X.env = (false, eval a X.env) :: starEach [] X.env := by rfl) (hpl : (backTo pos (starEach [] X.env)).any (·.1) = false := by rfl) : PPO X W (.Call (.Name x p) [a] [] pos) (oUn g fa) := by
  obtain ⟨r, hc, hr⟩ := c
  exact ⟨(pe_callTy hc hg hm hv (pa_cons ha.pe pa_nil he) hn hdb he hpl).imp fun σ H Q ⟨H0, ρ, F, s, k, q⟩ => tP_in s k (Post.bind q |>.mono fun d F1 H1 _ e1 q1 e2 x rx =>
    hr F1 H1 σ d x Q e2.s rx (q1.mono fun ds F2 H2 _ e3 q2 p xs f1 f2 f3 rr => q2 p xs f1 (e2.h.free f2) f3 rr))⟩
theorem pp_b2 {id : String} {g : D → D → Res D} (c : Call2 X W (.builtin id) g) (hm : X.mg x = none) (ha : PPE X W a fa) (hb : PPE X W b fb) (hg : Gl X x := by rfl) (hv : bootBuiltins x = some (.builtin id) := by decide +kernel) (hn : x ≠ "__name__" := by decide) (hdb : (x == ("__debug__" : Str)) = false := by decide)
    (he : starEach (a :: [b]) X.env = (false, eval a X.env) :: starEach [b] X.env := by rfl) (he2 : starEach (b :: []) X.env = (false, eval b X.env) :: starEach [] X.env := by rfl) (hpl : (backTo pos (starEach [b] X.env)).any (·.1) = false := by rfl) : PPE X W (.Call (.Name x p) [a, b] [] pos) (eOp g fa fb) := by
  obtain ⟨r, hc, hr⟩ := c
  exact ⟨(pe_callB hc hg hm hv (pa_cons ha.pe (pa_cons hb.pe pa_nil he2) he) hn hdb he hpl).imp fun σ H Q ⟨H0, ρ, F, s, k, q⟩ => tP_in s k (Post.bind q |>.mono fun d F1 H1 _ e1 q1 e2 x rx =>
    tP_in e2.s (k.ext e2) (Post.bind q1 |>.mono fun d2 F2 H2 _ e3 q2 e4 y ry => hr F2 H2 σ d d2 x y Q e4.s (rx.mono e4.f) ry q2))⟩
theorem tyX_of {F H : Hp} {d : D} {v : V} (s : Same F H) (r : Rep X.K F d v) : TyX X.K H v (.type (tyN d)) := by
  cases d <;> unfold Rep at r
  · subst r; exact .base .non
  · subst r; exact .base (.bl _)
  · subst r; exact .base (.int _)
  · subst r; exact .base (.str _)
  · obtain ⟨a, xs, rfl, ha, _⟩ := r; exact .base (.tup (s _ _ ha))
  · obtain ⟨a, xs, rfl, ha, _⟩ := r; exact .base (.lst (s _ _ ha))
  · obtain ⟨a, rfl, ha⟩ := r
    rcases s.seq ha with (h | ⟨o, h⟩) | ⟨o, its, n, h1, h2, _⟩
    · exact .base (.lst h)
    · exact .base (.frz h)
    · exact .kList h1 h2
theorem pp_isi (T : Ty) {y : Str} {p2 : Pos} (hm : X.mg "isinstance" = none) (hm2 : X.mg y = none) (ha : PPE X W a fa) (hv2 : bootBuiltins y = some (.type T.nm) := by decide +kernel) (hg : Gl X "isinstance" := by rfl) (hg2 : Gl X y := by rfl)
    (hn2 : y ≠ "__name__" := by decide) (hd2 : (y == ("__debug__" : Str)) = false := by decide)
    (he : starEach (a :: [.Name y p2]) X.env = (false, eval a X.env) :: starEach [.Name y p2] X.env := by rfl) : PPE X W (.Call (.Name "isinstance" p) [a, .Name y p2] [] pos) (eUn (dIsi T) fa) :=
  ⟨(pe_callB (call_isi (X := X)) hg hm (by decide +kernel) (pa_cons ha.pe (pa_cons (pe_bltn (v := .ty T.nm) hg2 hm2 hv2 rfl hn2 hd2) pa_nil rfl) he) (by decide) (by decide) he rfl).imp fun σ H Q ⟨H0, ρ, F, s, k, q⟩ =>
    tP_in s k (Post.bind q |>.mono fun d F1 H1 _ e1 q1 e2 x rx => ⟨x, .ty T.nm, _, _, _, rfl, .ty _, tyX_of e2.s rx, kit_ty (kit_isTy T d), Post.at e2.s q1 _ (by unfold Rep; rfl)⟩)⟩

/-- a def's promise: it is worth φ -/
def spP (K : Fr) (mg : Str → Option Value) (n : Nat) (φ : List D → Res D) : Sp := fun vs H Q E => ∃ F ds, Same F H ∧ Reps K F ds vs ∧ vs.length = n ∧ match φ ds with
  | .ok d => ∀ x F' H', Ext F H F' H' → Rep K F' d x → Q x H'
  | .exc c => ∀ A H', mg (Str.ofString c) = some (.ref A) → Same H H' → E (.ref A) none H'
  | .stk => False
/-- the def named x is worth φ, called with room k -/
structure Cal (P : Program) (w : World) (K : Fr) (mg : Str → Option Value) (base : Heap) (k : Nat) (x : Str) (n : Nat) (φ : List D → Res D) : Prop where
  ex : ∃ (f : Addr) (fd : FuncData) (ps : List Str), FnOk P w K mg base (L2.CX P w) k f fd ps (spP K mg n φ) ∧ mg x = some (.ref f) ∧ PySem.W.keepIn K (.ref f) = true ∧ Binds K fd ps []
theorem pp_call {k n : Nat} {φ : List D → Res D} {fl : Rho → Res (List D)} (c : Cal X.prog X.w X.K X.mg X.base k x n φ) (hr : Room k X.A) (tk : Takes X W) (hargs : PPA X W (e :: es) fl)
    (hn : ∀ ρ ds, fl ρ = .ok ds → ds.length = n) (hg : Gl X x := by rfl) (hdb : (x == ("__debug__" : Str)) = false := by decide)
    (he : starEach (e :: es) X.env = (false, eval e X.env) :: starEach es X.env := by rfl) (hpl : (backTo pos (starEach es X.env)).any (·.1) = false := by rfl) : PPE X W (.Call (.Name x p) (e :: es) [] pos) (eCall φ fl) := by
  obtain ⟨f, fd, ps, G, hm, hk, hb⟩ := c.ex
  refine ⟨(pe_callS (E := fun σ => WE W σ) G hr hg hm hk hb (fun σ => passAt tk σ) hargs.pa hdb he hpl).imp fun σ H Q ⟨H0, ρ, F, s, k, q⟩ => ?_⟩
  refine tPA_in s k (Post.bind q |>.mono fun ds F1 H1 eds e1 q1 e2 xs rx => ?_)
  refine ⟨F1, ds, e2.s, rx, ?_, ?_⟩
  · rw [← rx.length]; exact hn ρ ds eds
  · cases e : φ ds with
    | ok d => rw [e] at q1; exact fun x F' H' ex r => q1 F' H' ex x r
    | exc c => rw [e] at q1; exact q1
    | stk => rw [e] at q1; exact q1
end
end Pu

namespace Pu
open PySem PySem.Spec PyProof.Rows L2

inductive SRes where
  | nx (ρ : Rho) | rt (d : D) | exc (c : String) (ρ : Rho) | stk
def sBind {α : Type} (r : Res α) (ρ : Rho) (k : α → SRes) : SRes := match r with
  | .ok a => k a
  | .exc c => .exc c ρ
  | .stk => .stk
@[simp] theorem sBind_ok {α : Type} (a : α) (ρ : Rho) (k : α → SRes) : sBind (.ok a) ρ k = k a := rfl
@[simp] theorem sBind_exc {α : Type} (c : String) (ρ : Rho) (k : α → SRes) : sBind (.exc c : Res α) ρ k = .exc c ρ := rfl
@[simp] theorem sBind_stk {α : Type} (ρ : Rho) (k : α → SRes) : sBind (.stk : Res α) ρ k = .stk := rfl
/-- and then -/
def SRes.thn (r : SRes) (k : Rho → SRes) : SRes := match r with
  | .nx ρ => k ρ
  | .rt d => .rt d
  | .exc c ρ => .exc c ρ
  | .stk => .stk
@[simp] theorem SRes.thn_nx (ρ : Rho) (k : Rho → SRes) : (SRes.nx ρ).thn k = k ρ := rfl
@[simp] theorem SRes.thn_rt (d : D) (k : Rho → SRes) : (SRes.rt d).thn k = .rt d := rfl
@[simp] theorem SRes.thn_exc (c : String) (ρ : Rho) (k : Rho → SRes) : (SRes.exc c ρ).thn k = .exc c ρ := rfl
@[simp] theorem SRes.thn_stk (k : Rho → SRes) : (SRes.stk).thn k = .stk := rfl

section
variable {K : Fr} {H0 F H : Hp} {ρ : Rho} {σ : L2.St}
theorem set_get {α : Type} {l : List α} {i j : Nat} {a b : α} (h : (l.set i a)[j]? = some b) : (j = i ∧ b = a ∧ i < l.length) ∨ (j ≠ i ∧ l[j]? = some b) := by
  by_cases e : j = i
  · subst e
    by_cases hl : j < l.length
    · rw [List.getElem?_set_self hl] at h; exact .inl ⟨rfl, (Option.some.inj h).symm, hl⟩
    · rw [List.getElem?_eq_none (by simpa using hl)] at h; cases h
  · rw [List.getElem?_set_ne (Ne.symm e)] at h; exact .inr ⟨e, h⟩
theorem SOk.set (k : SOk K H0 F H ρ σ) (i : Nat) {d : D} {x : V} (r : Rep K F d x) : SOk K H0 F H (ρ.set i (.v d)) (σ.set i (some x)) where
  len := by rw [List.length_set, List.length_set]; exact k.len
  get := fun j e h => by
    rcases set_get h with ⟨rfl, e2, hl⟩ | ⟨hne, h⟩
    · cases e2
      exact ⟨x, List.getElem?_set_self (by rw [← k.len]; exact hl), r⟩
    · obtain ⟨y, a, b⟩ := k.get j e h
      exact ⟨y, by rw [List.getElem?_set_ne (Ne.symm hne)]; exact a, b⟩
  own := fun j ds h => by
    rcases set_get h with ⟨rfl, e2, hl⟩ | ⟨hne, h⟩
    · cases e2
    · obtain ⟨p, xs, a, b⟩ := k.own j ds h
      exact ⟨p, xs, by rw [List.getElem?_set_ne (Ne.symm hne)]; exact a, b⟩
  dis := fun a b p ds es hab h1 h2 h3 h4 => by
    rcases set_get h1 with ⟨rfl, e2, hl⟩ | ⟨ha, h1⟩
    · cases e2
    · rcases set_get h2 with ⟨rfl, e2, hl⟩ | ⟨hb, h2⟩
      · cases e2
      · rw [List.getElem?_set_ne (Ne.symm ha)] at h3
        rw [List.getElem?_set_ne (Ne.symm hb)] at h4
        exact k.dis a b p ds es hab h1 h2 h3 h4
/-- a slot that is forgotten -/
theorem SOk.un (k : SOk K H0 F H ρ σ) (i : Nat) (x : Option V) : SOk K H0 F H (ρ.set i .un) (σ.set i x) where
  len := by rw [List.length_set, List.length_set]; exact k.len
  get := fun j e h => by
    rcases set_get h with ⟨rfl, e2, hl⟩ | ⟨hne, h⟩
    · cases e2
    · obtain ⟨y, a, b⟩ := k.get j e h
      exact ⟨y, by rw [List.getElem?_set_ne (Ne.symm hne)]; exact a, b⟩
  own := fun j ds h => by
    rcases set_get h with ⟨rfl, e2, hl⟩ | ⟨hne, h⟩
    · cases e2
    · obtain ⟨p, xs, a, b⟩ := k.own j ds h
      exact ⟨p, xs, by rw [List.getElem?_set_ne (Ne.symm hne)]; exact a, b⟩
  dis := fun a b p ds es hab h1 h2 h3 h4 => by
    rcases set_get h1 with ⟨rfl, e2, hl⟩ | ⟨ha, h1⟩
    · cases e2
    · rcases set_get h2 with ⟨rfl, e2, hl⟩ | ⟨hb, h2⟩
      · cases e2
      · rw [List.getElem?_set_ne (Ne.symm ha)] at h3
        rw [List.getElem?_set_ne (Ne.symm hb)] at h4
        exact k.dis a b p ds es hab h1 h2 h3 h4
/-- a new own list -/
theorem SOk.setO (k : SOk K H0 F H ρ σ) (i : Nat) {ds : List D} {p : Addr} {xs : List V} (fp : F p = none) (h0 : H0 p = none) (hp : H p = some (.lst xs)) (r : Reps K F ds xs)
    (new : ∀ j es q, j ≠ i → ρ[j]? = some (.o es) → σ[j]? = some (some (.ref q)) → q ≠ p) : SOk K H0 F H (ρ.set i (.o ds)) (σ.set i (some (.ref p))) where
  len := by rw [List.length_set, List.length_set]; exact k.len
  get := fun j e h => by
    rcases set_get h with ⟨rfl, e2, hl⟩ | ⟨hne, h⟩
    · cases e2
    · obtain ⟨y, a, b⟩ := k.get j e h
      exact ⟨y, by rw [List.getElem?_set_ne (Ne.symm hne)]; exact a, b⟩
  own := fun j es h => by
    rcases set_get h with ⟨rfl, e2, hl⟩ | ⟨hne, h⟩
    · cases e2
      exact ⟨p, xs, List.getElem?_set_self (by rw [← k.len]; exact hl), fp, h0, hp, r⟩
    · obtain ⟨q, ys, a, b⟩ := k.own j es h
      exact ⟨q, ys, by rw [List.getElem?_set_ne (Ne.symm hne)]; exact a, b⟩
  dis := fun a b q ds es hab h1 h2 h3 h4 => by
    have at_i : ∀ {l : Nat}, l < ρ.length → (σ.set l (some (V.ref p)))[l]? = some (some (.ref p)) := fun hl => List.getElem?_set_self (by rw [← k.len]; exact hl)
    rcases set_get h1 with ⟨rfl, e2, hl⟩ | ⟨ha, g1⟩
    · rw [at_i hl] at h3
      cases h3
      rcases set_get h2 with ⟨rfl, _, _⟩ | ⟨hb, g2⟩
      · exact hab rfl
      · rw [List.getElem?_set_ne (Ne.symm hb)] at h4
        exact new b es _ hb g2 h4 rfl
    · rw [List.getElem?_set_ne (Ne.symm ha)] at h3
      rcases set_get h2 with ⟨rfl, _, hl⟩ | ⟨hb, g2⟩
      · rw [at_i hl] at h4
        cases h4
        exact new a ds _ ha g1 h3 rfl
      · rw [List.getElem?_set_ne (Ne.symm hb)] at h4
        exact k.dis a b q ds es hab g1 g2 h3 h4
/-- the own list at slot i is changed in its place -/
theorem SOk.change (k : SOk K H0 F H ρ σ) (i : Nat) {ds es : List D} {p : Addr} {ys : List V} (hi : ρ[i]? = some (.o ds)) (hp : σ[i]? = some (some (.ref p))) (r : Reps K F es ys) : SOk K H0 F (upd H p (.lst ys)) (ρ.set i (.o es)) σ where
  len := by rw [List.length_set]; exact k.len
  get := fun j e h => by
    rcases set_get h with ⟨rfl, e2, hl⟩ | ⟨hne, h⟩
    · cases e2
    · exact k.get j e h
  own := fun j fs h => by
    rcases set_get h with ⟨rfl, e2, hl⟩ | ⟨hne, h⟩
    · cases e2
      obtain ⟨q, zs, a, b, c, d, e⟩ := k.own j ds hi
      rw [a] at hp
      cases hp
      exact ⟨p, ys, a, b, c, upd_same, r⟩
    · obtain ⟨q, zs, a, b, c, d, e⟩ := k.own j fs h
      refine ⟨q, zs, a, b, c, ?_, e⟩
      rw [upd_ne (fun z => by subst z; exact k.dis j i q fs ds hne h hi a hp)]
      exact d
  dis := fun a b q fs gs hab h1 h2 h3 h4 => by
    have old : ∀ {l : Nat} {hs : List D}, (ρ.set i (.o es))[l]? = some (.o hs) → ∃ hs', ρ[l]? = some (.o hs') := fun {l hs} h => by
      rcases set_get h with ⟨rfl, _, _⟩ | ⟨_, h⟩
      · exact ⟨_, hi⟩
      · exact ⟨_, h⟩
    obtain ⟨_, h1⟩ := old h1
    obtain ⟨_, h2⟩ := old h2
    exact k.dis a b q _ _ hab h1 h2 h3 h4
/-- an own list is given to all -/
theorem SOk.freeze (k : SOk K H0 F H ρ σ) (i : Nat) {ds : List D} {p : Addr} {xs : List V} (hi : ρ[i]? = some (.o ds)) (hp : σ[i]? = some (some (.ref p))) (fp : F p = none) (hx : H p = some (.lst xs)) (r : Reps K F ds xs) :
    SOk K H0 (upd F p (.lst xs)) H (ρ.set i (.v (.lst ds))) σ where
  len := by rw [List.length_set]; exact k.len
  get := fun j e h => by
    rcases set_get h with ⟨rfl, e2, hl⟩ | ⟨hne, h⟩
    · cases e2
      refine ⟨_, hp, ?_⟩
      unfold Rep
      exact ⟨p, xs, rfl, upd_same, r.mono (same_upd fp)⟩
    · obtain ⟨y, a, b⟩ := k.get j e h
      exact ⟨y, a, b.mono (same_upd fp)⟩
  own := fun j fs h => by
    rcases set_get h with ⟨rfl, e2, hl⟩ | ⟨hne, h⟩
    · cases e2
    · obtain ⟨q, zs, a, b, c, d, e⟩ := k.own j fs h
      refine ⟨q, zs, a, ?_, c, d, e.mono (same_upd fp)⟩
      rw [upd_ne (fun z => by subst z; exact k.dis j i q fs ds hne h hi a hp)]
      exact b
  dis := fun a b q fs gs hab h1 h2 h3 h4 => by
    rcases set_get h1 with ⟨rfl, e2, hl⟩ | ⟨ha, h1⟩
    · cases e2
    · rcases set_get h2 with ⟨rfl, e2, hl⟩ | ⟨hb, h2⟩
      · cases e2
      · exact k.dis a b q _ _ hab h1 h2 h3 h4
end

section
variable (X : Cx) (W : WX) (F0 H0 : Hp)
def PostS (r : SRes) (F : Hp) (D : Ends) : Prop := match r with
  | .nx ρ' => ∀ σ' F' H', Ext F0 H0 F' H' → Same F F' → SOk X.K H0 F' H' ρ' σ' → D.nx σ' H'
  | .rt d => ∀ x F' H', Ext F0 H0 F' H' → Rep X.K F' d x → D.rt x H'
  | .exc c ρ' => ∀ A σ' F' H', X.mg (Str.ofString c) = some (.ref A) → Ext F0 H0 F' H' → Same F F' → SOk X.K H0 F' H' ρ' σ' → W (.ref A) none σ' H'
  | .stk => False
def tPS (g : Rho → SRes) : TS := fun D σ H => ∃ ρ F, Ext F0 H0 F H ∧ SOk X.K H0 F H ρ σ ∧ PostS X W F0 H0 (g ρ) F D
structure PPS (st : Stmt) (g : Rho → SRes) : Prop where
  ps : ∀ F0 H0, PS X st (tPS X W F0 H0 g)
structure PPSs (st : List Stmt) (g : Rho → SRes) : Prop where
  ps : ∀ F0 H0, PSs X st (tPS X W F0 H0 g)
end
section
variable {X : Cx} {W : WX} {F0 H0 F F1 H : Hp} {D : Ends} {ρ : Rho} {σ : L2.St}
theorem PostS.mono {r : SRes} (h : PostS X W F0 H0 r F D) (s : Same F F1) : PostS X W F0 H0 r F1 D := by
  cases r with
  | nx ρ => exact fun σ' F' H' e t k => h σ' F' H' e (s.trans t) k
  | rt d => exact h
  | exc c ρ => exact fun A σ' F' H' m e t k => h A σ' F' H' m e (s.trans t) k
  | stk => exact h
theorem PostS.thn {r : SRes} {k : Rho → SRes} (h : PostS X W F0 H0 (r.thn k) F D) (e : Ends) (hr : e.rt = D.rt) (hn : ∀ ρ', r = .nx ρ' → ∀ σ' F' H', Ext F0 H0 F' H' → Same F F' → SOk X.K H0 F' H' ρ' σ' → PostS X W F0 H0 (k ρ') F' D → e.nx σ' H') : PostS X W F0 H0 r F e := by
  cases r with
  | nx ρ => exact fun σ' F' H' e t k' => hn ρ rfl σ' F' H' e t k' (PostS.mono (r := k ρ) h t)
  | rt d => intro x F' H' e r; rw [hr]; exact h x F' H' e r
  | exc c ρ => exact h
  | stk => exact h
/-- from a statement's end to its expression -/
theorem PostS.in {α : Type} {r : Res α} {k : α → SRes} (q : PostS X W F0 H0 (sBind r ρ k) F D) (e0 : Ext F0 H0 F H) (ok : SOk X.K H0 F H ρ σ) :
    Post X W r F H σ fun a F1 H1 => PostS X W F0 H0 (k a) F1 D ∧ Ext F0 H0 F1 H1 ∧ SOk X.K H0 F1 H1 ρ σ ∧ Ext F H F1 H1 := by
  cases r with
  | ok a => exact fun F' H' e => ⟨PostS.mono (r := k a) q e.f, e0.trans e, ok.ext e, e⟩
  | exc c => exact fun A H' m s => q A σ F H' m (e0.trans (Ext.grow e0.s s)) (Same.refl F) (ok.ext (Ext.grow e0.s s))
  | stk => exact q
theorem PostS.at {ρ' : Rho} {σ' : L2.St} {H' : Hp} (q : PostS X W F0 H0 (.nx ρ') F D) (e : Ext F0 H0 F H') (k : SOk X.K H0 F H' ρ' σ') : D.nx σ' H' := q σ' F H' e (Same.refl F) k

def gNx (ρ : Rho) : SRes := .nx ρ
def gSeq (g h : Rho → SRes) (ρ : Rho) : SRes := (g ρ).thn h
def gSet (i : Nat) (f : Rho → Res _root_.Pu.D) (ρ : Rho) : SRes := sBind (f ρ) ρ fun d => .nx (ρ.set i (.v d))
def gSetO (i : Nat) (f : Rho → Res (List _root_.Pu.D)) (ρ : Rho) : SRes := sBind (f ρ) ρ fun ds => .nx (ρ.set i (.o ds))
def ownAt (i : Nat) (ρ : Rho) : Res (List _root_.Pu.D) := match ρ[i]? with
  | some (.o ds) => .ok ds
  | _ => .stk
def gApp (i : Nat) (f : Rho → Res _root_.Pu.D) (ρ : Rho) : SRes := sBind (ownAt i ρ) ρ fun ds => sBind (f ρ) ρ fun d => if fits (ds.length + 1) then .nx (ρ.set i (.o (ds ++ [d]))) else .stk
def gRev (i : Nat) (ρ : Rho) : SRes := sBind (ownAt i ρ) ρ fun ds => .nx (ρ.set i (.o ds.reverse))
def gPut (i : Nat) (f fe : Rho → Res _root_.Pu.D) (ρ : Rho) : SRes := sBind (ownAt i ρ) ρ fun ds => sBind (fe ρ) ρ fun d => sBind (f ρ) ρ fun k => match k with
  | .int k => match ixN ds.length k with
    | some j => .nx (ρ.set i (.o (ds.set j d)))
    | none => .stk
  | _ => .stk
def frz (i : Nat) (ρ : Rho) : Rho := match ρ[i]? with
  | some (.o ds) => ρ.set i (.v (.lst ds))
  | _ => ρ
def gFrz (i : Nat) (g : Rho → SRes) (ρ : Rho) : SRes := g (frz i ρ)
def gRet (f : Rho → Res _root_.Pu.D) (ρ : Rho) : SRes := sBind (f ρ) ρ fun d => .rt d
def gExpr (f : Rho → Res _root_.Pu.D) (ρ : Rho) : SRes := sBind (f ρ) ρ fun _ => .nx ρ
def gIf (c : Rho → Res Bool) (g h : Rho → SRes) (ρ : Rho) : SRes := sBind (c ρ) ρ fun b => if b then g ρ else h ρ
def gExc (c : String) (ρ : Rho) : SRes := .exc c ρ
def forL {α : Type} (b : α → Rho → SRes) : List α → Rho → SRes
  | [], ρ => .nx ρ
  | d :: r, ρ => (b d ρ).thn (forL b r)
def asL : _root_.Pu.D → Res (List _root_.Pu.D)
  | .lst ds => .ok ds
  | _ => .stk
def rngOk (i : Int) : Bool := Nat.ble i.natAbs 4611686018427387903
theorem rngOk_is {i : Int} (h : rngOk i = true) : -(2 ^ 62) ≤ i ∧ i < 2 ^ 62 := by
  unfold rngOk at h
  rw [Nat.ble_eq] at h
  exact ⟨by omega, by omega⟩
def asN : _root_.Pu.D → Res Nat
  | .int i => if rngOk i then .ok i.toNat else .stk
  | _ => .stk
def gFor (i : Nat) (f : Rho → Res _root_.Pu.D) (g : Rho → SRes) (ρ : Rho) : SRes := sBind ((f ρ).bind asL) ρ fun ds => forL (fun d ρ => g (ρ.set i (.v d))) ds ρ
def gForR (i : Nat) (f : Rho → Res _root_.Pu.D) (g : Rho → SRes) (ρ : Rho) : SRes := sBind ((f ρ).bind asN) ρ fun n => forL (fun k ρ => g (ρ.set i (.v (.int (k : Nat))))) (List.range n) ρ
def gForZ (i j : Nat) (f f2 : Rho → Res _root_.Pu.D) (g : Rho → SRes) (ρ : Rho) : SRes := sBind ((f ρ).bind asL) ρ fun ds => sBind ((f2 ρ).bind asL) ρ fun es =>
  if ds.length = es.length then forL (fun p ρ => g ((ρ.set i (.v p.1)).set j (.v p.2))) (ds.zip es) ρ else .stk
def whl (c : Rho → Res Bool) (g : Rho → SRes) : Nat → Rho → SRes
  | 0, _ => .stk
  | n + 1, ρ => sBind (c ρ) ρ fun b => if b then (g ρ).thn (whl c g n) else .nx ρ
def gWhile (n : Nat) (c : Rho → Res Bool) (g : Rho → SRes) (ρ : Rho) : SRes := whl c g n ρ
end
section
variable {X : Cx} {W : WX} {e a b : Expr} {f fe f2 : Rho → Res D} {fl : Rho → Res (List D)} {g h : Rho → SRes} {st : Stmt} {rest body : List Stmt} {pos pos' : Pos} {x : Str} {i : Nat}
theorem pss_nilP : PPSs X W [] gNx := ⟨fun F0 H0 => pss_nil.imp fun D σ H ⟨ρ, F, e0, k, q⟩ => PostS.at q e0 k⟩
theorem pss_consP (h1 : PPS X W st g) (h2 : PPSs X W rest h) : PPSs X W (st :: rest) (gSeq g h) :=
  ⟨fun F0 H0 => (pss_cons (h1.ps F0 H0) (h2.ps F0 H0)).imp fun D σ H ⟨ρ, F, e0, k, q⟩ => ⟨ρ, F, e0, k, PostS.thn q _ rfl fun ρ' _ σ' F' H' e t k' q' => ⟨ρ', F', e, k', q'⟩⟩⟩
theorem pss_oneP (h1 : PPS X W st g) : PPSs X W [st] g := ⟨fun F0 H0 => pss_one (h1.ps F0 H0)⟩
theorem ps_setP (i : Nat) (he : PPE X W e f) (hN : X.N.Nodup) (hi : X.N[i]? = some x := by rfl) (hx : Loc X.env.scope x := by first | exact Or.inl rfl | exact Or.inr rfl) (hs : swapsWith e (some (.Name x pos')) pos.line X.env = pure false := by rfl)
    (hf : X.fn x = true ∨ X.env.scope.names.lookup x = some .local := by first | exact .inl rfl | exact .inr rfl) : PPS X W (.Assign [.Name x pos'] e pos) (gSet i f) :=
  ⟨fun F0 H0 => (ps_set (i := i) hN hi hx he.pe hs hf).imp fun D σ H ⟨ρ, F, e0, k, q⟩ => ⟨H0, ρ, F, e0.s, k, (PostS.in q e0 k).mono fun d F1 H1 _ _ ⟨q1, e1, k1, _⟩ y ry => PostS.at q1 e1 (k1.set i ry)⟩⟩
theorem ps_setOP (i : Nat) (he : PPO X W e fl) (hN : X.N.Nodup) (hi : X.N[i]? = some x := by rfl) (hx : Loc X.env.scope x := by first | exact Or.inl rfl | exact Or.inr rfl) (hs : swapsWith e (some (.Name x pos')) pos.line X.env = pure false := by rfl)
    (hf : X.fn x = true ∨ X.env.scope.names.lookup x = some .local := by first | exact .inl rfl | exact .inr rfl) : PPS X W (.Assign [.Name x pos'] e pos) (gSetO i fl) :=
  ⟨fun F0 H0 => (ps_set (i := i) hN hi hx he.pe hs hf).imp fun D σ H ⟨ρ, F, e0, k, q⟩ => ⟨H0, ρ, F, e0.s, k, (PostS.in q e0 k).mono fun ds F1 H1 _ _ ⟨q1, e1, k1, e2⟩ p xs fp hp h1 rs =>
    PostS.at q1 e1 (k1.setO i fp (e0.h.free hp) h1 rs fun j es r hj hr hs z => by
      obtain ⟨p', xs', a, b, c, d, e⟩ := k.own j es hr
      rw [a] at hs
      cases hs
      subst z
      rw [hp] at d
      cases d)⟩⟩
/-- what is known of an own list -/
theorem own_in {F0 H0 F H : Hp} {ρ : Rho} {σ : L2.St} {D : Ends} {k : List _root_.Pu.D → SRes} (q : PostS X W F0 H0 (sBind (ownAt i ρ) ρ k) F D) (ok : SOk X.K H0 F H ρ σ) :
    ∃ ds p xs, ρ[i]? = some (.o ds) ∧ σ[i]? = some (some (.ref p)) ∧ F p = none ∧ H0 p = none ∧ H p = some (.lst xs) ∧ Reps X.K F ds xs ∧ PostS X W F0 H0 (k ds) F D := by
  unfold ownAt at q
  cases e : ρ[i]? with
  | none => rw [e] at q; exact q.elim
  | some sl =>
    rw [e] at q
    cases sl with
    | un => exact q.elim
    | v d => exact q.elim
    | o ds =>
      obtain ⟨p, xs, a, b, c, d, r⟩ := ok.own i ds e
      exact ⟨ds, p, xs, rfl, a, b, c, d, r, q⟩
theorem ext_upd {F0 H0 F H : Hp} {p : Addr} {o : HO} (e : Ext F0 H0 F H) (fp : F p = none) (h0 : H0 p = none) : Ext F0 H0 F (upd H p o) :=
  ⟨e.f, fun b u eb => by rw [upd_ne (ne_of_none eb h0)]; exact e.h _ _ eb, fun b u eb => by rw [upd_ne (ne_of_none eb fp)]; exact e.s _ _ eb, e.n⟩
theorem ps_appP (i : Nat) {apos cpos : Pos} (he : PPE X W e f) (hN : X.N[i]? = some x := by rfl) (hv : Vis X.env.scope x := by first | exact Or.inl rfl | exact Or.inr (Or.inl rfl) | exact Or.inr (Or.inr rfl)) (hd : (x == ("__debug__" : Str)) = false := by decide)
    (hcd : (x == ("__classdict__" : Str)) = false := by decide)
    (hbase : attributeBase (.Name x pos') "append" X.env (eval (.Name x pos') X.env) = eval (.Name x pos') X.env := by rfl)
    (hfew : ((backTo cpos (starEach (e :: []) X.env)).all (fun x => !x.1) && (backToKw cpos (keywordEach [] X.env)).all (fun x => x.1.isSome)
      && decide ((e :: []).length + ([] : List Keyword).length + (if ([] : List Keyword).isEmpty then 0 else 1) < 30)) = true := by rfl)
    (hline : (apos.endLine == cpos.line) = true := by rfl) (hs : starEach (e :: []) X.env = (false, eval e X.env) :: starEach [] X.env := by rfl) (hplain : (backTo cpos (starEach [] X.env)).any (·.1) = false := by rfl)
    (hsw : swapsWith (.Call (.Attribute (.Name x pos') "append" apos) [e] [] cpos) none pos.line X.env = pure false := by rfl) :
    PPS X W (.Expr (.Call (.Attribute (.Name x pos') "append" apos) [e] [] cpos) pos) (gApp i f) :=
  ⟨fun F0 H0 => (ps_expr (pe_bm PySem.F.plainAttrs_list PySem.F.slot_list_append PySem.F.type_list_append mt_append (pe_var (i := i) hN hv hd hcd) (pa_cons he.pe pa_nil hs) hbase hfew hline hs hplain) hsw).imp fun D σ H ⟨ρ, F, e0, k, q⟩ => by
    obtain ⟨ds, p, xs, hρ, hσ, fp, h0, hp, rs, q⟩ := own_in q k
    refine ⟨.ref p, hσ, .inl ⟨rfl, xs, .of hp⟩, ⟨H0, ρ, F, e0.s, k, (PostS.in q e0 k).mono fun d F1 H1 _ _ ⟨q1, e1, k1, e2⟩ y ry => ?_⟩⟩
    have fp1 : F1 p = none := e2.n p (by rw [hp]; simp) fp
    have hp1 : H1 p = some (.lst xs) := e2.h _ _ hp
    by_cases hl : fits (ds.length + 1) = true
    · rw [if_pos hl] at q1
      refine ⟨p, xs, y, rfl, rfl, hp1, by rw [← rs.length]; exact fits_iff.mp hl, ?_⟩
      exact PostS.at q1 (ext_upd e1 fp1 h0) (k1.change i hρ hσ ((rs.mono e2.f).app (Reps.cons ry Reps.nil)))
    · rw [if_neg hl] at q1; exact q1.elim⟩
theorem ps_revP (i : Nat) {apos cpos : Pos} (hN : X.N[i]? = some x := by rfl) (hv : Vis X.env.scope x := by first | exact Or.inl rfl | exact Or.inr (Or.inl rfl) | exact Or.inr (Or.inr rfl)) (hd : (x == ("__debug__" : Str)) = false := by decide)
    (hcd : (x == ("__classdict__" : Str)) = false := by decide)
    (hbase : attributeBase (.Name x pos') "reverse" X.env (eval (.Name x pos') X.env) = eval (.Name x pos') X.env := by rfl)
    (hline : (apos.endLine == cpos.line) = true := by rfl)
    (hsw : swapsWith (.Call (.Attribute (.Name x pos') "reverse" apos) [] [] cpos) none pos.line X.env = pure false := by rfl) :
    PPS X W (.Expr (.Call (.Attribute (.Name x pos') "reverse" apos) [] [] cpos) pos) (gRev i) :=
  ⟨fun F0 H0 => (ps_expr (pe_bm0 PySem.F.plainAttrs_list PySem.F.slot_list_reverse PySem.F.type_list_reverse mt_reverse (pe_var (i := i) hN hv hd hcd) hbase hline) hsw).imp fun D σ H ⟨ρ, F, e0, k, q⟩ => by
    obtain ⟨ds, p, xs, hρ, hσ, fp, h0, hp, rs, q⟩ := own_in q k
    exact ⟨.ref p, hσ, .inl ⟨rfl, xs, .of hp⟩, p, xs, rfl, rfl, hp, PostS.at q (ext_upd e0 fp h0) (k.change i hρ hσ rs.rev)⟩⟩
theorem ps_putP (i : Nat) {px : Pos} (hf : PPE X W a f) (he : PPE X W e fe) (hN : X.N[i]? = some x := by rfl) (hv : Vis X.env.scope x := by first | exact Or.inl rfl | exact Or.inr (Or.inl rfl) | exact Or.inr (Or.inr rfl)) (hd : (x == ("__debug__" : Str)) = false := by decide)
    (hcd : (x == ("__classdict__" : Str)) = false := by decide)
    (ha : ∀ v, assign (.Subscript (.Name x px) a pos') X.env v = (do
      let ov ← holding [v] (eval (.Name x px) X.env)
      let iv ← holding [v, ov] (eval a X.env)
      standAt pos'
      holding [v, ov, iv] (setItem ov iv v)
      release [v, ov, iv] []) := by intro _; rfl)
    (hs : swapsWithSole [.Subscript (.Name x px) a pos'] e pos.line X.env = pure false := by rfl) (hw : swappedStores [.Subscript (.Name x px) a pos'] e X.env = pure none := by rfl)
    (h1 : (assignEach [.Subscript (.Name x px) a pos'] X.env).map (·.2) = [assign (.Subscript (.Name x px) a pos') X.env] := by rfl) :
    PPS X W (.Assign [.Subscript (.Name x px) a pos'] e pos) (gPut i f fe) :=
  ⟨fun F0 H0 => (ps_asg he.pe (pg_sub (pe_var (i := i) hN hv hd hcd) hf.pe set_list ha) hs hw h1).imp fun D σ H ⟨ρ, F, e0, k, q⟩ => by
    obtain ⟨ds, p, xs, hρ, hσ, fp, h0, hp, rs, q⟩ := own_in q k
    refine ⟨H0, ρ, F, e0.s, k, (PostS.in q e0 k).mono fun d F1 H1 _ _ ⟨q1, e1, k1, e2⟩ y ry => ?_⟩
    refine ⟨.ref p, hσ, ⟨H0, ρ, F1, e1.s, k1, (PostS.in q1 e1 k1).mono fun kd F2 H2 _ _ ⟨q2, e3, k2, e4⟩ z rz => ?_⟩⟩
    cases kd <;> first | exact (show False from q2).elim | skip
    rename_i kk _ _
    unfold Rep at rz
    simp only at q2
    cases ej : ixN ds.length kk with
    | none => rw [ej] at q2; exact q2.elim
    | some j =>
      rw [ej] at q2
      have fp2 : F2 p = none := e4.n p (by rw [e2.h _ _ hp]; simp) (e2.n p (by rw [hp]; simp) fp)
      refine ⟨p, xs, kk, j, rfl, rz, e4.h _ _ (e2.h _ _ hp), by rw [← rs.length]; exact ej, ?_⟩
      exact PostS.at q2 (ext_upd e3 fp2 h0) (k2.change i hρ hσ (((rs.mono e2.f).mono e4.f).set j (ry.mono e4.f)))⟩
theorem frz_in {F0 H0 F H : Hp} {ρ : Rho} {σ : L2.St} {D : Ends} (i : Nat) (e0 : Ext F0 H0 F H) (k : SOk X.K H0 F H ρ σ) (q : PostS X W F0 H0 (g (frz i ρ)) F D) : tPS X W F0 H0 g D σ H := by
  unfold frz at q
  cases e : ρ[i]? with
  | none => rw [e] at q; exact ⟨ρ, F, e0, k, q⟩
  | some sl =>
    rw [e] at q
    cases sl with
    | un => exact ⟨ρ, F, e0, k, q⟩
    | v d => exact ⟨ρ, F, e0, k, q⟩
    | o ds =>
      obtain ⟨p, xs, a, b, c, d, r⟩ := k.own i ds e
      refine ⟨_, upd F p (.lst xs), ⟨e0.f.trans (same_upd b), e0.h, ?_, fun y h1 h2 => ?_⟩, k.freeze i e a b d r, PostS.mono q (same_upd b)⟩
      · intro y o ey
        by_cases hy : y = p
        · subst hy; rw [upd_same] at ey; cases ey; exact d
        · rw [upd_ne hy] at ey; exact e0.s _ _ ey
      · have hy : y ≠ p := fun z => h1 (by rw [z]; exact c)
        rw [upd_ne hy]
        exact e0.n y h1 h2
theorem PPSs.frz (i : Nat) (h : PPSs X W rest g) : PPSs X W rest (gFrz i g) := ⟨fun F0 H0 => (h.ps F0 H0).imp fun D σ H ⟨ρ, F, e0, k, q⟩ => frz_in i e0 k q⟩
theorem PPS.frz (i : Nat) (h : PPS X W st g) : PPS X W st (gFrz i g) := ⟨fun F0 H0 => (h.ps F0 H0).imp fun D σ H ⟨ρ, F, e0, k, q⟩ => frz_in i e0 k q⟩
theorem ps_retP (he : PPE X W e f) : PPS X W (.Return (some e) pos) (gRet f) :=
  ⟨fun F0 H0 => (ps_ret he.pe).imp fun D σ H ⟨ρ, F, e0, k, q⟩ => ⟨H0, ρ, F, e0.s, k, (PostS.in q e0 k).mono fun d F1 H1 _ _ ⟨q1, e1, k1, _⟩ y ry => q1 y F1 H1 e1 ry⟩⟩
theorem ps_exprP (he : PPE X W e f) (hs : swapsWith e none pos.line X.env = pure false := by rfl) : PPS X W (.Expr e pos) (gExpr f) :=
  ⟨fun F0 H0 => (ps_expr he.pe hs).imp fun D σ H ⟨ρ, F, e0, k, q⟩ => ⟨H0, ρ, F, e0.s, k, (PostS.in q e0 k).mono fun d F1 H1 _ _ ⟨q1, e1, k1, _⟩ y ry => PostS.at q1 e1 k1⟩⟩
theorem ps_ifP {c : Rho → Res Bool} {sa sb : List Stmt} (hc : PPT X W e c) (ha : PPSs X W sa g) (hb : PPSs X W sb h) : PPS X W (.If e sa sb pos) (gIf c g h) :=
  ⟨fun F0 H0 => (ps_if hc.pt (ha.ps F0 H0) (hb.ps F0 H0)).imp fun D σ H ⟨ρ, F, e0, k, q⟩ => ⟨H0, ρ, F, e0.s, k, (PostS.in q e0 k).mono fun b F1 H1 _ _ ⟨q1, e1, k1, _⟩ => by
    cases b with
    | true => rw [if_pos rfl]; exact ⟨ρ, F1, e1, k1, q1⟩
    | false => rw [if_neg Bool.false_ne_true]; exact ⟨ρ, F1, e1, k1, q1⟩⟩⟩
/-- an exception class of the text over ValueError, without an __init__ of its own -/
structure ExcT (K : Fr) (mg : Str → Option Value) (c : String) : Prop where
  ex : ∃ C, mg (Str.ofString c) = some (.ref C) ∧ PySem.W.excIn K C [.type "ValueError", .type "Exception", .type "BaseException", .type "object"] "ValueError.__new__" = true ∧ PySem.W.keepIn K (.ref C) = true ∧
    PySem.W.subIn K (.ref C) (.type "BaseException") = some true ∧ PySem.W.typeIn K (.ref C) = some (.type "type")
theorem ps_raiseP {c : String} {m : Str} {j : Nat} {p p2 : Pos} (t : ExcT X.K X.mg c) (tk : Takes X W) (hc : X.calm = true := by rfl) (hg : Gl X (Str.ofString c) := by rfl) (hdb : (Str.ofString c == ("__debug__" : Str)) = false := by decide) :
    PPS X W (.Raise (some (.Call (.Name (Str.ofString c) p) [.Constant (.str m) j p2] [] pos')) none pos) (gExc c) := by
  obtain ⟨C, gC, q, kC, b, ty⟩ := t.ex
  exact ⟨fun F0 H0 => (ps_raise hc tk (pmk_own PySem.F.excBase_ValueError q gC kC (raises_own b ty) hg hdb)).imp fun D σ H ⟨ρ, F, e0, k, q⟩ => q C σ F H gC e0 (Same.refl F) k⟩
theorem forP_list (i : Nat) {F0 H0 F1 H1 : Hp} {ρ1 : Rho} {σ1 : L2.St} {D : Ends} {a : Addr} {ds : List _root_.Pu.D} {xs : List V} (e1 : Ext F0 H0 F1 H1) (k1 : SOk X.K H0 F1 H1 ρ1 σ1) (ha : F1 a = some (.lst xs)) (r : Reps X.K F1 ds xs)
    (q : PostS X W F0 H0 (forL (fun d ρ => g (ρ.set i (.v d))) ds ρ1) F1 D) :
    ∃ W' : Nat → Nat → L2.St → Hp → Prop, (∃ m, W' 0 m σ1 H1) ∧ ∀ i' m σ H, W' i' m σ H →
      ((Itl X.K a).stop i' H ∧ D.nx σ H) ∨ ((Itl X.K a).go i' H ∧ ∃ N : L2.St → Hp → Prop, (∀ σ' H', N σ' H' → ∃ m', m' < m ∧ W' (i' + 1) m' σ' H') ∧ ∀ x H', (Itl X.K a).yld i' H x H' → gName i x σ H' fun σ2 H2 => tPS X W F0 H0 g { D with nx := N, ct := N, bk := D.nx } σ2 H2) := by
  refine for_list (xs := xs) (fun j σ H => ∃ ρ F, Ext F0 H0 F H ∧ Same F1 F ∧ SOk X.K H0 F H ρ σ ∧ PostS X W F0 H0 (forL (fun d ρ => g (ρ.set i (.v d))) (ds.drop j) ρ) F D)
    ⟨ρ1, F1, e1, Same.refl _, k1, q⟩ (fun j σ H _ ⟨ρ, F, e, s, _, _⟩ => .of (e.s _ _ (s _ _ ha))) (fun j x σ H hx ⟨ρ, F, e, s, k, q⟩ => ?_) fun σ H ⟨ρ, F, e, s, k, q⟩ => ?_
  · have hj : j < ds.length := by rw [r.length]; exact (List.getElem?_eq_some_iff.mp hx).1
    have hd : ds[j]? = some ds[j] := List.getElem?_eq_getElem hj
    obtain ⟨y, hy, ry⟩ := r.get hd
    rw [hx] at hy
    cases hy
    have ed : ds.drop j = ds[j] :: ds.drop (j + 1) := List.drop_eq_getElem_cons hj
    rw [ed] at q
    exact ⟨ρ.set i (.v ds[j]), F, e, k.set i (ry.mono s), PostS.thn q _ rfl fun ρ' _ σ' F' H' e' t k' q' => ⟨ρ', F', e', s.trans t, k', q'⟩⟩
  · rw [List.drop_eq_nil_of_le (by rw [r.length]; exact Nat.le_refl _)] at q
    exact PostS.at q e k
theorem ps_forP (i : Nat) {px : Pos} (hp : PassesOwn (model X.prog X.w) X.A X.env X.xe) (hc : X.calm = true) (he : PPE X W e f) (hb : PPSs X W body g) (hN : X.N.Nodup) (hi : X.N[i]? = some x := by rfl) (hx : Loc X.env.scope x := by first | exact Or.inl rfl | exact Or.inr rfl)
    (hf : X.fn x = true ∨ X.env.scope.names.lookup x = some .local := by first | exact .inl rfl | exact .inr rfl) (hs : ∀ x, foldedSetIterable e X.env x = pure x := by intro _; rfl) : PPS X W (.For (.Name x px) e body [] pos) (gFor i f g) :=
  ⟨fun F0 H0 => (ps_for hp hc (pi_list he.pe) (pg_name (i := i) hN hi hx hf) (hb.ps F0 H0) hs).imp fun D σ H ⟨ρ, F, e0, k, q⟩ => ⟨H0, ρ, F, e0.s, k, Post.bind (PostS.in q e0 k) |>.mono fun d F1 H1 _ e1 q1 y ry => by
    cases d <;> first | exact (show False from q1).elim | skip
    unfold Rep at ry
    obtain ⟨a, xs, rfl, ha, r⟩ := ry
    obtain ⟨q2, e2, k2, _⟩ := Post.at e1.s q1
    exact ⟨a, rfl, ⟨xs, .of (e1.s _ _ ha)⟩, forP_list i e2 k2 ha r q2⟩⟩⟩
theorem ps_forRP (i : Nat) {px p2 p3 : Pos} (hp : PassesOwn (model X.prog X.w) X.A X.env X.xe) (hc : X.calm = true) (hm : X.mg "range" = none) (he : PPE X W e f) (hb : PPSs X W body g) (hN : X.N.Nodup) (hi : X.N[i]? = some x := by rfl) (hx : Loc X.env.scope x := by first | exact Or.inl rfl | exact Or.inr rfl)
    (hf : X.fn x = true ∨ X.env.scope.names.lookup x = some .local := by first | exact .inl rfl | exact .inr rfl) (hg : Gl X "range" := by rfl) (hst : starEach (e :: []) X.env = (false, eval e X.env) :: starEach [] X.env := by rfl) (hst1 : starEach [e] X.env = [(false, eval e X.env)] := by rfl)
    (hs : ∀ x, foldedSetIterable (.Call (.Name "range" p2) [e] [] p3) X.env x = pure x := by intro _; rfl) : PPS X W (.For (.Name x px) (.Call (.Name "range" p2) [e] [] p3) body [] pos) (gForR i f g) :=
  ⟨fun F0 H0 => (ps_for hp hc (pi_range1 hg hm (pa_cons he.pe pa_nil hst) hst1) (pg_name (i := i) hN hi hx hf) (hb.ps F0 H0) hs).imp fun D σ H ⟨ρ, F, e0, k, q⟩ => ⟨H0, ρ, F, e0.s, k, Post.bind (PostS.in q e0 k) |>.mono fun d F1 H1 _ e1 q1 y ry => by
    cases d <;> first | exact (show False from q1).elim | skip
    rename_i n _
    unfold Rep at ry
    obtain ⟨hn, q1⟩ := Post.guard (c := rngOk n = true) q1
    have hn := rngOk_is hn
    obtain ⟨q2, e2, k2, _⟩ := Post.at e1.s q1
    refine ⟨n, by rw [ry], hn.1, hn.2, ?_⟩
    refine for_range (lo := 0) (n := n.toNat) (fun j σ H => ∃ ρ F, Ext F0 H0 F H ∧ SOk X.K H0 F H ρ σ ∧ PostS X W F0 H0 (forL (fun (k : Nat) ρ => g (ρ.set i (.v (.int k)))) ((List.range n.toNat).drop j) ρ) F D)
      ⟨ρ, F1, e2, k2, q2⟩ (fun j σ H hj ⟨ρ, F, e, k, q⟩ => ?_) fun σ H ⟨ρ, F, e, k, q⟩ => ?_
    · have hj' : j < (List.range n.toNat).length := by rw [List.length_range]; exact hj
      have ed : (List.range n.toNat).drop j = j :: (List.range n.toNat).drop (j + 1) := by rw [List.drop_eq_getElem_cons hj', List.getElem_range]
      rw [ed] at q
      have e0j : (0 : Int) + (j : Int) = (j : Int) := by omega
      exact ⟨ρ.set i (.v (.int j)), F, e, k.set i (by rw [e0j]; unfold Rep; rfl), PostS.thn q _ rfl fun ρ' _ σ' F' H' e' t k' q' => ⟨ρ', F', e', k', q'⟩⟩
    · rw [List.drop_eq_nil_of_le (by rw [List.length_range]; exact Nat.le_refl _)] at q
      exact PostS.at q e k⟩⟩
theorem zip_get {α β : Type} {xs : List α} {ys : List β} {j : Nat} (h1 : j < xs.length) (h2 : j < ys.length) : (xs.zip ys).drop j = (xs[j], ys[j]) :: (xs.zip ys).drop (j + 1) := by
  have hj : j < (xs.zip ys).length := by rw [List.length_zip]; omega
  rw [List.drop_eq_getElem_cons hj, List.getElem_zip]
theorem ps_forZP (i j : Nat) {x y : Str} {px py pt p2 p3 : Pos} {kk : Nat} (hp : PassesOwn (model X.prog X.w) X.A X.env X.xe) (hc : X.calm = true) (hm : X.mg "zip" = none) (ha : PPE X W a f) (hb : PPE X W b f2) (hbd : PPSs X W body g) (hN : X.N.Nodup)
    (hi : X.N[i]? = some x := by rfl) (hx : Loc X.env.scope x := by first | exact Or.inl rfl | exact Or.inr rfl) (hfx : X.fn x = true ∨ X.env.scope.names.lookup x = some .local := by first | exact .inl rfl | exact .inr rfl)
    (hj : X.N[j]? = some y := by rfl) (hy : Loc X.env.scope y := by first | exact Or.inl rfl | exact Or.inr rfl) (hfy : X.fn y = true ∨ X.env.scope.names.lookup y = some .local := by first | exact .inl rfl | exact .inr rfl)
    (hg : Gl X "zip" := by rfl) (hst : starEach (a :: [b]) X.env = (false, eval a X.env) :: starEach [b] X.env := by rfl) (hst2 : starEach (b :: []) X.env = (false, eval b X.env) :: starEach [] X.env := by rfl) (hpl : (backTo p3 (starEach [b] X.env)).any (·.1) = false := by rfl)
    (hn : (assignEach [.Name x px, .Name y py] X.env).length = 2 := by rfl) (hfi : (assignEach [.Name x px, .Name y py] X.env).findIdx? (·.1) = none := by rfl)
    (hs1 : (assignEach (.Name x px :: [.Name y py]) X.env).map (·.2) = assign (.Name x px) X.env :: (assignEach [.Name y py] X.env).map (·.2) := by rfl) (hs2 : (assignEach (.Name y py :: []) X.env).map (·.2) = assign (.Name y py) X.env :: (assignEach [] X.env).map (·.2) := by rfl)
    (hs : ∀ x, foldedSetIterable (.Call (.Name "zip" p2) [a, b] [] p3) X.env x = pure x := by intro _; rfl) : PPS X W (.For (.Tuple [.Name x px, .Name y py] kk pt) (.Call (.Name "zip" p2) [a, b] [] p3) body [] pos) (gForZ i j f f2 g) :=
  ⟨fun F0 H0 => (ps_for hp hc (pi_zip hg hm (pa_cons ha.pe (pa_cons hb.pe pa_nil hst2) hst) hst hpl) (pg_tup hc (pgs_cons (pg_name (i := i) hN hi hx hfx) (pgs_cons (pg_name (i := j) hN hj hy hfy) pgs_nil hs2) hs1) hn hfi) (hbd.ps F0 H0) hs).imp fun D σ H ⟨ρ, F, e0, k, q⟩ =>
    ⟨H0, ρ, F, e0.s, k, Post.bind (PostS.in q e0 k) |>.mono fun d F1 H1 _ e1 q1 z rz => by
    cases d <;> first | exact (show False from q1).elim | skip
    rename_i ds _
    unfold Rep at rz
    obtain ⟨a1, xs, rfl, h1, r1⟩ := rz
    obtain ⟨q2, e2, k2, _⟩ := Post.at e1.s q1
    refine ⟨H0, ρ, F1, e2.s, k2, Post.bind (PostS.in q2 e2 k2) |>.mono fun d F2 H2 _ e3 q3 z rz => ?_⟩
    cases d <;> first | exact (show False from q3).elim | skip
    rename_i es _
    unfold Rep at rz
    obtain ⟨a2, ys, rfl, h2, r2⟩ := rz
    obtain ⟨q4, e4, k4, _⟩ := Post.at e3.s q3
    by_cases hl : ds.length = es.length
    · rw [if_pos hl] at q4
      have r1 := r1.mono e3.f
      have h1 := e3.f _ _ h1
      have hlx : xs.length = ys.length := by rw [← r1.length, ← r2.length]; exact hl
      refine ⟨a1, a2, xs, ys, rfl, .of (e3.s _ _ h1), .of (e3.s _ _ h2), ?_⟩
      refine RZ.for_zipL hlx (fun l σ H => ∃ ρ F, Ext F0 H0 F H ∧ Same F2 F ∧ SOk X.K H0 F H ρ σ ∧ PostS X W F0 H0 (forL (fun (p : _root_.Pu.D × _root_.Pu.D) ρ => g ((ρ.set i (.v p.1)).set j (.v p.2))) ((ds.zip es).drop l) ρ) F D)
        ⟨ρ, F2, e4, Same.refl _, k4, q4⟩ (fun l σ H ⟨ρ, F, e, s, k, q⟩ => ⟨.of (e.s _ _ (s _ _ h1)), .of (e.s _ _ (s _ _ h2))⟩) (fun l x y T σ H hx hy ⟨ρ, F, e, s, k, q⟩ hT => ?_) fun σ H ⟨ρ, F, e, s, k, q⟩ => ?_
      · have hlx : l < ds.length := by rw [r1.length]; exact (List.getElem?_eq_some_iff.mp hx).1
        have hly : l < es.length := by rw [r2.length]; exact (List.getElem?_eq_some_iff.mp hy).1
        obtain ⟨x', hx', rx⟩ := r1.get (List.getElem?_eq_getElem hlx)
        obtain ⟨y', hy', ry⟩ := r2.get (List.getElem?_eq_getElem hly)
        rw [hx] at hx'; cases hx'
        rw [hy] at hy'; cases hy'
        rw [zip_get hlx hly] at q
        have eT : Ext F0 H0 F (upd H T (.tup [x, y])) := e.trans (Ext.grow e.s (same_upd hT))
        have kT := k.ext (Ext.grow e.s (same_upd (o := .tup [x, y]) hT))
        refine ⟨T, [x, y], rfl, .of upd_same, rfl, x, [y], rfl, y, [], rfl, rfl, ?_⟩
        exact ⟨(ρ.set i (.v ds[l])).set j (.v es[l]), F, eT, (kT.set i (rx.mono s)).set j (ry.mono s), PostS.thn q _ rfl fun ρ' _ σ' F' H' e' t k' q' => ⟨ρ', F', e', s.trans t, k', q'⟩⟩
      · rw [List.drop_eq_nil_of_le (by rw [List.length_zip, r1.length]; omega)] at q
        exact PostS.at q e k
    · rw [if_neg hl] at q4; exact q4.elim⟩⟩
theorem ps_whileP (n : Nat) {c : Rho → Res Bool} (hp : PassesOwn (model X.prog X.w) X.A X.env X.xe) (hc : PPT X W e c) (hb : PPSs X W body g) : PPS X W (.While e body [] pos) (gWhile n c g) :=
  ⟨fun F0 H0 => (ps_while hp hc.pt (hb.ps F0 H0)).imp fun D σ H ⟨ρ, F, e0, k, q⟩ => by
    refine ⟨fun m σ H => ∃ ρ F, Ext F0 H0 F H ∧ SOk X.K H0 F H ρ σ ∧ PostS X W F0 H0 (whl c g m ρ) F D, ⟨n, ρ, F, e0, k, q⟩, fun m σ H ⟨ρ, F, e, k, q⟩ => ?_⟩
    cases m with
    | zero => exact q.elim
    | succ m =>
      refine ⟨H0, ρ, F, e.s, k, (PostS.in q e k).mono fun b F1 H1 _ _ ⟨q1, e1, k1, _⟩ => ?_⟩
      cases b with
      | false => rw [if_neg Bool.false_ne_true]; rw [if_neg Bool.false_ne_true] at q1; exact PostS.at q1 e1 k1
      | true =>
        rw [if_pos rfl]; rw [if_pos rfl] at q1
        exact ⟨fun σ H => ∃ ρ F, Ext F0 H0 F H ∧ SOk X.K H0 F H ρ σ ∧ PostS X W F0 H0 (whl c g m ρ) F D, fun σ' H' h => ⟨m, Nat.lt_succ_self m, h⟩,
          ρ, F1, e1, k1, PostS.thn q1 _ rfl fun ρ' _ σ' F' H' e' t k' q' => ⟨ρ', F', e', k', q'⟩⟩⟩
end

def fnD (m : Nat) (g : Rho → SRes) (ds : List D) : Res D := match g (ds.map Slt.v ++ List.replicate (m - ds.length) .un) with
  | .nx _ => .ok .non
  | .rt d => .ok d
  | .exc c _ => .exc c
  | .stk => .stk
theorem Reps.some_get {K : Fr} {F : Hp} : ∀ {ds : List D} {vs : List V} {m : Nat} (i : Nat) (d : D), Reps K F ds vs → (ds.map Slt.v ++ List.replicate m .un)[i]? = some (.v d) → ∃ x, (vs.map some ++ List.replicate m none)[i]? = some (some x) ∧ Rep K F d x
  | [], _, m, i, d, r, h => by
    simp only [List.map_nil, List.nil_append] at h
    rw [List.getElem?_replicate] at h
    split at h <;> cases h
  | e :: ds, _, m, 0, d, r, h => by
    unfold Reps at r
    obtain ⟨x, t, rfl, r1, _⟩ := r
    simp only [List.map_cons, List.cons_append, List.getElem?_cons_zero, Option.some.injEq, Slt.v.injEq] at h
    subst h
    exact ⟨x, rfl, r1⟩
  | e :: ds, _, m, i + 1, d, r, h => by
    unfold Reps at r
    obtain ⟨x, t, rfl, _, r2⟩ := r
    exact Reps.some_get (m := m) i d r2 (by simpa using h)
theorem no_own : ∀ {ds : List D} {m i : Nat} {es : List D}, (ds.map Slt.v ++ List.replicate m .un)[i]? = some (.o es) → False
  | [], m, i, es, h => by
    simp only [List.map_nil, List.nil_append] at h
    rw [List.getElem?_replicate] at h
    split at h <;> cases h
  | e :: ds, m, 0, es, h => by simp at h
  | e :: ds, m, i + 1, es, h => no_own (ds := ds) (m := m) (i := i) (es := es) (by simpa using h)
section
variable {P : Program} {w : World} {K : Fr} {mg : Str → Option Value} {base : Heap}
theorem fn_pure {x qual : Str} {st : Stmt} {f : Addr} {fd : FuncData} {N ps : List Str} {k : Nat} {g : Rho → SRes} (F : Fun K x qual st f fd) (S : FnScope N ps (defScope st))
    (body : ∀ (cdv : Value) (A : Around) (outer : List Env) (s : Shared) (H : Hp) (E : XK), Room k (cxOf (L2.CX P w) P w K mg base N qual (defScope st) f cdv A outer s H E).A →
      Takes (cxOf (L2.CX P w) P w K mg base N qual (defScope st) f cdv A outer s H E) (fun cls d _ H => E cls d H) →
      PassesOwn (model P w) (cxOf (L2.CX P w) P w K mg base N qual (defScope st) f cdv A outer s H E).A (cxOf (L2.CX P w) P w K mg base N qual (defScope st) f cdv A outer s H E).env (cxOf (L2.CX P w) P w K mg base N qual (defScope st) f cdv A outer s H E).xe →
      PPSs (cxOf (L2.CX P w) P w K mg base N qual (defScope st) f cdv A outer s H E) (fun cls d _ H => E cls d H) (defBody st) g) :
    FnOk P w K mg base (L2.CX P w) (k + 1) f fd ps (spP K mg ps.length (fnD N.length g)) := by
  refine F.okX S (fun vs H Q E ⟨_, _, _, _, h, _⟩ => h) fun cdv A outer s H vs Q E hr h => ?_
  obtain ⟨F0, ds, sF, rs, hl, q⟩ := h
  refine ⟨_, (body cdv A outer s H E hr (takes_of rfl rfl rfl rfl) (passes_of rfl)).ps F0 H, ?_⟩
  have hlen : ds.length = vs.length := rs.length
  refine ⟨ds.map Slt.v ++ List.replicate (N.length - ds.length) .un, F0, Ext.refl sF, ?_, ?_⟩
  · unfold L2.start
    rw [hlen]
    exact ⟨by simp [hlen], fun i d h => rs.some_get i d h, fun i es h => (no_own h).elim, fun i j p es fs _ h => (no_own h).elim⟩
  · unfold fnD at q
    cases e : g (ds.map Slt.v ++ List.replicate (N.length - ds.length) .un) with
    | nx ρ => rw [e] at q; exact fun σ' F' H' ex _ _ => q .non F' H' ex (by unfold Rep; rfl)
    | rt d => rw [e] at q; exact fun x F' H' ex r => q x F' H' ex r
    | exc c ρ => rw [e] at q; exact fun A σ' F' H' m ex _ _ => q A H' m ex.h
    | stk => rw [e] at q; exact q
end
end Pu

namespace Pu
open PySem PySem.Spec PyProof.Rows RT
section
variable {prog : Program} {w : World} {A : Around} {E : Value → Shared → Prop} {s : Shared}
theorem extend_rev {R : Result → Shared → Prop} {it l : Addr} {items : Array Value} (hh : A.handled = none) (hit : s.heap.IsRevIter it l ((items.size : Int) - 1)) (hl : s.heap.IsList l items) (hne : l ≠ it) (hn : items.size ≤ sizeLine)
    (S : Addr) (res : Value) (c₀ : Nat) (hS : s.heap.get? S = some { cls := .type "list", data := .seq #[] c₀ }) (hSi : S ≠ it) (hSl : S ≠ l)
    (hR : ∀ h' tk acc' c', (∀ b o, b ≠ S → b ≠ it → s.heap.get? b = some o → h'.get? b = some o) → h'.get? S = some { cls := .type "list", dict := none, data := .seq acc' c', slots := #[] } →
      ItemsOf (fun i v => items[items.size - 1 - i]? = some v) acc' items.size → R (.ok (.ret res)) { s with heap := h', toks := tk }) :
    wpAny (model prog w) A.in1 (Builtin.List.listExtendWith (.ref S) (.ref it) res)
      (fun fin s' => match fin with | .done f => R (.ok f) s' | .again c' => c'.quiet = true ∧ codeAny (model prog w) A c' R s') (fun e s' => R (.error e) s') s := by
  have W := (Walks.listRev (prog := prog) (w := w) (A := A.in1) hh it l hne items).toS
  have hSf : S ∉ [it, l] := by simp only [List.mem_cons, List.not_mem_nil, or_false, not_or]; exact ⟨hSi, hSl⟩
  have hT : s.TypeIs (.ref it) "list_reverseiterator" := Heap.IsRevIter.typeIs (s := s) hit
  have h1 : Builtin.List.listSameRef (.ref S) (.ref it) = false := by simp [Builtin.List.listSameRef, hSi]
  unfold Builtin.List.listExtendWith
  refine wpAny_bind (wpAny_typeOf hT ?_)
  rw [if_neg (by rw [h1]; decide)]
  refine wpAny_bind (wpAny_pyIter_revIter (s := s) hit ?_)
  refine wpAny_bind (wpAny_holding ?_)
  unfold Builtin.List.listLengthHint
  refine wpAny_bind (wpAny_specialOf hT nolen_lri ?_)
  show wpAny _ A.in1 (specialOf (Value.ref it) (Str.ofString "__length_hint__") >>= _) _ _ _
  refine wpAny_bind (wpAny_specialOf hT hint_lri ?_)
  generalize hid : ("list_reverseiterator.__length_hint__" : String) = id0
  wp_delta
  rw [show splitId id0 = some ("list_reverseiterator", "__length_hint__") from by subst hid; decide +kernel]
  subst hid
  refine wpAny_bind (wpAny_isInstance (b := true) hT (by rw [isSubtype_type]; kernel_rfl) ?_)
  refine wpAny_pure ?_
  rw [if_neg (by decide)]
  have e0 : ((items.size : Nat) : Int) - 1 - ((0 : Nat) : Int) = (items.size : Int) - 1 := by omega
  refine wpAny_pure ⟨plainId_quiet F.plain_extend_loop _, codeAny_extend_loopS W hn _ hSf _ items.size 0 _ _ _ rfl (Nat.zero_le _) ⟨Nat.zero_le _, by rw [e0]; exact hit, hl⟩ hS (ItemsOf.nil _) fun s' acc' c' hm hS' hacc => ?_⟩
  rw [Moved.eq_with hm]
  obtain ⟨ol, hol, _⟩ := id hl
  refine hR s'.heap s'.toks acc' c' (fun b o hb hbi e => ?_) hS' hacc
  refine hm.heap b o (fun hmem => ?_) e
  rcases List.mem_cons.mp hmem with e' | hmem
  · exact hb e'
  · exact hbi (List.mem_singleton.mp hmem)
theorem list_init_rev {R : Result → Shared → Prop} {it l : Addr} {items : Array Value} (hh : A.handled = none) (hit : s.heap.IsRevIter it l ((items.size : Int) - 1)) (hl : s.heap.IsList l items) (hne : l ≠ it) (hn : items.size ≤ sizeLine)
    (S : Addr) (hS : s.heap.get? S = some { cls := .type "list", data := .seq #[] }) (hSi : S ≠ it) (hSl : S ≠ l)
    (hR : ∀ h' tk acc' c', (∀ b o, b ≠ S → b ≠ it → s.heap.get? b = some o → h'.get? b = some o) → h'.get? S = some { cls := .type "list", dict := none, data := .seq acc' c', slots := #[] } →
      ItemsOf (fun i v => items[items.size - 1 - i]? = some v) acc' items.size → R (.ok (.ret .none)) { s with heap := h', toks := tk }) :
    wpAny (model prog w) A.in1 (Builtin.«list.__init__» ⟨[.ref S, .ref it], []⟩)
      (fun fin s' => match fin with | .done f => R (.ok f) s' | .again c' => c'.quiet = true ∧ codeAny (model prog w) A c' R s') (fun e s' => R (.error e) s') s := by
  show wpAny _ _ (do let old ← Builtin.List.listItems (.ref S); Builtin.List.listUpdate (.ref S) (fun _ => #[]); letGo old.toList.reverse; Builtin.List.listExtendWith (.ref S) (.ref it) .none) _ _ s
  refine wpAny_bind ?_
  unfold Builtin.List.listItems
  refine wpAny_bind (wpAny_seqItems hS rfl (wpAny_pure ?_))
  show wpAny _ _ (updateSeq S (fun _ => #[]) >>= fun _ => letGo (#[] : Array Value).toList.reverse >>= fun _ => Builtin.List.listExtendWith (.ref S) (.ref it) .none) _ _ s
  refine wpAny_bind (wpAny_updateSeq hS rfl ?_)
  have hS₂ := Heap.get?_update_self (Obj.mapSeq (fun _ => (#[] : Array Value))) hS rfl
  have oth : ∀ b o, b ≠ S → s.heap.get? b = some o → (s.heap.update S (Obj.mapSeq (fun _ => (#[] : Array Value)))).get? b = some o :=
    fun b o hb e => (Heap.get?_update_other _ _ (Ne.symm hb)).trans e
  refine wpAny_bind (wpAny_letGo ?_)
  have hit2 : (s.heap.update S (Obj.mapSeq (fun _ => (#[] : Array Value)))).IsRevIter it l ((items.size : Int) - 1) := hit.at fun o e => oth it o (Ne.symm hSi) e
  have hl2 : (s.heap.update S (Obj.mapSeq (fun _ => (#[] : Array Value)))).IsList l items := by
    obtain ⟨ol, hol, rest⟩ := hl
    exact ⟨ol, oth l ol (Ne.symm hSl) hol, rest⟩
  refine extend_rev (s := { s with heap := s.heap.update S (Obj.mapSeq (fun _ => (#[] : Array Value))) }) hh hit2 hl2 hne hn S .none _ hS₂ hSi hSl fun h' tk acc' c' hk hS' hacc => ?_
  exact hR h' tk acc' c' (fun b o hb hbi e => hk b o hb hbi (oth b o hb e)) hS' hacc
theorem call_list_rev {Q : Value → Shared → Prop} {it l : Addr} {items : Array Value} (hh : A.handled = none) (hit : s.heap.IsRevIter it l ((items.size : Int) - 1)) (hl : s.heap.IsList l items) (hne : l ≠ it) (hn : items.size ≤ sizeLine)
    (hQ : ∀ h' tk acc' c', (∀ b o, b ≠ it → s.heap.get? b = some o → h'.get? b = some o) →
      h'.get? s.heap.objs.size = some { cls := .type "list", dict := none, data := .seq acc' c', slots := #[] } → ItemsOf (fun i v => items[items.size - 1 - i]? = some v) acc' items.size → Q (.ref s.heap.objs.size) { s with heap := h', toks := tk }) :
    wpAny (model prog w) A (call (.type "list") [.ref it]) Q E s := by
  refine callType_codes (Q₁ := fun obj s₁ => obj = .ref s.heap.objs.size ∧ s₁ = { s with heap := s.heap.push { cls := .type "list", data := .seq #[] } }) F.called_list (F.typeCall_list_1 _) F.entry_list_init
    (code_list_new _ ⟨rfl, rfl⟩) fun obj s₁ h₁ => ?_
  obtain ⟨rfl, rfl⟩ := h₁
  have hS : (s.heap.push { cls := .type "list", data := .seq #[] }).get? s.heap.objs.size = some { cls := .type "list", data := .seq #[] } := Heap.get?_push_size _ rfl
  obtain ⟨oi, hoi, _⟩ := id hit
  obtain ⟨ol, hol, _⟩ := id hl
  have hSi : s.heap.objs.size ≠ it := Nat.ne_of_gt (Heap.lt_size hoi)
  have hSl : s.heap.objs.size ≠ l := Nat.ne_of_gt (Heap.lt_size hol)
  refine ⟨⟨_, hS, rfl⟩, F.args_list_init_2 _ _, list_init_rev (A := A.in1) (s := { s with heap := s.heap.push { cls := .type "list", data := .seq #[] } }) hh (hit.at fun o e => Heap.get?_push_of_some _ e) (hl.push _) hne hn _ hS hSi hSl fun h' tk acc' c' hk hS' hacc => ?_⟩
  exact ⟨rfl, hQ h' tk acc' c' (fun b o hb e => hk b o (Nat.ne_of_lt (Heap.lt_size e)) hb (Heap.get?_push_of_some _ e)) hS' hacc⟩
end
end Pu
namespace Pu
open PySem PySem.Spec PyProof.Rows L2
/-- an untracked record of ours has turned, a new object stands behind and is tracked from now on -/
theorem Inv.turnedNew {X : Cx} {pins : List (Addr × Obj)} {σ : L2.St} {H : Hp} {s : Shared} {h' : Heap} {t' : Nat} {it p : Addr} {o : HO} (I : Inv X pins σ H s) (k : ∀ b o, b ≠ it → s.heap.get? b = some o → h'.get? b = some o) (hn : H it = none) (hL : it ≠ X.env.locals)
    (h1 : it ∈ X.ex ∨ X.s_0.heap.objs.size ≤ it) (h2 : ∀ x c, X.env.cells.lookup x = some c → c ≠ it) (h3 : ∀ p ∈ X.pn ++ pins, p.1 ≠ it) (hp : s.heap.objs.size ≤ p) (new : ObjOk X.prog X.w (upd H p o) h' p o) :
    Inv X pins σ (upd H p o) { s with heap := h', toks := t' } := by
  have nit : ∀ b u, H b = some u → b ≠ it := fun b u e z => by rw [z, hn] at e; cases e
  have fp : H p = none := I.hok.fresh hp
  refine I.step (g' := s.gens) (d' := s.drawn) (ch := [it]) (fun b hb => ?_) (fun b o _ _ hc e _ => k b o (fun z => hc (by simp [z])) e) (fun b o _ _ hc e _ => ⟨o.slots, k b o (fun z => hc (by simp [z])) e⟩)
    (fun b ob _ e n => by rw [upd_ne (Nat.ne_of_lt (Nat.lt_of_lt_of_le (Heap.lt_size e) hp))]; exact n)
    (fun b o hc e => ⟨o, k b o (fun z => hc (by simp [z])) e⟩) (fun b xs e => by rw [upd_ne (ne_of_none e fp)]; exact e) (fun b ob u e => by rw [upd_ne (ne_of_none e fp)]; exact e) (fun b ps e => ⟨#[], by rw [upd_ne (ne_of_none e fp), e]; simp⟩) (fun m hm => ?_) (fun b u e => ?_) I.bare
  · have e : b = it := by simpa using hb
    subst e
    exact ⟨h1, hL, h2, h3⟩
  · obtain ⟨o, es, ep, ho, r⟩ := hm
    exact ⟨o, es, ep, k _ o (Ne.symm hL) ho, r⟩
  · by_cases hb : b = p
    · subst hb; rw [upd_same] at e; cases e; exact new
    · rw [upd_ne hb] at e
      refine (I.hok b u e).stay (fun c v hc q => k c v ?_ q) (fun c q => by rw [upd_ne (ne_of_none q fp)]; exact q) fun c xs q => by rw [upd_ne (ne_of_none q fp)]; exact q
      rcases hc with z | z
      · rw [z]; exact nit b u e
      · exact nit c _ z
def tListRev (te : TE) : TE := fun σ H Q => te σ H fun v H1 => ∃ (a : Addr) (xs : List V), v = .ref a ∧ H1 a = some (.lst xs) ∧ ∀ q, H1 q = none → Q (.ref q) (upd H1 q (.lst xs.reverse))
section
variable {X : Cx}
theorem pe_listRev {e : Expr} {te : TE} {p p2 pos pos2 : Pos} (hc : X.calm = true) (hm : X.mg "list" = none) (hm2 : X.mg "reversed" = none) (he : PE X e te) (hg : Gl X "list" := by rfl) (hg2 : Gl X "reversed" := by rfl)
    (hs : starEach [e] X.env = (false, eval e X.env) :: starEach [] X.env := by rfl)
    (hs2 : starEach [.Call (.Name "reversed" p2) [e] [] pos2] X.env = (false, eval (.Call (.Name "reversed" p2) [e] [] pos2) X.env) :: starEach [] X.env := by rfl) :
    PE X (.Call (.Name "list" p) [.Call (.Name "reversed" p2) [e] [] pos2] [] pos) (tListRev te) := by
  refine ⟨fun pins s σ H Q I h => ?_⟩
  refine Call_ (ld_blt I hg hm (show bootBuiltins "list" = some (.type "list") by decide +kernel) (PyProof.Rows.callWith_type1 (args_cons (Call_ (ld_blt I hg2 hm2 PyProof.Rows.boot_reversed (PyProof.Rows.callWith_type1 (args_cons (thn (he.run pins s σ H _ I h) fun u s1 ⟨v, H1, I1, r1, q1⟩ => args_nil ?_) hs) hs rfl))) hs2) hs2 rfl))
  obtain ⟨a, xs, ev, hq, q⟩ := q1
  subst ev
  obtain rfl : u = Value.ref a := r1
  obtain ⟨its, rv, p', hz⟩ := I1.list (.of hq)
  refine call_reversed_list p'.isList (args_nil ?_)
  have k0 : ∀ b o, s1.heap.get? b = some o → (s1.heap.push (revObj a ((its.toArray.size : Int) - 1))).get? b = some o := fun b o e => Heap.get?_push_of_some _ e
  have I2 : Inv X pins σ H1 { s1 with heap := s1.heap.push (revObj a ((its.toArray.size : Int) - 1)) } := I1.kept (t' := s1.toks) k0
  obtain ⟨f0, f1, f2, f3, f4, f5⟩ := I1.fpOk (H' := H1) (b := s1.heap.objs.size) (Nat.le_refl _) (I1.hok.fresh (Nat.le_refl _))
  have hl := p'.isList
  obtain ⟨ol, hol, _⟩ := id hl
  have hne : a ≠ s1.heap.objs.size := Nat.ne_of_lt (Heap.lt_size hol)
  have hn : its.toArray.size ≤ sizeLine := by rw [List.size_toArray, ← rv.length]; exact hz
  have hq2 : H1 (s1.heap.push (revObj a ((its.toArray.size : Int) - 1))).objs.size = none := I2.hok.fresh (Nat.le_refl _)
  refine call_list_rev (s := { s1 with heap := s1.heap.push (revObj a ((its.toArray.size : Int) - 1)) }) (I1.ok.hd hc) ⟨_, Heap.get?_push_size _ rfl, rfl, rfl⟩ (hl.push _) hne hn fun h' tk acc c' hk hS hi => ?_
  refine ⟨.ref (s1.heap.push (revObj a ((its.toArray.size : Int) - 1))).objs.size, upd H1 (s1.heap.push (revObj a ((its.toArray.size : Int) - 1))).objs.size (.lst xs.reverse), ?_, rfl, q _ hq2⟩
  refine Inv.turnedNew (t' := tk) I2 (fun b o hb e => hk b o hb e) f0 f1 f3 f4 f5 (Nat.le_refl _) ⟨by rw [List.length_reverse]; exact hz, acc.toList, c', RT.vals_rev rv hi, ?_⟩
  rw [Array.toArray_toList]
  exact hS
theorem po_listRev {X : Cx} {W : WX} {e : Expr} {f : Rho → Res D} {p p2 pos pos2 : Pos} (hc : X.calm = true) (hm : X.mg "list" = none) (hm2 : X.mg "reversed" = none) (he : PPE X W e f) (hg : Gl X "list" := by rfl) (hg2 : Gl X "reversed" := by rfl)
    (hs : starEach [e] X.env = (false, eval e X.env) :: starEach [] X.env := by rfl)
    (hs2 : starEach [.Call (.Name "reversed" p2) [e] [] pos2] X.env = (false, eval (.Call (.Name "reversed" p2) [e] [] pos2) X.env) :: starEach [] X.env := by rfl) :
    PPO X W (.Call (.Name "list" p) [.Call (.Name "reversed" p2) [e] [] pos2] [] pos) (oUn dRev f) :=
  ⟨(pe_listRev hc hm hm2 he.pe hg hg2 hs hs2).imp fun σ H Q ⟨H0, ρ, F, s, k, q⟩ => tP_in s k (Post.bind q |>.mono fun d F1 H1 _ e1 q1 e2 x rx => by
    cases d <;> first | exact (show False from q1).elim | skip
    unfold Rep at rx
    obtain ⟨a, xs, rfl, ha, r⟩ := rx
    exact ⟨a, xs, rfl, e2.s _ _ ha, fun l nl => q1 F1 _ (Ext.grow e2.s (same_upd nl)) l _ (e2.s.free nl) (e2.h.free nl) upd_same r.rev⟩)⟩
end
end Pu

namespace Pu
open PySem PySem.Spec PyProof.Rows L2
/-- no exception -/
abbrev W0 : WX := fun _ _ _ _ => False
def mapR (h : D → Res D) : List D → Res (List D)
  | [] => .ok []
  | d :: r => match h d with
    | .ok x => match mapR h r with
      | .ok xs => .ok (x :: xs)
      | _ => .stk
    | _ => .stk
theorem mapR_ok {h : D → Res D} : ∀ {ds es : List D}, mapR h ds = .ok es → es.length = ds.length ∧ ∀ (j : Nat) d, ds[j]? = some d → ∃ e, es[j]? = some e ∧ h d = .ok e
  | [], es, e => by
    unfold mapR at e
    injection e with e
    subst e
    exact ⟨rfl, fun j d hj => by simp at hj⟩
  | d :: r, es, e => by
    unfold mapR at e
    cases e1 : h d with
    | exc c => rw [e1] at e; cases e
    | stk => rw [e1] at e; cases e
    | ok x =>
      rw [e1] at e
      cases e2 : mapR h r with
      | exc c => rw [e2] at e; cases e
      | stk => rw [e2] at e; cases e
      | ok xs =>
        rw [e2] at e
        injection e with e
        subst e
        obtain ⟨h1, h2⟩ := mapR_ok e2
        refine ⟨by simp [h1], fun j d' hj => ?_⟩
        cases j with
        | zero =>
          simp only [List.getElem?_cons_zero, Option.some.injEq] at hj
          subst hj
          exact ⟨x, rfl, e1⟩
        | succ j => exact h2 j d' (by simpa using hj)
theorem mapR_res {h : D → Res D} (ds : List D) : (∃ es, mapR h ds = .ok es) ∨ mapR h ds = .stk := by
  induction ds with
  | nil => exact .inl ⟨_, rfl⟩
  | cons d r ih =>
    unfold mapR
    cases h d with
    | exc c => exact .inr rfl
    | stk => exact .inr rfl
    | ok x =>
      rcases ih with ⟨es, e⟩ | e
      · rw [e]; exact .inl ⟨_, rfl⟩
      · rw [e]; exact .inr rfl
def oLc (i : Nat) (f fe : Rho → Res D) (ρ : Rho) : Res (List D) := ((f ρ).bind asL).bind fun ds => if fits ds.length then mapR (fun d => fe ((ρ.set i .un).set i (.v d))) ds else .stk
/-- the reading of a comprehension, from the fresh list's -/
theorem lcP_read {X : Cx} {W : WX} {iter : Expr} {x : Str} {f fe : Rho → Res D} (i : Nat) {σ : L2.St} {H : Hp} {Q : VK} (h : tPO X W (oLc i f fe) σ H Q) : tLc (iList X.K (tP X W f)) (gName i) tYes (tP X W0 fe) ([(x, i)].map (·.2)) σ H Q := by
  obtain ⟨H0, ρ, F, s, k, q⟩ := h
  refine tP_in s k (Post.bind (Post.bind q) |>.mono fun d F1 H1 _ e1 q1 e2 v rv => ?_)
  cases d <;> first | exact (show False from q1).elim | skip
  rename_i ds _
  unfold Rep at rv
  obtain ⟨a, xs, rfl, ha, r⟩ := rv
  have q2 := Post.at e2.s q1
  obtain ⟨hfit, q2⟩ := Post.guard (c := fits ds.length = true) q2
  refine ⟨a, rfl, ⟨xs, .of (e2.s _ _ ha)⟩, fun L hL => ?_⟩
  rcases mapR_res (h := fun d => fe ((ρ.set i .un).set i (.v d))) ds with ⟨es, ee⟩ | ee
  · rw [ee] at q2
    obtain ⟨hlen, hget⟩ := mapR_ok ee
    refine lc_list (xs := xs) (fun j H => ∃ F ys, Ext F1 H1 F H ∧ F L = none ∧ H L = some (.lst ys) ∧ Reps X.K F (es.take j) ys)
      ⟨F1, [], Ext.grow e2.s (same_upd hL), e2.s.free hL, upd_same, by simpa using Reps.nil⟩ (fun j H _ ⟨F, ys, e, _, _, _⟩ => .of (e.s _ _ (e.f _ _ ha))) (fun j x' H' hx ⟨F, ys, e, fL, h1, ry⟩ => ?_) fun H' ⟨F, ys, e, fL, h1, ry⟩ => ?_
    · have hj : j < ds.length := by rw [r.length]; exact (List.getElem?_eq_some_iff.mp hx).1
      obtain ⟨y, hy, rd⟩ := r.get (List.getElem?_eq_getElem hj)
      rw [hx] at hy; cases hy
      obtain ⟨e', he', hfe⟩ := hget j _ (List.getElem?_eq_getElem hj)
      refine ⟨by simp [wipe], ?_⟩
      show tP X W0 fe _ H' _
      refine ⟨H0, (ρ.set i .un).set i (.v ds[j]), F, e.s, (((k.ext e2).ext e).un i none).set i (rd.mono e.f), ?_⟩
      have hfe' : fe ((ρ.set i .un).set i (.v ds[j])) = .ok e' := hfe
      rw [hfe']
      intro F' H'' e3 z rz
      have zL : H'' L = some (.lst ys) := e3.h _ _ h1
      have fL' : F' L = none := e3.n L (by rw [h1]; simp) fL
      have hys : ys.length = j := by rw [← ry.length, List.length_take, hlen]; omega
      refine ⟨ys, zL, by rw [hys]; exact Nat.lt_of_lt_of_le hj (fits_iff.mp hfit), F', ys ++ [z], ?_, fL', upd_same, ?_⟩
      · have e4 := e.trans e3
        exact ⟨e4.f, fun b u eb => by rw [upd_ne (ne_of_none eb hL)]; exact e4.h _ _ eb, fun b u eb => by rw [upd_ne (ne_of_none eb fL')]; exact e4.s _ _ eb, e4.n⟩
      · have et : es.take (j + 1) = es.take j ++ [e'] := by rw [List.take_add_one, he']; rfl
        rw [et]
        exact (ry.mono e3.f).app (Reps.cons rz Reps.nil)
    · rw [List.take_of_length_le (by rw [hlen, r.length]; exact Nat.le_refl _)] at ry
      exact q2 F H' e L ys fL (e2.h.free hL) h1 ry
  · rw [ee] at q2; exact q2.elim
theorem po_lc {X : Cx} {W : WX} {elt iter : Expr} {scope : Scope} {x : Str} {px pos : Pos} {f fe : Rho → Res D} (i : Nat) (hc : X.calm = true) (hN : X.N.Nodup) (ok : BlkOk X.N X.env.scope scope [(x, i)]) (hf : PPE X W iter f)
    (hg : ∀ (s : Shared) (H : Hp) (C : Addr) (cl : List (Str × Addr)) (fp : List Addr), PG (X.blk s H scope (compEnvC scope cl C X.env) fp) (.Name x px) (gName i))
    (he : ∀ (s : Shared) (H : Hp) (C : Addr) (cl : List (Str × Addr)) (fp : List Addr), PPE (X.blk s H scope (compEnvC scope cl C X.env) fp) W0 elt fe) (hs : ∀ x, foldedSetIterable iter X.env x = pure x := by intro _; rfl) :
    PPO X W (.ListComp elt [⟨.Name x px, iter, [], 0⟩] scope pos) (oLc i f fe) :=
  ⟨(pe_lc (te := tP X W0 fe) hc hN (pi_list hf.pe) ok hg (fun _ _ _ _ _ => pts_nil) (fun s H C cl fp => (he s H C cl fp).pe) hs).imp fun σ H Q h => lcP_read (x := x) (iter := iter) i h⟩
end Pu

namespace Pu
open PySem PySem.Spec PyProof.Rows L2
section
variable {X : Cx} {W : WX} {a b e : Expr} {fa fb f fe : Rho → Res D} {pos p : Pos} {x : Str}
def eLenO (i : Nat) (ρ : Rho) : Res D := (ownAt i ρ).bind fun ds => .ok (.int ds.length)
def eIxO (i : Nat) (fb : Rho → Res D) (ρ : Rho) : Res D := (ownAt i ρ).bind fun ds => (fb ρ).bind fun y => dIx (.lst ds) y
theorem ownP {α : Type} {i : Nat} {H0 F H : Hp} {ρ : Rho} {σ : L2.St} {k : List D → Res α} {Q : α → Hp → Hp → Prop} (ok : SOk X.K H0 F H ρ σ) (q : Post X W ((ownAt i ρ).bind k) F H σ Q) :
    ∃ ds p xs, σ[i]? = some (some (.ref p)) ∧ H p = some (.lst xs) ∧ Reps X.K F ds xs ∧ Post X W (k ds) F H σ Q := by
  unfold ownAt at q
  cases e : ρ[i]? with
  | none => rw [e] at q; exact q.elim
  | some sl =>
    rw [e] at q
    cases sl with
    | un => exact q.elim
    | v d => exact q.elim
    | o ds =>
      obtain ⟨p, xs, a, b, c, d, r⟩ := ok.own i ds e
      exact ⟨ds, p, xs, a, d, r, q⟩
theorem pp_lenO (i : Nat) {p2 : Pos} (hm : X.mg "len" = none) (hN : X.N[i]? = some x := by rfl) (hv : Vis X.env.scope x := by first | exact Or.inl rfl | exact Or.inr (Or.inl rfl) | exact Or.inr (Or.inr rfl)) (hd : (x == ("__debug__" : Str)) = false := by decide)
    (hcd : (x == ("__classdict__" : Str)) = false := by decide) (hg : Gl X "len" := by rfl)
    (he : starEach (.Name x p2 :: []) X.env = (false, eval (.Name x p2) X.env) :: starEach [] X.env := by rfl) (hpl : (backTo pos (starEach [] X.env)).any (·.1) = false := by rfl) : PPE X W (.Call (.Name "len" p) [.Name x p2] [] pos) (eLenO i) :=
  ⟨(pe_callB (call_len_seq (X := X)) hg hm PySem.boot_len (pa_cons (pe_var (i := i) hN hv hd hcd) pa_nil he) (by decide) (by decide) he hpl).imp fun σ H Q ⟨H0, ρ, F, s, k, q⟩ => by
    obtain ⟨ds, p, xs, hσ, hp, rs, q⟩ := ownP k q
    exact ⟨.ref p, hσ, p, xs, rfl, .inl (.of hp), Post.at s q _ (by unfold Rep; rw [rs.length])⟩⟩
theorem pp_ixO (i : Nat) {p2 : Pos} (hb : PPE X W b fb) (hN : X.N[i]? = some x := by rfl) (hv : Vis X.env.scope x := by first | exact Or.inl rfl | exact Or.inr (Or.inl rfl) | exact Or.inr (Or.inr rfl)) (hd : (x == ("__debug__" : Str)) = false := by decide)
    (hcd : (x == ("__classdict__" : Str)) = false := by decide) (hs : PlainIx b := by intro _ _; rfl) : PPE X W (.Subscript (.Name x p2) b pos) (eIxO i fb) :=
  ⟨(pe_ix ix_seq (pe_var (i := i) hN hv hd hcd) hb.pe hs).imp fun σ H Q ⟨H0, ρ, F, s, k, q⟩ => by
    obtain ⟨ds, p, xs, hσ, hp, rs, q⟩ := ownP k q
    refine ⟨.ref p, hσ, tP_in s k (Post.bind q |>.mono fun d2 F2 H2 _ e3 q2 e4 y ry => ?_)⟩
    cases d2 <;> first | exact (show False from q2).elim | skip
    rename_i i' _
    have q2 : Post X W (dAt ds i') F2 H2 σ (fun d F' H' => ∀ z, Rep X.K F' d z → Q z H') := q2
    unfold Rep at ry
    unfold dAt at q2
    cases e : atI ds i' with
    | none => rw [e] at q2; exact q2.elim
    | some d =>
      rw [e] at q2
      obtain ⟨z, h1, h2⟩ := (rs.mono e4.f).at e
      exact .inl ⟨p, xs, i', z, rfl, ry, .of (e4.h _ _ hp), h1, Post.at e4.s q2 _ h2⟩⟩
theorem al_nil : ∀ (ρ : Rho) (ds : List D), aNil ρ = .ok ds → ds.length = 0 := fun ρ ds h => by
  unfold aNil at h
  injection h with h
  subst h
  rfl
theorem al_cons {fr : Rho → Res (List D)} {n : Nat} (h : ∀ ρ ds, fr ρ = .ok ds → ds.length = n) : ∀ (ρ : Rho) (ds : List D), aCons fa fr ρ = .ok ds → ds.length = n + 1 := fun ρ ds q => by
  unfold aCons at q
  cases e1 : fa ρ with
  | exc c => rw [e1] at q; cases q
  | stk => rw [e1] at q; cases q
  | ok x =>
    rw [e1] at q
    simp only [Res.bind_ok] at q
    cases e2 : fr ρ with
    | exc c => rw [e2] at q; cases q
    | stk => rw [e2] at q; cases q
    | ok r =>
      rw [e2] at q
      simp only [Res.bind_ok] at q
      injection q with q
      subst q
      rw [List.length_cons, h ρ r e2]
end
/-- y = [elt for x in iter] -/
theorem ps_setLcP {X : Cx} {W : WX} {elt iter : Expr} {scope : Scope} {x y : Str} {px py pos spos : Pos} {f fe : Rho → Res D} (j i : Nat) (hc : X.calm = true) (hN : X.N.Nodup) (ok : BlkOk X.N X.env.scope scope [(x, i)]) (hf : PPE X W iter f)
    (hg : ∀ (s : Shared) (H : Hp) (C : Addr) (cl : List (Str × Addr)) (fp : List Addr), PG (X.blk s H scope (compEnvC scope cl C X.env) fp) (.Name x px) (gName i))
    (he : ∀ (s : Shared) (H : Hp) (C : Addr) (cl : List (Str × Addr)) (fp : List Addr), PPE (X.blk s H scope (compEnvC scope cl C X.env) fp) W0 elt fe)
    (hy : X.N[j]? = some y := by rfl) (hyl : X.env.scope.names.lookup y = some .local := by rfl)
    (hsw : swapsWith (.ListComp elt [⟨.Name x px, iter, [], 0⟩] scope pos) (some (.Name y py)) spos.line X.env = pure true := by exact sw_true rfl rfl rfl (by decide +kernel))
    (hs : ∀ x, foldedSetIterable iter X.env x = pure x := by intro _; rfl) : PPS X W (.Assign [.Name y py] (.ListComp elt [⟨.Name x px, iter, [], 0⟩] scope pos) spos) (gSet j (eO (oLc i f fe))) := by
  refine ⟨fun F0 H0 => ?_⟩
  refine (ps_setLc (i := j) (te := tP X W0 fe) hc hN hy hyl hsw (pi_list hf.pe) ok hg (fun _ _ _ _ _ => pts_nil) (fun s H C cl fp => (he s H C cl fp).pe) hs).imp fun D σ H ⟨ρ, F, e0, k, q⟩ => ?_
  show tLc _ _ _ _ _ σ H (fun x H1 => gName j x σ H1 D.nx)
  refine lcP_read (x := x) (iter := iter) i (fz_read ⟨H0, ρ, F, e0.s, k, ?_⟩)
  exact (PostS.in q e0 k).mono fun d F1 H1 _ _ ⟨q1, e1, k1, _⟩ y ry => PostS.at q1 e1 (k1.set j ry)
/-- the built-in names that the text uses -/
structure Bts (mg : Str → Option Value) : Prop where
  m_len : mg "len" = none
  m_range : mg "range" = none
  m_isinstance : mg "isinstance" = none
  m_int : mg "int" = none
  m_bool : mg "bool" = none
  m_str : mg "str" = none
  m_tuple : mg "tuple" = none
  m_list : mg "list" = none
  m_reversed : mg "reversed" = none
  m_min : mg "min" = none
  m_max : mg "max" = none
  m_sum : mg "sum" = none
  m_zip : mg "zip" = none
end Pu

namespace Pu
open PySem PySem.Spec PyProof.Rows L2
/-- a def of the text as it stands -/
structure DefT (K : Fr) (mg : Str → Option Value) (x : Str) (st : Stmt) (ps : List Str) : Prop where
  ex : ∃ (f : Addr) (fd : FuncData), Fun K x x st f fd ∧ mg x = some (.ref f) ∧ PySem.W.keepIn K (.ref f) = true ∧ ∀ us : List Value, us.length = ps.length → bindArgs fd ⟨us, []⟩ = pure (ps.zip us)
theorem def_mk {K : Fr} {h : Heap} {mg : Str → Option Value} {x : Str} {st : Stmt} {ps : List Str} (X : K.In h) (G : h.Ns mainGlobals mg) {f : Addr} {oc : Value} {od an : Option Addr} {osl : Array (Option Value)} {kV doc pm cdv ct : Value}
    (a : PySem.W.nsIn K mainGlobals x = some (some (.ref f))) (l : K.lookup f = some ⟨oc, od, .func (PySem.W.fnOf x x (defArgs st) (defBody st) (defScope st) .none kV doc pm an cdv ct), osl⟩) (c : PySem.W.codeIn K cdv x = true) (k : PySem.W.keepIn K (.ref f) = true)
    (b : ∀ (kV doc pm : Value) (an : Option Addr) (cdv ct : Value) (us : List Value), us.length = ps.length → bindArgs (PySem.W.fnOf x x (defArgs st) (defBody st) (defScope st) .none kV doc pm an cdv ct) ⟨us, []⟩ = pure (ps.zip us)) : DefT K mg x st ps := by
  have F := fun_mk (x := x) (qual := x) (st := st) l c k
  exact ⟨f, _, F, PySem.W.mg_of X G a, k, b kV doc pm an cdv ct⟩
theorem exc_mk {K : Fr} {h : Heap} {mg : Str → Option Value} {c : String} (X : K.In h) (G : h.Ns mainGlobals mg) {C : Addr} (a : PySem.W.nsIn K mainGlobals (Str.ofString c) = some (some (.ref C)))
    (q : PySem.W.excIn K C [.type "ValueError", .type "Exception", .type "BaseException", .type "object"] "ValueError.__new__" = true) (k : PySem.W.keepIn K (.ref C) = true) (b : PySem.W.subIn K (.ref C) (.type "BaseException") = some true) (t : PySem.W.typeIn K (.ref C) = some (.type "type")) : ExcT K mg c :=
  ⟨C, PySem.W.mg_of X G a, q, k, b, t⟩
theorem glob_mk {K : Fr} {h : Heap} {mg : Str → Option Value} {x : Str} {i : Int} {t : Tok} (X : K.In h) (G : h.Ns mainGlobals mg) (a : PySem.W.nsIn K mainGlobals x = some (some (.int i t))) : ∃ t, mg x = some (.int i t) :=
  ⟨t, PySem.W.mg_of X G a⟩
section
variable {P : Program} {w : World} {K : Fr} {mg : Str → Option Value} {base : Heap} {x : Str} {st : Stmt} {ps : List Str}
theorem DefT.step {n k : Nat} {φ : List D → Res D} (d : DefT K mg x st ps) (h : ∀ {f : Addr} {fd : FuncData}, Fun K x x st f fd → FnOk P w K mg base (L2.CX P w) k f fd ps (spP K mg n φ)) : Cal P w K mg base k x n φ := by
  obtain ⟨f, fd, F, m, kp, b⟩ := d.ex
  exact ⟨f, fd, ps, h F, m, kp, .all b⟩
theorem DefT.zero {n : Nat} (d : DefT K mg x st ps) : Cal P w K mg base 0 x n (fun _ => .stk) :=
  d.step fun _ => ⟨fun _ _ _ _ ⟨_, _, _, _, _, q⟩ => q.elim, fun _ _ _ _ _ _ _ _ _ _ _ _ _ ⟨_, _, _, _, _, q⟩ => q.elim⟩
end
/-- a law's promise -/
def spLaw (K : Fr) : Sp := fun vs H Q _ => ∃ (a : Addr) (ns : List Int), vs = [.ref a] ∧ SqL K H a (ns.map V.int) ∧ ns.length ≤ 63 ∧ ∀ H', Q (.bl true) H'
theorem cx_false {P : Program} {w : World} {l : List Env} {H : Hp} {s s' : Shared} {e : Value} (h : L2.CX P w l H s (fun _ _ _ => False) e s') : False := by
  obtain ⟨_, _, _, _, _, _, _, _, _, _, _, _, z⟩ := h
  exact z
theorem law_end {P : Program} {w : World} {K : Fr} {mg : Str → Option Value} {st : Stmt} {x y : Str} {k : Nat} {φ : List D → Res D} {fa : Addr} (d : DefT K mg x st [y]) (hfa : mg x = some (.ref fa))
    (hb : ∀ base : Heap, K.In base → base.Ns mainGlobals mg → ∀ (f : Addr) (fd : FuncData), Fun K x x st f fd → FnOk P w K mg base (L2.CX P w) k f fd [y] (spP K mg 1 φ)) (ht : ∀ ns : List Int, ns.length ≤ 63 → φ [.scr ns] = .ok (.bl true)) :
    ∃ fd : FuncData, (∀ (s : Shared) (u : Value), BindsTo s fd ⟨[u], []⟩ [(y, u)]) ∧ ∀ base : Heap, K.In base → base.Ns mainGlobals mg → FnOk P w K mg base (L2.CX P w) k fa fd [y] (spLaw K) := by
  obtain ⟨f, fd, F, m, kp, b⟩ := d.ex
  have e : f = fa := by rw [hfa] at m; cases m; rfl
  subst e
  refine ⟨fd, fun s u => .of_eq (b [u] rfl), fun base k1 k2 => (hb base k1 k2 _ _ F).imp fun vs H Q E ⟨a, ns, e1, h1, h2, h3⟩ => ?_⟩
  subst e1
  refine ⟨H, [.scr ns], Same.refl H, Reps.cons ?_ Reps.nil, rfl, ?_⟩
  · unfold Rep
    exact ⟨a, rfl, h1⟩
  · rw [ht ns h2]
    exact fun x F' H' _ r => by
      unfold Rep at r
      rw [r]
      exact h3 H'
end Pu

namespace Pu
open PySem PySem.Spec PyProof.Rows L2
def noX : SRes → SRes
  | .exc _ _ => .stk
  | o => o
/-- cl: of the classes that may come, whether the clause names them -/
def gTry (cl : String → Option Bool) (g h : Rho → SRes) (ρ : Rho) : SRes := match g ρ with
  | .exc c ρ' => match cl c with
    | some true => noX (h ρ')
    | some false => .exc c ρ'
    | none => .stk
  | o => o
/-- what an except clause of the class c says of an error of the class c' -/
structure ExmT (K : Fr) (mg : Str → Option Value) (c' c : String) (b : Bool) : Prop where
  ex : ∃ A C, mg (Str.ofString c') = some (.ref A) ∧ mg (Str.ofString c) = some (.ref C) ∧ PySem.W.exmOne K (.ref A) (.ref C) = some b
theorem exm_any {K : PySem.W.Frag} {A S : Addr} {b : Bool} (h1 : PySem.W.subIn K (.ref S) (.type "BaseException") = some true) (h2 : PySem.W.isClsIn K S = true) (h3 : PySem.W.typeIn K (.ref S) = some (.type "type")) (h4 : PySem.W.subIn K (.ref A) (.ref S) = some b) :
    PySem.W.exmOne K (.ref A) (.ref S) = some b := by
  have e1 : (PySem.W.subIn K (.ref S) (.type "BaseException") == some true) = true := by rw [h1] <;> rfl
  have e2 : ((PySem.W.clsIn K S).isSome && PySem.W.typeIn K (.ref S) == some (.type "type")) = true := by
    have h2' : (PySem.W.clsIn K S).isSome = true := h2
    rw [h2', h3] <;> rfl
  show (if (PySem.W.subIn K (.ref S) (.type "BaseException") == some true) = true then (if ((PySem.W.clsIn K S).isSome && PySem.W.typeIn K (.ref S) == some (.type "type")) = true then PySem.W.subIn K (.ref A) (.ref S) else none) else none) = some b
  rw [if_pos e1, if_pos e2]
  exact h4
theorem exm_mk {K : Fr} {h : Heap} {mg : Str → Option Value} {c' c : String} {b : Bool} (X : K.In h) (G : h.Ns mainGlobals mg) {A C : Addr} (a : PySem.W.nsIn K mainGlobals (Str.ofString c') = some (some (.ref A))) (a2 : PySem.W.nsIn K mainGlobals (Str.ofString c) = some (some (.ref C)))
    (h1 : PySem.W.subIn K (.ref C) (.type "BaseException") = some true) (h2 : PySem.W.isClsIn K C = true) (h3 : PySem.W.typeIn K (.ref C) = some (.type "type")) (h4 : PySem.W.subIn K (.ref A) (.ref C) = some b) : ExmT K mg c' c b :=
  ⟨A, C, PySem.W.mg_of X G a, PySem.W.mg_of X G a2, exm_any h1 h2 h3 h4⟩
/-- the clause's word, for all classes that may come -/
def ClOk (K : Fr) (mg : Str → Option Value) (cl : String → Option Bool) (C : Addr) : Prop := ∀ c' b, cl c' = some b → ∀ A, mg (Str.ofString c') = some (.ref A) → PySem.W.exmOne K (.ref A) (.ref C) = some b
section
variable {X : Cx} {W : WX} {F0 H0 F : Hp} {D : Ends} {ρ : Rho}
theorem postS_noX {r : SRes} (W' : WX) (q : PostS X W F0 H0 (noX r) F D) : PostS X W' F0 H0 r F D := by
  cases r with
  | nx ρ => exact q
  | rt d => exact q
  | exc c ρ => exact q.elim
  | stk => exact q
/-- from the try's end to its body's -/
theorem try_read {g h : Rho → SRes} {cl : String → Option Bool} {W' : WX} (q : PostS X W F0 H0 (gTry cl g h ρ) F D)
    (hyes : ∀ c ρ', cl c = some true → PostS X W F0 H0 (noX (h ρ')) F D → ∀ A σ' F' H', X.mg (Str.ofString c) = some (.ref A) → Ext F0 H0 F' H' → Same F F' → SOk X.K H0 F' H' ρ' σ' → W' (.ref A) none σ' H')
    (hno : ∀ c, cl c = some false → ∀ A σ' H', X.mg (Str.ofString c) = some (.ref A) → W (.ref A) none σ' H' → W' (.ref A) none σ' H') : PostS X W' F0 H0 (g ρ) F D := by
  unfold gTry at q
  cases e : g ρ with
  | nx ρ' => rw [e] at q; exact q
  | rt d => rw [e] at q; exact q
  | stk => rw [e] at q; exact q
  | exc c ρ' =>
    rw [e] at q
    simp only at q
    intro A σ' F' H' m ex s k
    cases ec : cl c with
    | none => rw [ec] at q; exact q.elim
    | some b =>
      rw [ec] at q
      cases b with
      | true => exact hyes c ρ' ec q A σ' F' H' m ex s k
      | false => exact hno c ec A σ' H' m (q A σ' F' H' m ex s k)
end
section
variable {X : Cx} {W : WX} {body suite : List Stmt} {b₀ : Stmt} {np pos pos' : Pos} {g h : Rho → SRes}
/-- try: body, except x: suite -/
theorem ps_tryP {x : String} {C : Addr} (cl : String → Option Bool) (tk : Takes X W) (hC : X.mg (Str.ofString x) = some (.ref C)) (hcl : ClOk X.K X.mg cl C)
    (hb : ∀ (W' : WX) (pn : List (Addr × Obj)) (xe : Value → Shared → Prop), Takes (X.tr pn xe) W' → PassesOwn (model X.prog X.w) X.A X.env xe → PPSs (X.tr pn xe) W' body g)
    (hsu : ∀ (a : Addr) (oe : Obj) (pn : List (Addr × Obj)), PPSs (X.suite a ((a, oe) :: pn)) W0 (b₀ :: suite) h)
    (hs : X.stack = X.env :: X.outer := by rfl) (hf : X.env.frame = some X.env.locals := by rfl) (hg : Gl X (Str.ofString x) := by rfl) (hdb : (Str.ofString x == ("__debug__" : Str)) = false := by decide) :
    PPS X W (.Try body [.ExceptHandler (some (.Name (Str.ofString x) np)) none (b₀ :: suite) pos'] [] [] pos) (gTry cl g h) :=
  ⟨fun F0 H0 => (ps_try_only (tb := fun W' => tPS X W' F0 H0 g) (ts := fun _ _ _ => tPS X W0 F0 H0 h) hs hf ⟨hg, hdb, .inl hC⟩ tk (fun W' pn xe tk' hp' => (hb W' pn xe tk' hp').ps F0 H0) (fun a oe cls d pn _ _ => (hsu a oe pn).ps F0 H0)).imp
    fun D σ H ⟨ρ, F, e0, k, q⟩ => ⟨ρ, F, e0, k, try_read q (fun c ρ' ec q A σ' F' H' m ex s k' => ⟨true, hcl c true ec A m, fun _ a _ => ⟨ρ', F', ex, k', (postS_noX W0 q).mono s⟩, fun z => (nomatch z)⟩)
      (fun c ec A σ' H' m w => ⟨false, hcl c false ec A m, fun z => (nomatch z), fun _ => w⟩)⟩⟩
/-- .. except x as n: a suite that returns what the error's class says -/
def gTryR (i : Nat) (cl : String → Option Bool) (dv : String → D) (g : Rho → SRes) (ρ : Rho) : SRes := match g ρ with
  | .exc c ρ' => match cl c with
    | some true => if i < ρ'.length then .rt (dv c) else .stk
    | some false => .exc c ρ'
    | none => .stk
  | o => o
theorem ps_tryRP {x : String} {n : Str} {C : Addr} (i : Nat) (cl : String → Option Bool) (dv : String → D) (vv : String → V) (hrep : ∀ c K F, Rep K F (dv c) (vv c)) (tk : Takes X W) (hC : X.mg (Str.ofString x) = some (.ref C)) (hcl : ClOk X.K X.mg cl C)
    (hb : ∀ (W' : WX) (pn : List (Addr × Obj)) (xe : Value → Shared → Prop), Takes (X.tr pn xe) W' → PassesOwn (model X.prog X.w) X.A X.env xe → PPSs (X.tr pn xe) W' body g)
    (hsu : ∀ (a : Addr) (oe : Obj) (c : String) (A : Addr) (pn : List (Addr × Obj)), cl c = some true → X.mg (Str.ofString c) = some (.ref A) → Zc (.ref A) none oe → (∃ vs, oe.data = .fields vs) →
      PSs (X.suite a ((a, oe) :: pn)) (b₀ :: suite) (fun D σ H => σ[i]? = some (some (.ref a)) ∧ ∀ H', Same H H' → D.rt (vv c) H'))
    (hN : X.N.Nodup) (hi : X.N[i]? = some n := by rfl) (hln : X.env.kindOf n = some .local := by rfl)
    (hs : X.stack = X.env :: X.outer := by rfl) (hf : X.env.frame = some X.env.locals := by rfl) (hg : Gl X (Str.ofString x) := by rfl) (hdb : (Str.ofString x == ("__debug__" : Str)) = false := by decide) :
    PPS X W (.Try body [.ExceptHandler (some (.Name (Str.ofString x) np)) (some n) (b₀ :: suite) pos'] [] [] pos) (gTryR i cl dv g) :=
  ⟨fun F0 H0 => (ps_try_as (i := i) (tb := fun W' => tPS X W' F0 H0 g)
    (ts := fun a cls d D σ H => ∃ c A, cl c = some true ∧ X.mg (Str.ofString c) = some (.ref A) ∧ cls = .ref A ∧ d = none ∧ σ[i]? = some (some (.ref a)) ∧ ∀ H', Same H H' → D.rt (vv c) H') hs hf hN hi hln ⟨hg, hdb, .inl hC⟩ tk (fun W' pn xe tk' hp' => (hb W' pn xe tk' hp').ps F0 H0)
    (fun a oe cls d pn hz hd => ⟨fun pins s σ H D I ⟨c, A, ec, m, e1, e2, e3, q⟩ => by
      subst e1 e2
      exact (hsu a oe c A pn ec m hz hd).run pins s σ H D I ⟨e3, q⟩⟩)).imp
    fun D σ H ⟨ρ, F, e0, k, q⟩ => ⟨ρ, F, e0, k, by
      unfold gTryR at q
      cases e : g ρ with
      | nx ρ' => rw [e] at q; exact q
      | rt d => rw [e] at q; exact q
      | stk => rw [e] at q; exact q
      | exc c ρ' =>
        rw [e] at q
        simp only at q
        intro A σ' F' H' m ex s k'
        cases ec : cl c with
        | none => rw [ec] at q; exact q.elim
        | some b =>
          rw [ec] at q
          cases b with
          | true =>
            simp only at q
            by_cases hl : i < ρ'.length
            · rw [if_pos hl] at q
              exact ⟨true, hcl c true ec A m, fun _ a _ => ⟨c, A, ec, m, rfl, rfl, List.getElem?_set_self (by rw [← k'.len]; exact hl), fun H'' sh => q (vv c) F' H'' (ex.trans (Ext.grow ex.s sh)) (hrep c _ _)⟩, fun z => (nomatch z)⟩
            · rw [if_neg hl] at q; exact q.elim
          | false => exact ⟨false, hcl c false ec A m, fun z => (nomatch z), fun _ => q A σ' F' H' m ex s k'⟩⟩⟩
end
end Pu

namespace Pu
open PySem PySem.Spec PyProof.Rows L2
structure EcT (K : Fr) (mg : Str → Option Value) (c : String) : Prop where
  ex : ∃ A, mg (Str.ofString c) = some (.ref A) ∧ ExcC K A
theorem ec_mk {K : Fr} {h : Heap} {mg : Str → Option Value} {c : String} {D : Addr} (X : K.In h) (G : h.Ns mainGlobals mg) (a : PySem.W.nsIn K mainGlobals (Str.ofString c) = some (some (.ref D)))
    (hg : PySem.W.findIn K (.ref D) "__getattribute__" = some (some (.builtin "BaseException.__getattribute__"))) (hk : PySem.W.findIn K (.ref D) "__getattr__" = some none) (hs : PySem.W.subIn K (.ref D) (.type "BaseException") = some true) (hd : PySem.W.hasDictIn K D = true)
    (ha : PySem.W.findIn K (.ref D) "__class__" = some (some (.builtin "object.__class__"))) (hn : PySem.W.specialIn K (.builtin "object.__class__") "__get__" = some (some (.builtin "getset_descriptor.__get__"))) (ht : PySem.W.takesIn K (.builtin "object.__class__") = some true) (hm : PySem.W.mroIn K D (.type "object") = some true) : EcT K mg c :=
  ⟨D, PySem.W.mg_of X G a, ⟨hg, hk, hs, hd, ha, hn, ht, hm⟩⟩
/-- isinstance(an error of the class c', c) -/
structure KitT (K : Fr) (mg : Str → Option Value) (c' c : String) (b : Bool) : Prop where
  ex : ∃ A C, mg (Str.ofString c') = some (.ref A) ∧ mg (Str.ofString c) = some (.ref C) ∧ PySem.W.kitOne K (.ref A) (.ref C) = some b
structure KitV (K : Fr) (mg : Str → Option Value) (c' : String) (T : String) (b : Bool) : Prop where
  ex : ∃ A, mg (Str.ofString c') = some (.ref A) ∧ PySem.W.kitOne K (.ref A) (.type T) = some b
theorem kit_other {K : PySem.W.Frag} {A S : Addr} {b : Bool} (hne : A ≠ S) (h2 : PySem.W.isClsIn K S = true) (h3 : PySem.W.typeIn K (.ref S) = some (.type "type")) (h4 : PySem.W.subIn K (.ref A) (.ref S) = some b) : PySem.W.kitOne K (.ref A) (.ref S) = some b := by
  have e2 : ((PySem.W.clsIn K S).isSome && PySem.W.typeIn K (.ref S) == some (.type "type")) = true := by
    have h2' : (PySem.W.clsIn K S).isSome = true := h2
    rw [h2', h3] <;> rfl
  unfold PySem.W.kitOne
  rw [if_neg (by intro z; exact hne (by simpa using z))]
  show (if ((PySem.W.clsIn K S).isSome && PySem.W.typeIn K (.ref S) == some (.type "type")) = true then PySem.W.subIn K (.ref A) (.ref S) else none) = some b
  rw [if_pos e2]
  exact h4
theorem kit_mk {K : Fr} {h : Heap} {mg : Str → Option Value} {c' c : String} {b : Bool} (X : K.In h) (G : h.Ns mainGlobals mg) {A C : Addr} (a : PySem.W.nsIn K mainGlobals (Str.ofString c') = some (some (.ref A))) (a2 : PySem.W.nsIn K mainGlobals (Str.ofString c) = some (some (.ref C)))
    (hne : A ≠ C) (h2 : PySem.W.isClsIn K C = true) (h3 : PySem.W.typeIn K (.ref C) = some (.type "type")) (h4 : PySem.W.subIn K (.ref A) (.ref C) = some b) : KitT K mg c' c b :=
  ⟨A, C, PySem.W.mg_of X G a, PySem.W.mg_of X G a2, kit_other hne h2 h3 h4⟩
theorem kitV_mk {K : Fr} {h : Heap} {mg : Str → Option Value} {c' T : String} {b : Bool} (X : K.In h) (G : h.Ns mainGlobals mg) {A : Addr} (a : PySem.W.nsIn K mainGlobals (Str.ofString c') = some (some (.ref A)))
    (hk : PySem.W.kitMeta T = true) (h4 : PySem.W.subIn K (.ref A) (.type T) = some b) : KitV K mg c' T b := by
  refine ⟨A, PySem.W.mg_of X G a, ?_⟩
  unfold PySem.W.kitOne
  rw [if_neg (by intro z; simp at z)]
  show (if PySem.W.kitMeta T = true then PySem.W.subIn K (.ref A) (.type T) else none) = some b
  rw [if_pos hk]
  exact h4
/-- isinstance(e, (c1, c2, ..)), e the exception that the suite holds -/
def rIsET (K : PySem.W.Frag) (D a : Addr) : List V → Hp → VK → Prop := fun xs H Q => ∃ (tp : Addr) (cs : List V) (us : List Value) (b : Bool), xs = [.ref a, .ref tp] ∧ H tp = some (.tup cs) ∧ Paired ClsV cs us ∧ PySem.W.kitAny K (.ref D) us = some b ∧ Q (.bl b) H
theorem call_isET {X : Cx} {a D : Addr} {oe : Obj} {pn : List (Addr × Obj)} (C : ExcC X.K D) (hz : Zc (.ref D) none oe) (hf : ∃ vs, oe.data = .fields vs) : CallR (X.suite a ((a, oe) :: pn)) (.builtin "isinstance") (rIsET X.K D a) := by
  intro pins s σ H xs us Q I r h
  obtain ⟨tp, cs, ws, b, rfl, hT, k, e, q⟩ := h
  obtain ⟨u1, u2, rfl, r1, r2⟩ := vals2 r
  cases r1
  cases (show u2 = Value.ref tp from r2)
  obtain ⟨hget, _⟩ := I.pin (a, oe) (List.mem_append.mpr (.inl List.mem_cons_self))
  obtain ⟨vs, hv⟩ := hf
  have J : PySem.W.InstAt s.heap a oe D none := by
    obtain ⟨oc, od, oda, osl⟩ := oe
    obtain ⟨h1, h2⟩ := hz
    dsimp only at h1 h2 hv
    subst h1 h2 hv
    exact ⟨hget, rfl, rfl, trivial⟩
  obtain ⟨_, its, rv, o, h1, h2, n, h3⟩ := (show ObjOk X.prog X.w H s.heap tp (.tup cs) from I.hok tp _ hT)
  have e3 := ClsV.all k rv
  subst e3
  obtain ⟨oc, od, dt, sl⟩ := o
  simp only at h2 h3
  subst h2 h3
  exact PySem.W.kia_tup (PySem.W.handS_kitx_exc C.hg C.hk C.hs C.hd C.ha C.hn C.ht C.hm) I.kIn J h1 e (fun z => nomatch z) fun tk => ⟨.bl b, H, I.kept (t' := tk) fun _ _ z => z, rfl, q⟩
section
variable {X : Cx} {a D : Addr} {oe : Obj} {pn : List (Addr × Obj)} {i : Nat} {x : Str} {p p1 p2 pos : Pos}
def tIsE (i : Nat) (a : Addr) (b : Bool) : TE := fun σ H Q => σ[i]? = some (some (.ref a)) ∧ Q (.bl b) H
/-- c an own class -/
theorem pe_isE {c' c : String} {b : Bool} (i : Nat) (ec : EcT X.K X.mg c') (hD : X.mg (Str.ofString c') = some (.ref D)) (hz : Zc (.ref D) none oe) (hf : ∃ vs, oe.data = .fields vs) (k : KitT X.K X.mg c' c b) (hm : X.mg "isinstance" = none)
    (hN : X.N[i]? = some x := by rfl) (hv : Vis X.env.scope x := by first | exact Or.inl rfl | exact Or.inr (Or.inl rfl) | exact Or.inr (Or.inr rfl)) (hd : (x == ("__debug__" : Str)) = false := by decide) (hcd : (x == ("__classdict__" : Str)) = false := by decide)
    (hg : Gl X "isinstance" := by rfl) (hg2 : Gl X (Str.ofString c) := by rfl) (hd2 : (Str.ofString c == ("__debug__" : Str)) = false := by decide)
    (he : starEach (.Name x p1 :: [.Name (Str.ofString c) p2]) X.env = (false, eval (.Name x p1) X.env) :: starEach [.Name (Str.ofString c) p2] X.env := by rfl) :
    PE (X.suite a ((a, oe) :: pn)) (.Call (.Name "isinstance" p) [.Name x p1, .Name (Str.ofString c) p2] [] pos) (tIsE i a b) := by
  obtain ⟨D', m', E⟩ := ec.ex
  rw [hD] at m'; cases m'
  obtain ⟨A, C, m1, m2, kk⟩ := k.ex
  rw [hD] at m1; cases m1
  refine (pe_callB (X := X.suite a ((a, oe) :: pn)) (call_isE E hz hf) hg hm (by decide +kernel) (pa_cons (pe_var (i := i) hN hv hd hcd) (pa_cons (pe_glob (v := .ref C) hg2 m2 rfl hd2) pa_nil rfl) he) (by decide) (by decide) he rfl).imp fun σ H Q ⟨h1, h2⟩ => ?_
  exact ⟨_, h1, .ref C, _, b, rfl, fun u r => r, kk, h2⟩
/-- c a built-in class -/
theorem pe_isEV {c' T : String} {b : Bool} (i : Nat) (ec : EcT X.K X.mg c') (hD : X.mg (Str.ofString c') = some (.ref D)) (hz : Zc (.ref D) none oe) (hf : ∃ vs, oe.data = .fields vs) (k : KitV X.K X.mg c' T b) (hm : X.mg "isinstance" = none) (hm2 : X.mg (Str.ofString T) = none)
    (hv2 : bootBuiltins (Str.ofString T) = some (.type T) := by decide +kernel)
    (hN : X.N[i]? = some x := by rfl) (hv : Vis X.env.scope x := by first | exact Or.inl rfl | exact Or.inr (Or.inl rfl) | exact Or.inr (Or.inr rfl)) (hd : (x == ("__debug__" : Str)) = false := by decide) (hcd : (x == ("__classdict__" : Str)) = false := by decide)
    (hg : Gl X "isinstance" := by rfl) (hg2 : Gl X (Str.ofString T) := by rfl) (hn2 : Str.ofString T ≠ "__name__" := by decide) (hd2 : (Str.ofString T == ("__debug__" : Str)) = false := by decide)
    (he : starEach (.Name x p1 :: [.Name (Str.ofString T) p2]) X.env = (false, eval (.Name x p1) X.env) :: starEach [.Name (Str.ofString T) p2] X.env := by rfl) :
    PE (X.suite a ((a, oe) :: pn)) (.Call (.Name "isinstance" p) [.Name x p1, .Name (Str.ofString T) p2] [] pos) (tIsE i a b) := by
  obtain ⟨D', m', E⟩ := ec.ex
  rw [hD] at m'; cases m'
  obtain ⟨A, m1, kk⟩ := k.ex
  rw [hD] at m1; cases m1
  refine (pe_callB (X := X.suite a ((a, oe) :: pn)) (call_isE E hz hf) hg hm (by decide +kernel) (pa_cons (pe_var (i := i) hN hv hd hcd) (pa_cons (pe_bltn (v := .ty T) hg2 hm2 hv2 rfl hn2 hd2) pa_nil rfl) he) (by decide) (by decide) he rfl).imp fun σ H Q ⟨h1, h2⟩ => ?_
  exact ⟨_, h1, .ty T, _, b, rfl, fun u r => r, kk, h2⟩
/-- written own classes -/
inductive ClsEs (X : Cx) (c' : String) : List Expr → List V → List Value → Bool → Prop
  | nil : ClsEs X c' [] [] [] false
  | cons {c : String} {C : Addr} {p : Pos} {es : List Expr} {vs : List V} {us : List Value} {b : Bool} (m : X.mg (Str.ofString c) = some (.ref C)) (hg : Gl X (Str.ofString c)) (hd : (Str.ofString c == ("__debug__" : Str)) = false)
      (k : ∀ A, X.mg (Str.ofString c') = some (.ref A) → ∃ b1, PySem.W.kitOne X.K (.ref A) (.ref C) = some b1 ∧ (b1 = false)) (hs : starEach (.Name (Str.ofString c) p :: es) X.env = (false, eval (.Name (Str.ofString c) p) X.env) :: starEach es X.env) (r : ClsEs X c' es vs us b) :
      ClsEs X c' (.Name (Str.ofString c) p :: es) (.ref C :: vs) (.ref C :: us) b
theorem ClsEs.pa {Y : Cx} (hY : Y.mg = X.mg) (hE : Y.env = X.env) {c' : String} : ∀ {es : List Expr} {vs : List V} {us : List Value} {b : Bool}, ClsEs X c' es vs us b → PA Y es (fun _ H Q => Q vs H)
  | _, _, _, _, .nil => pa_nil.imp fun σ H Q q => q
  | _, _, _, _, .cons m hg hd k hs r => (pa_cons (pe_glob (v := .ref _) (by unfold Gl at hg ⊢; rw [hE]; exact hg) (by rw [hY]; exact m) rfl hd) (ClsEs.pa hY hE r) (by rw [hE]; exact hs)).imp fun σ H Q q => q
theorem ClsEs.any {c' : String} {A : Addr} (hA : X.mg (Str.ofString c') = some (.ref A)) : ∀ {es : List Expr} {vs : List V} {us : List Value} {b : Bool}, ClsEs X c' es vs us b → PySem.W.kitAny X.K (.ref A) us = some false ∧ Paired ClsV vs us
  | _, _, _, _, .nil => ⟨rfl, .nil⟩
  | _, _, _, _, .cons m hg hd k hs r => by
    obtain ⟨b1, h1, h2⟩ := k A hA
    subst h2
    obtain ⟨h3, h4⟩ := ClsEs.any hA r
    refine ⟨?_, .cons (.own _) h4⟩
    unfold PySem.W.kitAny
    rw [h1]
    exact h3
theorem ClsEs.len {c' : String} : ∀ {es : List Expr} {vs : List V} {us : List Value} {b : Bool}, ClsEs X c' es vs us b → vs.length = es.length
  | _, _, _, _, .nil => rfl
  | _, _, _, _, .cons m hg hd k hs r => by rw [List.length_cons, List.length_cons, ClsEs.len r]
theorem pe_isET {c' : String} {es : List Expr} {vs : List V} {us : List Value} {b : Bool} {k3 : Nat} {p3 : Pos} (i : Nat) (ec : EcT X.K X.mg c') (hD : X.mg (Str.ofString c') = some (.ref D)) (hz : Zc (.ref D) none oe) (hf : ∃ vs, oe.data = .fields vs) (ce : ClsEs X c' es vs us b) (hl : es.length ≤ 20) (hm : X.mg "isinstance" = none)
    (hN : X.N[i]? = some x := by rfl) (hv : Vis X.env.scope x := by first | exact Or.inl rfl | exact Or.inr (Or.inl rfl) | exact Or.inr (Or.inr rfl)) (hd : (x == ("__debug__" : Str)) = false := by decide) (hcd : (x == ("__classdict__" : Str)) = false := by decide)
    (hg : Gl X "isinstance" := by rfl)
    (he : starEach (.Name x p1 :: [.Tuple es k3 p3]) X.env = (false, eval (.Name x p1) X.env) :: starEach [.Tuple es k3 p3] X.env := by rfl) :
    PE (X.suite a ((a, oe) :: pn)) (.Call (.Name "isinstance" p) [.Name x p1, .Tuple es k3 p3] [] pos) (fun σ H Q => σ[i]? = some (some (.ref a)) ∧ ∀ H', Same H H' → Q (.bl false) H') := by
  obtain ⟨D', m', E⟩ := ec.ex
  rw [hD] at m'; cases m'
  obtain ⟨k1, k2⟩ := ce.any hD
  refine (pe_callB (X := X.suite a ((a, oe) :: pn)) (call_isET E hz hf) hg hm (by decide +kernel) (pa_cons (pe_var (i := i) hN hv hd hcd) (pa_cons (pe_tup (ClsEs.pa (X := X) (Y := X.suite a ((a, oe) :: pn)) rfl rfl ce)) pa_nil rfl) he) (by decide) (by decide) he rfl).imp fun σ H Q ⟨h1, h2⟩ => ?_
  refine ⟨_, h1, ?_, fun tp ntp => ?_⟩
  · rw [ce.len, sizeLine_eq]; omega
  · exact ⟨tp, vs, us, false, rfl, upd_same, k2, k1, h2 _ (same_upd ntp)⟩
theorem cls_nil {c' : String} : ∃ vs us, ClsEs X c' [] vs us false := ⟨_, _, .nil⟩
theorem cls_cons {c' c : String} {p : Pos} {es : List Expr} (k : KitT X.K X.mg c' c false) (r : ∃ vs us, ClsEs X c' es vs us false) (hg : Gl X (Str.ofString c) := by rfl) (hd : (Str.ofString c == ("__debug__" : Str)) = false := by decide)
    (hs : starEach (.Name (Str.ofString c) p :: es) X.env = (false, eval (.Name (Str.ofString c) p) X.env) :: starEach es X.env := by rfl) : ∃ vs us, ClsEs X c' (.Name (Str.ofString c) p :: es) vs us false := by
  obtain ⟨A, C, m1, m2, kk⟩ := k.ex
  obtain ⟨vs, us, r⟩ := r
  exact ⟨_, _, .cons m2 hg hd (fun A' h => by rw [m1] at h; cases h; exact ⟨false, kk, rfl⟩) hs r⟩
theorem pe_isET' {c' : String} {es : List Expr} {k3 : Nat} {p3 : Pos} (i : Nat) (ec : EcT X.K X.mg c') (hD : X.mg (Str.ofString c') = some (.ref D)) (hz : Zc (.ref D) none oe) (hf : ∃ vs, oe.data = .fields vs) (ce : ∃ vs us, ClsEs X c' es vs us false) (hm : X.mg "isinstance" = none) (hl : es.length ≤ 20 := by decide)
    (hN : X.N[i]? = some x := by rfl) (hv : Vis X.env.scope x := by first | exact Or.inl rfl | exact Or.inr (Or.inl rfl) | exact Or.inr (Or.inr rfl)) (hd : (x == ("__debug__" : Str)) = false := by decide) (hcd : (x == ("__classdict__" : Str)) = false := by decide)
    (hg : Gl X "isinstance" := by rfl)
    (he : starEach (.Name x p1 :: [.Tuple es k3 p3]) X.env = (false, eval (.Name x p1) X.env) :: starEach [.Tuple es k3 p3] X.env := by rfl) :
    PE (X.suite a ((a, oe) :: pn)) (.Call (.Name "isinstance" p) [.Name x p1, .Tuple es k3 p3] [] pos) (fun σ H Q => σ[i]? = some (some (.ref a)) ∧ ∀ H', Same H H' → Q (.bl false) H') := by
  obtain ⟨vs, us, ce⟩ := ce
  exact pe_isET i ec hD hz hf ce hl hm hN hv hd hcd hg he
end
/-- the classes that may come, and what the clause says of each -/
def clOf (l : List (String × Bool)) (c : String) : Option Bool := l.lookup c
theorem clOf_one {c' c : String} {b : Bool} (h : clOf [(c', b)] c = some true) : c = c' := by
  unfold clOf at h
  rw [List.lookup_cons] at h
  cases e : (c == c') with
  | true => simpa using e
  | false => rw [e] at h; cases h
structure ClT (K : Fr) (mg : Str → Option Value) (c : String) (l : List (String × Bool)) : Prop where
  ex : ∃ C, mg (Str.ofString c) = some (.ref C) ∧ ClOk K mg (clOf l) C
theorem clT_nil {K : Fr} {mg : Str → Option Value} {c c' : String} {b : Bool} (e : ExmT K mg c' c b) : ClT K mg c [] := by
  obtain ⟨A, C, m1, m2, k⟩ := e.ex
  exact ⟨C, m2, fun c' b h => by cases h⟩
theorem clT_cons {K : Fr} {mg : Str → Option Value} {c c' : String} {b : Bool} {l : List (String × Bool)} (e : ExmT K mg c' c b) (r : ClT K mg c l) : ClT K mg c ((c', b) :: l) := by
  obtain ⟨A, C, m1, m2, k⟩ := e.ex
  obtain ⟨C', m3, k3⟩ := r.ex
  rw [m2] at m3; cases m3
  refine ⟨C, m2, fun d b' h A' hA => ?_⟩
  unfold clOf at h
  rw [List.lookup_cons] at h
  cases ed : (d == c') with
  | true =>
    rw [ed] at h
    have e1 : d = c' := by simpa using ed
    subst e1
    cases h
    rw [m1] at hA; cases hA
    exact k
  | false =>
    rw [ed] at h
    exact k3 d b' h A' hA
section
variable {X : Cx} {W : WX} {body suite : List Stmt} {b₀ : Stmt} {np pos pos' : Pos} {g h : Rho → SRes}
theorem ps_tryT {x : String} {l : List (String × Bool)} (t : ClT X.K X.mg x l) (tk : Takes X W)
    (hb : ∀ (W' : WX) (pn : List (Addr × Obj)) (xe : Value → Shared → Prop), Takes (X.tr pn xe) W' → PassesOwn (model X.prog X.w) X.A X.env xe → PPSs (X.tr pn xe) W' body g)
    (hsu : ∀ (a : Addr) (oe : Obj) (pn : List (Addr × Obj)), PPSs (X.suite a ((a, oe) :: pn)) W0 (b₀ :: suite) h)
    (hs : X.stack = X.env :: X.outer := by rfl) (hf : X.env.frame = some X.env.locals := by rfl) (hg : Gl X (Str.ofString x) := by rfl) (hdb : (Str.ofString x == ("__debug__" : Str)) = false := by decide) :
    PPS X W (.Try body [.ExceptHandler (some (.Name (Str.ofString x) np)) none (b₀ :: suite) pos'] [] [] pos) (gTry (clOf l) g h) := by
  obtain ⟨C, m, k⟩ := t.ex
  exact ps_tryP (clOf l) tk m k hb hsu hs hf hg hdb
theorem ps_tryRT {x : String} {l : List (String × Bool)} {n : Str} (i : Nat) (dv : String → D) (vv : String → V) (hrep : ∀ c K F, Rep K F (dv c) (vv c)) (t : ClT X.K X.mg x l) (tk : Takes X W)
    (hb : ∀ (W' : WX) (pn : List (Addr × Obj)) (xe : Value → Shared → Prop), Takes (X.tr pn xe) W' → PassesOwn (model X.prog X.w) X.A X.env xe → PPSs (X.tr pn xe) W' body g)
    (hsu : ∀ (a : Addr) (oe : Obj) (c : String) (A : Addr) (pn : List (Addr × Obj)), clOf l c = some true → X.mg (Str.ofString c) = some (.ref A) → Zc (.ref A) none oe → (∃ vs, oe.data = .fields vs) →
      PSs (X.suite a ((a, oe) :: pn)) (b₀ :: suite) (fun D σ H => σ[i]? = some (some (.ref a)) ∧ ∀ H', Same H H' → D.rt (vv c) H'))
    (hN : X.N.Nodup) (hi : X.N[i]? = some n := by rfl) (hln : X.env.kindOf n = some .local := by rfl)
    (hs : X.stack = X.env :: X.outer := by rfl) (hf : X.env.frame = some X.env.locals := by rfl) (hg : Gl X (Str.ofString x) := by rfl) (hdb : (Str.ofString x == ("__debug__" : Str)) = false := by decide) :
    PPS X W (.Try body [.ExceptHandler (some (.Name (Str.ofString x) np)) (some n) (b₀ :: suite) pos'] [] [] pos) (gTryR i (clOf l) dv g) := by
  obtain ⟨C, m, k⟩ := t.ex
  exact ps_tryRP i (clOf l) dv vv hrep tk m k hb hsu hN hi hln hs hf hg hdb
end
end Pu

namespace Pu
open PySem
def whileFuel : Nat := 20000000
def S_room : List D → Res D := fnD 3 (gSeq (gSet 1 (eC (.int 1)))
  (gSeq (gForR 2 (eVar 0) (gSet 1 (eOp dMul (eVar 1) (eC (.int 2)))))
  (gRet (eVar 1))))
def S_bits_of (p_room : List D → Res D) : List D → Res D := fnD 4 (gSeq (gIf (tOrB (tB (eOp dLt (eVar 0) (eC (.int 0)))) (tB (eOp dGe (eVar 0) (eCall p_room (aCons (eVar 1) aNil))))) (gExc "TooWide") gNx)
  (gSeq (gSetO 2 (oLst aNil))
  (gSeq (gForR 3 (eVar 1) (gSeq (gApp 2 (eOp dMod (eVar 0) (eC (.int 2))))
  (gSet 0 (eOp dDiv (eVar 0) (eC (.int 2))))))
  (gSeq (gRev 2)
  (gFrz 2 (gRet (eVar 2)))))))
def S_number_of : List D → Res D := fnD 3 (gSeq (gSet 1 (eC (.int 0)))
  (gSeq (gFor 2 (eVar 0) (gSet 1 (eOp dAdd (eOp dMul (eVar 1) (eC (.int 2))) (eVar 2))))
  (gRet (eVar 1))))
def S_law_cell_at : List D → Res D := fnD 2 (gSeq (gIf (tB (eOp dLt (eVar 1) (eUn dLen (eVar 0)))) (gRet (eOp dIx (eVar 0) (eVar 1))) gNx)
  (gRet (eC (.int 0))))
def S_law_whole : List D → Res D := fnD 1 (gRet (eAnd (eUn (dIsi .int) (eVar 0)) (eNot (eUn (dIsi .bool) (eVar 0)))))
def S_law_room : List D → Res D := fnD 3 (gSeq (gSet 1 (eC (.int 1)))
  (gSeq (gForR 2 (eVar 0) (gSet 1 (eOp dMul (eVar 1) (eC (.int 2)))))
  (gRet (eVar 1))))
def S_law_written : List D → Res D := fnD 4 (gSeq (gSetO 2 (oLst aNil))
  (gSeq (gForR 3 (eVar 1) (gSeq (gApp 2 (eOp dMod (eVar 0) (eC (.int 2))))
  (gSet 0 (eOp dDiv (eVar 0) (eC (.int 2))))))
  (gFrz 2 (gRet (eO (oUn dRev (eVar 2)))))))
def S_law_alike (p__law_whole p__law_alike : List D → Res D) : List D → Res D := fnD 3 (gSeq (gIf (tB (eUn dIsN (eVar 1))) (gRet (eUn dIsN (eVar 0))) gNx)
  (gSeq (gIf (tB (eUn (dIsi .bool) (eVar 1))) (gRet (eAnd (eUn (dIsi .bool) (eVar 0)) (eOp dEq (eVar 0) (eVar 1)))) gNx)
  (gSeq (gIf (tB (eUn (dIsi .int) (eVar 1))) (gRet (eAnd (eCall p__law_whole (aCons (eVar 0) aNil)) (eOp dEq (eVar 0) (eVar 1)))) gNx)
  (gSeq (gIf (tB (eUn (dIsi .str) (eVar 1))) (gRet (eAnd (eUn (dIsi .str) (eVar 0)) (eOp dEq (eVar 0) (eVar 1)))) gNx)
  (gSeq (gIf (tB (eUn (dIsi .tuple) (eVar 1))) (gIf (tNotB (tB (eUn (dIsi .tuple) (eVar 0)))) (gRet (eC (.bl false))) gNx) (gIf (tNotB (tB (eUn (dIsi .list) (eVar 0)))) (gRet (eC (.bl false))) gNx))
  (gSeq (gIf (tB (eOp dNe (eUn dLen (eVar 0)) (eUn dLen (eVar 1)))) (gRet (eC (.bl false))) gNx)
  (gSeq (gForR 2 (eUn dLen (eVar 1)) (gIf (tNotB (tB (eCall p__law_alike (aCons (eOp dIx (eVar 0) (eVar 2)) (aCons (eOp dIx (eVar 1) (eVar 2)) aNil))))) (gRet (eC (.bl false))) gNx))
  (gRet (eC (.bl true))))))))))
def S_law_as_a_number (p__law_cell_at p__law_room p__law_written p_number_of p__law_alike p__law_whole : List D → Res D) : List D → Res D := fnD 6 (gSeq (gSet 1 (eOp dMod (eCall p__law_cell_at (aCons (eVar 0) (aCons (eC (.int 3)) aNil))) (eC (.int 70))))
  (gSeq (gIf (tB (eOp dEq (eOp dMod (eCall p__law_cell_at (aCons (eVar 0) (aCons (eC (.int 5)) aNil))) (eC (.int 4))) (eC (.int 3)))) (gSet 1 (eOp dAdd (eC (.int 70)) (eOp dMod (eCall p__law_cell_at (aCons (eVar 0) (aCons (eC (.int 3)) aNil))) (eC (.int 531))))) gNx)
  (gSeq (gSet 2 (eCall p__law_room (aCons (eVar 1) aNil)))
  (gSeq (gSet 3 (eOp dMod (eCall p__law_cell_at (aCons (eVar 0) (aCons (eC (.int 4)) aNil))) (eVar 2)))
  (gSeq (gIf (tB (eOp dEq (eOp dMod (eCall p__law_cell_at (aCons (eVar 0) (aCons (eC (.int 5)) aNil))) (eC (.int 4))) (eC (.int 1)))) (gSet 3 (eOp dSub (eVar 2) (eC (.int 1)))) gNx)
  (gSeq (gIf (tB (eOp dEq (eOp dMod (eCall p__law_cell_at (aCons (eVar 0) (aCons (eC (.int 5)) aNil))) (eC (.int 4))) (eC (.int 2)))) (gSet 3 (eOp dMod (eCall p__law_cell_at (aCons (eVar 0) (aCons (eC (.int 4)) aNil))) (eOp dAdd (eC (.int 1)) (eOp dDiv (eVar 2) (eC (.int 8)))))) gNx)
  (gSeq (gSet 4 (eCall p__law_written (aCons (eVar 3) (aCons (eVar 1) aNil))))
  (gSeq (gSet 5 (eCall p_number_of (aCons (eVar 4) aNil)))
  (gRet (eAnd (eCall p__law_whole (aCons (eVar 5) aNil)) (eAnd (eOp dEq (eVar 5) (eVar 3)) (eCall p__law_alike (aCons (eVar 4) (aCons (eCall p__law_written (aCons (eVar 3) (aCons (eVar 1) aNil))) aNil))))))))))))))
def S_read_code (p_bits_of : List D → Res D) : List D → Res D := fnD 11 (gSeq (gSet 5 (eCall p_bits_of (aCons (eVar 3) (aCons (eVar 2) aNil))))
  (gSeq (gSet 6 (eC (.int 0)))
  (gSeq (gSet 7 (eC (.bl true)))
  (gSeq (gForR 8 (eVar 2) (gSeq (gSet 9 (eOp dAdd (eVar 1) (eVar 8)))
  (gSeq (gIf (tAndB (tB (eOp dGe (eVar 9) (eUn dLen (eVar 0)))) (tNotB (tB (eVar 4)))) (gRet (eTup (aCons (eC (.str "short")) (aCons (eVar 9) aNil)))) gNx)
  (gSeq (gSet 10 (eC (.int 0)))
  (gSeq (gIf (tB (eOp dLt (eVar 9) (eUn dLen (eVar 0)))) (gSet 10 (eOp dIx (eVar 0) (eVar 9))) gNx)
  (gSeq (gIf (tAndB (tB (eVar 7)) (tB (eOp dGt (eVar 10) (eOp dIx (eVar 5) (eVar 8))))) (gRet (eTup (aCons (eC (.str "wrong")) (aCons (eVar 9) aNil)))) gNx)
  (gSeq (gIf (tB (eOp dLt (eVar 10) (eOp dIx (eVar 5) (eVar 8)))) (gSet 7 (eC (.bl false))) gNx)
  (gSet 6 (eOp dAdd (eOp dMul (eVar 6) (eC (.int 2))) (eVar 10))))))))))
  (gRet (eTup (aCons (eC (.str "read")) (aCons (eVar 6) (aCons (eOp dAdd (eVar 1) (eVar 2)) aNil)))))))))
def S_code_at (p_read_code : List D → Res D) : List D → Res D := fnD 4 (gRet (eCall p_read_code (aCons (eVar 0) (aCons (eVar 1) (aCons (eVar 2) (aCons (eVar 3) (aCons (eC (.bl false)) aNil)))))))
def S_between : List D → Res D := fnD 3 (gRet (eAnd (eUn (dIsi .int) (eVar 0)) (eAnd (eNot (eUn (dIsi .bool) (eVar 0))) (eChain dLe dLe (eVar 1) (eVar 0) (eVar 2)))))
def S_good_num (p_between p_room : List D → Res D) : List D → Res D := fnD 1 (gSeq (gIf (tOrB (tB (eOp dNe (eUn dLen (eVar 0)) (eC (.int 4)))) (tNotB (tB (eCall p_between (aCons (eOp dIx (eVar 0) (eC (.int 1))) (aCons (eC (.int 0)) (aCons (eC (.int (64))) aNil))))))) (gRet (eC (.bl false))) gNx)
  (gSeq (gIf (tOrB (tNotB (tB (eCall p_between (aCons (eOp dIx (eVar 0) (eC (.int 2))) (aCons (eUn dNeg (eC (.int (100000000000000000000)))) (aCons (eC (.int (100000000000000000000))) aNil)))))) (tNotB (tB (eCall p_between (aCons (eOp dIx (eVar 0) (eC (.int 3))) (aCons (eUn dNeg (eC (.int (100000000000000000000)))) (aCons (eC (.int (100000000000000000000))) aNil))))))) (gRet (eC (.bl false))) gNx)
  (gRet (eAnd (eOp dLe (eOp dIx (eVar 0) (eC (.int 2))) (eOp dIx (eVar 0) (eC (.int 3)))) (eOp dLt (eOp dSub (eOp dIx (eVar 0) (eC (.int 3))) (eOp dIx (eVar 0) (eC (.int 2)))) (eCall p_room (aCons (eOp dIx (eVar 0) (eC (.int 1))) aNil)))))))
def S_good_parts (p_good_at : List D → Res D) : List D → Res D := fnD 3 (gSeq (gIf (tNotB (tB (eUn (dIsi .list) (eVar 0)))) (gRet (eC (.bl false))) gNx)
  (gSeq (gFor 2 (eVar 0) (gIf (tNotB (tB (eCall p_good_at (aCons (eVar 2) (aCons (eVar 1) aNil))))) (gRet (eC (.bl false))) gNx))
  (gRet (eC (.bl true)))))
def S_good_at (p_good_num p_between p_good_at p_good_parts p_room : List D → Res D) : List D → Res D := fnD 2 (gSeq (gIf (tOrB (tB (eOp dEq (eVar 1) (eC (.int 0)))) (tOrB (tNotB (tB (eUn (dIsi .tuple) (eVar 0)))) (tOrB (tB (eOp dEq (eUn dLen (eVar 0)) (eC (.int 0)))) (tNotB (tB (eUn (dIsi .str) (eOp dIx (eVar 0) (eC (.int 0))))))))) (gRet (eC (.bl false))) gNx)
  (gSeq (gIf (tB (eOp dEq (eOp dIx (eVar 0) (eC (.int 0))) (eC (.str "num")))) (gRet (eCall p_good_num (aCons (eVar 0) aNil))) gNx)
  (gSeq (gIf (tB (eOp dEq (eOp dIx (eVar 0) (eC (.int 0))) (eC (.str "pad")))) (gRet (eAnd (eOp dEq (eUn dLen (eVar 0)) (eC (.int 2))) (eCall p_between (aCons (eOp dIx (eVar 0) (eC (.int 1))) (aCons (eC (.int 0)) (aCons (eC (.int (64))) aNil)))))) gNx)
  (gSeq (gIf (tB (eOp dEq (eOp dIx (eVar 0) (eC (.int 0))) (eC (.str "maybe")))) (gRet (eAnd (eOp dEq (eUn dLen (eVar 0)) (eC (.int 2))) (eCall p_good_at (aCons (eOp dIx (eVar 0) (eC (.int 1))) (aCons (eOp dSub (eVar 1) (eC (.int 1))) aNil))))) gNx)
  (gSeq (gIf (tB (eOp dEq (eOp dIx (eVar 0) (eC (.int 0))) (eC (.str "rows")))) (gRet (eAnd (eOp dEq (eUn dLen (eVar 0)) (eC (.int 3))) (eAnd (eCall p_between (aCons (eOp dIx (eVar 0) (eC (.int 1))) (aCons (eC (.int 0)) (aCons (eC (.int (8))) aNil)))) (eCall p_good_at (aCons (eOp dIx (eVar 0) (eC (.int 2))) (aCons (eOp dSub (eVar 1) (eC (.int 1))) aNil)))))) gNx)
  (gSeq (gIf (tB (eOp dEq (eOp dIx (eVar 0) (eC (.int 0))) (eC (.str "group")))) (gRet (eAnd (eOp dEq (eUn dLen (eVar 0)) (eC (.int 2))) (eAnd (eCall p_good_parts (aCons (eOp dIx (eVar 0) (eC (.int 1))) (aCons (eOp dSub (eVar 1) (eC (.int 1))) aNil))) (eOp dLe (eUn dLen (eOp dIx (eVar 0) (eC (.int 1)))) (eC (.int (20))))))) gNx)
  (gSeq (gIf (tAndB (tB (eOp dEq (eOp dIx (eVar 0) (eC (.int 0))) (eC (.str "one")))) (tAndB (tB (eOp dEq (eUn dLen (eVar 0)) (eC (.int 3)))) (tB (eCall p_between (aCons (eOp dIx (eVar 0) (eC (.int 1))) (aCons (eC (.int 0)) (aCons (eC (.int (8))) aNil))))))) (gSeq (gIf (tNotB (tB (eCall p_good_parts (aCons (eOp dIx (eVar 0) (eC (.int 2))) (aCons (eOp dSub (eVar 1) (eC (.int 1))) aNil))))) (gRet (eC (.bl false))) gNx)
  (gRet (eAnd (eChain dLe dLe (eC (.int 1)) (eUn dLen (eOp dIx (eVar 0) (eC (.int 2)))) (eC (.int (16)))) (eOp dLe (eUn dLen (eOp dIx (eVar 0) (eC (.int 2)))) (eCall p_room (aCons (eOp dIx (eVar 0) (eC (.int 1))) aNil)))))) gNx)
  (gRet (eC (.bl false))))))))))
def S_good_shape (p_good_at : List D → Res D) : List D → Res D := fnD 1 (gRet (eCall p_good_at (aCons (eVar 0) (aCons (eC (.int (8))) aNil))))
def S_law_leaf (p__law_cell_at p__law_room : List D → Res D) : List D → Res D := fnD 7 (gSeq (gSet 2 (eOp dDiv (eCall p__law_cell_at (aCons (eVar 0) (aCons (eOp dMul (eC (.int 2)) (eVar 1)) aNil))) (eC (.int 7))))
  (gSeq (gSet 3 (eCall p__law_cell_at (aCons (eVar 0) (aCons (eOp dAdd (eOp dMul (eC (.int 2)) (eVar 1)) (eC (.int 1))) aNil))))
  (gSeq (gSet 4 (eOp dMod (eOp dDiv (eVar 2) (eC (.int 3))) (eC (.int 9))))
  (gSeq (gIf (tB (eOp dEq (eOp dMod (eVar 3) (eC (.int 5))) (eC (.int 4)))) (gSet 4 (eOp dMod (eOp dAdd (eVar 2) (eOp dMul (eC (.int 7)) (eVar 3))) (eC (.int 65)))) gNx)
  (gSeq (gIf (tB (eOp dEq (eOp dMod (eVar 2) (eC (.int 3))) (eC (.int 2)))) (gRet (eTup (aCons (eC (.str "pad")) (aCons (eVar 4) aNil)))) gNx)
  (gSeq (gSet 5 (eOp dSub (eCall p__law_room (aCons (eVar 4) aNil)) (eC (.int 1))))
  (gSeq (gIf (tB (eOp dEq (eOp dMod (eVar 3) (eC (.int 3))) (eC (.int 1)))) (gSet 5 (eOp dMod (eOp dDiv (eVar 3) (eC (.int 12))) (eOp dAdd (eVar 5) (eC (.int 1))))) gNx)
  (gSeq (gIf (tB (eOp dEq (eOp dMod (eVar 3) (eC (.int 3))) (eC (.int 2)))) (gSet 5 (eOp dAdd (eOp dDiv (eVar 5) (eC (.int 2))) (eOp dMin2 (eC (.int 1)) (eOp dDiv (eVar 5) (eC (.int 2)))))) gNx)
  (gSeq (gSet 6 (eOp dSub (eOp dMod (eOp dDiv (eVar 3) (eC (.int 12))) (eC (.int 41))) (eC (.int 20))))
  (gSeq (gIf (tB (eOp dEq (eOp dMod (eOp dDiv (eVar 3) (eC (.int 3))) (eC (.int 4))) (eC (.int 1)))) (gSet 6 (eOp dSub (eOp dMod (eOp dDiv (eVar 3) (eC (.int 12))) (eOp dAdd (eOp dSub (eOp dMul (eC (.int 2)) (eOp dPow (eC (.int 10)) (eC (.int 20)))) (eVar 5)) (eC (.int 1)))) (eOp dPow (eC (.int 10)) (eC (.int 20))))) gNx)
  (gSeq (gIf (tB (eOp dEq (eOp dMod (eOp dDiv (eVar 3) (eC (.int 3))) (eC (.int 4))) (eC (.int 2)))) (gSet 6 (eOp dIx (eO (oLst (aCons (eUn dNeg (eOp dPow (eC (.int 10)) (eC (.int 20)))) (aCons (eOp dSub (eOp dPow (eC (.int 10)) (eC (.int 20))) (eVar 5)) aNil)))) (eOp dMod (eOp dDiv (eVar 3) (eC (.int 12))) (eC (.int 2))))) gNx)
  (gRet (eTup (aCons (eC (.str "num")) (aCons (eVar 4) (aCons (eVar 6) (aCons (eOp dAdd (eVar 6) (eVar 5)) aNil)))))))))))))))))
def S_law_one : List D → Res D := fnD 4 (gSeq (gIf (tB (eOp dEq (eOp dMod (eVar 1) (eC (.int 5))) (eC (.int 4)))) (gSeq (gSet 2 (eOp dAdd (eC (.int 5)) (eOp dMod (eOp dDiv (eVar 1) (eC (.int 5))) (eC (.int 12)))))
  (gSeq (gSet 3 (eOp dAdd (eOp dAdd (eC (.int 3)) (eUn dInt (eOp dGt (eVar 2) (eC (.int 8))))) (eOp dMod (eOp dDiv (eVar 1) (eC (.int 60))) (eC (.int 5)))))
  (gRet (eTup (aCons (eC (.str "one")) (aCons (eVar 3) (aCons (eO (oSl (eOp dMul (eO (oLst (aCons (eOp dIx (eVar 0) (eC (.int 0))) (aCons (eOp dIx (eVar 0) (eC (.int 2))) (aCons (eOp dIx (eVar 0) (eC (.int 1))) (aCons (eOp dIx (eVar 0) (eC (.int 3))) (aCons (eOp dIx (eVar 0) (eC (.int 2))) aNil))))))) (eC (.int 4))) rNone (rSome (eVar 2)))) aNil))))))) gNx)
  (gSeq (gSet 2 (eOp dAdd (eC (.int 1)) (eOp dMod (eOp dMod (eVar 1) (eC (.int 5))) (eC (.int 4)))))
  (gRet (eTup (aCons (eC (.str "one")) (aCons (eOp dAdd (eOp dIx (eO (oLst (aCons (eC (.int 0)) (aCons (eC (.int 1)) (aCons (eC (.int 2)) (aCons (eC (.int 2)) aNil)))))) (eOp dSub (eVar 2) (eC (.int 1)))) (eOp dMod (eOp dDiv (eVar 1) (eC (.int 5))) (eC (.int 3)))) (aCons (eO (oSl (eVar 0) rNone (rSome (eVar 2)))) aNil)))))))
def S_law_group : List D → Res D := fnD 2 (gSeq (gIf (tAndB (tB (eOp dEq (eOp dMod (eVar 1) (eC (.int 4))) (eC (.int 3)))) (tAndB (tB (eOp dIn (eOp dIx (eOp dIx (eVar 0) (eC (.int 0))) (eC (.int 0))) (eTup (aCons (eC (.str "num")) (aCons (eC (.str "pad")) aNil))))) (tB (eOp dIn (eOp dIx (eOp dIx (eVar 0) (eC (.int 1))) (eC (.int 0))) (eTup (aCons (eC (.str "num")) (aCons (eC (.str "pad")) aNil))))))) (gRet (eTup (aCons (eC (.str "group")) (aCons (eO (oSl (eOp dMul (eO (oLst (aCons (eOp dIx (eVar 0) (eC (.int 0))) (aCons (eOp dIx (eVar 0) (eC (.int 2))) (aCons (eOp dIx (eVar 0) (eC (.int 1))) (aCons (eOp dIx (eVar 0) (eC (.int 3))) (aCons (eOp dIx (eVar 0) (eC (.int 0))) aNil))))))) (eC (.int 4))) rNone (rSome (eOp dAdd (eC (.int 4)) (eOp dMod (eOp dDiv (eVar 1) (eC (.int 4))) (eC (.int 17))))))) aNil)))) gNx)
  (gSeq (gIf (tB (eOp dEq (eOp dMod (eVar 1) (eC (.int 12))) (eC (.int 5)))) (gRet (eTup (aCons (eC (.str "group")) (aCons (eO (oSl (eO (oLst (aCons (eOp dIx (eVar 0) (eC (.int 0))) (aCons (eOp dIx (eVar 0) (eC (.int 2))) (aCons (eOp dIx (eVar 0) (eC (.int 1))) (aCons (eOp dIx (eVar 0) (eC (.int 0))) (aCons (eOp dIx (eVar 0) (eC (.int 3))) aNil))))))) rNone (rSome (eOp dAdd (eC (.int 4)) (eOp dMod (eOp dDiv (eVar 1) (eC (.int 12))) (eC (.int 2))))))) aNil)))) gNx)
  (gRet (eTup (aCons (eC (.str "group")) (aCons (eOp dIx (eO (oLst (aCons (eO (oLst aNil)) (aCons (eOp dMul (eO (oLst (aCons (eOp dIx (eVar 0) (eC (.int 0))) aNil))) (eC (.int 3))) (aCons (eO (oLst (aCons (eOp dIx (eVar 0) (eC (.int 2))) (aCons (eOp dIx (eVar 0) (eC (.int 0))) (aCons (eOp dIx (eVar 0) (eC (.int 1))) aNil))))) (aCons (eO (oLst (aCons (eOp dIx (eVar 0) (eC (.int 1))) (aCons (eOp dIx (eVar 0) (eC (.int 1))) aNil)))) aNil)))))) (eOp dMod (eVar 1) (eC (.int 4)))) aNil))))))
def S_law_shape (p__law_cell_at p__law_leaf p__law_shape p__law_one p__law_group : List D → Res D) : List D → Res D := fnD 7 (gSeq (gSet 2 (eCall p__law_cell_at (aCons (eVar 0) (aCons (eOp dMul (eC (.int 2)) (eVar 1)) aNil))))
  (gSeq (gSet 3 (eOp dDiv (eVar 2) (eC (.int 7))))
  (gSeq (gIf (tOrB (tB (eOp dGt (eVar 1) (eC (.int 6)))) (tB (eOp dLt (eOp dMod (eVar 2) (eC (.int 7))) (eC (.int 2))))) (gRet (eCall p__law_leaf (aCons (eVar 0) (aCons (eVar 1) aNil)))) gNx)
  (gSeq (gSet 4 (eCall p__law_shape (aCons (eVar 0) (aCons (eOp dAdd (eOp dMul (eC (.int 2)) (eVar 1)) (eC (.int 1))) aNil))))
  (gSeq (gSet 5 (eCall p__law_shape (aCons (eVar 0) (aCons (eOp dAdd (eOp dMul (eC (.int 2)) (eVar 1)) (eC (.int 2))) aNil))))
  (gSeq (gIf (tB (eOp dEq (eOp dMod (eVar 2) (eC (.int 7))) (eC (.int 2)))) (gRet (eTup (aCons (eC (.str "maybe")) (aCons (eVar 4) aNil)))) gNx)
  (gSeq (gIf (tB (eOp dEq (eOp dMod (eVar 2) (eC (.int 7))) (eC (.int 3)))) (gRet (eTup (aCons (eC (.str "rows")) (aCons (eOp dIx (eO (oLst (aCons (eC (.int 1)) (aCons (eC (.int 2)) (aCons (eC (.int 3)) (aCons (eC (.int 4)) (aCons (eC (.int 5)) (aCons (eC (.int 6)) (aCons (eC (.int 7)) (aCons (eC (.int 8)) (aCons (eC (.int 0)) (aCons (eC (.int 2)) (aCons (eC (.int 3)) aNil))))))))))))) (eOp dMod (eVar 3) (eC (.int 11)))) (aCons (eVar 4) aNil))))) gNx)
  (gSeq (gIf (tB (eOp dEq (eOp dMod (eVar 2) (eC (.int 7))) (eC (.int 4)))) (gRet (eTup (aCons (eC (.str "group")) (aCons (eO (oLst (aCons (eVar 4) (aCons (eVar 5) aNil)))) aNil)))) gNx)
  (gSeq (gSet 6 (eO (oLst (aCons (eVar 4) (aCons (eVar 5) (aCons (eCall p__law_leaf (aCons (eVar 0) (aCons (eOp dAdd (eC (.int 15)) (eVar 1)) aNil))) (aCons (eCall p__law_leaf (aCons (eVar 0) (aCons (eOp dAdd (eC (.int 22)) (eVar 1)) aNil))) aNil)))))))
  (gSeq (gIf (tB (eOp dEq (eOp dMod (eVar 2) (eC (.int 7))) (eC (.int 5)))) (gRet (eCall p__law_one (aCons (eVar 6) (aCons (eVar 3) aNil)))) gNx)
  (gRet (eCall p__law_group (aCons (eVar 6) (aCons (eVar 3) aNil))))))))))))))
def S_law_deeper (p__law_cell_at : List D → Res D) : List D → Res D := fnD 5 (gSeq (gSet 3 (eCall p__law_cell_at (aCons (eVar 0) (aCons (eVar 1) aNil))))
  (gSeq (gForR 4 (eOp dMod (eVar 3) (eC (.int 5))) (gSet 2 (eOp dIx (eO (oLst (aCons (eTup (aCons (eC (.str "group")) (aCons (eO (oLst (aCons (eVar 2) aNil))) aNil))) (aCons (eTup (aCons (eC (.str "maybe")) (aCons (eVar 2) aNil))) (aCons (eTup (aCons (eC (.str "one")) (aCons (eC (.int 0)) (aCons (eO (oLst (aCons (eVar 2) aNil))) aNil)))) aNil))))) (eOp dMod (eOp dDiv (eOp dDiv (eVar 3) (eC (.int 5))) (eOp dAdd (eVar 4) (eC (.int 1)))) (eC (.int 3))))))
  (gRet (eVar 2))))
def S_law_bound : List D → Res D := fnD 3 (gSeq (gSet 1 (eTup (aCons (eC (.str "pad")) (aCons (eC (.int 64)) aNil))))
  (gSeq (gSet 2 (eO (oLst (aCons (eTup (aCons (eC (.str "num")) (aCons (eC (.int 64)) (aCons (eC (.int 0)) (aCons (eOp dSub (eOp dPow (eC (.int 2)) (eC (.int 64))) (eC (.int 1))) aNil))))) (aCons (eTup (aCons (eC (.str "num")) (aCons (eC (.int 0)) (aCons (eUn dNeg (eC (.int 5))) (aCons (eUn dNeg (eC (.int 5))) aNil))))) (aCons (eTup (aCons (eC (.str "num")) (aCons (eC (.int 64)) (aCons (eOp dPow (eC (.int 10)) (eC (.int 20))) (aCons (eOp dPow (eC (.int 10)) (eC (.int 20))) aNil))))) aNil))))))
  (gSeq (gSet 2 (eOp dAdd (eVar 2) (eO (oLst (aCons (eTup (aCons (eC (.str "num")) (aCons (eC (.int 64)) (aCons (eUn dNeg (eOp dPow (eC (.int 10)) (eC (.int 20)))) (aCons (eUn dNeg (eOp dPow (eC (.int 10)) (eC (.int 20)))) aNil))))) (aCons (eTup (aCons (eC (.str "pad")) (aCons (eC (.int 0)) aNil))) (aCons (eVar 1) (aCons (eTup (aCons (eC (.str "group")) (aCons (eO (oLst aNil)) aNil))) aNil))))))))
  (gSeq (gSet 2 (eOp dAdd (eVar 2) (eO (oLst (aCons (eTup (aCons (eC (.str "group")) (aCons (eOp dMul (eO (oLst (aCons (eVar 1) aNil))) (eC (.int 20))) aNil))) (aCons (eTup (aCons (eC (.str "one")) (aCons (eC (.int 4)) (aCons (eOp dMul (eO (oLst (aCons (eVar 1) aNil))) (eC (.int 16))) aNil)))) (aCons (eTup (aCons (eC (.str "one")) (aCons (eC (.int 8)) (aCons (eOp dMul (eO (oLst (aCons (eVar 1) aNil))) (eC (.int 16))) aNil)))) (aCons (eTup (aCons (eC (.str "one")) (aCons (eC (.int 0)) (aCons (eO (oLst (aCons (eVar 1) aNil))) aNil)))) aNil))))))))
  (gSeq (gSet 2 (eOp dAdd (eVar 2) (eO (oLst (aCons (eTup (aCons (eC (.str "rows")) (aCons (eC (.int 8)) (aCons (eVar 1) aNil)))) (aCons (eTup (aCons (eC (.str "rows")) (aCons (eC (.int 0)) (aCons (eVar 1) aNil)))) (aCons (eTup (aCons (eC (.str "num")) (aCons (eC (.int 1)) (aCons (eUn dNeg (eC (.int 1))) (aCons (eC (.int 0)) aNil))))) aNil)))))))
  (gSeq (gSet 2 (eOp dAdd (eVar 2) (eO (oLst (aCons (eTup (aCons (eC (.str "one")) (aCons (eC (.int 1)) (aCons (eOp dMul (eO (oLst (aCons (eVar 1) aNil))) (eC (.int 2))) aNil)))) (aCons (eTup (aCons (eC (.str "one")) (aCons (eC (.int 2)) (aCons (eOp dMul (eO (oLst (aCons (eVar 1) aNil))) (eC (.int 4))) aNil)))) (aCons (eTup (aCons (eC (.str "one")) (aCons (eC (.int 2)) (aCons (eOp dMul (eO (oLst (aCons (eVar 1) aNil))) (eC (.int 3))) aNil)))) (aCons (eTup (aCons (eC (.str "one")) (aCons (eC (.int 3)) (aCons (eOp dMul (eO (oLst (aCons (eVar 1) aNil))) (eC (.int 8))) aNil)))) aNil))))))))
  (gSeq (gSet 2 (eOp dAdd (eVar 2) (eO (oLst (aCons (eTup (aCons (eC (.str "one")) (aCons (eC (.int 3)) (aCons (eOp dMul (eO (oLst (aCons (eVar 1) aNil))) (eC (.int 5))) aNil)))) aNil)))))
  (gRet (eOp dIx (eVar 2) (eOp dMod (eVar 0) (eUn dLen (eVar 2))))))))))))
def S_law_put (p__law_put : List D → Res D) : List D → Res D := fnD 6 (gSeq (gIf (tOrB (tB (eOp dEq (eVar 1) (eC (.int 0)))) (tOrB (tB (eOp dEq (eOp dIx (eVar 0) (eC (.int 0))) (eC (.str "num")))) (tB (eOp dEq (eOp dIx (eVar 0) (eC (.int 0))) (eC (.str "pad")))))) (gRet (eVar 3)) gNx)
  (gSeq (gIf (tB (eOp dEq (eOp dIx (eVar 0) (eC (.int 0))) (eC (.str "maybe")))) (gRet (eTup (aCons (eC (.str "maybe")) (aCons (eCall p__law_put (aCons (eOp dIx (eVar 0) (eC (.int 1))) (aCons (eOp dSub (eVar 1) (eC (.int 1))) (aCons (eOp dDiv (eVar 2) (eC (.int 3))) (aCons (eVar 3) aNil))))) aNil)))) gNx)
  (gSeq (gIf (tB (eOp dEq (eOp dIx (eVar 0) (eC (.int 0))) (eC (.str "rows")))) (gRet (eTup (aCons (eC (.str "rows")) (aCons (eOp dIx (eVar 0) (eC (.int 1))) (aCons (eCall p__law_put (aCons (eOp dIx (eVar 0) (eC (.int 2))) (aCons (eOp dSub (eVar 1) (eC (.int 1))) (aCons (eOp dDiv (eVar 2) (eC (.int 3))) (aCons (eVar 3) aNil))))) aNil))))) gNx)
  (gSeq (gSetO 4 (oUn dList (eOp dIx (eVar 0) (eOp dSub (eUn dLen (eVar 0)) (eC (.int 1))))))
  (gSeq (gIf (tB (eOp dEq (eLenO 4) (eC (.int 0)))) (gRet (eVar 3)) gNx)
  (gSeq (gSet 5 (eOp dMod (eVar 2) (eLenO 4)))
  (gSeq (gPut 4 (eVar 5) (eCall p__law_put (aCons (eIxO 4 (eVar 5)) (aCons (eOp dSub (eVar 1) (eC (.int 1))) (aCons (eOp dDiv (eVar 2) (eC (.int 3))) (aCons (eVar 3) aNil))))))
  (gSeq (gIf (tB (eOp dEq (eOp dIx (eVar 0) (eC (.int 0))) (eC (.str "group")))) (gFrz 4 (gRet (eTup (aCons (eC (.str "group")) (aCons (eVar 4) aNil))))) gNx)
  (gFrz 4 (gRet (eTup (aCons (eC (.str "one")) (aCons (eOp dIx (eVar 0) (eC (.int 1))) (aCons (eVar 4) aNil))))))))))))))
def S_law_round : List D → Res D := fnD 5 (gSeq (gForR 3 (eVar 2) (gSeq (gSet 4 (eO (oLst (aCons (eTup (aCons (eC (.str "group")) (aCons (eO (oLst (aCons (eTup (aCons (eC (.str "pad")) (aCons (eC (.int 3)) aNil))) (aCons (eVar 0) aNil)))) aNil))) (aCons (eTup (aCons (eC (.str "maybe")) (aCons (eVar 0) aNil))) (aCons (eTup (aCons (eC (.str "one")) (aCons (eC (.int 1)) (aCons (eO (oLst (aCons (eVar 0) aNil))) aNil)))) (aCons (eTup (aCons (eC (.str "rows")) (aCons (eC (.int 3)) (aCons (eVar 0) aNil)))) aNil)))))))
  (gSet 0 (eOp dIx (eVar 4) (eOp dMod (eOp dAdd (eVar 1) (eVar 3)) (eC (.int 4)))))))
  (gRet (eVar 0)))
def S_law_told (p_good_shape : List D → Res D) : List D → Res D := fnD 3 (gSeq (gSet 2 (eCall p_good_shape (aCons (eVar 0) aNil)))
  (gRet (eAnd (eUn (dIsi .bool) (eVar 2)) (eOp dEq (eVar 2) (eVar 1)))))
def S_least_bits (p_least_bits : List D → Res D) : List D → Res D := fnD 2 (gSeq (gIf (tB (eOp dEq (eOp dIx (eVar 0) (eC (.int 0))) (eC (.str "maybe")))) (gRet (eC (.int 1))) gNx)
  (gSeq (gIf (tB (eOp dEq (eOp dIx (eVar 0) (eC (.int 0))) (eC (.str "group")))) (gRet (eUn dSum (eO (oLc 1 (eOp dIx (eVar 0) (eC (.int 1))) (eCall p_least_bits (aCons (eVar 1) aNil)))))) gNx)
  (gSeq (gIf (tB (eOp dEq (eOp dIx (eVar 0) (eC (.int 0))) (eC (.str "one")))) (gRet (eOp dAdd (eOp dIx (eVar 0) (eC (.int 1))) (eUn dMinL (eO (oLc 1 (eOp dIx (eVar 0) (eC (.int 2))) (eCall p_least_bits (aCons (eVar 1) aNil))))))) gNx)
  (gRet (eOp dIx (eVar 0) (eC (.int 1)))))))
def S_all_fit (p_fits : List D → Res D) : List D → Res D := fnD 3 (gSeq (gFor 2 (eVar 1) (gIf (tNotB (tB (eCall p_fits (aCons (eVar 0) (aCons (eVar 2) aNil))))) (gRet (eC (.bl false))) gNx))
  (gRet (eC (.bl true))))
def S_group_fits (p_fits : List D → Res D) : List D → Res D := fnD 4 (gSeq (gIf (tB (eOp dNe (eUn dLen (eVar 1)) (eUn dLen (eVar 0)))) (gRet (eC (.bl false))) gNx)
  (gSeq (gForZ 2 3 (eVar 0) (eVar 1) (gIf (tNotB (tB (eCall p_fits (aCons (eVar 2) (aCons (eVar 3) aNil))))) (gRet (eC (.bl false))) gNx))
  (gRet (eC (.bl true)))))
def S_fits (p_between p_fits p_group_fits p_all_fit p_room : List D → Res D) : List D → Res D := fnD 3 (gSeq (gSet 2 (eOp dIx (eVar 0) (eC (.int 0))))
  (gSeq (gIf (tB (eOp dEq (eVar 2) (eC (.str "num")))) (gRet (eCall p_between (aCons (eVar 1) (aCons (eOp dIx (eVar 0) (eC (.int 2))) (aCons (eOp dIx (eVar 0) (eC (.int 3))) aNil))))) gNx)
  (gSeq (gIf (tB (eOp dEq (eVar 2) (eC (.str "pad")))) (gRet (eUn dIsN (eVar 1))) gNx)
  (gSeq (gIf (tB (eOp dEq (eVar 2) (eC (.str "one")))) (gSeq (gIf (tOrB (tNotB (tB (eUn (dIsi .tuple) (eVar 1)))) (tB (eOp dNe (eUn dLen (eVar 1)) (eC (.int 2))))) (gRet (eC (.bl false))) gNx)
  (gRet (eAnd (eCall p_between (aCons (eOp dIx (eVar 1) (eC (.int 0))) (aCons (eC (.int 0)) (aCons (eOp dSub (eUn dLen (eOp dIx (eVar 0) (eC (.int 2)))) (eC (.int 1))) aNil)))) (eCall p_fits (aCons (eOp dIx (eOp dIx (eVar 0) (eC (.int 2))) (eOp dIx (eVar 1) (eC (.int 0)))) (aCons (eOp dIx (eVar 1) (eC (.int 1))) aNil)))))) gNx)
  (gSeq (gIf (tNotB (tB (eUn (dIsi .list) (eVar 1)))) (gRet (eC (.bl false))) gNx)
  (gSeq (gIf (tB (eOp dEq (eVar 2) (eC (.str "group")))) (gRet (eCall p_group_fits (aCons (eOp dIx (eVar 0) (eC (.int 1))) (aCons (eVar 1) aNil)))) gNx)
  (gSeq (gIf (tB (eOp dEq (eVar 2) (eC (.str "maybe")))) (gRet (eAnd (eOp dLe (eUn dLen (eVar 1)) (eC (.int 1))) (eCall p_all_fit (aCons (eOp dIx (eVar 0) (eC (.int 1))) (aCons (eVar 1) aNil))))) gNx)
  (gRet (eAnd (eOp dLt (eUn dLen (eVar 1)) (eCall p_room (aCons (eOp dIx (eVar 0) (eC (.int 1))) aNil))) (eCall p_all_fit (aCons (eOp dIx (eVar 0) (eC (.int 2))) (aCons (eVar 1) aNil))))))))))))
def S_joined (p_bits_by : List D → Res D) : List D → Res D := fnD 4 (gSeq (gSet 2 (eO (oLst aNil)))
  (gSeq (gFor 3 (eVar 1) (gSet 2 (eOp dAdd (eVar 2) (eCall p_bits_by (aCons (eVar 0) (aCons (eVar 3) aNil))))))
  (gRet (eVar 2))))
def S_bits_by (p_bits_of p_joined p_bits_by : List D → Res D) : List D → Res D := fnD 6 (gSeq (gSet 2 (eOp dIx (eVar 0) (eC (.int 0))))
  (gSeq (gIf (tB (eOp dEq (eVar 2) (eC (.str "num")))) (gRet (eCall p_bits_of (aCons (eOp dSub (eVar 1) (eOp dIx (eVar 0) (eC (.int 2)))) (aCons (eOp dIx (eVar 0) (eC (.int 1))) aNil)))) gNx)
  (gSeq (gIf (tB (eOp dEq (eVar 2) (eC (.str "pad")))) (gRet (eCall p_bits_of (aCons (eC (.int 0)) (aCons (eOp dIx (eVar 0) (eC (.int 1))) aNil)))) gNx)
  (gSeq (gIf (tB (eOp dEq (eVar 2) (eC (.str "maybe")))) (gRet (eOp dAdd (eO (oLst (aCons (eUn dLen (eVar 1)) aNil))) (eCall p_joined (aCons (eOp dIx (eVar 0) (eC (.int 1))) (aCons (eVar 1) aNil))))) gNx)
  (gSeq (gIf (tB (eOp dEq (eVar 2) (eC (.str "rows")))) (gRet (eOp dAdd (eCall p_bits_of (aCons (eUn dLen (eVar 1)) (aCons (eOp dIx (eVar 0) (eC (.int 1))) aNil))) (eCall p_joined (aCons (eOp dIx (eVar 0) (eC (.int 2))) (aCons (eVar 1) aNil))))) gNx)
  (gSeq (gIf (tB (eOp dEq (eVar 2) (eC (.str "one")))) (gRet (eOp dAdd (eCall p_bits_of (aCons (eOp dIx (eVar 1) (eC (.int 0))) (aCons (eOp dIx (eVar 0) (eC (.int 1))) aNil))) (eCall p_bits_by (aCons (eOp dIx (eOp dIx (eVar 0) (eC (.int 2))) (eOp dIx (eVar 1) (eC (.int 0)))) (aCons (eOp dIx (eVar 1) (eC (.int 1))) aNil))))) gNx)
  (gSeq (gSet 3 (eO (oLst aNil)))
  (gSeq (gForZ 4 5 (eOp dIx (eVar 0) (eC (.int 1))) (eVar 1) (gSet 3 (eOp dAdd (eVar 3) (eCall p_bits_by (aCons (eVar 4) (aCons (eVar 5) aNil))))))
  (gRet (eVar 3))))))))))
def S_packed (p_fits p_bits_by : List D → Res D) : List D → Res D := fnD 2 (gSeq (gIf (tNotB (tB (eCall p_fits (aCons (eVar 0) (aCons (eVar 1) aNil))))) (gExc "BadRecord") gNx)
  (gRet (eCall p_bits_by (aCons (eVar 0) (aCons (eVar 1) aNil)))))
def S_need_bits (p_least_bits : List D → Res D) : List D → Res D := fnD 1 (gIf (tB (eOp dEq (eCall p_least_bits (aCons (eVar 0) aNil)) (eC (.int 0)))) (gExc "NoBits") gNx)
def S_packed_all (p_need_bits p_packed : List D → Res D) : List D → Res D := fnD 4 (gSeq (gExpr (eCall p_need_bits (aCons (eVar 0) aNil)))
  (gSeq (gSet 2 (eO (oLst aNil)))
  (gSeq (gFor 3 (eVar 1) (gSet 2 (eOp dAdd (eVar 2) (eCall p_packed (aCons (eVar 0) (aCons (eVar 3) aNil))))))
  (gRet (eVar 2)))))
def S_law_number : List D → Res D := fnD 2 (gSeq (gIf (tB (eOp dEq (eUn dLen (eVar 0)) (eC (.int 0)))) (gRet (eVar 1)) gNx)
  (gRet (eOp dAdd (eOp dIx (eVar 0) (eOp dSub (eOp dSub (eUn dLen (eVar 0)) (eC (.int 1))) (eOp dMod (eVar 1) (eUn dLen (eVar 0))))) (eOp dDiv (eVar 1) (eUn dLen (eVar 0))))))
def S_law_wide (p__law_wide p__law_room : List D → Res D) : List D → Res D := fnD 3 (gSeq (gIf (tOrB (tB (eOp dEq (eOp dIx (eVar 0) (eC (.int 0))) (eC (.str "num")))) (tB (eOp dEq (eOp dIx (eVar 0) (eC (.int 0))) (eC (.str "pad"))))) (gRet (eOp dMax2 (eC (.int 1)) (eOp dIx (eVar 0) (eC (.int 1))))) gNx)
  (gSeq (gIf (tB (eOp dEq (eOp dIx (eVar 0) (eC (.int 0))) (eC (.str "maybe")))) (gRet (eOp dAdd (eC (.int 1)) (eCall p__law_wide (aCons (eOp dIx (eVar 0) (eC (.int 1))) aNil)))) gNx)
  (gSeq (gIf (tB (eOp dEq (eOp dIx (eVar 0) (eC (.int 0))) (eC (.str "rows")))) (gRet (eOp dAdd (eOp dIx (eVar 0) (eC (.int 1))) (eOp dMul (eOp dSub (eCall p__law_room (aCons (eOp dIx (eVar 0) (eC (.int 1))) aNil)) (eC (.int 1))) (eOp dMax2 (eC (.int 1)) (eCall p__law_wide (aCons (eOp dIx (eVar 0) (eC (.int 2))) aNil)))))) gNx)
  (gSeq (gSet 1 (eO (oLc 2 (eOp dIx (eVar 0) (eOp dSub (eUn dLen (eVar 0)) (eC (.int 1)))) (eCall p__law_wide (aCons (eVar 2) aNil)))))
  (gSeq (gIf (tB (eOp dEq (eOp dIx (eVar 0) (eC (.int 0))) (eC (.str "one")))) (gRet (eOp dAdd (eOp dIx (eVar 0) (eC (.int 1))) (eUn dMaxL (eVar 1)))) gNx)
  (gRet (eUn dSum (eVar 1))))))))
def S_law_many (p__law_room p__law_wide : List D → Res D) : List D → Res D := fnD 4 (gSeq (gIf (tB (eOp dEq (eOp dIx (eVar 0) (eC (.int 0))) (eC (.str "maybe")))) (gRet (eOp dMin2 (eC (.int 1)) (eOp dMod (eVar 1) (eC (.int 3))))) gNx)
  (gSeq (gSet 2 (eOp dSub (eCall p__law_room (aCons (eOp dIx (eVar 0) (eC (.int 1))) aNil)) (eC (.int 1))))
  (gSeq (gSet 3 (eOp dMax2 (eC (.int 1)) (eCall p__law_wide (aCons (eOp dIx (eVar 0) (eC (.int 2))) aNil))))
  (gSeq (gIf (tB (eOp dGt (eOp dMul (eVar 3) (eVar 2)) (eC (.int 300)))) (gSet 2 (eOp dMin2 (eVar 2) (eOp dMax2 (eC (.int 2)) (eOp dDiv (eOp dIx (eO (oLst (aCons (eC (.int 200)) (aCons (eC (.int 520)) aNil)))) (eUn dInt (eOp dEq (eOp dMod (eVar 1) (eC (.int 64))) (eC (.int 47))))) (eVar 3))))) gNx)
  (gSeq (gIf (tB (eOp dEq (eOp dMod (eVar 1) (eC (.int 4))) (eC (.int 3)))) (gRet (eOp dMod (eOp dDiv (eVar 1) (eC (.int 4))) (eOp dAdd (eVar 2) (eC (.int 1))))) gNx)
  (gRet (eOp dMin2 (eOp dMod (eVar 1) (eC (.int 4))) (eVar 2))))))))
def S_law_record (p__law_number p__law_record p__law_many : List D → Res D) : List D → Res D := fnD 11 (gSeq (gSet 3 (eCall p__law_number (aCons (eVar 1) (aCons (eVar 2) aNil))))
  (gSeq (gSet 4 (eOp dIx (eVar 0) (eC (.int 0))))
  (gSeq (gIf (tB (eOp dEq (eVar 4) (eC (.str "num")))) (gSeq (gSet 5 (eOp dAdd (eOp dSub (eOp dIx (eVar 0) (eC (.int 3))) (eOp dIx (eVar 0) (eC (.int 2)))) (eC (.int 1))))
  (gSeq (gSet 6 (eOp dMod (eOp dDiv (eVar 3) (eC (.int 5))) (eVar 5)))
  (gSeq (gIf (tB (eOp dEq (eOp dMod (eVar 3) (eC (.int 5))) (eC (.int 1)))) (gSet 6 (eOp dSub (eVar 5) (eC (.int 1)))) gNx)
  (gSeq (gIf (tB (eOp dEq (eOp dMod (eVar 3) (eC (.int 5))) (eC (.int 2)))) (gSet 6 (eC (.int 0))) gNx)
  (gRet (eTup (aCons (eOp dAdd (eOp dIx (eVar 0) (eC (.int 2))) (eVar 6)) (aCons (eOp dAdd (eVar 2) (eC (.int 1))) aNil)))))))) gNx)
  (gSeq (gIf (tB (eOp dEq (eVar 4) (eC (.str "pad")))) (gRet (eTup (aCons (eC .non) (aCons (eVar 2) aNil)))) gNx)
  (gSeq (gIf (tB (eOp dEq (eVar 4) (eC (.str "one")))) (gSeq (gSet 6 (eOp dMod (eVar 3) (eUn dLen (eOp dIx (eVar 0) (eC (.int 2))))))
  (gSeq (gSet 7 (eCall p__law_record (aCons (eOp dIx (eOp dIx (eVar 0) (eC (.int 2))) (eVar 6)) (aCons (eVar 1) (aCons (eOp dAdd (eVar 2) (eC (.int 1))) aNil)))))
  (gRet (eTup (aCons (eTup (aCons (eVar 6) (aCons (eOp dIx (eVar 7) (eC (.int 0))) aNil))) (aCons (eOp dIx (eVar 7) (eC (.int 1))) aNil)))))) gNx)
  (gSeq (gIf (tB (eOp dEq (eVar 4) (eC (.str "group")))) (gSet 8 (eOp dIx (eVar 0) (eC (.int 1)))) (gSeq (gSet 8 (eOp dMul (eO (oLst (aCons (eOp dIx (eVar 0) (eOp dSub (eUn dLen (eVar 0)) (eC (.int 1)))) aNil))) (eCall p__law_many (aCons (eVar 0) (aCons (eVar 3) aNil)))))
  (gSet 2 (eOp dAdd (eVar 2) (eC (.int 1))))))
  (gSeq (gSetO 9 (oLst aNil))
  (gSeq (gFor 10 (eVar 8) (gSeq (gSet 7 (eCall p__law_record (aCons (eVar 10) (aCons (eVar 1) (aCons (eVar 2) aNil)))))
  (gSeq (gApp 9 (eOp dIx (eVar 7) (eC (.int 0))))
  (gSet 2 (eOp dIx (eVar 7) (eC (.int 1)))))))
  (gFrz 9 (gRet (eTup (aCons (eVar 9) (aCons (eVar 2) aNil)))))))))))))
def S_law_fits (p__law_whole p__law_fits p__law_room : List D → Res D) : List D → Res D := fnD 6 (gSeq (gSet 2 (eOp dIx (eVar 0) (eC (.int 0))))
  (gSeq (gIf (tB (eOp dEq (eVar 2) (eC (.str "num")))) (gRet (eAnd (eCall p__law_whole (aCons (eVar 1) aNil)) (eChain dLe dLe (eOp dIx (eVar 0) (eC (.int 2))) (eVar 1) (eOp dIx (eVar 0) (eC (.int 3)))))) gNx)
  (gSeq (gIf (tB (eOp dEq (eVar 2) (eC (.str "pad")))) (gRet (eUn dIsN (eVar 1))) gNx)
  (gSeq (gIf (tB (eOp dEq (eVar 2) (eC (.str "one")))) (gSeq (gIf (tOrB (tNotB (tB (eUn (dIsi .tuple) (eVar 1)))) (tOrB (tB (eOp dNe (eUn dLen (eVar 1)) (eC (.int 2)))) (tNotB (tB (eCall p__law_whole (aCons (eOp dIx (eVar 1) (eC (.int 0))) aNil)))))) (gRet (eC (.bl false))) gNx)
  (gRet (eAnd (eChain dLe dLt (eC (.int 0)) (eOp dIx (eVar 1) (eC (.int 0))) (eUn dLen (eOp dIx (eVar 0) (eC (.int 2))))) (eCall p__law_fits (aCons (eOp dIx (eOp dIx (eVar 0) (eC (.int 2))) (eOp dIx (eVar 1) (eC (.int 0)))) (aCons (eOp dIx (eVar 1) (eC (.int 1))) aNil)))))) gNx)
  (gSeq (gIf (tNotB (tB (eUn (dIsi .list) (eVar 1)))) (gRet (eC (.bl false))) gNx)
  (gSeq (gSet 3 (eOp dIx (eVar 0) (eC (.int 1))))
  (gSeq (gIf (tB (eOp dEq (eVar 2) (eC (.str "maybe")))) (gSet 3 (eOp dMul (eO (oLst (aCons (eOp dIx (eVar 0) (eC (.int 1))) aNil))) (eOp dMin2 (eC (.int 1)) (eUn dLen (eVar 1))))) gNx)
  (gSeq (gIf (tB (eOp dEq (eVar 2) (eC (.str "rows")))) (gSet 3 (eOp dMul (eO (oLst (aCons (eOp dIx (eVar 0) (eC (.int 2))) aNil))) (eOp dMin2 (eOp dSub (eCall p__law_room (aCons (eOp dIx (eVar 0) (eC (.int 1))) aNil)) (eC (.int 1))) (eUn dLen (eVar 1))))) gNx)
  (gSeq (gIf (tB (eOp dNe (eUn dLen (eVar 3)) (eUn dLen (eVar 1)))) (gRet (eC (.bl false))) gNx)
  (gSeq (gForZ 4 5 (eVar 3) (eVar 1) (gIf (tNotB (tB (eCall p__law_fits (aCons (eVar 4) (aCons (eVar 5) aNil))))) (gRet (eC (.bl false))) gNx))
  (gRet (eC (.bl true)))))))))))))
def S_law_spoilt (p__law_odd p__law_spoilt : List D → Res D) : List D → Res D := fnD 7 (gSeq (gIf (tOrB (tB (eOp dEq (eVar 2) (eC (.int 0)))) (tOrB (tB (eOp dEq (eOp dIx (eVar 0) (eC (.int 0))) (eC (.str "num")))) (tB (eOp dEq (eOp dIx (eVar 0) (eC (.int 0))) (eC (.str "pad")))))) (gRet (eCall p__law_odd (aCons (eVar 0) (aCons (eVar 1) (aCons (eVar 4) aNil))))) gNx)
  (gSeq (gIf (tB (eOp dEq (eOp dIx (eVar 0) (eC (.int 0))) (eC (.str "one")))) (gRet (eTup (aCons (eOp dIx (eVar 1) (eC (.int 0))) (aCons (eCall p__law_spoilt (aCons (eOp dIx (eOp dIx (eVar 0) (eC (.int 2))) (eOp dIx (eVar 1) (eC (.int 0)))) (aCons (eOp dIx (eVar 1) (eC (.int 1))) (aCons (eOp dSub (eVar 2) (eC (.int 1))) (aCons (eVar 3) (aCons (eVar 4) aNil)))))) aNil)))) gNx)
  (gSeq (gIf (tB (eOp dEq (eUn dLen (eVar 1)) (eC (.int 0)))) (gRet (eCall p__law_odd (aCons (eVar 0) (aCons (eVar 1) (aCons (eVar 4) aNil))))) gNx)
  (gSeq (gSet 5 (eOp dMod (eVar 3) (eUn dLen (eVar 1))))
  (gSeq (gSet 6 (eOp dIx (eVar 0) (eOp dSub (eUn dLen (eVar 0)) (eC (.int 1)))))
  (gSeq (gIf (tB (eOp dEq (eOp dIx (eVar 0) (eC (.int 0))) (eC (.str "group")))) (gSet 6 (eOp dIx (eOp dIx (eVar 0) (eC (.int 1))) (eVar 5))) gNx)
  (gRet (eOp dAdd (eOp dAdd (eO (oSl (eVar 1) rNone (rSome (eVar 5)))) (eO (oLst (aCons (eCall p__law_spoilt (aCons (eVar 6) (aCons (eOp dIx (eVar 1) (eVar 5)) (aCons (eOp dSub (eVar 2) (eC (.int 1))) (aCons (eOp dDiv (eVar 3) (eC (.int 3))) (aCons (eVar 4) aNil)))))) aNil)))) (eO (oSl (eVar 1) (rSome (eOp dAdd (eVar 5) (eC (.int 1)))) rNone))))))))))
def S_law_least (p__law_least : List D → Res D) : List D → Res D := fnD 2 (gSeq (gIf (tB (eOp dEq (eOp dIx (eVar 0) (eC (.int 0))) (eC (.str "maybe")))) (gRet (eC (.int 1))) gNx)
  (gSeq (gIf (tB (eOp dEq (eOp dIx (eVar 0) (eC (.int 0))) (eC (.str "one")))) (gRet (eOp dAdd (eOp dIx (eVar 0) (eC (.int 1))) (eUn dMinL (eO (oLc 1 (eOp dIx (eVar 0) (eC (.int 2))) (eCall p__law_least (aCons (eVar 1) aNil))))))) gNx)
  (gSeq (gIf (tB (eOp dEq (eOp dIx (eVar 0) (eC (.int 0))) (eC (.str "group")))) (gRet (eUn dSum (eO (oLc 1 (eOp dIx (eVar 0) (eC (.int 1))) (eCall p__law_least (aCons (eVar 1) aNil)))))) gNx)
  (gRet (eOp dIx (eVar 0) (eC (.int 1)))))))
def S_law_bits (p__law_written p__law_bits : List D → Res D) : List D → Res D := fnD 7 (gSeq (gSet 2 (eOp dIx (eVar 0) (eC (.int 0))))
  (gSeq (gIf (tB (eOp dEq (eVar 2) (eC (.str "num")))) (gRet (eCall p__law_written (aCons (eOp dSub (eVar 1) (eOp dIx (eVar 0) (eC (.int 2)))) (aCons (eOp dIx (eVar 0) (eC (.int 1))) aNil)))) gNx)
  (gSeq (gIf (tB (eOp dEq (eVar 2) (eC (.str "pad")))) (gRet (eOp dMul (eO (oLst (aCons (eC (.int 0)) aNil))) (eOp dIx (eVar 0) (eC (.int 1))))) gNx)
  (gSeq (gIf (tB (eOp dEq (eVar 2) (eC (.str "one")))) (gRet (eOp dAdd (eCall p__law_written (aCons (eOp dIx (eVar 1) (eC (.int 0))) (aCons (eOp dIx (eVar 0) (eC (.int 1))) aNil))) (eCall p__law_bits (aCons (eOp dIx (eOp dIx (eVar 0) (eC (.int 2))) (eOp dIx (eVar 1) (eC (.int 0)))) (aCons (eOp dIx (eVar 1) (eC (.int 1))) aNil))))) gNx)
  (gSeq (gSet 3 (eO (oLst aNil)))
  (gSeq (gSet 4 (eOp dIx (eVar 0) (eC (.int 1))))
  (gSeq (gIf (tB (eOp dEq (eVar 2) (eC (.str "maybe")))) (gSeq (gSet 3 (eO (oLst (aCons (eUn dLen (eVar 1)) aNil))))
  (gSet 4 (eOp dMul (eO (oLst (aCons (eOp dIx (eVar 0) (eC (.int 1))) aNil))) (eUn dLen (eVar 1))))) gNx)
  (gSeq (gIf (tB (eOp dEq (eVar 2) (eC (.str "rows")))) (gSeq (gSet 3 (eCall p__law_written (aCons (eUn dLen (eVar 1)) (aCons (eOp dIx (eVar 0) (eC (.int 1))) aNil))))
  (gSet 4 (eOp dMul (eO (oLst (aCons (eOp dIx (eVar 0) (eC (.int 2))) aNil))) (eUn dLen (eVar 1))))) gNx)
  (gSeq (gForZ 5 6 (eVar 4) (eVar 1) (gSet 3 (eOp dAdd (eVar 3) (eCall p__law_bits (aCons (eVar 5) (aCons (eVar 6) aNil))))))
  (gRet (eVar 3)))))))))))
def S_most_bits (p_most_bits p_room : List D → Res D) : List D → Res D := fnD 2 (gSeq (gIf (tB (eOp dEq (eOp dIx (eVar 0) (eC (.int 0))) (eC (.str "maybe")))) (gRet (eOp dAdd (eC (.int 1)) (eCall p_most_bits (aCons (eOp dIx (eVar 0) (eC (.int 1))) aNil)))) gNx)
  (gSeq (gIf (tB (eOp dEq (eOp dIx (eVar 0) (eC (.int 0))) (eC (.str "rows")))) (gRet (eOp dAdd (eOp dIx (eVar 0) (eC (.int 1))) (eOp dMul (eOp dSub (eCall p_room (aCons (eOp dIx (eVar 0) (eC (.int 1))) aNil)) (eC (.int 1))) (eCall p_most_bits (aCons (eOp dIx (eVar 0) (eC (.int 2))) aNil))))) gNx)
  (gSeq (gIf (tB (eOp dEq (eOp dIx (eVar 0) (eC (.int 0))) (eC (.str "group")))) (gRet (eUn dSum (eO (oLc 1 (eOp dIx (eVar 0) (eC (.int 1))) (eCall p_most_bits (aCons (eVar 1) aNil)))))) gNx)
  (gSeq (gIf (tB (eOp dEq (eOp dIx (eVar 0) (eC (.int 0))) (eC (.str "one")))) (gRet (eOp dAdd (eOp dIx (eVar 0) (eC (.int 1))) (eUn dMaxL (eO (oLc 1 (eOp dIx (eVar 0) (eC (.int 2))) (eCall p_most_bits (aCons (eVar 1) aNil))))))) gNx)
  (gRet (eOp dIx (eVar 0) (eC (.int 1))))))))
def S_law_lengths (p__law_lengths p__law_room : List D → Res D) : List D → Res D := fnD 4 (gSeq (gIf (tOrB (tB (eOp dEq (eOp dIx (eVar 0) (eC (.int 0))) (eC (.str "num")))) (tB (eOp dEq (eOp dIx (eVar 0) (eC (.int 0))) (eC (.str "pad"))))) (gRet (eTup (aCons (eOp dIx (eVar 0) (eC (.int 1))) (aCons (eOp dIx (eVar 0) (eC (.int 1))) aNil)))) gNx)
  (gSeq (gIf (tB (eOp dEq (eOp dIx (eVar 0) (eC (.int 0))) (eC (.str "maybe")))) (gRet (eTup (aCons (eC (.int 1)) (aCons (eOp dAdd (eC (.int 1)) (eOp dIx (eCall p__law_lengths (aCons (eOp dIx (eVar 0) (eC (.int 1))) aNil)) (eC (.int 1)))) aNil)))) gNx)
  (gSeq (gIf (tB (eOp dEq (eOp dIx (eVar 0) (eC (.int 0))) (eC (.str "rows")))) (gRet (eTup (aCons (eOp dIx (eVar 0) (eC (.int 1))) (aCons (eOp dAdd (eOp dIx (eVar 0) (eC (.int 1))) (eOp dMul (eOp dSub (eCall p__law_room (aCons (eOp dIx (eVar 0) (eC (.int 1))) aNil)) (eC (.int 1))) (eOp dIx (eCall p__law_lengths (aCons (eOp dIx (eVar 0) (eC (.int 2))) aNil)) (eC (.int 1))))) aNil)))) gNx)
  (gSeq (gSet 1 (eO (oLc 2 (eOp dIx (eVar 0) (eOp dSub (eUn dLen (eVar 0)) (eC (.int 1)))) (eCall p__law_lengths (aCons (eVar 2) aNil)))))
  (gSeq (gIf (tB (eOp dEq (eOp dIx (eVar 0) (eC (.int 0))) (eC (.str "one")))) (gRet (eTup (aCons (eOp dAdd (eOp dIx (eVar 0) (eC (.int 1))) (eUn dMinL (eO (oLc 3 (eVar 1) (eOp dIx (eVar 3) (eC (.int 0))))))) (aCons (eOp dAdd (eOp dIx (eVar 0) (eC (.int 1))) (eUn dMaxL (eO (oLc 3 (eVar 1) (eOp dIx (eVar 3) (eC (.int 1))))))) aNil)))) gNx)
  (gRet (eTup (aCons (eUn dSum (eO (oLc 3 (eVar 1) (eOp dIx (eVar 3) (eC (.int 0)))))) (aCons (eUn dSum (eO (oLc 3 (eVar 1) (eOp dIx (eVar 3) (eC (.int 1)))))) aNil)))))))))
def S_read_many (p_read_at : List D → Res D) : List D → Res D := fnD 7 (gSeq (gSetO 4 (oLst aNil))
  (gSeq (gFor 5 (eVar 0) (gSeq (gSet 6 (eCall p_read_at (aCons (eVar 5) (aCons (eVar 1) (aCons (eVar 2) (aCons (eVar 3) aNil))))))
  (gSeq (gIf (tB (eOp dNe (eOp dIx (eVar 6) (eC (.int 0))) (eC (.str "read")))) (gRet (eVar 6)) gNx)
  (gSeq (gApp 4 (eOp dIx (eVar 6) (eC (.int 1))))
  (gSet 2 (eOp dIx (eVar 6) (eC (.int 2))))))))
  (gFrz 4 (gRet (eTup (aCons (eC (.str "read")) (aCons (eVar 4) (aCons (eVar 2) aNil))))))))
def S_read_head (p_read_code p_room : List D → Res D) : List D → Res D := fnD 4 (gSeq (gIf (tB (eOp dEq (eOp dIx (eVar 0) (eC (.int 0))) (eC (.str "maybe")))) (gRet (eCall p_read_code (aCons (eVar 1) (aCons (eVar 2) (aCons (eC (.int 1)) (aCons (eC (.int 1)) (aCons (eVar 3) aNil))))))) gNx)
  (gSeq (gIf (tB (eOp dEq (eOp dIx (eVar 0) (eC (.int 0))) (eC (.str "rows")))) (gRet (eCall p_read_code (aCons (eVar 1) (aCons (eVar 2) (aCons (eOp dIx (eVar 0) (eC (.int 1))) (aCons (eOp dSub (eCall p_room (aCons (eOp dIx (eVar 0) (eC (.int 1))) aNil)) (eC (.int 1))) (aCons (eVar 3) aNil))))))) gNx)
  (gRet (eCall p_read_code (aCons (eVar 1) (aCons (eVar 2) (aCons (eOp dIx (eVar 0) (eC (.int 1))) (aCons (eOp dSub (eUn dLen (eOp dIx (eVar 0) (eC (.int 2)))) (eC (.int 1))) (aCons (eVar 3) aNil)))))))))
def S_read_at (p_read_code p_read_many p_read_head p_read_at : List D → Res D) : List D → Res D := fnD 7 (gSeq (gSet 4 (eOp dIx (eVar 0) (eC (.int 0))))
  (gSeq (gIf (tB (eOp dEq (eVar 4) (eC (.str "num")))) (gSeq (gSet 5 (eCall p_read_code (aCons (eVar 1) (aCons (eVar 2) (aCons (eOp dIx (eVar 0) (eC (.int 1))) (aCons (eOp dSub (eOp dIx (eVar 0) (eC (.int 3))) (eOp dIx (eVar 0) (eC (.int 2)))) (aCons (eVar 3) aNil)))))))
  (gSeq (gIf (tB (eOp dNe (eOp dIx (eVar 5) (eC (.int 0))) (eC (.str "read")))) (gRet (eVar 5)) gNx)
  (gRet (eTup (aCons (eC (.str "read")) (aCons (eOp dAdd (eOp dIx (eVar 0) (eC (.int 2))) (eOp dIx (eVar 5) (eC (.int 1)))) (aCons (eOp dIx (eVar 5) (eC (.int 2))) aNil))))))) gNx)
  (gSeq (gIf (tB (eOp dEq (eVar 4) (eC (.str "pad")))) (gSeq (gSet 5 (eCall p_read_code (aCons (eVar 1) (aCons (eVar 2) (aCons (eOp dIx (eVar 0) (eC (.int 1))) (aCons (eC (.int 0)) (aCons (eVar 3) aNil)))))))
  (gSeq (gIf (tB (eOp dNe (eOp dIx (eVar 5) (eC (.int 0))) (eC (.str "read")))) (gRet (eVar 5)) gNx)
  (gRet (eTup (aCons (eC (.str "read")) (aCons (eC .non) (aCons (eOp dIx (eVar 5) (eC (.int 2))) aNil))))))) gNx)
  (gSeq (gIf (tB (eOp dEq (eVar 4) (eC (.str "group")))) (gRet (eCall p_read_many (aCons (eOp dIx (eVar 0) (eC (.int 1))) (aCons (eVar 1) (aCons (eVar 2) (aCons (eVar 3) aNil)))))) gNx)
  (gSeq (gSet 6 (eCall p_read_head (aCons (eVar 0) (aCons (eVar 1) (aCons (eVar 2) (aCons (eVar 3) aNil))))))
  (gSeq (gIf (tB (eOp dNe (eOp dIx (eVar 6) (eC (.int 0))) (eC (.str "read")))) (gRet (eVar 6)) gNx)
  (gSeq (gIf (tB (eOp dEq (eVar 4) (eC (.str "maybe")))) (gRet (eCall p_read_many (aCons (eOp dMul (eO (oLst (aCons (eOp dIx (eVar 0) (eC (.int 1))) aNil))) (eOp dIx (eVar 6) (eC (.int 1)))) (aCons (eVar 1) (aCons (eOp dIx (eVar 6) (eC (.int 2))) (aCons (eVar 3) aNil)))))) gNx)
  (gSeq (gIf (tB (eOp dEq (eVar 4) (eC (.str "rows")))) (gRet (eCall p_read_many (aCons (eOp dMul (eO (oLst (aCons (eOp dIx (eVar 0) (eC (.int 2))) aNil))) (eOp dIx (eVar 6) (eC (.int 1)))) (aCons (eVar 1) (aCons (eOp dIx (eVar 6) (eC (.int 2))) (aCons (eVar 3) aNil)))))) gNx)
  (gSeq (gSet 5 (eCall p_read_at (aCons (eOp dIx (eOp dIx (eVar 0) (eC (.int 2))) (eOp dIx (eVar 6) (eC (.int 1)))) (aCons (eVar 1) (aCons (eOp dIx (eVar 6) (eC (.int 2))) (aCons (eVar 3) aNil))))))
  (gSeq (gIf (tB (eOp dNe (eOp dIx (eVar 5) (eC (.int 0))) (eC (.str "read")))) (gRet (eVar 5)) gNx)
  (gRet (eTup (aCons (eC (.str "read")) (aCons (eTup (aCons (eOp dIx (eVar 6) (eC (.int 1))) (aCons (eOp dIx (eVar 5) (eC (.int 1))) aNil))) (aCons (eOp dIx (eVar 5) (eC (.int 2))) aNil)))))))))))))))
def S_looked (p_read_at : List D → Res D) : List D → Res D := fnD 3 (gSeq (gSet 2 (eCall p_read_at (aCons (eVar 0) (aCons (eVar 1) (aCons (eC (.int 0)) (aCons (eC (.bl false)) aNil))))))
  (gSeq (gIf (tB (eOp dNe (eOp dIx (eVar 2) (eC (.int 0))) (eC (.str "read")))) (gRet (eVar 2)) gNx)
  (gSeq (gIf (tB (eOp dLt (eOp dIx (eVar 2) (eC (.int 2))) (eUn dLen (eVar 1)))) (gRet (eTup (aCons (eC (.str "left")) (aCons (eOp dIx (eVar 2) (eC (.int 2))) aNil)))) gNx)
  (gRet (eTup (aCons (eC (.str "read")) (aCons (eOp dIx (eVar 2) (eC (.int 1))) aNil)))))))
def S_law_changed (p__law_written : List D → Res D) : List D → Res D := fnD 6 (gSeq (gSet 2 (eOp dMod (eVar 1) (eC (.int 6))))
  (gSeq (gSet 3 (eOp dDiv (eVar 1) (eC (.int 6))))
  (gSeq (gIf (tB (eOp dEq (eVar 2) (eC (.int 1)))) (gRet (eO (oSl (eVar 0) rNone (rSome (eOp dMod (eVar 3) (eOp dAdd (eUn dLen (eVar 0)) (eC (.int 1)))))))) gNx)
  (gSeq (gIf (tB (eOp dEq (eVar 2) (eC (.int 2)))) (gRet (eOp dAdd (eVar 0) (eCall p__law_written (aCons (eOp dMod (eOp dDiv (eVar 3) (eC (.int 6))) (eC (.int 64))) (aCons (eOp dAdd (eC (.int 1)) (eOp dMod (eVar 3) (eC (.int 6)))) aNil))))) gNx)
  (gSeq (gIf (tAndB (tB (eOp dEq (eVar 2) (eC (.int 3)))) (tB (eOp dGt (eUn dLen (eVar 0)) (eC (.int 0))))) (gSeq (gSet 4 (eOp dMod (eVar 3) (eUn dLen (eVar 0))))
  (gRet (eOp dAdd (eOp dAdd (eO (oSl (eVar 0) rNone (rSome (eVar 4)))) (eO (oLst (aCons (eOp dSub (eC (.int 1)) (eOp dIx (eVar 0) (eVar 4))) aNil)))) (eO (oSl (eVar 0) (rSome (eOp dAdd (eVar 4) (eC (.int 1)))) rNone))))) gNx)
  (gSeq (gIf (tB (eOp dEq (eVar 2) (eC (.int 4)))) (gSeq (gSet 5 (eOp dMod (eVar 3) (eC (.int 48))))
  (gRet (eCall p__law_written (aCons (eOp dMul (eOp dMod (eOp dMul (eVar 3) (eC (.int 48271))) (eC (.int 2147483647))) (eC (.int 40692))) (aCons (eVar 5) aNil))))) gNx)
  (gSeq (gIf (tAndB (tB (eOp dEq (eVar 2) (eC (.int 5)))) (tB (eOp dGt (eUn dLen (eVar 0)) (eC (.int 0))))) (gSeq (gSet 4 (eOp dMod (eVar 3) (eUn dLen (eVar 0))))
  (gRet (eOp dAdd (eO (oSl (eVar 0) rNone (rSome (eVar 4)))) (eCall p__law_written (aCons (eOp dMod (eOp dMul (eVar 3) (eC (.int 48271))) (eC (.int 2147483647))) (aCons (eOp dSub (eUn dLen (eVar 0)) (eVar 4)) aNil)))))) gNx)
  (gRet (eVar 0)))))))))
def S_law_code (p__law_room : List D → Res D) : List D → Res D := fnD 6 (gSeq (gSet 4 (eC (.int 0)))
  (gSeq (gForR 5 (eVar 2) (gSeq (gIf (tB (eOp dGe (eOp dAdd (eVar 1) (eVar 5)) (eUn dLen (eVar 0)))) (gRet (eTup (aCons (eC (.str "short")) (aCons (eUn dLen (eVar 0)) aNil)))) gNx)
  (gSeq (gSet 4 (eOp dAdd (eOp dMul (eVar 4) (eC (.int 2))) (eOp dIx (eVar 0) (eOp dAdd (eVar 1) (eVar 5)))))
  (gIf (tB (eOp dGt (eOp dMul (eVar 4) (eCall p__law_room (aCons (eOp dSub (eOp dSub (eVar 2) (eC (.int 1))) (eVar 5)) aNil))) (eVar 3))) (gRet (eTup (aCons (eC (.str "wrong")) (aCons (eOp dAdd (eVar 1) (eVar 5)) aNil)))) gNx))))
  (gRet (eTup (aCons (eC (.str "read")) (aCons (eVar 4) (aCons (eOp dAdd (eVar 1) (eVar 2)) aNil)))))))
def S_law_most (p__law_room : List D → Res D) : List D → Res D := fnD 1 (gSeq (gIf (tB (eOp dEq (eOp dIx (eVar 0) (eC (.int 0))) (eC (.str "num")))) (gRet (eOp dSub (eOp dIx (eVar 0) (eC (.int 3))) (eOp dIx (eVar 0) (eC (.int 2))))) gNx)
  (gSeq (gIf (tB (eOp dEq (eOp dIx (eVar 0) (eC (.int 0))) (eC (.str "rows")))) (gRet (eOp dSub (eCall p__law_room (aCons (eOp dIx (eVar 0) (eC (.int 1))) aNil)) (eC (.int 1)))) gNx)
  (gSeq (gIf (tB (eOp dEq (eOp dIx (eVar 0) (eC (.int 0))) (eC (.str "one")))) (gRet (eOp dSub (eUn dLen (eOp dIx (eVar 0) (eC (.int 2)))) (eC (.int 1)))) gNx)
  (gRet (eC (.int 0))))))
def S_law_read (p__law_code p__law_most p__law_read : List D → Res D) : List D → Res D := fnD 9 (gSeq (gSet 3 (eOp dIx (eVar 0) (eC (.int 0))))
  (gSeq (gSet 4 (eO (oLst aNil)))
  (gSeq (gIf (tB (eOp dEq (eVar 3) (eC (.str "group")))) (gSeq (gSet 5 (eTup (aCons (eC (.str "read")) (aCons (eC (.int 0)) (aCons (eVar 2) aNil)))))
  (gSet 4 (eOp dIx (eVar 0) (eC (.int 1))))) (gIf (tB (eOp dEq (eVar 3) (eC (.str "maybe")))) (gSet 5 (eCall p__law_code (aCons (eVar 1) (aCons (eVar 2) (aCons (eC (.int 1)) (aCons (eC (.int 1)) aNil)))))) (gSet 5 (eCall p__law_code (aCons (eVar 1) (aCons (eVar 2) (aCons (eOp dIx (eVar 0) (eC (.int 1))) (aCons (eCall p__law_most (aCons (eVar 0) aNil)) aNil))))))))
  (gSeq (gIf (tB (eOp dNe (eOp dIx (eVar 5) (eC (.int 0))) (eC (.str "read")))) (gRet (eVar 5)) gNx)
  (gSeq (gIf (tB (eOp dEq (eVar 3) (eC (.str "num")))) (gRet (eTup (aCons (eC (.str "read")) (aCons (eOp dAdd (eOp dIx (eVar 0) (eC (.int 2))) (eOp dIx (eVar 5) (eC (.int 1)))) (aCons (eOp dIx (eVar 5) (eC (.int 2))) aNil))))) gNx)
  (gSeq (gIf (tB (eOp dEq (eVar 3) (eC (.str "pad")))) (gRet (eTup (aCons (eC (.str "read")) (aCons (eC .non) (aCons (eOp dIx (eVar 5) (eC (.int 2))) aNil))))) gNx)
  (gSeq (gIf (tOrB (tB (eOp dEq (eVar 3) (eC (.str "maybe")))) (tB (eOp dEq (eVar 3) (eC (.str "rows"))))) (gSet 4 (eOp dMul (eO (oLst (aCons (eOp dIx (eVar 0) (eOp dSub (eUn dLen (eVar 0)) (eC (.int 1)))) aNil))) (eOp dIx (eVar 5) (eC (.int 1))))) gNx)
  (gSeq (gIf (tB (eOp dEq (eVar 3) (eC (.str "one")))) (gSet 4 (eO (oLst (aCons (eOp dIx (eOp dIx (eVar 0) (eC (.int 2))) (eOp dIx (eVar 5) (eC (.int 1)))) aNil)))) gNx)
  (gSeq (gSetO 6 (oLst aNil))
  (gSeq (gSet 2 (eOp dIx (eVar 5) (eC (.int 2))))
  (gSeq (gFor 7 (eVar 4) (gSeq (gSet 8 (eCall p__law_read (aCons (eVar 7) (aCons (eVar 1) (aCons (eVar 2) aNil)))))
  (gSeq (gIf (tB (eOp dNe (eOp dIx (eVar 8) (eC (.int 0))) (eC (.str "read")))) (gRet (eVar 8)) gNx)
  (gSeq (gApp 6 (eOp dIx (eVar 8) (eC (.int 1))))
  (gSet 2 (eOp dIx (eVar 8) (eC (.int 2))))))))
  (gSeq (gIf (tB (eOp dEq (eVar 3) (eC (.str "one")))) (gRet (eTup (aCons (eC (.str "read")) (aCons (eTup (aCons (eOp dIx (eVar 5) (eC (.int 1))) (aCons (eIxO 6 (eC (.int 0))) aNil))) (aCons (eVar 2) aNil))))) gNx)
  (gFrz 6 (gRet (eTup (aCons (eC (.str "read")) (aCons (eVar 6) (aCons (eVar 2) aNil))))))))))))))))))
def S_unpacked (p_looked : List D → Res D) : List D → Res D := fnD 3 (gSeq (gSet 2 (eCall p_looked (aCons (eVar 0) (aCons (eVar 1) aNil))))
  (gSeq (gIf (tB (eOp dEq (eOp dIx (eVar 2) (eC (.int 0))) (eC (.str "short")))) (gExc "Short") gNx)
  (gSeq (gIf (tB (eOp dEq (eOp dIx (eVar 2) (eC (.int 0))) (eC (.str "left")))) (gExc "Left") gNx)
  (gSeq (gIf (tB (eOp dEq (eOp dIx (eVar 2) (eC (.int 0))) (eC (.str "wrong")))) (gExc "Wrong") gNx)
  (gRet (eOp dIx (eVar 2) (eC (.int 1))))))))
def S_begun (p_read_at : List D → Res D) : List D → Res D := fnD 3 (gSeq (gSet 2 (eCall p_read_at (aCons (eVar 0) (aCons (eVar 1) (aCons (eC (.int 0)) (aCons (eC (.bl true)) aNil))))))
  (gSeq (gIf (tAndB (tB (eOp dEq (eOp dIx (eVar 2) (eC (.int 0))) (eC (.str "read")))) (tB (eOp dGe (eOp dIx (eVar 2) (eC (.int 2))) (eUn dLen (eVar 1))))) (gRet (eO (oLst (aCons (eOp dIx (eVar 2) (eC (.int 1))) aNil)))) gNx)
  (gRet (eO (oLst aNil)))))
def S_law_bit_list (p__law_whole : List D → Res D) : List D → Res D := fnD 2 (gSeq (gIf (tNotB (tB (eUn (dIsi .list) (eVar 0)))) (gRet (eC (.bl false))) gNx)
  (gSeq (gFor 1 (eVar 0) (gIf (tOrB (tNotB (tB (eCall p__law_whole (aCons (eVar 1) aNil)))) (tB (eOp dNotIn (eVar 1) (eTup (aCons (eC (.int 0)) (aCons (eC (.int 1)) aNil)))))) (gRet (eC (.bl false))) gNx))
  (gRet (eC (.bl true)))))
def S_law_begun (p__law_read p_begun p__law_alike p__law_fits p__law_bits : List D → Res D) : List D → Res D := fnD 6 (gSeq (gSet 2 (eCall p__law_read (aCons (eVar 0) (aCons (eVar 1) (aCons (eC (.int 0)) aNil)))))
  (gSeq (gSet 3 (eO (oUn dList (eVar 1))))
  (gSeq (gSet 4 (eCall p_begun (aCons (eVar 0) (aCons (eVar 3) aNil))))
  (gSeq (gIf (tOrB (tNotB (tB (eUn (dIsi .list) (eVar 4)))) (tNotB (tB (eCall p__law_alike (aCons (eVar 3) (aCons (eVar 1) aNil)))))) (gRet (eC (.bl false))) gNx)
  (gSeq (gIf (tOrB (tB (eOp dEq (eOp dIx (eVar 2) (eC (.int 0))) (eC (.str "wrong")))) (tAndB (tB (eOp dEq (eOp dIx (eVar 2) (eC (.int 0))) (eC (.str "read")))) (tB (eOp dLt (eOp dIx (eVar 2) (eC (.int 2))) (eUn dLen (eVar 1)))))) (gRet (eOp dEq (eUn dLen (eVar 4)) (eC (.int 0)))) gNx)
  (gSeq (gIf (tOrB (tB (eOp dNe (eUn dLen (eVar 4)) (eC (.int 1)))) (tNotB (tB (eCall p__law_fits (aCons (eVar 0) (aCons (eOp dIx (eVar 4) (eC (.int 0))) aNil)))))) (gRet (eC (.bl false))) gNx)
  (gSeq (gSet 5 (eCall p__law_bits (aCons (eVar 0) (aCons (eOp dIx (eVar 4) (eC (.int 0))) aNil))))
  (gRet (eOp dEq (eVar 5) (eOp dAdd (eVar 1) (eOp dMul (eO (oLst (aCons (eC (.int 0)) aNil))) (eOp dSub (eUn dLen (eVar 5)) (eUn dLen (eVar 1))))))))))))))
def S_law_goes_on (p_begun p_packed p__law_bit_list : List D → Res D) : List D → Res D := fnD 4 (gSeq (gSet 2 (eCall p_begun (aCons (eVar 0) (aCons (eO (oUn dList (eVar 1))) aNil))))
  (gSeq (gIf (tOrB (tNotB (tB (eUn (dIsi .list) (eVar 2)))) (tB (eOp dNe (eUn dLen (eVar 2)) (eC (.int 1))))) (gRet (eC (.bl false))) gNx)
  (gSeq (gSet 3 (eCall p_packed (aCons (eVar 0) (aCons (eOp dIx (eVar 2) (eC (.int 0))) aNil))))
  (gSeq (gIf (tOrB (tNotB (tB (eCall p__law_bit_list (aCons (eVar 3) aNil)))) (tB (eOp dLe (eUn dLen (eVar 3)) (eUn dLen (eVar 1))))) (gRet (eC (.bl false))) gNx)
  (gRet (eOp dEq (eVar 3) (eOp dAdd (eVar 1) (eOp dMul (eO (oLst (aCons (eC (.int 0)) aNil))) (eOp dSub (eUn dLen (eVar 3)) (eUn dLen (eVar 1)))))))))))
def S_law_read_back (p_looked p__law_alike p_packed : List D → Res D) : List D → Res D := fnD 3 (gSeq (gSet 2 (eCall p_looked (aCons (eVar 0) (aCons (eO (oUn dList (eVar 1))) aNil))))
  (gSeq (gIf (tOrB (tNotB (tB (eUn (dIsi .tuple) (eVar 2)))) (tOrB (tB (eOp dNe (eUn dLen (eVar 2)) (eC (.int 2)))) (tNotB (tB (eCall p__law_alike (aCons (eOp dIx (eVar 2) (eC (.int 0))) (aCons (eC (.str "read")) aNil))))))) (gRet (eC (.bl false))) gNx)
  (gRet (eOp dEq (eCall p_packed (aCons (eVar 0) (aCons (eOp dIx (eVar 2) (eC (.int 1))) aNil))) (eVar 1)))))
def S_law_walked (p_looked p__law_read_back p__law_whole p__law_goes_on p_begun p__law_alike : List D → Res D) : List D → Res D := fnD 5 (gSeq (gSet 3 (eCall p_looked (aCons (eVar 0) (aCons (eO (oUn dList (eVar 1))) aNil))))
  (gSeq (gIf (tOrB (tNotB (tB (eUn (dIsi .tuple) (eVar 3)))) (tOrB (tB (eOp dNe (eUn dLen (eVar 3)) (eC (.int 2)))) (tNotB (tB (eUn (dIsi .str) (eOp dIx (eVar 3) (eC (.int 0)))))))) (gRet (eC (.bl false))) gNx)
  (gSeq (gIf (tB (eOp dEq (eOp dIx (eVar 3) (eC (.int 0))) (eC (.str "read")))) (gRet (eCall p__law_read_back (aCons (eVar 0) (aCons (eVar 1) aNil)))) gNx)
  (gSeq (gSet 4 (eOp dIx (eVar 3) (eC (.int 1))))
  (gSeq (gIf (tOrB (tNotB (tB (eCall p__law_whole (aCons (eVar 4) aNil)))) (tOrB (tB (eOp dLt (eVar 4) (eC (.int 0)))) (tB (eOp dGt (eVar 4) (eUn dLen (eVar 1)))))) (gRet (eC (.bl false))) gNx)
  (gSeq (gIf (tB (eOp dEq (eOp dIx (eVar 3) (eC (.int 0))) (eC (.str "short")))) (gRet (eAnd (eOp dEq (eVar 4) (eUn dLen (eVar 1))) (eCall p__law_goes_on (aCons (eVar 0) (aCons (eVar 1) aNil))))) gNx)
  (gSeq (gIf (tB (eOp dEq (eVar 4) (eUn dLen (eVar 1)))) (gRet (eC (.bl false))) gNx)
  (gSeq (gIf (tB (eOp dEq (eOp dIx (eVar 3) (eC (.int 0))) (eC (.str "left")))) (gRet (eCall p__law_read_back (aCons (eVar 0) (aCons (eO (oSl (eVar 1) rNone (rSome (eVar 4)))) aNil)))) gNx)
  (gSeq (gIf (tOrB (tB (eOp dNe (eOp dIx (eVar 3) (eC (.int 0))) (eC (.str "wrong")))) (tOrB (tB (eOp dNe (eOp dIx (eVar 1) (eVar 4)) (eC (.int 1)))) (tNotB (tB (eCall p__law_goes_on (aCons (eVar 0) (aCons (eO (oSl (eVar 1) rNone (rSome (eVar 4)))) aNil))))))) (gRet (eC (.bl false))) gNx)
  (gSeq (gIf (tB (eOp dNe (eCall p_begun (aCons (eVar 0) (aCons (eO (oSl (eVar 1) rNone (rSome (eOp dAdd (eVar 4) (eC (.int 1)))))) aNil))) (eO (oLst aNil)))) (gRet (eC (.bl false))) gNx)
  (gRet (eCall p__law_alike (aCons (eCall p_looked (aCons (eVar 0) (aCons (eOp dAdd (eO (oSl (eVar 1) rNone (rSome (eOp dAdd (eVar 4) (eC (.int 1)))))) (eVar 2)) aNil))) (aCons (eTup (aCons (eC (.str "wrong")) (aCons (eVar 4) aNil))) aNil))))))))))))))
def S_unpacked_all (p_need_bits p_read_at : List D → Res D) : List D → Res D := fnD 5 (gSeq (gExpr (eCall p_need_bits (aCons (eVar 0) aNil)))
  (gSeq (gSetO 2 (oLst aNil))
  (gSeq (gSet 3 (eC (.int 0)))
  (gSeq (gWhile whileFuel (tB (eOp dLt (eVar 3) (eUn dLen (eVar 1)))) (gSeq (gSet 4 (eCall p_read_at (aCons (eVar 0) (aCons (eVar 1) (aCons (eVar 3) (aCons (eC (.bl false)) aNil))))))
  (gSeq (gIf (tB (eOp dEq (eOp dIx (eVar 4) (eC (.int 0))) (eC (.str "short")))) (gExc "Short") gNx)
  (gSeq (gIf (tB (eOp dEq (eOp dIx (eVar 4) (eC (.int 0))) (eC (.str "wrong")))) (gExc "Wrong") gNx)
  (gSeq (gApp 2 (eOp dIx (eVar 4) (eC (.int 1))))
  (gSet 3 (eOp dIx (eVar 4) (eC (.int 2)))))))))
  (gFrz 2 (gRet (eVar 2)))))))
def S_law_row (p__law_record : List D → Res D) : List D → Res D := fnD 7 (gSeq (gSetO 3 (oLst aNil))
  (gSeq (gSet 4 (eC (.int 0)))
  (gSeq (gForR 5 (eVar 2) (gSeq (gSet 6 (eCall p__law_record (aCons (eVar 0) (aCons (eVar 1) (aCons (eVar 4) aNil)))))
  (gSeq (gApp 3 (eOp dIx (eVar 6) (eC (.int 0))))
  (gSet 4 (eOp dIx (eVar 6) (eC (.int 1)))))))
  (gFrz 3 (gRet (eVar 3))))))
def S_law_odd_in (p__law_odd_in : List D → Res D) : List D → Res D := fnD 4 (gSeq (gIf (tAndB (tB (eOp dGt (eVar 1) (eC (.int 0)))) (tB (eUn (dIsi .tuple) (eVar 0)))) (gRet (eTup (aCons (eOp dIx (eVar 0) (eC (.int 0))) (aCons (eCall p__law_odd_in (aCons (eOp dIx (eVar 0) (eC (.int 1))) (aCons (eOp dSub (eVar 1) (eC (.int 1))) (aCons (eVar 2) aNil)))) aNil)))) gNx)
  (gSeq (gIf (tAndB (tB (eOp dGt (eVar 1) (eC (.int 0)))) (tAndB (tB (eUn (dIsi .list) (eVar 0))) (tB (eOp dGt (eUn dLen (eVar 0)) (eC (.int 0)))))) (gSeq (gSet 3 (eOp dMod (eVar 2) (eUn dLen (eVar 0))))
  (gRet (eOp dAdd (eOp dAdd (eO (oSl (eVar 0) rNone (rSome (eVar 3)))) (eO (oLst (aCons (eCall p__law_odd_in (aCons (eOp dIx (eVar 0) (eVar 3)) (aCons (eOp dSub (eVar 1) (eC (.int 1))) (aCons (eOp dDiv (eVar 2) (eC (.int 3))) aNil)))) aNil)))) (eO (oSl (eVar 0) (rSome (eOp dAdd (eVar 3) (eC (.int 1)))) rNone))))) gNx)
  (gRet (eOp dIx (eO (oLst (aCons (eC (.str "0")) (aCons (eOp dPow (eC (.int 10)) (eC (.int 21))) (aCons (eUn dNeg (eOp dPow (eC (.int 10)) (eC (.int 21)))) (aCons (eOp dMul (eO (oLst (aCons (eC .non) aNil))) (eC (.int 300))) (aCons (eTup (aCons (eC (.int 99)) (aCons (eC .non) aNil))) (aCons (eC (.bl true)) (aCons (eC (.bl false)) aNil))))))))) (eOp dMod (eVar 2) (eC (.int 7)))))))
def S_law_count (p__law_cell_at p__law_wide : List D → Res D) : List D → Res D := fnD 4 (gSeq (gSet 3 (eCall p__law_cell_at (aCons (eVar 1) (aCons (eC (.int 35)) aNil))))
  (gSeq (gIf (tAndB (tB (eOp dEq (eOp dMod (eVar 3) (eC (.int 4))) (eC (.int 1)))) (tB (eOp dLt (eCall p__law_wide (aCons (eVar 0) aNil)) (eC (.int 16))))) (gRet (eOp dMod (eOp dDiv (eVar 3) (eC (.int 4))) (eC (.int 41)))) gNx)
  (gSeq (gIf (tAndB (tB (eOp dEq (eOp dMod (eVar 3) (eC (.int 8))) (eC (.int 2)))) (tB (eOp dLt (eCall p__law_wide (aCons (eVar 0) aNil)) (eC (.int 8))))) (gRet (eOp dMod (eOp dDiv (eVar 3) (eC (.int 8))) (eC (.int 201)))) gNx)
  (gRet (eOp dMod (eVar 2) (eC (.int 5)))))))
def S_law_pieces (p__law_cell_at : List D → Res D) : List D → Res D := fnD 6 (gSeq (gSetO 2 (oLst aNil))
  (gSeq (gSet 3 (eC (.int 0)))
  (gSeq (gWhile whileFuel (tB (eOp dLt (eVar 3) (eUn dLen (eVar 1)))) (gSeq (gSet 4 (eLenO 2))
  (gSeq (gSet 5 (eOp dAdd (eOp dMod (eCall p__law_cell_at (aCons (eVar 0) (aCons (eOp dMod (eOp dAdd (eC (.int 33)) (eVar 4)) (eC (.int 61))) aNil))) (eC (.int 13))) (eOp dDiv (eOp dMul (eVar 4) (eVar 4)) (eC (.int 4)))))
  (gSeq (gApp 2 (eO (oSl (eVar 1) (rSome (eVar 3)) (rSome (eOp dAdd (eVar 3) (eVar 5))))))
  (gSet 3 (eOp dAdd (eVar 3) (eVar 5)))))))
  (gFrz 2 (gRet (eVar 2))))))
end Pu

namespace Pu
open PySem L2
theorem dIx_lst {ds : List D} {i : Int} : dIx (.lst ds) (.int i) = dAt ds i := rfl
theorem dIx_tup {ds : List D} {i : Int} : dIx (.tup ds) (.int i) = dAt ds i := rfl
theorem dIx_scr {ns : List Int} {i : Int} : dIx (.scr ns) (.int i) = match atI ns i with
  | some n => .ok (.int n)
  | none => .stk := rfl
theorem ci0 : ((0 : Nat) : Int) = 0 := rfl
theorem ci1 : ((1 : Nat) : Int) = 1 := rfl
theorem ci2 : ((2 : Nat) : Int) = 2 := rfl
theorem ci3 : ((3 : Nat) : Int) = 3 := rfl
theorem ci4 : ((4 : Nat) : Int) = 4 := rfl
theorem ci5 : ((5 : Nat) : Int) = 5 := rfl
theorem dAt_0 {a : D} {l : List D} : dAt (a :: l) 0 = .ok a := by unfold dAt; rw [show (0 : Int) = ((0 : Nat) : Int) from rfl, atI_nat (j := 0) (v := a) rfl]
theorem dAt_1 {a b : D} {l : List D} : dAt (a :: b :: l) 1 = .ok b := by unfold dAt; rw [show (1 : Int) = ((1 : Nat) : Int) from rfl, atI_nat (j := 1) (v := b) rfl]
theorem dAt_2 {a b c : D} {l : List D} : dAt (a :: b :: c :: l) 2 = .ok c := by unfold dAt; rw [show (2 : Int) = ((2 : Nat) : Int) from rfl, atI_nat (j := 2) (v := c) rfl]
theorem dAt_3 {a b c d : D} {l : List D} : dAt (a :: b :: c :: d :: l) 3 = .ok d := by unfold dAt; rw [show (3 : Int) = ((3 : Nat) : Int) from rfl, atI_nat (j := 3) (v := d) rfl]
theorem sizeLine_val : sizeLine = 16777216 := sizeLine_eq
theorem fits_le {n : Nat} (h : n ≤ 16777216) : fits n = true := by
  unfold fits
  rw [Nat.ble_eq]
  exact h
theorem rngOk_nat {n : Nat} (h : n ≤ 16777216) : rngOk (n : Int) = true := by
  unfold rngOk
  rw [Nat.ble_eq]
  omega
theorem mulOk_r {a b : Int} (h : b.natAbs ≤ 18446744073709551615) : mulOk a b = true := by
  unfold mulOk
  rw [(Nat.ble_eq ..).mpr h, Bool.or_true, Bool.true_or]
theorem mulOk_l {a b : Int} (h : a.natAbs ≤ 18446744073709551615) : mulOk a b = true := by
  unfold mulOk
  rw [(Nat.ble_eq ..).mpr h, Bool.true_or, Bool.true_or]
theorem mulOk_two {a : Int} : mulOk a 2 = true := mulOk_r (by decide)
theorem divOk_lt {b : Int} (h : 0 < b) (h2 : b.natAbs < 2 ^ 9000) : divOk b = true := by
  unfold divOk
  have := PySem.Flt.log2_lt_of (by omega) h2
  rw [Bool.and_eq_true, Nat.ble_eq, decide_eq_true_eq]
  exact ⟨h, by omega⟩
theorem divOk2 : divOk 2 = true := divOk_lt (by omega) (Nat.lt_of_lt_of_le (by decide : (2 : Int).natAbs < 2 ^ 2) (Nat.pow_le_pow_right (by omega) (by omega)))
/-- the slot of a loop's variable ahead of turn k -/
def stp (u : Slt) : Nat → Slt
  | 0 => u
  | k + 1 => .v (.int (k : Nat))
theorem forR_inv {b : Nat → Rho → SRes} (I : Nat → Rho) (n : Nat) (h : ∀ k, k < n → b k (I k) = .nx (I (k + 1))) : forL b (List.range n) (I 0) = .nx (I n) := by
  have go : ∀ m j, j + m = n → forL b (List.range' j m) (I j) = .nx (I n) := by
    intro m
    induction m with
    | zero => intro j e; simp only [List.range'_zero, forL]; rw [show j = n by omega]
    | succ m ih =>
      intro j e
      rw [List.range'_succ]
      simp only [forL]
      rw [h j (by omega)]
      exact ih (j + 1) (by omega)
  rw [List.range_eq_range']
  exact go n 0 (by omega)
/-- a loop that ends at turn m -/
theorem forR_stop {b : Nat → Rho → SRes} (I : Nat → Rho) (n m : Nat) (hm : m < n) {r : SRes} (h : ∀ k, k < m → b k (I k) = .nx (I (k + 1))) (he : b m (I m) = r) (hr : ∀ ρ, r ≠ .nx ρ) : forL b (List.range n) (I 0) = r := by
  have go : ∀ d j, j + d = m → forL b (List.range' j (n - j)) (I j) = r := by
    intro d
    induction d with
    | zero =>
      intro j e
      have ej : j = m := by omega
      subst ej
      rw [show n - j = (n - j - 1) + 1 by omega, List.range'_succ]
      simp only [forL]
      rw [he]
      cases r with
      | nx ρ => exact absurd rfl (hr ρ)
      | rt d => rfl
      | exc c ρ => rfl
      | stk => rfl
    | succ d ih =>
      intro j e
      rw [show n - j = (n - j - 1) + 1 by omega, List.range'_succ]
      simp only [forL]
      rw [h j (by omega)]
      have := ih (j + 1) (by omega)
      rw [show n - j - 1 = n - (j + 1) by omega]
      exact this
  rw [List.range_eq_range']
  exact go m 0 (by omega)
theorem fnD_rt {m : Nat} {g : Rho → SRes} {ds : List D} {d : D} (h : g (ds.map Slt.v ++ List.replicate (m - ds.length) .un) = .rt d) : fnD m g ds = .ok d := by
  unfold fnD
  rw [h]
section
variable {g h : Rho → SRes} {ρ ρ' : Rho} {r : SRes} {d : D} {c : Rho → Res Bool} {f f2 : Rho → Res D}
theorem seq_nx (h1 : g ρ = .nx ρ') (h2 : h ρ' = r) : gSeq g h ρ = r := by
  unfold gSeq
  rw [h1]
  exact h2
theorem seq_rt (h1 : g ρ = .rt d) : gSeq g h ρ = .rt d := by
  unfold gSeq
  rw [h1]
  rfl
theorem seq_eq (h1 : g ρ = h ρ') : g ρ = h ρ' := h1
theorem if_t (h1 : c ρ = .ok true) : gIf c g h ρ = g ρ := by
  unfold gIf
  rw [h1]
  rfl
theorem if_f (h1 : c ρ = .ok false) : gIf c g h ρ = h ρ := by
  unfold gIf
  rw [h1]
  rfl
theorem set_ok {i : Nat} (h1 : f ρ = .ok d) : gSet i f ρ = .nx (ρ.set i (.v d)) := by
  unfold gSet
  rw [h1]
  rfl
theorem ret_ok (h1 : f ρ = .ok d) : gRet f ρ = .rt d := by
  unfold gRet
  rw [h1]
  rfl
theorem ifset {i : Nat} {b : Bool} {x y : Int} (hc : c ρ = .ok b) (hf : b = true → f ρ = .ok (.int x)) (hi : ρ[i]? = some (.v (.int y))) : gIf c (gSet i f) gNx ρ = .nx (ρ.set i (.v (.int (if b then x else y)))) := by
  cases b with
  | true => rw [if_t hc, set_ok (hf rfl)]; rfl
  | false =>
    rw [if_f hc]
    show SRes.nx ρ = _
    congr 1
    apply List.ext_getElem?
    intro j
    by_cases hj : j = i
    · subst hj
      have hl : j < ρ.length := (List.getElem?_eq_some_iff.mp hi).1
      rw [List.getElem?_set_self hl, hi]
      rfl
    · rw [List.getElem?_set_ne (Ne.symm hj)]
theorem forR_nx {i n : Nat} (I : Nat → Rho) (hf : f ρ = .ok (.int n)) (hn : n ≤ 16777216) (h0 : I 0 = ρ) (ht : ∀ k, k < n → g ((I k).set i (.v (.int (k : Nat)))) = .nx (I (k + 1))) : gForR i f g ρ = .nx (I n) := by
  unfold gForR
  rw [hf]
  simp only [Res.bind_ok, asN, rngOk_nat hn, if_true, sBind_ok, Int.toNat_natCast]
  rw [← h0]
  exact forR_inv I n ht
theorem forR_end {i n m : Nat} (I : Nat → Rho) (hf : f ρ = .ok (.int n)) (hn : n ≤ 16777216) (h0 : I 0 = ρ) (hm : m < n) (ht : ∀ k, k < m → g ((I k).set i (.v (.int (k : Nat)))) = .nx (I (k + 1)))
    (he : g ((I m).set i (.v (.int (m : Nat)))) = .rt d) : gForR i f g ρ = .rt d := by
  unfold gForR
  rw [hf]
  simp only [Res.bind_ok, asN, rngOk_nat hn, if_true, sBind_ok, Int.toNat_natCast]
  rw [← h0]
  exact forR_stop I n m hm ht he (fun _ h => nomatch h)
end
theorem room_eq (w : Nat) (h : w ≤ 16777216) : S_room [.int w] = .ok (.int (2 ^ w)) := by
  refine fnD_rt (seq_nx rfl (seq_nx (forR_nx (fun k => [.v (.int w), .v (.int (2 ^ k)), stp .un k]) rfl h rfl fun k hk => ?_) rfl))
  simp only [fnD, gNx, gSeq, gSet, gSetO, ownAt, gApp, gRev, gPut, frz, gFrz, gRet, gExpr, gIf, gExc, asL, eVar, eC, eOp, eUn, toB, tB, tAndB, tOrB, tNotB, eAnd, eOr, eNot, eChain, aNil, aCons, eTup, oLst, eO, eCall, oUn, oSl, rNone, rSome, toI, dCut, eLenO, eIxO, sBind_ok, sBind_exc, sBind_stk, Res.bind_ok, Res.bind_exc, Res.bind_stk, SRes.thn_nx, SRes.thn_rt, SRes.thn_exc, SRes.thn_stk, List.map_cons, List.map_nil, List.cons_append, List.nil_append, List.length_cons, List.length_nil, List.replicate_succ, List.replicate_zero, List.getElem?_cons_zero, List.getElem?_cons_succ, List.set_cons_zero, List.set_cons_succ, Nat.zero_add, Nat.reduceAdd, Nat.reduceSub, dAdd, dSub, dMul, dDiv, dMod, dNeg, dCmp, dLt, dLe, dGt, dGe, dEq, dNe, dEq?, dIsN, dNotN, dIsi, isTy, dLen, dIx_lst, dIx_tup, dIx_scr, dList, dRev, dInt, dMax2, dMin2, decide_eq_true_eq, if_true, if_false, Bool.not_true, Bool.not_false, Bool.false_eq_true, reduceIte, Int.reduceLT, Int.reduceLE, Int.reduceEq, Int.reduceNeg, String.reduceEq, decide_true, decide_false, ci0, ci1, ci2, ci3, ci4, ci5, dAt_0, dAt_1, dAt_2, dAt_3, mulOk_two, stp, Int.pow_succ]
theorem law_room_eq (w : Nat) (h : w ≤ 16777216) : S_law_room [.int w] = .ok (.int (2 ^ w)) := room_eq w h
/-- the bits of a number, the bit of the least worth first -/
def lowB (n : Int) : Nat → List Int
  | 0 => []
  | k + 1 => n % 2 :: lowB (n / 2) k
/-- the bits of a number in w bits, the bit of the greatest worth first -/
def wr (n : Int) (w : Nat) : List Int := (lowB n w).reverse
abbrev dI (l : List Int) : List D := l.map D.int
theorem lowB_len (n : Int) (w : Nat) : (lowB n w).length = w := by
  induction w generalizing n with
  | zero => rfl
  | succ w ih => rw [lowB, List.length_cons, ih]
theorem wr_len (n : Int) (w : Nat) : (wr n w).length = w := by rw [wr, List.length_reverse, lowB_len]
theorem lowB_snoc (n : Int) (k : Nat) : lowB n (k + 1) = lowB n k ++ [n / 2 ^ k % 2] := by
  induction k generalizing n with
  | zero => simp [lowB]
  | succ k ih =>
    rw [lowB, ih (n / 2)]
    conv => rhs; rw [lowB]
    rw [List.cons_append, Int.ediv_ediv_of_nonneg (by omega), Int.pow_succ, Int.mul_comm 2]
theorem cell_eq (ns : List Int) (k : Int) (h : 0 ≤ k) : S_law_cell_at [.scr ns, .int k] = .ok (.int (ns.getD k.toNat 0)) := by
  refine fnD_rt ?_
  simp only [fnD, gNx, gSeq, gSet, gSetO, ownAt, gApp, gRev, gPut, frz, gFrz, gRet, gExpr, gIf, gExc, asL, eVar, eC, eOp, eUn, toB, tB, tAndB, tOrB, tNotB, eAnd, eOr, eNot, eChain, aNil, aCons, eTup, oLst, eO, eCall, oUn, oSl, rNone, rSome, toI, dCut, eLenO, eIxO, sBind_ok, sBind_exc, sBind_stk, Res.bind_ok, Res.bind_exc, Res.bind_stk, SRes.thn_nx, SRes.thn_rt, SRes.thn_exc, SRes.thn_stk, List.map_cons, List.map_nil, List.cons_append, List.nil_append, List.length_cons, List.length_nil, List.replicate_succ, List.replicate_zero, List.getElem?_cons_zero, List.getElem?_cons_succ, List.set_cons_zero, List.set_cons_succ, Nat.zero_add, Nat.reduceAdd, Nat.reduceSub, dAdd, dSub, dMul, dDiv, dMod, dNeg, dCmp, dLt, dLe, dGt, dGe, dEq, dNe, dEq?, dIsN, dNotN, dIsi, isTy, dLen, dIx_lst, dIx_tup, dIx_scr, dList, dRev, dInt, dMax2, dMin2, decide_eq_true_eq, if_true, if_false, Bool.not_true, Bool.not_false, Bool.false_eq_true, reduceIte, Int.reduceLT, Int.reduceLE, Int.reduceEq, Int.reduceNeg, String.reduceEq, decide_true, decide_false, ci0, ci1, ci2, ci3, ci4, ci5, dAt_0, dAt_1, dAt_2, dAt_3]
  by_cases hk : k < ns.length
  · have hk' : k.toNat < ns.length := by omega
    have e : atI ns k = some ns[k.toNat] := by
      have := atI_nat (xs := ns) (List.getElem?_eq_getElem hk')
      rw [Int.toNat_of_nonneg h] at this
      exact this
    simp only [hk, fnD, gNx, gSeq, gSet, gSetO, ownAt, gApp, gRev, gPut, frz, gFrz, gRet, gExpr, gIf, gExc, asL, eVar, eC, eOp, eUn, toB, tB, tAndB, tOrB, tNotB, eAnd, eOr, eNot, eChain, aNil, aCons, eTup, oLst, eO, eCall, oUn, oSl, rNone, rSome, toI, dCut, eLenO, eIxO, sBind_ok, sBind_exc, sBind_stk, Res.bind_ok, Res.bind_exc, Res.bind_stk, SRes.thn_nx, SRes.thn_rt, SRes.thn_exc, SRes.thn_stk, List.map_cons, List.map_nil, List.cons_append, List.nil_append, List.length_cons, List.length_nil, List.replicate_succ, List.replicate_zero, List.getElem?_cons_zero, List.getElem?_cons_succ, List.set_cons_zero, List.set_cons_succ, Nat.zero_add, Nat.reduceAdd, Nat.reduceSub, dAdd, dSub, dMul, dDiv, dMod, dNeg, dCmp, dLt, dLe, dGt, dGe, dEq, dNe, dEq?, dIsN, dNotN, dIsi, isTy, dLen, dIx_lst, dIx_tup, dIx_scr, dList, dRev, dInt, dMax2, dMin2, decide_eq_true_eq, if_true, if_false, Bool.not_true, Bool.not_false, Bool.false_eq_true, reduceIte, Int.reduceLT, Int.reduceLE, Int.reduceEq, Int.reduceNeg, String.reduceEq, decide_true, decide_false, ci0, ci1, ci2, ci3, ci4, ci5, dAt_0, dAt_1, dAt_2, dAt_3, e, List.getD_eq_getElem?_getD, List.getElem?_eq_getElem hk', Option.getD_some]
  · have e : ns[k.toNat]? = none := List.getElem?_eq_none (by omega)
    simp only [hk, fnD, gNx, gSeq, gSet, gSetO, ownAt, gApp, gRev, gPut, frz, gFrz, gRet, gExpr, gIf, gExc, asL, eVar, eC, eOp, eUn, toB, tB, tAndB, tOrB, tNotB, eAnd, eOr, eNot, eChain, aNil, aCons, eTup, oLst, eO, eCall, oUn, oSl, rNone, rSome, toI, dCut, eLenO, eIxO, sBind_ok, sBind_exc, sBind_stk, Res.bind_ok, Res.bind_exc, Res.bind_stk, SRes.thn_nx, SRes.thn_rt, SRes.thn_exc, SRes.thn_stk, List.map_cons, List.map_nil, List.cons_append, List.nil_append, List.length_cons, List.length_nil, List.replicate_succ, List.replicate_zero, List.getElem?_cons_zero, List.getElem?_cons_succ, List.set_cons_zero, List.set_cons_succ, Nat.zero_add, Nat.reduceAdd, Nat.reduceSub, dAdd, dSub, dMul, dDiv, dMod, dNeg, dCmp, dLt, dLe, dGt, dGe, dEq, dNe, dEq?, dIsN, dNotN, dIsi, isTy, dLen, dIx_lst, dIx_tup, dIx_scr, dList, dRev, dInt, dMax2, dMin2, decide_eq_true_eq, if_true, if_false, Bool.not_true, Bool.not_false, Bool.false_eq_true, reduceIte, Int.reduceLT, Int.reduceLE, Int.reduceEq, Int.reduceNeg, String.reduceEq, decide_true, decide_false, ci0, ci1, ci2, ci3, ci4, ci5, dAt_0, dAt_1, dAt_2, dAt_3, List.getD_eq_getElem?_getD, e, Option.getD_none]
end Pu

namespace Pu
open PySem L2
theorem two_pos (w : Nat) : (0 : Int) < 2 ^ w := Int.pow_pos (by omega)
theorem low_step (n : Int) (k : Nat) : n / 2 ^ k / 2 = n / 2 ^ (k + 1) := by
  rw [Int.ediv_ediv_of_nonneg (Int.le_of_lt (two_pos k)), Int.pow_succ]
theorem dI_len (l : List Int) : (dI l).length = l.length := List.length_map ..
theorem dI_app (a b : List Int) : dI (a ++ b) = dI a ++ dI b := List.map_append ..
theorem dI_rev (a : List Int) : (dI a).reverse = dI a.reverse := (List.map_reverse ..).symm
theorem written_eq (n : Int) (w : Nat) (h : w ≤ 16777216) : S_law_written [.int n, .int w] = .ok (.lst (dI (wr n w))) := by
  refine fnD_rt (seq_nx (ρ' := [.v (.int n), .v (.int w), .o [], .un]) rfl (seq_nx (forR_nx (fun k => [.v (.int (n / 2 ^ k)), .v (.int w), .o (dI (lowB n k)), stp .un k]) rfl h ?_ fun k hk => ?_) ?_))
  · simp [lowB, stp]
  · have hf : fits (k + 1) = true := fits_le (by omega)
    simp only [fnD, gNx, gSeq, gSet, gSetO, ownAt, gApp, gRev, gPut, frz, gFrz, gRet, gExpr, gIf, gExc, asL, eVar, eC, eOp, eUn, toB, tB, tAndB, tOrB, tNotB, eAnd, eOr, eNot, eChain, aNil, aCons, eTup, oLst, eO, eCall, oUn, oSl, rNone, rSome, toI, dCut, eLenO, eIxO, sBind_ok, sBind_exc, sBind_stk, Res.bind_ok, Res.bind_exc, Res.bind_stk, SRes.thn_nx, SRes.thn_rt, SRes.thn_exc, SRes.thn_stk, List.map_cons, List.map_nil, List.cons_append, List.nil_append, List.length_cons, List.length_nil, List.replicate_succ, List.replicate_zero, List.getElem?_cons_zero, List.getElem?_cons_succ, List.set_cons_zero, List.set_cons_succ, Nat.zero_add, Nat.reduceAdd, Nat.reduceSub, dAdd, dSub, dMul, dDiv, dMod, dNeg, dCmp, dLt, dLe, dGt, dGe, dEq, dNe, dEq?, dIsN, dNotN, dIsi, isTy, dLen, dIx_lst, dIx_tup, dIx_scr, dList, dRev, dInt, dMax2, dMin2, decide_eq_true_eq, if_true, if_false, Bool.not_true, Bool.not_false, Bool.false_eq_true, reduceIte, Int.reduceLT, Int.reduceLE, Int.reduceEq, Int.reduceNeg, String.reduceEq, decide_true, decide_false, ci0, ci1, ci2, ci3, ci4, ci5, dAt_0, dAt_1, dAt_2, dAt_3, stp, dI_len, lowB_len, hf, divOk2, low_step, lowB_snoc, dI_app]
  · simp only [fnD, gNx, gSeq, gSet, gSetO, ownAt, gApp, gRev, gPut, frz, gFrz, gRet, gExpr, gIf, gExc, asL, eVar, eC, eOp, eUn, toB, tB, tAndB, tOrB, tNotB, eAnd, eOr, eNot, eChain, aNil, aCons, eTup, oLst, eO, eCall, oUn, oSl, rNone, rSome, toI, dCut, eLenO, eIxO, sBind_ok, sBind_exc, sBind_stk, Res.bind_ok, Res.bind_exc, Res.bind_stk, SRes.thn_nx, SRes.thn_rt, SRes.thn_exc, SRes.thn_stk, List.map_cons, List.map_nil, List.cons_append, List.nil_append, List.length_cons, List.length_nil, List.replicate_succ, List.replicate_zero, List.getElem?_cons_zero, List.getElem?_cons_succ, List.set_cons_zero, List.set_cons_succ, Nat.zero_add, Nat.reduceAdd, Nat.reduceSub, dAdd, dSub, dMul, dDiv, dMod, dNeg, dCmp, dLt, dLe, dGt, dGe, dEq, dNe, dEq?, dIsN, dNotN, dIsi, isTy, dLen, dIx_lst, dIx_tup, dIx_scr, dList, dRev, dInt, dMax2, dMin2, decide_eq_true_eq, if_true, if_false, Bool.not_true, Bool.not_false, Bool.false_eq_true, reduceIte, Int.reduceLT, Int.reduceLE, Int.reduceEq, Int.reduceNeg, String.reduceEq, decide_true, decide_false, ci0, ci1, ci2, ci3, ci4, ci5, dAt_0, dAt_1, dAt_2, dAt_3, dI_rev]
    rfl
theorem bits_of_ok {p_room : List D → Res D} {n : Int} {w : Nat} (hr : p_room [.int w] = .ok (.int (2 ^ w))) (h : w ≤ 16777216) (h0 : 0 ≤ n) (h1 : n < 2 ^ w) : S_bits_of p_room [.int n, .int w] = .ok (.lst (dI (wr n w))) := by
  refine fnD_rt (seq_nx (ρ' := [.v (.int n), .v (.int w), .un, .un]) ?_ (seq_nx (ρ' := [.v (.int n), .v (.int w), .o [], .un]) rfl (seq_nx (forR_nx (fun k => [.v (.int (n / 2 ^ k)), .v (.int w), .o (dI (lowB n k)), stp .un k]) rfl h ?_ fun k hk => ?_) ?_)))
  · have a1 : ¬ n < 0 := by omega
    have a2 : ¬ (2 ^ w : Int) ≤ n := by omega
    simp only [fnD, gNx, gSeq, gSet, gSetO, ownAt, gApp, gRev, gPut, frz, gFrz, gRet, gExpr, gIf, gExc, asL, eVar, eC, eOp, eUn, toB, tB, tAndB, tOrB, tNotB, eAnd, eOr, eNot, eChain, aNil, aCons, eTup, oLst, eO, eCall, oUn, oSl, rNone, rSome, toI, dCut, eLenO, eIxO, sBind_ok, sBind_exc, sBind_stk, Res.bind_ok, Res.bind_exc, Res.bind_stk, SRes.thn_nx, SRes.thn_rt, SRes.thn_exc, SRes.thn_stk, List.map_cons, List.map_nil, List.cons_append, List.nil_append, List.length_cons, List.length_nil, List.replicate_succ, List.replicate_zero, List.getElem?_cons_zero, List.getElem?_cons_succ, List.set_cons_zero, List.set_cons_succ, Nat.zero_add, Nat.reduceAdd, Nat.reduceSub, dAdd, dSub, dMul, dDiv, dMod, dNeg, dCmp, dLt, dLe, dGt, dGe, dEq, dNe, dEq?, dIsN, dNotN, dIsi, isTy, dLen, dIx_lst, dIx_tup, dIx_scr, dList, dRev, dInt, dMax2, dMin2, decide_eq_true_eq, if_true, if_false, Bool.not_true, Bool.not_false, Bool.false_eq_true, reduceIte, Int.reduceLT, Int.reduceLE, Int.reduceEq, Int.reduceNeg, String.reduceEq, decide_true, decide_false, ci0, ci1, ci2, ci3, ci4, ci5, dAt_0, dAt_1, dAt_2, dAt_3, hr, a1, a2, decide_false]
  · simp [lowB, stp]
  · have hf : fits (k + 1) = true := fits_le (by omega)
    simp only [fnD, gNx, gSeq, gSet, gSetO, ownAt, gApp, gRev, gPut, frz, gFrz, gRet, gExpr, gIf, gExc, asL, eVar, eC, eOp, eUn, toB, tB, tAndB, tOrB, tNotB, eAnd, eOr, eNot, eChain, aNil, aCons, eTup, oLst, eO, eCall, oUn, oSl, rNone, rSome, toI, dCut, eLenO, eIxO, sBind_ok, sBind_exc, sBind_stk, Res.bind_ok, Res.bind_exc, Res.bind_stk, SRes.thn_nx, SRes.thn_rt, SRes.thn_exc, SRes.thn_stk, List.map_cons, List.map_nil, List.cons_append, List.nil_append, List.length_cons, List.length_nil, List.replicate_succ, List.replicate_zero, List.getElem?_cons_zero, List.getElem?_cons_succ, List.set_cons_zero, List.set_cons_succ, Nat.zero_add, Nat.reduceAdd, Nat.reduceSub, dAdd, dSub, dMul, dDiv, dMod, dNeg, dCmp, dLt, dLe, dGt, dGe, dEq, dNe, dEq?, dIsN, dNotN, dIsi, isTy, dLen, dIx_lst, dIx_tup, dIx_scr, dList, dRev, dInt, dMax2, dMin2, decide_eq_true_eq, if_true, if_false, Bool.not_true, Bool.not_false, Bool.false_eq_true, reduceIte, Int.reduceLT, Int.reduceLE, Int.reduceEq, Int.reduceNeg, String.reduceEq, decide_true, decide_false, ci0, ci1, ci2, ci3, ci4, ci5, dAt_0, dAt_1, dAt_2, dAt_3, stp, dI_len, lowB_len, hf, divOk2, low_step, lowB_snoc, dI_app]
  · simp only [fnD, gNx, gSeq, gSet, gSetO, ownAt, gApp, gRev, gPut, frz, gFrz, gRet, gExpr, gIf, gExc, asL, eVar, eC, eOp, eUn, toB, tB, tAndB, tOrB, tNotB, eAnd, eOr, eNot, eChain, aNil, aCons, eTup, oLst, eO, eCall, oUn, oSl, rNone, rSome, toI, dCut, eLenO, eIxO, sBind_ok, sBind_exc, sBind_stk, Res.bind_ok, Res.bind_exc, Res.bind_stk, SRes.thn_nx, SRes.thn_rt, SRes.thn_exc, SRes.thn_stk, List.map_cons, List.map_nil, List.cons_append, List.nil_append, List.length_cons, List.length_nil, List.replicate_succ, List.replicate_zero, List.getElem?_cons_zero, List.getElem?_cons_succ, List.set_cons_zero, List.set_cons_succ, Nat.zero_add, Nat.reduceAdd, Nat.reduceSub, dAdd, dSub, dMul, dDiv, dMod, dNeg, dCmp, dLt, dLe, dGt, dGe, dEq, dNe, dEq?, dIsN, dNotN, dIsi, isTy, dLen, dIx_lst, dIx_tup, dIx_scr, dList, dRev, dInt, dMax2, dMin2, decide_eq_true_eq, if_true, if_false, Bool.not_true, Bool.not_false, Bool.false_eq_true, reduceIte, Int.reduceLT, Int.reduceLE, Int.reduceEq, Int.reduceNeg, String.reduceEq, decide_true, decide_false, ci0, ci1, ci2, ci3, ci4, ci5, dAt_0, dAt_1, dAt_2, dAt_3, dI_rev]
    rfl
theorem bits_of_exc {p_room : List D → Res D} {n : Int} {w : Nat} (hr : p_room [.int w] = .ok (.int (2 ^ w))) (h : n < 0 ∨ 2 ^ w ≤ n) : S_bits_of p_room [.int n, .int w] = .exc "TooWide" := by
  have e : gIf (tOrB (tB (eOp dLt (eVar 0) (eC (.int 0)))) (tB (eOp dGe (eVar 0) (eCall p_room (aCons (eVar 1) aNil))))) (gExc "TooWide") gNx [.v (.int n), .v (.int w), .un, .un] = .exc "TooWide" [.v (.int n), .v (.int w), .un, .un] := by
    refine (if_t ?_).trans rfl
    by_cases a1 : n < 0
    · simp only [fnD, gNx, gSeq, gSet, gSetO, ownAt, gApp, gRev, gPut, frz, gFrz, gRet, gExpr, gIf, gExc, asL, eVar, eC, eOp, eUn, toB, tB, tAndB, tOrB, tNotB, eAnd, eOr, eNot, eChain, aNil, aCons, eTup, oLst, eO, eCall, oUn, oSl, rNone, rSome, toI, dCut, eLenO, eIxO, sBind_ok, sBind_exc, sBind_stk, Res.bind_ok, Res.bind_exc, Res.bind_stk, SRes.thn_nx, SRes.thn_rt, SRes.thn_exc, SRes.thn_stk, List.map_cons, List.map_nil, List.cons_append, List.nil_append, List.length_cons, List.length_nil, List.replicate_succ, List.replicate_zero, List.getElem?_cons_zero, List.getElem?_cons_succ, List.set_cons_zero, List.set_cons_succ, Nat.zero_add, Nat.reduceAdd, Nat.reduceSub, dAdd, dSub, dMul, dDiv, dMod, dNeg, dCmp, dLt, dLe, dGt, dGe, dEq, dNe, dEq?, dIsN, dNotN, dIsi, isTy, dLen, dIx_lst, dIx_tup, dIx_scr, dList, dRev, dInt, dMax2, dMin2, decide_eq_true_eq, if_true, if_false, Bool.not_true, Bool.not_false, Bool.false_eq_true, reduceIte, Int.reduceLT, Int.reduceLE, Int.reduceEq, Int.reduceNeg, String.reduceEq, decide_true, decide_false, ci0, ci1, ci2, ci3, ci4, ci5, dAt_0, dAt_1, dAt_2, dAt_3, a1, decide_true]
    · have a2 : (2 ^ w : Int) ≤ n := h.resolve_left a1
      simp only [fnD, gNx, gSeq, gSet, gSetO, ownAt, gApp, gRev, gPut, frz, gFrz, gRet, gExpr, gIf, gExc, asL, eVar, eC, eOp, eUn, toB, tB, tAndB, tOrB, tNotB, eAnd, eOr, eNot, eChain, aNil, aCons, eTup, oLst, eO, eCall, oUn, oSl, rNone, rSome, toI, dCut, eLenO, eIxO, sBind_ok, sBind_exc, sBind_stk, Res.bind_ok, Res.bind_exc, Res.bind_stk, SRes.thn_nx, SRes.thn_rt, SRes.thn_exc, SRes.thn_stk, List.map_cons, List.map_nil, List.cons_append, List.nil_append, List.length_cons, List.length_nil, List.replicate_succ, List.replicate_zero, List.getElem?_cons_zero, List.getElem?_cons_succ, List.set_cons_zero, List.set_cons_succ, Nat.zero_add, Nat.reduceAdd, Nat.reduceSub, dAdd, dSub, dMul, dDiv, dMod, dNeg, dCmp, dLt, dLe, dGt, dGe, dEq, dNe, dEq?, dIsN, dNotN, dIsi, isTy, dLen, dIx_lst, dIx_tup, dIx_scr, dList, dRev, dInt, dMax2, dMin2, decide_eq_true_eq, if_true, if_false, Bool.not_true, Bool.not_false, Bool.false_eq_true, reduceIte, Int.reduceLT, Int.reduceLE, Int.reduceEq, Int.reduceNeg, String.reduceEq, decide_true, decide_false, ci0, ci1, ci2, ci3, ci4, ci5, dAt_0, dAt_1, dAt_2, dAt_3, hr, a1, a2, decide_true, decide_false]
  unfold S_bits_of fnD
  simp only [List.map_cons, List.map_nil, List.length_cons, List.length_nil, Nat.zero_add, Nat.reduceAdd, Nat.reduceSub, List.replicate_succ, List.replicate_zero, List.cons_append, List.nil_append]
  unfold gSeq
  rw [e]
  rfl

mutual
/-- depth of data, as the comparison goes down -/
def dep : D → Nat
  | .tup ds => deps ds + 1
  | .lst ds => deps ds + 1
  | _ => 1
def deps : List D → Nat
  | [] => 0
  | d :: ds => max (dep d) (deps ds)
/-- lists short, no script -/
def okD : D → Bool
  | .tup ds => fits ds.length && okDs ds
  | .lst ds => fits ds.length && okDs ds
  | .scr _ => false
  | _ => true
def okDs : List D → Bool
  | [] => true
  | d :: ds => okD d && okDs ds
end
theorem dep_get : ∀ {ds : List D} {i : Nat} {d : D}, ds[i]? = some d → dep d ≤ deps ds
  | [], _, _, h => by simp at h
  | d :: ds, 0, e, h => by
    simp only [List.getElem?_cons_zero, Option.some.injEq] at h
    subst h
    unfold deps; omega
  | d :: ds, i + 1, e, h => by
    have := dep_get (ds := ds) (i := i) (d := e) (by simpa using h)
    unfold deps; omega
theorem okD_get : ∀ {ds : List D} {i : Nat} {d : D}, okDs ds = true → ds[i]? = some d → okD d = true
  | [], _, _, _, h => by simp at h
  | d :: ds, 0, e, k, h => by
    simp only [List.getElem?_cons_zero, Option.some.injEq] at h
    subst h
    unfold okDs at k
    exact (Bool.and_eq_true_iff.mp k).1
  | d :: ds, i + 1, e, k, h => by
    unfold okDs at k
    exact okD_get (ds := ds) (i := i) (Bool.and_eq_true_iff.mp k).2 (by simpa using h)
theorem whole_int (n : Int) : S_law_whole [.int n] = .ok (.bl true) := by
  refine fnD_rt ?_
  simp only [fnD, gNx, gSeq, gSet, gSetO, ownAt, gApp, gRev, gPut, frz, gFrz, gRet, gExpr, gIf, gExc, asL, eVar, eC, eOp, eUn, toB, tB, tAndB, tOrB, tNotB, eAnd, eOr, eNot, eChain, aNil, aCons, eTup, oLst, eO, eCall, oUn, oSl, rNone, rSome, toI, dCut, eLenO, eIxO, sBind_ok, sBind_exc, sBind_stk, Res.bind_ok, Res.bind_exc, Res.bind_stk, SRes.thn_nx, SRes.thn_rt, SRes.thn_exc, SRes.thn_stk, List.map_cons, List.map_nil, List.cons_append, List.nil_append, List.length_cons, List.length_nil, List.replicate_succ, List.replicate_zero, List.getElem?_cons_zero, List.getElem?_cons_succ, List.set_cons_zero, List.set_cons_succ, Nat.zero_add, Nat.reduceAdd, Nat.reduceSub, dAdd, dSub, dMul, dDiv, dMod, dNeg, dCmp, dLt, dLe, dGt, dGe, dEq, dNe, dEq?, dIsN, dNotN, dIsi, isTy, dLen, dIx_lst, dIx_tup, dIx_scr, dList, dRev, dInt, dMax2, dMin2, decide_eq_true_eq, if_true, if_false, Bool.not_true, Bool.not_false, Bool.false_eq_true, reduceIte, Int.reduceLT, Int.reduceLE, Int.reduceEq, Int.reduceNeg, String.reduceEq, decide_true, decide_false, ci0, ci1, ci2, ci3, ci4, ci5, dAt_0, dAt_1, dAt_2, dAt_3]
/-- the comparison of a thing with itself -/
theorem alike_self (al : Nat → List D → Res D) (wh : Nat → List D → Res D) (hw : ∀ k n, wh (k + 1) [.int n] = .ok (.bl true)) (ha : ∀ k, al (k + 1) = S_law_alike (wh k) (al k)) :
    ∀ (k : Nat) (d : D), okD d = true → dep d ≤ k → al (k + 1) [d, d] = .ok (.bl true) := by
  intro k
  induction k with
  | zero => intro d _ h; cases d <;> (unfold dep at h; omega)
  | succ k ih =>
    intro d ok h
    rw [ha]
    refine fnD_rt ?_
    cases d with
    | non => simp only [fnD, gNx, gSeq, gSet, gSetO, ownAt, gApp, gRev, gPut, frz, gFrz, gRet, gExpr, gIf, gExc, asL, eVar, eC, eOp, eUn, toB, tB, tAndB, tOrB, tNotB, eAnd, eOr, eNot, eChain, aNil, aCons, eTup, oLst, eO, eCall, oUn, oSl, rNone, rSome, toI, dCut, eLenO, eIxO, sBind_ok, sBind_exc, sBind_stk, Res.bind_ok, Res.bind_exc, Res.bind_stk, SRes.thn_nx, SRes.thn_rt, SRes.thn_exc, SRes.thn_stk, List.map_cons, List.map_nil, List.cons_append, List.nil_append, List.length_cons, List.length_nil, List.replicate_succ, List.replicate_zero, List.getElem?_cons_zero, List.getElem?_cons_succ, List.set_cons_zero, List.set_cons_succ, Nat.zero_add, Nat.reduceAdd, Nat.reduceSub, dAdd, dSub, dMul, dDiv, dMod, dNeg, dCmp, dLt, dLe, dGt, dGe, dEq, dNe, dEq?, dIsN, dNotN, dIsi, isTy, dLen, dIx_lst, dIx_tup, dIx_scr, dList, dRev, dInt, dMax2, dMin2, decide_eq_true_eq, if_true, if_false, Bool.not_true, Bool.not_false, Bool.false_eq_true, reduceIte, Int.reduceLT, Int.reduceLE, Int.reduceEq, Int.reduceNeg, String.reduceEq, decide_true, decide_false, ci0, ci1, ci2, ci3, ci4, ci5, dAt_0, dAt_1, dAt_2, dAt_3]
    | bl b => simp only [fnD, gNx, gSeq, gSet, gSetO, ownAt, gApp, gRev, gPut, frz, gFrz, gRet, gExpr, gIf, gExc, asL, eVar, eC, eOp, eUn, toB, tB, tAndB, tOrB, tNotB, eAnd, eOr, eNot, eChain, aNil, aCons, eTup, oLst, eO, eCall, oUn, oSl, rNone, rSome, toI, dCut, eLenO, eIxO, sBind_ok, sBind_exc, sBind_stk, Res.bind_ok, Res.bind_exc, Res.bind_stk, SRes.thn_nx, SRes.thn_rt, SRes.thn_exc, SRes.thn_stk, List.map_cons, List.map_nil, List.cons_append, List.nil_append, List.length_cons, List.length_nil, List.replicate_succ, List.replicate_zero, List.getElem?_cons_zero, List.getElem?_cons_succ, List.set_cons_zero, List.set_cons_succ, Nat.zero_add, Nat.reduceAdd, Nat.reduceSub, dAdd, dSub, dMul, dDiv, dMod, dNeg, dCmp, dLt, dLe, dGt, dGe, dEq, dNe, dEq?, dIsN, dNotN, dIsi, isTy, dLen, dIx_lst, dIx_tup, dIx_scr, dList, dRev, dInt, dMax2, dMin2, decide_eq_true_eq, if_true, if_false, Bool.not_true, Bool.not_false, Bool.false_eq_true, reduceIte, Int.reduceLT, Int.reduceLE, Int.reduceEq, Int.reduceNeg, String.reduceEq, decide_true, decide_false, ci0, ci1, ci2, ci3, ci4, ci5, dAt_0, dAt_1, dAt_2, dAt_3, decide_true]
    | int n => simp only [fnD, gNx, gSeq, gSet, gSetO, ownAt, gApp, gRev, gPut, frz, gFrz, gRet, gExpr, gIf, gExc, asL, eVar, eC, eOp, eUn, toB, tB, tAndB, tOrB, tNotB, eAnd, eOr, eNot, eChain, aNil, aCons, eTup, oLst, eO, eCall, oUn, oSl, rNone, rSome, toI, dCut, eLenO, eIxO, sBind_ok, sBind_exc, sBind_stk, Res.bind_ok, Res.bind_exc, Res.bind_stk, SRes.thn_nx, SRes.thn_rt, SRes.thn_exc, SRes.thn_stk, List.map_cons, List.map_nil, List.cons_append, List.nil_append, List.length_cons, List.length_nil, List.replicate_succ, List.replicate_zero, List.getElem?_cons_zero, List.getElem?_cons_succ, List.set_cons_zero, List.set_cons_succ, Nat.zero_add, Nat.reduceAdd, Nat.reduceSub, dAdd, dSub, dMul, dDiv, dMod, dNeg, dCmp, dLt, dLe, dGt, dGe, dEq, dNe, dEq?, dIsN, dNotN, dIsi, isTy, dLen, dIx_lst, dIx_tup, dIx_scr, dList, dRev, dInt, dMax2, dMin2, decide_eq_true_eq, if_true, if_false, Bool.not_true, Bool.not_false, Bool.false_eq_true, reduceIte, Int.reduceLT, Int.reduceLE, Int.reduceEq, Int.reduceNeg, String.reduceEq, decide_true, decide_false, ci0, ci1, ci2, ci3, ci4, ci5, dAt_0, dAt_1, dAt_2, dAt_3, hw, decide_true]
    | str s => simp only [fnD, gNx, gSeq, gSet, gSetO, ownAt, gApp, gRev, gPut, frz, gFrz, gRet, gExpr, gIf, gExc, asL, eVar, eC, eOp, eUn, toB, tB, tAndB, tOrB, tNotB, eAnd, eOr, eNot, eChain, aNil, aCons, eTup, oLst, eO, eCall, oUn, oSl, rNone, rSome, toI, dCut, eLenO, eIxO, sBind_ok, sBind_exc, sBind_stk, Res.bind_ok, Res.bind_exc, Res.bind_stk, SRes.thn_nx, SRes.thn_rt, SRes.thn_exc, SRes.thn_stk, List.map_cons, List.map_nil, List.cons_append, List.nil_append, List.length_cons, List.length_nil, List.replicate_succ, List.replicate_zero, List.getElem?_cons_zero, List.getElem?_cons_succ, List.set_cons_zero, List.set_cons_succ, Nat.zero_add, Nat.reduceAdd, Nat.reduceSub, dAdd, dSub, dMul, dDiv, dMod, dNeg, dCmp, dLt, dLe, dGt, dGe, dEq, dNe, dEq?, dIsN, dNotN, dIsi, isTy, dLen, dIx_lst, dIx_tup, dIx_scr, dList, dRev, dInt, dMax2, dMin2, decide_eq_true_eq, if_true, if_false, Bool.not_true, Bool.not_false, Bool.false_eq_true, reduceIte, Int.reduceLT, Int.reduceLE, Int.reduceEq, Int.reduceNeg, String.reduceEq, decide_true, decide_false, ci0, ci1, ci2, ci3, ci4, ci5, dAt_0, dAt_1, dAt_2, dAt_3, decide_true]
    | scr ns => unfold okD at ok; cases ok
    | tup ds =>
      unfold okD at ok
      rw [Bool.and_eq_true] at ok
      unfold dep at h
      refine seq_nx (ρ' := [.v (.tup ds), .v (.tup ds), .un]) (by simp only [fnD, gNx, gSeq, gSet, gSetO, ownAt, gApp, gRev, gPut, frz, gFrz, gRet, gExpr, gIf, gExc, asL, eVar, eC, eOp, eUn, toB, tB, tAndB, tOrB, tNotB, eAnd, eOr, eNot, eChain, aNil, aCons, eTup, oLst, eO, eCall, oUn, oSl, rNone, rSome, toI, dCut, eLenO, eIxO, sBind_ok, sBind_exc, sBind_stk, Res.bind_ok, Res.bind_exc, Res.bind_stk, SRes.thn_nx, SRes.thn_rt, SRes.thn_exc, SRes.thn_stk, List.map_cons, List.map_nil, List.cons_append, List.nil_append, List.length_cons, List.length_nil, List.replicate_succ, List.replicate_zero, List.getElem?_cons_zero, List.getElem?_cons_succ, List.set_cons_zero, List.set_cons_succ, Nat.zero_add, Nat.reduceAdd, Nat.reduceSub, dAdd, dSub, dMul, dDiv, dMod, dNeg, dCmp, dLt, dLe, dGt, dGe, dEq, dNe, dEq?, dIsN, dNotN, dIsi, isTy, dLen, dIx_lst, dIx_tup, dIx_scr, dList, dRev, dInt, dMax2, dMin2, decide_eq_true_eq, if_true, if_false, Bool.not_true, Bool.not_false, Bool.false_eq_true, reduceIte, Int.reduceLT, Int.reduceLE, Int.reduceEq, Int.reduceNeg, String.reduceEq, decide_true, decide_false, ci0, ci1, ci2, ci3, ci4, ci5, dAt_0, dAt_1, dAt_2, dAt_3]) (seq_nx (ρ' := [.v (.tup ds), .v (.tup ds), .un]) (by simp only [fnD, gNx, gSeq, gSet, gSetO, ownAt, gApp, gRev, gPut, frz, gFrz, gRet, gExpr, gIf, gExc, asL, eVar, eC, eOp, eUn, toB, tB, tAndB, tOrB, tNotB, eAnd, eOr, eNot, eChain, aNil, aCons, eTup, oLst, eO, eCall, oUn, oSl, rNone, rSome, toI, dCut, eLenO, eIxO, sBind_ok, sBind_exc, sBind_stk, Res.bind_ok, Res.bind_exc, Res.bind_stk, SRes.thn_nx, SRes.thn_rt, SRes.thn_exc, SRes.thn_stk, List.map_cons, List.map_nil, List.cons_append, List.nil_append, List.length_cons, List.length_nil, List.replicate_succ, List.replicate_zero, List.getElem?_cons_zero, List.getElem?_cons_succ, List.set_cons_zero, List.set_cons_succ, Nat.zero_add, Nat.reduceAdd, Nat.reduceSub, dAdd, dSub, dMul, dDiv, dMod, dNeg, dCmp, dLt, dLe, dGt, dGe, dEq, dNe, dEq?, dIsN, dNotN, dIsi, isTy, dLen, dIx_lst, dIx_tup, dIx_scr, dList, dRev, dInt, dMax2, dMin2, decide_eq_true_eq, if_true, if_false, Bool.not_true, Bool.not_false, Bool.false_eq_true, reduceIte, Int.reduceLT, Int.reduceLE, Int.reduceEq, Int.reduceNeg, String.reduceEq, decide_true, decide_false, ci0, ci1, ci2, ci3, ci4, ci5, dAt_0, dAt_1, dAt_2, dAt_3]) (seq_nx (ρ' := [.v (.tup ds), .v (.tup ds), .un]) (by simp only [fnD, gNx, gSeq, gSet, gSetO, ownAt, gApp, gRev, gPut, frz, gFrz, gRet, gExpr, gIf, gExc, asL, eVar, eC, eOp, eUn, toB, tB, tAndB, tOrB, tNotB, eAnd, eOr, eNot, eChain, aNil, aCons, eTup, oLst, eO, eCall, oUn, oSl, rNone, rSome, toI, dCut, eLenO, eIxO, sBind_ok, sBind_exc, sBind_stk, Res.bind_ok, Res.bind_exc, Res.bind_stk, SRes.thn_nx, SRes.thn_rt, SRes.thn_exc, SRes.thn_stk, List.map_cons, List.map_nil, List.cons_append, List.nil_append, List.length_cons, List.length_nil, List.replicate_succ, List.replicate_zero, List.getElem?_cons_zero, List.getElem?_cons_succ, List.set_cons_zero, List.set_cons_succ, Nat.zero_add, Nat.reduceAdd, Nat.reduceSub, dAdd, dSub, dMul, dDiv, dMod, dNeg, dCmp, dLt, dLe, dGt, dGe, dEq, dNe, dEq?, dIsN, dNotN, dIsi, isTy, dLen, dIx_lst, dIx_tup, dIx_scr, dList, dRev, dInt, dMax2, dMin2, decide_eq_true_eq, if_true, if_false, Bool.not_true, Bool.not_false, Bool.false_eq_true, reduceIte, Int.reduceLT, Int.reduceLE, Int.reduceEq, Int.reduceNeg, String.reduceEq, decide_true, decide_false, ci0, ci1, ci2, ci3, ci4, ci5, dAt_0, dAt_1, dAt_2, dAt_3])
        (seq_nx (ρ' := [.v (.tup ds), .v (.tup ds), .un]) (by simp only [fnD, gNx, gSeq, gSet, gSetO, ownAt, gApp, gRev, gPut, frz, gFrz, gRet, gExpr, gIf, gExc, asL, eVar, eC, eOp, eUn, toB, tB, tAndB, tOrB, tNotB, eAnd, eOr, eNot, eChain, aNil, aCons, eTup, oLst, eO, eCall, oUn, oSl, rNone, rSome, toI, dCut, eLenO, eIxO, sBind_ok, sBind_exc, sBind_stk, Res.bind_ok, Res.bind_exc, Res.bind_stk, SRes.thn_nx, SRes.thn_rt, SRes.thn_exc, SRes.thn_stk, List.map_cons, List.map_nil, List.cons_append, List.nil_append, List.length_cons, List.length_nil, List.replicate_succ, List.replicate_zero, List.getElem?_cons_zero, List.getElem?_cons_succ, List.set_cons_zero, List.set_cons_succ, Nat.zero_add, Nat.reduceAdd, Nat.reduceSub, dAdd, dSub, dMul, dDiv, dMod, dNeg, dCmp, dLt, dLe, dGt, dGe, dEq, dNe, dEq?, dIsN, dNotN, dIsi, isTy, dLen, dIx_lst, dIx_tup, dIx_scr, dList, dRev, dInt, dMax2, dMin2, decide_eq_true_eq, if_true, if_false, Bool.not_true, Bool.not_false, Bool.false_eq_true, reduceIte, Int.reduceLT, Int.reduceLE, Int.reduceEq, Int.reduceNeg, String.reduceEq, decide_true, decide_false, ci0, ci1, ci2, ci3, ci4, ci5, dAt_0, dAt_1, dAt_2, dAt_3]) (seq_nx (ρ' := [.v (.tup ds), .v (.tup ds), .un]) (by simp only [fnD, gNx, gSeq, gSet, gSetO, ownAt, gApp, gRev, gPut, frz, gFrz, gRet, gExpr, gIf, gExc, asL, eVar, eC, eOp, eUn, toB, tB, tAndB, tOrB, tNotB, eAnd, eOr, eNot, eChain, aNil, aCons, eTup, oLst, eO, eCall, oUn, oSl, rNone, rSome, toI, dCut, eLenO, eIxO, sBind_ok, sBind_exc, sBind_stk, Res.bind_ok, Res.bind_exc, Res.bind_stk, SRes.thn_nx, SRes.thn_rt, SRes.thn_exc, SRes.thn_stk, List.map_cons, List.map_nil, List.cons_append, List.nil_append, List.length_cons, List.length_nil, List.replicate_succ, List.replicate_zero, List.getElem?_cons_zero, List.getElem?_cons_succ, List.set_cons_zero, List.set_cons_succ, Nat.zero_add, Nat.reduceAdd, Nat.reduceSub, dAdd, dSub, dMul, dDiv, dMod, dNeg, dCmp, dLt, dLe, dGt, dGe, dEq, dNe, dEq?, dIsN, dNotN, dIsi, isTy, dLen, dIx_lst, dIx_tup, dIx_scr, dList, dRev, dInt, dMax2, dMin2, decide_eq_true_eq, if_true, if_false, Bool.not_true, Bool.not_false, Bool.false_eq_true, reduceIte, Int.reduceLT, Int.reduceLE, Int.reduceEq, Int.reduceNeg, String.reduceEq, decide_true, decide_false, ci0, ci1, ci2, ci3, ci4, ci5, dAt_0, dAt_1, dAt_2, dAt_3]) (seq_nx (ρ' := [.v (.tup ds), .v (.tup ds), .un]) (by simp only [fnD, gNx, gSeq, gSet, gSetO, ownAt, gApp, gRev, gPut, frz, gFrz, gRet, gExpr, gIf, gExc, asL, eVar, eC, eOp, eUn, toB, tB, tAndB, tOrB, tNotB, eAnd, eOr, eNot, eChain, aNil, aCons, eTup, oLst, eO, eCall, oUn, oSl, rNone, rSome, toI, dCut, eLenO, eIxO, sBind_ok, sBind_exc, sBind_stk, Res.bind_ok, Res.bind_exc, Res.bind_stk, SRes.thn_nx, SRes.thn_rt, SRes.thn_exc, SRes.thn_stk, List.map_cons, List.map_nil, List.cons_append, List.nil_append, List.length_cons, List.length_nil, List.replicate_succ, List.replicate_zero, List.getElem?_cons_zero, List.getElem?_cons_succ, List.set_cons_zero, List.set_cons_succ, Nat.zero_add, Nat.reduceAdd, Nat.reduceSub, dAdd, dSub, dMul, dDiv, dMod, dNeg, dCmp, dLt, dLe, dGt, dGe, dEq, dNe, dEq?, dIsN, dNotN, dIsi, isTy, dLen, dIx_lst, dIx_tup, dIx_scr, dList, dRev, dInt, dMax2, dMin2, decide_eq_true_eq, if_true, if_false, Bool.not_true, Bool.not_false, Bool.false_eq_true, reduceIte, Int.reduceLT, Int.reduceLE, Int.reduceEq, Int.reduceNeg, String.reduceEq, decide_true, decide_false, ci0, ci1, ci2, ci3, ci4, ci5, dAt_0, dAt_1, dAt_2, dAt_3, decide_true]) ?_)))))
      refine seq_nx (forR_nx (n := ds.length) (fun j => [.v (.tup ds), .v (.tup ds), stp .un j]) (by simp only [fnD, gNx, gSeq, gSet, gSetO, ownAt, gApp, gRev, gPut, frz, gFrz, gRet, gExpr, gIf, gExc, asL, eVar, eC, eOp, eUn, toB, tB, tAndB, tOrB, tNotB, eAnd, eOr, eNot, eChain, aNil, aCons, eTup, oLst, eO, eCall, oUn, oSl, rNone, rSome, toI, dCut, eLenO, eIxO, sBind_ok, sBind_exc, sBind_stk, Res.bind_ok, Res.bind_exc, Res.bind_stk, SRes.thn_nx, SRes.thn_rt, SRes.thn_exc, SRes.thn_stk, List.map_cons, List.map_nil, List.cons_append, List.nil_append, List.length_cons, List.length_nil, List.replicate_succ, List.replicate_zero, List.getElem?_cons_zero, List.getElem?_cons_succ, List.set_cons_zero, List.set_cons_succ, Nat.zero_add, Nat.reduceAdd, Nat.reduceSub, dAdd, dSub, dMul, dDiv, dMod, dNeg, dCmp, dLt, dLe, dGt, dGe, dEq, dNe, dEq?, dIsN, dNotN, dIsi, isTy, dLen, dIx_lst, dIx_tup, dIx_scr, dList, dRev, dInt, dMax2, dMin2, decide_eq_true_eq, if_true, if_false, Bool.not_true, Bool.not_false, Bool.false_eq_true, reduceIte, Int.reduceLT, Int.reduceLE, Int.reduceEq, Int.reduceNeg, String.reduceEq, decide_true, decide_false, ci0, ci1, ci2, ci3, ci4, ci5, dAt_0, dAt_1, dAt_2, dAt_3]) (by have := ok.1; unfold fits at this; rw [Nat.ble_eq] at this; exact this) rfl fun j hj => ?_) (by simp only [fnD, gNx, gSeq, gSet, gSetO, ownAt, gApp, gRev, gPut, frz, gFrz, gRet, gExpr, gIf, gExc, asL, eVar, eC, eOp, eUn, toB, tB, tAndB, tOrB, tNotB, eAnd, eOr, eNot, eChain, aNil, aCons, eTup, oLst, eO, eCall, oUn, oSl, rNone, rSome, toI, dCut, eLenO, eIxO, sBind_ok, sBind_exc, sBind_stk, Res.bind_ok, Res.bind_exc, Res.bind_stk, SRes.thn_nx, SRes.thn_rt, SRes.thn_exc, SRes.thn_stk, List.map_cons, List.map_nil, List.cons_append, List.nil_append, List.length_cons, List.length_nil, List.replicate_succ, List.replicate_zero, List.getElem?_cons_zero, List.getElem?_cons_succ, List.set_cons_zero, List.set_cons_succ, Nat.zero_add, Nat.reduceAdd, Nat.reduceSub, dAdd, dSub, dMul, dDiv, dMod, dNeg, dCmp, dLt, dLe, dGt, dGe, dEq, dNe, dEq?, dIsN, dNotN, dIsi, isTy, dLen, dIx_lst, dIx_tup, dIx_scr, dList, dRev, dInt, dMax2, dMin2, decide_eq_true_eq, if_true, if_false, Bool.not_true, Bool.not_false, Bool.false_eq_true, reduceIte, Int.reduceLT, Int.reduceLE, Int.reduceEq, Int.reduceNeg, String.reduceEq, decide_true, decide_false, ci0, ci1, ci2, ci3, ci4, ci5, dAt_0, dAt_1, dAt_2, dAt_3])
      have hd : ds[j]? = some ds[j] := List.getElem?_eq_getElem hj
      have e : dAt ds (j : Int) = .ok ds[j] := by unfold dAt; rw [atI_nat hd]
      have hi := ih ds[j] (okD_get ok.2 hd) (by have := dep_get hd; omega)
      simp only [fnD, gNx, gSeq, gSet, gSetO, ownAt, gApp, gRev, gPut, frz, gFrz, gRet, gExpr, gIf, gExc, asL, eVar, eC, eOp, eUn, toB, tB, tAndB, tOrB, tNotB, eAnd, eOr, eNot, eChain, aNil, aCons, eTup, oLst, eO, eCall, oUn, oSl, rNone, rSome, toI, dCut, eLenO, eIxO, sBind_ok, sBind_exc, sBind_stk, Res.bind_ok, Res.bind_exc, Res.bind_stk, SRes.thn_nx, SRes.thn_rt, SRes.thn_exc, SRes.thn_stk, List.map_cons, List.map_nil, List.cons_append, List.nil_append, List.length_cons, List.length_nil, List.replicate_succ, List.replicate_zero, List.getElem?_cons_zero, List.getElem?_cons_succ, List.set_cons_zero, List.set_cons_succ, Nat.zero_add, Nat.reduceAdd, Nat.reduceSub, dAdd, dSub, dMul, dDiv, dMod, dNeg, dCmp, dLt, dLe, dGt, dGe, dEq, dNe, dEq?, dIsN, dNotN, dIsi, isTy, dLen, dIx_lst, dIx_tup, dIx_scr, dList, dRev, dInt, dMax2, dMin2, decide_eq_true_eq, if_true, if_false, Bool.not_true, Bool.not_false, Bool.false_eq_true, reduceIte, Int.reduceLT, Int.reduceLE, Int.reduceEq, Int.reduceNeg, String.reduceEq, decide_true, decide_false, ci0, ci1, ci2, ci3, ci4, ci5, dAt_0, dAt_1, dAt_2, dAt_3, stp, e, hi]
    | lst ds =>
      unfold okD at ok
      rw [Bool.and_eq_true] at ok
      unfold dep at h
      refine seq_nx (ρ' := [.v (.lst ds), .v (.lst ds), .un]) (by simp only [fnD, gNx, gSeq, gSet, gSetO, ownAt, gApp, gRev, gPut, frz, gFrz, gRet, gExpr, gIf, gExc, asL, eVar, eC, eOp, eUn, toB, tB, tAndB, tOrB, tNotB, eAnd, eOr, eNot, eChain, aNil, aCons, eTup, oLst, eO, eCall, oUn, oSl, rNone, rSome, toI, dCut, eLenO, eIxO, sBind_ok, sBind_exc, sBind_stk, Res.bind_ok, Res.bind_exc, Res.bind_stk, SRes.thn_nx, SRes.thn_rt, SRes.thn_exc, SRes.thn_stk, List.map_cons, List.map_nil, List.cons_append, List.nil_append, List.length_cons, List.length_nil, List.replicate_succ, List.replicate_zero, List.getElem?_cons_zero, List.getElem?_cons_succ, List.set_cons_zero, List.set_cons_succ, Nat.zero_add, Nat.reduceAdd, Nat.reduceSub, dAdd, dSub, dMul, dDiv, dMod, dNeg, dCmp, dLt, dLe, dGt, dGe, dEq, dNe, dEq?, dIsN, dNotN, dIsi, isTy, dLen, dIx_lst, dIx_tup, dIx_scr, dList, dRev, dInt, dMax2, dMin2, decide_eq_true_eq, if_true, if_false, Bool.not_true, Bool.not_false, Bool.false_eq_true, reduceIte, Int.reduceLT, Int.reduceLE, Int.reduceEq, Int.reduceNeg, String.reduceEq, decide_true, decide_false, ci0, ci1, ci2, ci3, ci4, ci5, dAt_0, dAt_1, dAt_2, dAt_3]) (seq_nx (ρ' := [.v (.lst ds), .v (.lst ds), .un]) (by simp only [fnD, gNx, gSeq, gSet, gSetO, ownAt, gApp, gRev, gPut, frz, gFrz, gRet, gExpr, gIf, gExc, asL, eVar, eC, eOp, eUn, toB, tB, tAndB, tOrB, tNotB, eAnd, eOr, eNot, eChain, aNil, aCons, eTup, oLst, eO, eCall, oUn, oSl, rNone, rSome, toI, dCut, eLenO, eIxO, sBind_ok, sBind_exc, sBind_stk, Res.bind_ok, Res.bind_exc, Res.bind_stk, SRes.thn_nx, SRes.thn_rt, SRes.thn_exc, SRes.thn_stk, List.map_cons, List.map_nil, List.cons_append, List.nil_append, List.length_cons, List.length_nil, List.replicate_succ, List.replicate_zero, List.getElem?_cons_zero, List.getElem?_cons_succ, List.set_cons_zero, List.set_cons_succ, Nat.zero_add, Nat.reduceAdd, Nat.reduceSub, dAdd, dSub, dMul, dDiv, dMod, dNeg, dCmp, dLt, dLe, dGt, dGe, dEq, dNe, dEq?, dIsN, dNotN, dIsi, isTy, dLen, dIx_lst, dIx_tup, dIx_scr, dList, dRev, dInt, dMax2, dMin2, decide_eq_true_eq, if_true, if_false, Bool.not_true, Bool.not_false, Bool.false_eq_true, reduceIte, Int.reduceLT, Int.reduceLE, Int.reduceEq, Int.reduceNeg, String.reduceEq, decide_true, decide_false, ci0, ci1, ci2, ci3, ci4, ci5, dAt_0, dAt_1, dAt_2, dAt_3]) (seq_nx (ρ' := [.v (.lst ds), .v (.lst ds), .un]) (by simp only [fnD, gNx, gSeq, gSet, gSetO, ownAt, gApp, gRev, gPut, frz, gFrz, gRet, gExpr, gIf, gExc, asL, eVar, eC, eOp, eUn, toB, tB, tAndB, tOrB, tNotB, eAnd, eOr, eNot, eChain, aNil, aCons, eTup, oLst, eO, eCall, oUn, oSl, rNone, rSome, toI, dCut, eLenO, eIxO, sBind_ok, sBind_exc, sBind_stk, Res.bind_ok, Res.bind_exc, Res.bind_stk, SRes.thn_nx, SRes.thn_rt, SRes.thn_exc, SRes.thn_stk, List.map_cons, List.map_nil, List.cons_append, List.nil_append, List.length_cons, List.length_nil, List.replicate_succ, List.replicate_zero, List.getElem?_cons_zero, List.getElem?_cons_succ, List.set_cons_zero, List.set_cons_succ, Nat.zero_add, Nat.reduceAdd, Nat.reduceSub, dAdd, dSub, dMul, dDiv, dMod, dNeg, dCmp, dLt, dLe, dGt, dGe, dEq, dNe, dEq?, dIsN, dNotN, dIsi, isTy, dLen, dIx_lst, dIx_tup, dIx_scr, dList, dRev, dInt, dMax2, dMin2, decide_eq_true_eq, if_true, if_false, Bool.not_true, Bool.not_false, Bool.false_eq_true, reduceIte, Int.reduceLT, Int.reduceLE, Int.reduceEq, Int.reduceNeg, String.reduceEq, decide_true, decide_false, ci0, ci1, ci2, ci3, ci4, ci5, dAt_0, dAt_1, dAt_2, dAt_3])
        (seq_nx (ρ' := [.v (.lst ds), .v (.lst ds), .un]) (by simp only [fnD, gNx, gSeq, gSet, gSetO, ownAt, gApp, gRev, gPut, frz, gFrz, gRet, gExpr, gIf, gExc, asL, eVar, eC, eOp, eUn, toB, tB, tAndB, tOrB, tNotB, eAnd, eOr, eNot, eChain, aNil, aCons, eTup, oLst, eO, eCall, oUn, oSl, rNone, rSome, toI, dCut, eLenO, eIxO, sBind_ok, sBind_exc, sBind_stk, Res.bind_ok, Res.bind_exc, Res.bind_stk, SRes.thn_nx, SRes.thn_rt, SRes.thn_exc, SRes.thn_stk, List.map_cons, List.map_nil, List.cons_append, List.nil_append, List.length_cons, List.length_nil, List.replicate_succ, List.replicate_zero, List.getElem?_cons_zero, List.getElem?_cons_succ, List.set_cons_zero, List.set_cons_succ, Nat.zero_add, Nat.reduceAdd, Nat.reduceSub, dAdd, dSub, dMul, dDiv, dMod, dNeg, dCmp, dLt, dLe, dGt, dGe, dEq, dNe, dEq?, dIsN, dNotN, dIsi, isTy, dLen, dIx_lst, dIx_tup, dIx_scr, dList, dRev, dInt, dMax2, dMin2, decide_eq_true_eq, if_true, if_false, Bool.not_true, Bool.not_false, Bool.false_eq_true, reduceIte, Int.reduceLT, Int.reduceLE, Int.reduceEq, Int.reduceNeg, String.reduceEq, decide_true, decide_false, ci0, ci1, ci2, ci3, ci4, ci5, dAt_0, dAt_1, dAt_2, dAt_3]) (seq_nx (ρ' := [.v (.lst ds), .v (.lst ds), .un]) (by simp only [fnD, gNx, gSeq, gSet, gSetO, ownAt, gApp, gRev, gPut, frz, gFrz, gRet, gExpr, gIf, gExc, asL, eVar, eC, eOp, eUn, toB, tB, tAndB, tOrB, tNotB, eAnd, eOr, eNot, eChain, aNil, aCons, eTup, oLst, eO, eCall, oUn, oSl, rNone, rSome, toI, dCut, eLenO, eIxO, sBind_ok, sBind_exc, sBind_stk, Res.bind_ok, Res.bind_exc, Res.bind_stk, SRes.thn_nx, SRes.thn_rt, SRes.thn_exc, SRes.thn_stk, List.map_cons, List.map_nil, List.cons_append, List.nil_append, List.length_cons, List.length_nil, List.replicate_succ, List.replicate_zero, List.getElem?_cons_zero, List.getElem?_cons_succ, List.set_cons_zero, List.set_cons_succ, Nat.zero_add, Nat.reduceAdd, Nat.reduceSub, dAdd, dSub, dMul, dDiv, dMod, dNeg, dCmp, dLt, dLe, dGt, dGe, dEq, dNe, dEq?, dIsN, dNotN, dIsi, isTy, dLen, dIx_lst, dIx_tup, dIx_scr, dList, dRev, dInt, dMax2, dMin2, decide_eq_true_eq, if_true, if_false, Bool.not_true, Bool.not_false, Bool.false_eq_true, reduceIte, Int.reduceLT, Int.reduceLE, Int.reduceEq, Int.reduceNeg, String.reduceEq, decide_true, decide_false, ci0, ci1, ci2, ci3, ci4, ci5, dAt_0, dAt_1, dAt_2, dAt_3]) (seq_nx (ρ' := [.v (.lst ds), .v (.lst ds), .un]) (by simp only [fnD, gNx, gSeq, gSet, gSetO, ownAt, gApp, gRev, gPut, frz, gFrz, gRet, gExpr, gIf, gExc, asL, eVar, eC, eOp, eUn, toB, tB, tAndB, tOrB, tNotB, eAnd, eOr, eNot, eChain, aNil, aCons, eTup, oLst, eO, eCall, oUn, oSl, rNone, rSome, toI, dCut, eLenO, eIxO, sBind_ok, sBind_exc, sBind_stk, Res.bind_ok, Res.bind_exc, Res.bind_stk, SRes.thn_nx, SRes.thn_rt, SRes.thn_exc, SRes.thn_stk, List.map_cons, List.map_nil, List.cons_append, List.nil_append, List.length_cons, List.length_nil, List.replicate_succ, List.replicate_zero, List.getElem?_cons_zero, List.getElem?_cons_succ, List.set_cons_zero, List.set_cons_succ, Nat.zero_add, Nat.reduceAdd, Nat.reduceSub, dAdd, dSub, dMul, dDiv, dMod, dNeg, dCmp, dLt, dLe, dGt, dGe, dEq, dNe, dEq?, dIsN, dNotN, dIsi, isTy, dLen, dIx_lst, dIx_tup, dIx_scr, dList, dRev, dInt, dMax2, dMin2, decide_eq_true_eq, if_true, if_false, Bool.not_true, Bool.not_false, Bool.false_eq_true, reduceIte, Int.reduceLT, Int.reduceLE, Int.reduceEq, Int.reduceNeg, String.reduceEq, decide_true, decide_false, ci0, ci1, ci2, ci3, ci4, ci5, dAt_0, dAt_1, dAt_2, dAt_3, decide_true]) ?_)))))
      refine seq_nx (forR_nx (n := ds.length) (fun j => [.v (.lst ds), .v (.lst ds), stp .un j]) (by simp only [fnD, gNx, gSeq, gSet, gSetO, ownAt, gApp, gRev, gPut, frz, gFrz, gRet, gExpr, gIf, gExc, asL, eVar, eC, eOp, eUn, toB, tB, tAndB, tOrB, tNotB, eAnd, eOr, eNot, eChain, aNil, aCons, eTup, oLst, eO, eCall, oUn, oSl, rNone, rSome, toI, dCut, eLenO, eIxO, sBind_ok, sBind_exc, sBind_stk, Res.bind_ok, Res.bind_exc, Res.bind_stk, SRes.thn_nx, SRes.thn_rt, SRes.thn_exc, SRes.thn_stk, List.map_cons, List.map_nil, List.cons_append, List.nil_append, List.length_cons, List.length_nil, List.replicate_succ, List.replicate_zero, List.getElem?_cons_zero, List.getElem?_cons_succ, List.set_cons_zero, List.set_cons_succ, Nat.zero_add, Nat.reduceAdd, Nat.reduceSub, dAdd, dSub, dMul, dDiv, dMod, dNeg, dCmp, dLt, dLe, dGt, dGe, dEq, dNe, dEq?, dIsN, dNotN, dIsi, isTy, dLen, dIx_lst, dIx_tup, dIx_scr, dList, dRev, dInt, dMax2, dMin2, decide_eq_true_eq, if_true, if_false, Bool.not_true, Bool.not_false, Bool.false_eq_true, reduceIte, Int.reduceLT, Int.reduceLE, Int.reduceEq, Int.reduceNeg, String.reduceEq, decide_true, decide_false, ci0, ci1, ci2, ci3, ci4, ci5, dAt_0, dAt_1, dAt_2, dAt_3]) (by have := ok.1; unfold fits at this; rw [Nat.ble_eq] at this; exact this) rfl fun j hj => ?_) (by simp only [fnD, gNx, gSeq, gSet, gSetO, ownAt, gApp, gRev, gPut, frz, gFrz, gRet, gExpr, gIf, gExc, asL, eVar, eC, eOp, eUn, toB, tB, tAndB, tOrB, tNotB, eAnd, eOr, eNot, eChain, aNil, aCons, eTup, oLst, eO, eCall, oUn, oSl, rNone, rSome, toI, dCut, eLenO, eIxO, sBind_ok, sBind_exc, sBind_stk, Res.bind_ok, Res.bind_exc, Res.bind_stk, SRes.thn_nx, SRes.thn_rt, SRes.thn_exc, SRes.thn_stk, List.map_cons, List.map_nil, List.cons_append, List.nil_append, List.length_cons, List.length_nil, List.replicate_succ, List.replicate_zero, List.getElem?_cons_zero, List.getElem?_cons_succ, List.set_cons_zero, List.set_cons_succ, Nat.zero_add, Nat.reduceAdd, Nat.reduceSub, dAdd, dSub, dMul, dDiv, dMod, dNeg, dCmp, dLt, dLe, dGt, dGe, dEq, dNe, dEq?, dIsN, dNotN, dIsi, isTy, dLen, dIx_lst, dIx_tup, dIx_scr, dList, dRev, dInt, dMax2, dMin2, decide_eq_true_eq, if_true, if_false, Bool.not_true, Bool.not_false, Bool.false_eq_true, reduceIte, Int.reduceLT, Int.reduceLE, Int.reduceEq, Int.reduceNeg, String.reduceEq, decide_true, decide_false, ci0, ci1, ci2, ci3, ci4, ci5, dAt_0, dAt_1, dAt_2, dAt_3])
      have hd : ds[j]? = some ds[j] := List.getElem?_eq_getElem hj
      have e : dAt ds (j : Int) = .ok ds[j] := by unfold dAt; rw [atI_nat hd]
      have hi := ih ds[j] (okD_get ok.2 hd) (by have := dep_get hd; omega)
      simp only [fnD, gNx, gSeq, gSet, gSetO, ownAt, gApp, gRev, gPut, frz, gFrz, gRet, gExpr, gIf, gExc, asL, eVar, eC, eOp, eUn, toB, tB, tAndB, tOrB, tNotB, eAnd, eOr, eNot, eChain, aNil, aCons, eTup, oLst, eO, eCall, oUn, oSl, rNone, rSome, toI, dCut, eLenO, eIxO, sBind_ok, sBind_exc, sBind_stk, Res.bind_ok, Res.bind_exc, Res.bind_stk, SRes.thn_nx, SRes.thn_rt, SRes.thn_exc, SRes.thn_stk, List.map_cons, List.map_nil, List.cons_append, List.nil_append, List.length_cons, List.length_nil, List.replicate_succ, List.replicate_zero, List.getElem?_cons_zero, List.getElem?_cons_succ, List.set_cons_zero, List.set_cons_succ, Nat.zero_add, Nat.reduceAdd, Nat.reduceSub, dAdd, dSub, dMul, dDiv, dMod, dNeg, dCmp, dLt, dLe, dGt, dGe, dEq, dNe, dEq?, dIsN, dNotN, dIsi, isTy, dLen, dIx_lst, dIx_tup, dIx_scr, dList, dRev, dInt, dMax2, dMin2, decide_eq_true_eq, if_true, if_false, Bool.not_true, Bool.not_false, Bool.false_eq_true, reduceIte, Int.reduceLT, Int.reduceLE, Int.reduceEq, Int.reduceNeg, String.reduceEq, decide_true, decide_false, ci0, ci1, ci2, ci3, ci4, ci5, dAt_0, dAt_1, dAt_2, dAt_3, stp, e, hi]
theorem okDs_dI (l : List Int) : okDs (dI l) = true := by
  induction l with
  | nil => rfl
  | cons a l ih => unfold dI at ih ⊢; rw [List.map_cons]; unfold okDs; rw [ih]; rfl
theorem deps_dI (l : List Int) : deps (dI l) ≤ 1 := by
  induction l with
  | nil => unfold dI deps; simp
  | cons a l ih => unfold dI at ih ⊢; rw [List.map_cons]; unfold deps dep; omega
end Pu

namespace Pu
open PySem L2
theorem lowB_get (n : Int) (w i : Nat) (h : i < w) : (lowB n w)[i]? = some (n / 2 ^ i % 2) := by
  induction w generalizing n i with
  | zero => omega
  | succ w ih =>
    cases i with
    | zero => simp [lowB]
    | succ i =>
      rw [lowB, List.getElem?_cons_succ, ih _ _ (by omega), Int.ediv_ediv_of_nonneg (by omega), Int.pow_succ, Int.mul_comm 2]
theorem wr_get (n : Int) (w i : Nat) (h : i < w) : (wr n w)[i]? = some (n / 2 ^ (w - 1 - i) % 2) := by
  unfold wr
  rw [List.getElem?_reverse (by rw [lowB_len]; exact h), lowB_len, lowB_get _ _ _ (by omega)]
theorem dAt_dI {l : List Int} {i : Int} {j : Nat} {a : Int} (e : i = (j : Int)) (h : l[j]? = some a) : dAt (dI l) i = .ok (.int a) := by
  subst e
  have h' : (dI l)[j]? = some (.int a) := by rw [List.getElem?_map, h]; rfl
  unfold dAt
  rw [atI_nat h']
/-- bits -/
def Bts01 (bs : List Int) : Prop := ∀ b ∈ bs, b = 0 ∨ b = 1
theorem Bts01.get {bs : List Int} (h : Bts01 bs) (i : Nat) : bs.getD i 0 = 0 ∨ bs.getD i 0 = 1 := by
  rw [List.getD_eq_getElem?_getD]
  by_cases hi : i < bs.length
  · rw [List.getElem?_eq_getElem hi]; exact h _ (List.getElem_mem hi)
  · rw [List.getElem?_eq_none (by omega)]; exact .inl rfl
/-- what reading a number comes to -/
inductive Co where
  | rd (n : Int) (p : Nat) | sh (p : Nat) | wg (p : Nat)
def Co.enc : Co → D
  | .rd n p => .tup [.str "read", .int n, .int p]
  | .sh p => .tup [.str "short", .int p]
  | .wg p => .tup [.str "wrong", .int p]
def rc (bs : List Int) (fl : Bool) (m : Int) : Nat → Nat → Int → Co
  | 0, p, n => .rd n p
  | j + 1, p, n => if bs.length ≤ p ∧ fl = false then .sh p else if n * 2 + bs.getD p 0 > m / 2 ^ j then .wg p else rc bs fl m j (p + 1) (n * 2 + bs.getD p 0)
theorem rc_place {bs : List Int} {fl : Bool} {m : Int} : ∀ {j p : Nat} {n : Int} {n' : Int} {q : Nat}, rc bs fl m j p n = .rd n' q → q = p + j
  | 0, p, n, n', q, h => by unfold rc at h; injection h with _ h; omega
  | j + 1, p, n, n', q, h => by
    unfold rc at h
    split at h
    · cases h
    · split at h
      · cases h
      · have := rc_place h; omega
theorem half (m : Int) (j : Nat) : m / 2 ^ j = 2 * (m / 2 ^ (j + 1)) + m / 2 ^ j % 2 := by
  rw [← low_step]
  omega
def bodyRC : Rho → SRes := (gSeq (gSet 9 (eOp dAdd (eVar 1) (eVar 8)))
  (gSeq (gIf (tAndB (tB (eOp dGe (eVar 9) (eUn dLen (eVar 0)))) (tNotB (tB (eVar 4)))) (gRet (eTup (aCons (eC (.str "short")) (aCons (eVar 9) aNil)))) gNx)
  (gSeq (gSet 10 (eC (.int 0)))
  (gSeq (gIf (tB (eOp dLt (eVar 9) (eUn dLen (eVar 0)))) (gSet 10 (eOp dIx (eVar 0) (eVar 9))) gNx)
  (gSeq (gIf (tAndB (tB (eVar 7)) (tB (eOp dGt (eVar 10) (eOp dIx (eVar 5) (eVar 8))))) (gRet (eTup (aCons (eC (.str "wrong")) (aCons (eVar 9) aNil)))) gNx)
  (gSeq (gIf (tB (eOp dLt (eVar 10) (eOp dIx (eVar 5) (eVar 8)))) (gSet 7 (eC (.bl false))) gNx)
  (gSet 6 (eOp dAdd (eOp dMul (eVar 6) (eC (.int 2))) (eVar 10)))))))))
theorem fits_num {n : Nat} (h : n ≤ 16777216 := by decide) : fits n = true := fits_le h
/-- one turn -/
theorem turnRC {bs : List Int} {fl t : Bool} {m n : Int} {p w k j : Nat} (a b c : Slt) (hb : Bts01 bs) (hk : k + (j + 1) = w) (hn : n ≤ m / 2 ^ (j + 1)) (ht : t = true ↔ n = m / 2 ^ (j + 1)) :
    bodyRC [.v (.lst (dI bs)), .v (.int p), .v (.int w), .v (.int m), .v (.bl fl), .v (.lst (dI (wr m w))), .v (.int n), .v (.bl t), .v (.int k), b, c] =
      if bs.length ≤ p + k ∧ fl = false then .rt (Co.sh (p + k)).enc else if n * 2 + bs.getD (p + k) 0 > m / 2 ^ j then .rt (Co.wg (p + k)).enc else
        .nx [.v (.lst (dI bs)), .v (.int p), .v (.int w), .v (.int m), .v (.bl fl), .v (.lst (dI (wr m w))), .v (.int (n * 2 + bs.getD (p + k) 0)), .v (.bl (t && !decide (bs.getD (p + k) 0 < m / 2 ^ j % 2))), .v (.int k), .v (.int (p + k)), .v (.int (bs.getD (p + k) 0))] := by
  have hlim : dAt (dI (wr m w)) (k : Int) = .ok (.int (m / 2 ^ j % 2)) := by
    refine dAt_dI rfl ?_
    rw [wr_get _ _ _ (by omega), show w - 1 - k = j by omega]
  have hB := hb.get (p + k)
  have hh := half m j
  have hcast : (p : Int) + (k : Int) = ((p + k : Nat) : Int) := by omega
  unfold bodyRC
  by_cases c1 : bs.length ≤ p + k ∧ fl = false
  · rw [if_pos c1]
    have c1' : (bs.length : Int) ≤ ((p + k : Nat) : Int) := by have := c1.1; omega
    refine seq_nx rfl (seq_rt ?_)
    have f2 : fits 2 = true := fits_num
    simp only [fnD, gNx, gSeq, gSet, gSetO, ownAt, gApp, gRev, gPut, frz, gFrz, gRet, gExpr, gIf, gExc, asL, eVar, eC, eOp, eUn, toB, tB, tAndB, tOrB, tNotB, eAnd, eOr, eNot, eChain, aNil, aCons, eTup, oLst, eO, eCall, oUn, oSl, rNone, rSome, toI, dCut, eLenO, eIxO, sBind_ok, sBind_exc, sBind_stk, Res.bind_ok, Res.bind_exc, Res.bind_stk, SRes.thn_nx, SRes.thn_rt, SRes.thn_exc, SRes.thn_stk, List.map_cons, List.map_nil, List.cons_append, List.nil_append, List.length_cons, List.length_nil, List.replicate_succ, List.replicate_zero, List.getElem?_cons_zero, List.getElem?_cons_succ, List.set_cons_zero, List.set_cons_succ, Nat.zero_add, Nat.reduceAdd, Nat.reduceSub, dAdd, dSub, dMul, dDiv, dMod, dNeg, dCmp, dLt, dLe, dGt, dGe, dEq, dNe, dEq?, dIsN, dNotN, dIsi, isTy, dLen, dIx_lst, dIx_tup, dIx_scr, dList, dRev, dInt, dMax2, dMin2, decide_eq_true_eq, if_true, if_false, Bool.not_true, Bool.not_false, Bool.false_eq_true, reduceIte, Int.reduceLT, Int.reduceLE, Int.reduceEq, Int.reduceNeg, String.reduceEq, decide_true, decide_false, ci0, ci1, ci2, ci3, ci4, ci5, dAt_0, dAt_1, dAt_2, dAt_3, dI_len, hcast, c1', c1.2, decide_true, f2]
    rfl
  · rw [if_neg c1]
    have bit : gSeq (gSet 10 (eC (.int 0))) (gIf (tB (eOp dLt (eVar 9) (eUn dLen (eVar 0)))) (gSet 10 (eOp dIx (eVar 0) (eVar 9))) gNx)
        [.v (.lst (dI bs)), .v (.int p), .v (.int w), .v (.int m), .v (.bl fl), .v (.lst (dI (wr m w))), .v (.int n), .v (.bl t), .v (.int k), .v (.int (p + k)), c] =
        .nx [.v (.lst (dI bs)), .v (.int p), .v (.int w), .v (.int m), .v (.bl fl), .v (.lst (dI (wr m w))), .v (.int n), .v (.bl t), .v (.int k), .v (.int (p + k)), .v (.int (bs.getD (p + k) 0))] := by
      by_cases c2 : p + k < bs.length
      · have c2' : (p : Int) + k < bs.length := by omega
        have e : dAt (dI bs) ((p : Int) + k) = .ok (.int bs[p + k]) := dAt_dI hcast (List.getElem?_eq_getElem c2)
        simp only [fnD, gNx, gSeq, gSet, gSetO, ownAt, gApp, gRev, gPut, frz, gFrz, gRet, gExpr, gIf, gExc, asL, eVar, eC, eOp, eUn, toB, tB, tAndB, tOrB, tNotB, eAnd, eOr, eNot, eChain, aNil, aCons, eTup, oLst, eO, eCall, oUn, oSl, rNone, rSome, toI, dCut, eLenO, eIxO, sBind_ok, sBind_exc, sBind_stk, Res.bind_ok, Res.bind_exc, Res.bind_stk, SRes.thn_nx, SRes.thn_rt, SRes.thn_exc, SRes.thn_stk, List.map_cons, List.map_nil, List.cons_append, List.nil_append, List.length_cons, List.length_nil, List.replicate_succ, List.replicate_zero, List.getElem?_cons_zero, List.getElem?_cons_succ, List.set_cons_zero, List.set_cons_succ, Nat.zero_add, Nat.reduceAdd, Nat.reduceSub, dAdd, dSub, dMul, dDiv, dMod, dNeg, dCmp, dLt, dLe, dGt, dGe, dEq, dNe, dEq?, dIsN, dNotN, dIsi, isTy, dLen, dIx_lst, dIx_tup, dIx_scr, dList, dRev, dInt, dMax2, dMin2, decide_eq_true_eq, if_true, if_false, Bool.not_true, Bool.not_false, Bool.false_eq_true, reduceIte, Int.reduceLT, Int.reduceLE, Int.reduceEq, Int.reduceNeg, String.reduceEq, decide_true, decide_false, ci0, ci1, ci2, ci3, ci4, ci5, dAt_0, dAt_1, dAt_2, dAt_3, dI_len, c2', decide_true, e, List.getD_eq_getElem?_getD, List.getElem?_eq_getElem c2, Option.getD_some]
      · have c2' : ¬ (p : Int) + k < bs.length := by omega
        simp only [fnD, gNx, gSeq, gSet, gSetO, ownAt, gApp, gRev, gPut, frz, gFrz, gRet, gExpr, gIf, gExc, asL, eVar, eC, eOp, eUn, toB, tB, tAndB, tOrB, tNotB, eAnd, eOr, eNot, eChain, aNil, aCons, eTup, oLst, eO, eCall, oUn, oSl, rNone, rSome, toI, dCut, eLenO, eIxO, sBind_ok, sBind_exc, sBind_stk, Res.bind_ok, Res.bind_exc, Res.bind_stk, SRes.thn_nx, SRes.thn_rt, SRes.thn_exc, SRes.thn_stk, List.map_cons, List.map_nil, List.cons_append, List.nil_append, List.length_cons, List.length_nil, List.replicate_succ, List.replicate_zero, List.getElem?_cons_zero, List.getElem?_cons_succ, List.set_cons_zero, List.set_cons_succ, Nat.zero_add, Nat.reduceAdd, Nat.reduceSub, dAdd, dSub, dMul, dDiv, dMod, dNeg, dCmp, dLt, dLe, dGt, dGe, dEq, dNe, dEq?, dIsN, dNotN, dIsi, isTy, dLen, dIx_lst, dIx_tup, dIx_scr, dList, dRev, dInt, dMax2, dMin2, decide_eq_true_eq, if_true, if_false, Bool.not_true, Bool.not_false, Bool.false_eq_true, reduceIte, Int.reduceLT, Int.reduceLE, Int.reduceEq, Int.reduceNeg, String.reduceEq, decide_true, decide_false, ci0, ci1, ci2, ci3, ci4, ci5, dAt_0, dAt_1, dAt_2, dAt_3, dI_len, c2', decide_false, List.getD_eq_getElem?_getD, List.getElem?_eq_none (show bs.length ≤ p + k by omega), Option.getD_none]
    generalize bs.getD (p + k) 0 = B at *
    generalize m / 2 ^ j = Mj at *
    generalize m / 2 ^ (j + 1) = Mk at *
    refine seq_nx rfl (seq_nx (ρ' := [.v (.lst (dI bs)), .v (.int p), .v (.int w), .v (.int m), .v (.bl fl), .v (.lst (dI (wr m w))), .v (.int n), .v (.bl t), .v (.int k), .v (.int (p + k)), c]) ?_ ?_)
    · have c1' : ¬ ((bs.length : Int) ≤ (p : Int) + k ∧ fl = false) := fun z => c1 ⟨by have := z.1; omega, z.2⟩
      by_cases z : (bs.length : Int) ≤ (p : Int) + k
      · have zf : fl = true := by
          cases fl with
          | true => rfl
          | false => exact absurd ⟨z, rfl⟩ c1'
        simp only [fnD, gNx, gSeq, gSet, gSetO, ownAt, gApp, gRev, gPut, frz, gFrz, gRet, gExpr, gIf, gExc, asL, eVar, eC, eOp, eUn, toB, tB, tAndB, tOrB, tNotB, eAnd, eOr, eNot, eChain, aNil, aCons, eTup, oLst, eO, eCall, oUn, oSl, rNone, rSome, toI, dCut, eLenO, eIxO, sBind_ok, sBind_exc, sBind_stk, Res.bind_ok, Res.bind_exc, Res.bind_stk, SRes.thn_nx, SRes.thn_rt, SRes.thn_exc, SRes.thn_stk, List.map_cons, List.map_nil, List.cons_append, List.nil_append, List.length_cons, List.length_nil, List.replicate_succ, List.replicate_zero, List.getElem?_cons_zero, List.getElem?_cons_succ, List.set_cons_zero, List.set_cons_succ, Nat.zero_add, Nat.reduceAdd, Nat.reduceSub, dAdd, dSub, dMul, dDiv, dMod, dNeg, dCmp, dLt, dLe, dGt, dGe, dEq, dNe, dEq?, dIsN, dNotN, dIsi, isTy, dLen, dIx_lst, dIx_tup, dIx_scr, dList, dRev, dInt, dMax2, dMin2, decide_eq_true_eq, if_true, if_false, Bool.not_true, Bool.not_false, Bool.false_eq_true, reduceIte, Int.reduceLT, Int.reduceLE, Int.reduceEq, Int.reduceNeg, String.reduceEq, decide_true, decide_false, ci0, ci1, ci2, ci3, ci4, ci5, dAt_0, dAt_1, dAt_2, dAt_3, dI_len, z, zf, decide_true]
      · simp only [fnD, gNx, gSeq, gSet, gSetO, ownAt, gApp, gRev, gPut, frz, gFrz, gRet, gExpr, gIf, gExc, asL, eVar, eC, eOp, eUn, toB, tB, tAndB, tOrB, tNotB, eAnd, eOr, eNot, eChain, aNil, aCons, eTup, oLst, eO, eCall, oUn, oSl, rNone, rSome, toI, dCut, eLenO, eIxO, sBind_ok, sBind_exc, sBind_stk, Res.bind_ok, Res.bind_exc, Res.bind_stk, SRes.thn_nx, SRes.thn_rt, SRes.thn_exc, SRes.thn_stk, List.map_cons, List.map_nil, List.cons_append, List.nil_append, List.length_cons, List.length_nil, List.replicate_succ, List.replicate_zero, List.getElem?_cons_zero, List.getElem?_cons_succ, List.set_cons_zero, List.set_cons_succ, Nat.zero_add, Nat.reduceAdd, Nat.reduceSub, dAdd, dSub, dMul, dDiv, dMod, dNeg, dCmp, dLt, dLe, dGt, dGe, dEq, dNe, dEq?, dIsN, dNotN, dIsi, isTy, dLen, dIx_lst, dIx_tup, dIx_scr, dList, dRev, dInt, dMax2, dMin2, decide_eq_true_eq, if_true, if_false, Bool.not_true, Bool.not_false, Bool.false_eq_true, reduceIte, Int.reduceLT, Int.reduceLE, Int.reduceEq, Int.reduceNeg, String.reduceEq, decide_true, decide_false, ci0, ci1, ci2, ci3, ci4, ci5, dAt_0, dAt_1, dAt_2, dAt_3, dI_len, z, decide_false]
    · have bit' : ∀ g : Rho → SRes, gSeq (gSet 10 (eC (.int 0))) (gSeq (gIf (tB (eOp dLt (eVar 9) (eUn dLen (eVar 0)))) (gSet 10 (eOp dIx (eVar 0) (eVar 9))) gNx) g)
          [.v (.lst (dI bs)), .v (.int p), .v (.int w), .v (.int m), .v (.bl fl), .v (.lst (dI (wr m w))), .v (.int n), .v (.bl t), .v (.int k), .v (.int (p + k)), c] =
          g [.v (.lst (dI bs)), .v (.int p), .v (.int w), .v (.int m), .v (.bl fl), .v (.lst (dI (wr m w))), .v (.int n), .v (.bl t), .v (.int k), .v (.int (p + k)), .v (.int B)] := fun g => by
        refine seq_nx rfl (seq_nx ?_ rfl)
        exact bit
      rw [bit']
      by_cases c3 : n * 2 + B > Mj
      · rw [if_pos c3]
        refine seq_rt ?_
        have tt : t = true := ht.mpr (by omega)
        have lt : Mj % 2 < B := by omega
        have f2 : fits 2 = true := fits_num
        simp only [fnD, gNx, gSeq, gSet, gSetO, ownAt, gApp, gRev, gPut, frz, gFrz, gRet, gExpr, gIf, gExc, asL, eVar, eC, eOp, eUn, toB, tB, tAndB, tOrB, tNotB, eAnd, eOr, eNot, eChain, aNil, aCons, eTup, oLst, eO, eCall, oUn, oSl, rNone, rSome, toI, dCut, eLenO, eIxO, sBind_ok, sBind_exc, sBind_stk, Res.bind_ok, Res.bind_exc, Res.bind_stk, SRes.thn_nx, SRes.thn_rt, SRes.thn_exc, SRes.thn_stk, List.map_cons, List.map_nil, List.cons_append, List.nil_append, List.length_cons, List.length_nil, List.replicate_succ, List.replicate_zero, List.getElem?_cons_zero, List.getElem?_cons_succ, List.set_cons_zero, List.set_cons_succ, Nat.zero_add, Nat.reduceAdd, Nat.reduceSub, dAdd, dSub, dMul, dDiv, dMod, dNeg, dCmp, dLt, dLe, dGt, dGe, dEq, dNe, dEq?, dIsN, dNotN, dIsi, isTy, dLen, dIx_lst, dIx_tup, dIx_scr, dList, dRev, dInt, dMax2, dMin2, decide_eq_true_eq, if_true, if_false, Bool.not_true, Bool.not_false, Bool.false_eq_true, reduceIte, Int.reduceLT, Int.reduceLE, Int.reduceEq, Int.reduceNeg, String.reduceEq, decide_true, decide_false, ci0, ci1, ci2, ci3, ci4, ci5, dAt_0, dAt_1, dAt_2, dAt_3, hlim, tt, lt, decide_true, f2, hcast]
        rfl
      · rw [if_neg c3]
        refine seq_nx (ρ' := [.v (.lst (dI bs)), .v (.int p), .v (.int w), .v (.int m), .v (.bl fl), .v (.lst (dI (wr m w))), .v (.int n), .v (.bl t), .v (.int k), .v (.int (p + k)), .v (.int B)]) ?_ ?_
        · cases t with
          | false => simp only [fnD, gNx, gSeq, gSet, gSetO, ownAt, gApp, gRev, gPut, frz, gFrz, gRet, gExpr, gIf, gExc, asL, eVar, eC, eOp, eUn, toB, tB, tAndB, tOrB, tNotB, eAnd, eOr, eNot, eChain, aNil, aCons, eTup, oLst, eO, eCall, oUn, oSl, rNone, rSome, toI, dCut, eLenO, eIxO, sBind_ok, sBind_exc, sBind_stk, Res.bind_ok, Res.bind_exc, Res.bind_stk, SRes.thn_nx, SRes.thn_rt, SRes.thn_exc, SRes.thn_stk, List.map_cons, List.map_nil, List.cons_append, List.nil_append, List.length_cons, List.length_nil, List.replicate_succ, List.replicate_zero, List.getElem?_cons_zero, List.getElem?_cons_succ, List.set_cons_zero, List.set_cons_succ, Nat.zero_add, Nat.reduceAdd, Nat.reduceSub, dAdd, dSub, dMul, dDiv, dMod, dNeg, dCmp, dLt, dLe, dGt, dGe, dEq, dNe, dEq?, dIsN, dNotN, dIsi, isTy, dLen, dIx_lst, dIx_tup, dIx_scr, dList, dRev, dInt, dMax2, dMin2, decide_eq_true_eq, if_true, if_false, Bool.not_true, Bool.not_false, Bool.false_eq_true, reduceIte, Int.reduceLT, Int.reduceLE, Int.reduceEq, Int.reduceNeg, String.reduceEq, decide_true, decide_false, ci0, ci1, ci2, ci3, ci4, ci5, dAt_0, dAt_1, dAt_2, dAt_3]
          | true =>
            have e := ht.mp rfl
            have lt : ¬ Mj % 2 < B := by omega
            simp only [fnD, gNx, gSeq, gSet, gSetO, ownAt, gApp, gRev, gPut, frz, gFrz, gRet, gExpr, gIf, gExc, asL, eVar, eC, eOp, eUn, toB, tB, tAndB, tOrB, tNotB, eAnd, eOr, eNot, eChain, aNil, aCons, eTup, oLst, eO, eCall, oUn, oSl, rNone, rSome, toI, dCut, eLenO, eIxO, sBind_ok, sBind_exc, sBind_stk, Res.bind_ok, Res.bind_exc, Res.bind_stk, SRes.thn_nx, SRes.thn_rt, SRes.thn_exc, SRes.thn_stk, List.map_cons, List.map_nil, List.cons_append, List.nil_append, List.length_cons, List.length_nil, List.replicate_succ, List.replicate_zero, List.getElem?_cons_zero, List.getElem?_cons_succ, List.set_cons_zero, List.set_cons_succ, Nat.zero_add, Nat.reduceAdd, Nat.reduceSub, dAdd, dSub, dMul, dDiv, dMod, dNeg, dCmp, dLt, dLe, dGt, dGe, dEq, dNe, dEq?, dIsN, dNotN, dIsi, isTy, dLen, dIx_lst, dIx_tup, dIx_scr, dList, dRev, dInt, dMax2, dMin2, decide_eq_true_eq, if_true, if_false, Bool.not_true, Bool.not_false, Bool.false_eq_true, reduceIte, Int.reduceLT, Int.reduceLE, Int.reduceEq, Int.reduceNeg, String.reduceEq, decide_true, decide_false, ci0, ci1, ci2, ci3, ci4, ci5, dAt_0, dAt_1, dAt_2, dAt_3, hlim, lt, decide_false]
        · by_cases c4 : B < Mj % 2
          · refine seq_nx (ρ' := [.v (.lst (dI bs)), .v (.int p), .v (.int w), .v (.int m), .v (.bl fl), .v (.lst (dI (wr m w))), .v (.int n), .v (.bl false), .v (.int k), .v (.int (p + k)), .v (.int B)]) (by simp only [fnD, gNx, gSeq, gSet, gSetO, ownAt, gApp, gRev, gPut, frz, gFrz, gRet, gExpr, gIf, gExc, asL, eVar, eC, eOp, eUn, toB, tB, tAndB, tOrB, tNotB, eAnd, eOr, eNot, eChain, aNil, aCons, eTup, oLst, eO, eCall, oUn, oSl, rNone, rSome, toI, dCut, eLenO, eIxO, sBind_ok, sBind_exc, sBind_stk, Res.bind_ok, Res.bind_exc, Res.bind_stk, SRes.thn_nx, SRes.thn_rt, SRes.thn_exc, SRes.thn_stk, List.map_cons, List.map_nil, List.cons_append, List.nil_append, List.length_cons, List.length_nil, List.replicate_succ, List.replicate_zero, List.getElem?_cons_zero, List.getElem?_cons_succ, List.set_cons_zero, List.set_cons_succ, Nat.zero_add, Nat.reduceAdd, Nat.reduceSub, dAdd, dSub, dMul, dDiv, dMod, dNeg, dCmp, dLt, dLe, dGt, dGe, dEq, dNe, dEq?, dIsN, dNotN, dIsi, isTy, dLen, dIx_lst, dIx_tup, dIx_scr, dList, dRev, dInt, dMax2, dMin2, decide_eq_true_eq, if_true, if_false, Bool.not_true, Bool.not_false, Bool.false_eq_true, reduceIte, Int.reduceLT, Int.reduceLE, Int.reduceEq, Int.reduceNeg, String.reduceEq, decide_true, decide_false, ci0, ci1, ci2, ci3, ci4, ci5, dAt_0, dAt_1, dAt_2, dAt_3, hlim, c4, decide_true]) ?_
            simp only [fnD, gNx, gSeq, gSet, gSetO, ownAt, gApp, gRev, gPut, frz, gFrz, gRet, gExpr, gIf, gExc, asL, eVar, eC, eOp, eUn, toB, tB, tAndB, tOrB, tNotB, eAnd, eOr, eNot, eChain, aNil, aCons, eTup, oLst, eO, eCall, oUn, oSl, rNone, rSome, toI, dCut, eLenO, eIxO, sBind_ok, sBind_exc, sBind_stk, Res.bind_ok, Res.bind_exc, Res.bind_stk, SRes.thn_nx, SRes.thn_rt, SRes.thn_exc, SRes.thn_stk, List.map_cons, List.map_nil, List.cons_append, List.nil_append, List.length_cons, List.length_nil, List.replicate_succ, List.replicate_zero, List.getElem?_cons_zero, List.getElem?_cons_succ, List.set_cons_zero, List.set_cons_succ, Nat.zero_add, Nat.reduceAdd, Nat.reduceSub, dAdd, dSub, dMul, dDiv, dMod, dNeg, dCmp, dLt, dLe, dGt, dGe, dEq, dNe, dEq?, dIsN, dNotN, dIsi, isTy, dLen, dIx_lst, dIx_tup, dIx_scr, dList, dRev, dInt, dMax2, dMin2, decide_eq_true_eq, if_true, if_false, Bool.not_true, Bool.not_false, Bool.false_eq_true, reduceIte, Int.reduceLT, Int.reduceLE, Int.reduceEq, Int.reduceNeg, String.reduceEq, decide_true, decide_false, ci0, ci1, ci2, ci3, ci4, ci5, dAt_0, dAt_1, dAt_2, dAt_3, mulOk_two, c4, decide_true, Bool.and_false]
          · refine seq_nx (ρ' := [.v (.lst (dI bs)), .v (.int p), .v (.int w), .v (.int m), .v (.bl fl), .v (.lst (dI (wr m w))), .v (.int n), .v (.bl t), .v (.int k), .v (.int (p + k)), .v (.int B)]) (by simp only [fnD, gNx, gSeq, gSet, gSetO, ownAt, gApp, gRev, gPut, frz, gFrz, gRet, gExpr, gIf, gExc, asL, eVar, eC, eOp, eUn, toB, tB, tAndB, tOrB, tNotB, eAnd, eOr, eNot, eChain, aNil, aCons, eTup, oLst, eO, eCall, oUn, oSl, rNone, rSome, toI, dCut, eLenO, eIxO, sBind_ok, sBind_exc, sBind_stk, Res.bind_ok, Res.bind_exc, Res.bind_stk, SRes.thn_nx, SRes.thn_rt, SRes.thn_exc, SRes.thn_stk, List.map_cons, List.map_nil, List.cons_append, List.nil_append, List.length_cons, List.length_nil, List.replicate_succ, List.replicate_zero, List.getElem?_cons_zero, List.getElem?_cons_succ, List.set_cons_zero, List.set_cons_succ, Nat.zero_add, Nat.reduceAdd, Nat.reduceSub, dAdd, dSub, dMul, dDiv, dMod, dNeg, dCmp, dLt, dLe, dGt, dGe, dEq, dNe, dEq?, dIsN, dNotN, dIsi, isTy, dLen, dIx_lst, dIx_tup, dIx_scr, dList, dRev, dInt, dMax2, dMin2, decide_eq_true_eq, if_true, if_false, Bool.not_true, Bool.not_false, Bool.false_eq_true, reduceIte, Int.reduceLT, Int.reduceLE, Int.reduceEq, Int.reduceNeg, String.reduceEq, decide_true, decide_false, ci0, ci1, ci2, ci3, ci4, ci5, dAt_0, dAt_1, dAt_2, dAt_3, hlim, c4, decide_false]) ?_
            simp only [fnD, gNx, gSeq, gSet, gSetO, ownAt, gApp, gRev, gPut, frz, gFrz, gRet, gExpr, gIf, gExc, asL, eVar, eC, eOp, eUn, toB, tB, tAndB, tOrB, tNotB, eAnd, eOr, eNot, eChain, aNil, aCons, eTup, oLst, eO, eCall, oUn, oSl, rNone, rSome, toI, dCut, eLenO, eIxO, sBind_ok, sBind_exc, sBind_stk, Res.bind_ok, Res.bind_exc, Res.bind_stk, SRes.thn_nx, SRes.thn_rt, SRes.thn_exc, SRes.thn_stk, List.map_cons, List.map_nil, List.cons_append, List.nil_append, List.length_cons, List.length_nil, List.replicate_succ, List.replicate_zero, List.getElem?_cons_zero, List.getElem?_cons_succ, List.set_cons_zero, List.set_cons_succ, Nat.zero_add, Nat.reduceAdd, Nat.reduceSub, dAdd, dSub, dMul, dDiv, dMod, dNeg, dCmp, dLt, dLe, dGt, dGe, dEq, dNe, dEq?, dIsN, dNotN, dIsi, isTy, dLen, dIx_lst, dIx_tup, dIx_scr, dList, dRev, dInt, dMax2, dMin2, decide_eq_true_eq, if_true, if_false, Bool.not_true, Bool.not_false, Bool.false_eq_true, reduceIte, Int.reduceLT, Int.reduceLE, Int.reduceEq, Int.reduceNeg, String.reduceEq, decide_true, decide_false, ci0, ci1, ci2, ci3, ci4, ci5, dAt_0, dAt_1, dAt_2, dAt_3, mulOk_two, c4, decide_false, Bool.and_true]
/-- the loop of read_code -/
theorem loopRC {bs : List Int} {fl : Bool} {m : Int} {p w : Nat} (hb : Bts01 bs) : ∀ (j k : Nat) (n : Int) (t : Bool) (a b c : Slt), k + j = w → n ≤ m / 2 ^ j → (t = true ↔ n = m / 2 ^ j) →
    match rc bs fl m j (p + k) n with
    | .rd n' q => ∃ t' a' b' c', forL (fun (k : Nat) ρ => bodyRC (ρ.set 8 (.v (.int k)))) (List.range' k j) [.v (.lst (dI bs)), .v (.int p), .v (.int w), .v (.int m), .v (.bl fl), .v (.lst (dI (wr m w))), .v (.int n), .v (.bl t), a, b, c] =
        .nx [.v (.lst (dI bs)), .v (.int p), .v (.int w), .v (.int m), .v (.bl fl), .v (.lst (dI (wr m w))), .v (.int n'), .v (.bl t'), a', b', c'] ∧ n' ≤ m
    | o => forL (fun (k : Nat) ρ => bodyRC (ρ.set 8 (.v (.int k)))) (List.range' k j) [.v (.lst (dI bs)), .v (.int p), .v (.int w), .v (.int m), .v (.bl fl), .v (.lst (dI (wr m w))), .v (.int n), .v (.bl t), a, b, c] = .rt o.enc := by
  intro j
  induction j with
  | zero =>
    intro k n t a b c hk hn ht
    simp only [rc, List.range'_zero, forL]
    exact ⟨t, a, b, c, rfl, by simpa using hn⟩
  | succ j ih =>
    intro k n t a b c hk hn ht
    rw [List.range'_succ]
    simp only [forL]
    have T := turnRC (fl := fl) (m := m) (p := p) (n := n) (t := t) a b c hb hk hn ht
    have T' : bodyRC ([.v (.lst (dI bs)), .v (.int p), .v (.int w), .v (.int m), .v (.bl fl), .v (.lst (dI (wr m w))), .v (.int n), .v (.bl t), a, b, c].set 8 (.v (.int k))) = _ := T
    rw [T']
    unfold rc
    by_cases c1 : bs.length ≤ p + k ∧ fl = false
    · rw [if_pos c1, if_pos c1]; rfl
    · rw [if_neg c1, if_neg c1]
      by_cases c2 : n * 2 + bs.getD (p + k) 0 > m / 2 ^ j
      · rw [if_pos c2, if_pos c2]; rfl
      · rw [if_neg c2, if_neg c2]
        simp only [SRes.thn_nx]
        have hB := hb.get (p + k)
        have hh := half m j
        refine ih (k + 1) _ _ _ _ _ (by omega) (by omega) ?_
        generalize bs.getD (p + k) 0 = B at *
        generalize m / 2 ^ j = Mj at *
        generalize m / 2 ^ (j + 1) = Mk at *
        rw [Bool.and_eq_true, Bool.not_eq_true', decide_eq_false_iff_not, ht]
        omega
theorem read_code_eq {p_b : List D → Res D} {bs : List Int} {fl : Bool} {m : Int} {p w : Nat} (hp : p_b [.int m, .int w] = .ok (.lst (dI (wr m w)))) (hb : Bts01 bs) (hw : w ≤ 16777216) (h0 : 0 ≤ m) (h1 : m < 2 ^ w) :
    S_read_code p_b [.lst (dI bs), .int p, .int w, .int m, .bl fl] = .ok (rc bs fl m w p 0).enc := by
  have e0 : m / 2 ^ w = 0 := Int.ediv_eq_zero_of_lt h0 h1
  have L := loopRC (fl := fl) (m := m) (p := p) (w := w) hb w 0 0 true .un .un .un (by omega) (by omega) ⟨fun _ => e0.symm, fun _ => rfl⟩
  have F : ∀ r, forL (fun (k : Nat) ρ => bodyRC (ρ.set 8 (.v (.int k)))) (List.range' 0 w) [.v (.lst (dI bs)), .v (.int p), .v (.int w), .v (.int m), .v (.bl fl), .v (.lst (dI (wr m w))), .v (.int 0), .v (.bl true), .un, .un, .un] = r →
      gForR 8 (eVar 2) bodyRC [.v (.lst (dI bs)), .v (.int p), .v (.int w), .v (.int m), .v (.bl fl), .v (.lst (dI (wr m w))), .v (.int 0), .v (.bl true), .un, .un, .un] = r := fun r h => by
    unfold gForR
    have e : (eVar 2 [.v (.lst (dI bs)), .v (.int p), .v (.int w), .v (.int m), .v (.bl fl), .v (.lst (dI (wr m w))), .v (.int 0), .v (.bl true), .un, .un, .un] : Res D) = .ok (.int w) := rfl
    rw [e]
    simp only [Res.bind_ok, asN, rngOk_nat hw, if_true, sBind_ok, Int.toNat_natCast]
    rw [List.range_eq_range']
    exact h
  refine fnD_rt (seq_nx (ρ' := [.v (.lst (dI bs)), .v (.int p), .v (.int w), .v (.int m), .v (.bl fl), .v (.lst (dI (wr m w))), .un, .un, .un, .un, .un]) (by simp only [fnD, gNx, gSeq, gSet, gSetO, ownAt, gApp, gRev, gPut, frz, gFrz, gRet, gExpr, gIf, gExc, asL, eVar, eC, eOp, eUn, toB, tB, tAndB, tOrB, tNotB, eAnd, eOr, eNot, eChain, aNil, aCons, eTup, oLst, eO, eCall, oUn, oSl, rNone, rSome, toI, dCut, eLenO, eIxO, sBind_ok, sBind_exc, sBind_stk, Res.bind_ok, Res.bind_exc, Res.bind_stk, SRes.thn_nx, SRes.thn_rt, SRes.thn_exc, SRes.thn_stk, List.map_cons, List.map_nil, List.cons_append, List.nil_append, List.length_cons, List.length_nil, List.replicate_succ, List.replicate_zero, List.getElem?_cons_zero, List.getElem?_cons_succ, List.set_cons_zero, List.set_cons_succ, Nat.zero_add, Nat.reduceAdd, Nat.reduceSub, dAdd, dSub, dMul, dDiv, dMod, dNeg, dCmp, dLt, dLe, dGt, dGe, dEq, dNe, dEq?, dIsN, dNotN, dIsi, isTy, dLen, dIx_lst, dIx_tup, dIx_scr, dList, dRev, dInt, dMax2, dMin2, decide_eq_true_eq, if_true, if_false, Bool.not_true, Bool.not_false, Bool.false_eq_true, reduceIte, Int.reduceLT, Int.reduceLE, Int.reduceEq, Int.reduceNeg, String.reduceEq, decide_true, decide_false, ci0, ci1, ci2, ci3, ci4, ci5, dAt_0, dAt_1, dAt_2, dAt_3, hp]) (seq_nx rfl (seq_nx rfl ?_)))
  rw [Nat.add_zero] at L
  cases e : rc bs fl m w p 0 with
  | rd n' q =>
    rw [e] at L
    obtain ⟨t', a', b', c', L, _⟩ := L
    have hq := rc_place e
    have f3 : fits 3 = true := fits_num
    refine seq_nx (F _ L) ?_
    have hc : (p : Int) + w = ((q : Nat) : Int) := by omega
    simp only [fnD, gNx, gSeq, gSet, gSetO, ownAt, gApp, gRev, gPut, frz, gFrz, gRet, gExpr, gIf, gExc, asL, eVar, eC, eOp, eUn, toB, tB, tAndB, tOrB, tNotB, eAnd, eOr, eNot, eChain, aNil, aCons, eTup, oLst, eO, eCall, oUn, oSl, rNone, rSome, toI, dCut, eLenO, eIxO, sBind_ok, sBind_exc, sBind_stk, Res.bind_ok, Res.bind_exc, Res.bind_stk, SRes.thn_nx, SRes.thn_rt, SRes.thn_exc, SRes.thn_stk, List.map_cons, List.map_nil, List.cons_append, List.nil_append, List.length_cons, List.length_nil, List.replicate_succ, List.replicate_zero, List.getElem?_cons_zero, List.getElem?_cons_succ, List.set_cons_zero, List.set_cons_succ, Nat.zero_add, Nat.reduceAdd, Nat.reduceSub, dAdd, dSub, dMul, dDiv, dMod, dNeg, dCmp, dLt, dLe, dGt, dGe, dEq, dNe, dEq?, dIsN, dNotN, dIsi, isTy, dLen, dIx_lst, dIx_tup, dIx_scr, dList, dRev, dInt, dMax2, dMin2, decide_eq_true_eq, if_true, if_false, Bool.not_true, Bool.not_false, Bool.false_eq_true, reduceIte, Int.reduceLT, Int.reduceLE, Int.reduceEq, Int.reduceNeg, String.reduceEq, decide_true, decide_false, ci0, ci1, ci2, ci3, ci4, ci5, dAt_0, dAt_1, dAt_2, dAt_3, f3, hc]
    rfl
  | sh q =>
    rw [e] at L
    exact seq_rt (F _ L)
  | wg q =>
    rw [e] at L
    exact seq_rt (F _ L)
end Pu

namespace Pu
open PySem L2
def bodyLC (p__law_room : List D → Res D) : Rho → SRes := (gSeq (gIf (tB (eOp dGe (eOp dAdd (eVar 1) (eVar 5)) (eUn dLen (eVar 0)))) (gRet (eTup (aCons (eC (.str "short")) (aCons (eUn dLen (eVar 0)) aNil)))) gNx)
  (gSeq (gSet 4 (eOp dAdd (eOp dMul (eVar 4) (eC (.int 2))) (eOp dIx (eVar 0) (eOp dAdd (eVar 1) (eVar 5)))))
  (gIf (tB (eOp dGt (eOp dMul (eVar 4) (eCall p__law_room (aCons (eOp dSub (eOp dSub (eVar 2) (eC (.int 1))) (eVar 5)) aNil))) (eVar 3))) (gRet (eTup (aCons (eC (.str "wrong")) (aCons (eOp dAdd (eVar 1) (eVar 5)) aNil)))) gNx)))
theorem pow_le64 {j : Nat} (h : j ≤ 63) : (2 ^ j : Int).natAbs ≤ 18446744073709551615 := by
  have e : (2 ^ j : Int) = ((2 ^ j : Nat) : Int) := by simp
  rw [e, Int.natAbs_natCast]
  have := Nat.pow_le_pow_right (show 0 < 2 by omega) h
  omega
theorem gt_pow {n m : Int} {j : Nat} : m < n * 2 ^ j ↔ n > m / 2 ^ j := by
  constructor
  · intro h; exact (Int.ediv_lt_iff_lt_mul (two_pos j)).mpr h
  · intro h; exact (Int.ediv_lt_iff_lt_mul (two_pos j)).mp h
theorem turnLC {p_r : List D → Res D} (hr : ∀ w : Nat, w ≤ 64 → p_r [.int w] = .ok (.int (2 ^ w))) {bs : List Int} {m n : Int} {p w k j : Nat} (hk : k + (j + 1) = w) (hw : w ≤ 64) (hp : p + k ≤ bs.length) (u : Slt) :
    bodyLC p_r [.v (.lst (dI bs)), .v (.int p), .v (.int w), .v (.int m), .v (.int n), .v (.int k)] =
      if bs.length ≤ p + k ∧ false = false then .rt (Co.sh (p + k)).enc else if n * 2 + bs.getD (p + k) 0 > m / 2 ^ j then .rt (Co.wg (p + k)).enc else
        .nx [.v (.lst (dI bs)), .v (.int p), .v (.int w), .v (.int m), .v (.int (n * 2 + bs.getD (p + k) 0)), .v (.int k)] := by
  have hcast : (p : Int) + (k : Int) = ((p + k : Nat) : Int) := by omega
  have f2 : fits 2 = true := fits_num
  unfold bodyLC
  by_cases c1 : bs.length ≤ p + k
  · rw [if_pos ⟨c1, rfl⟩]
    have e : bs.length = p + k := by omega
    refine seq_rt ?_
    simp only [fnD, gNx, gSeq, gSet, gSetO, ownAt, gApp, gRev, gPut, frz, gFrz, gRet, gExpr, gIf, gExc, asL, eVar, eC, eOp, eUn, toB, tB, tAndB, tOrB, tNotB, eAnd, eOr, eNot, eChain, aNil, aCons, eTup, oLst, eO, eCall, oUn, oSl, rNone, rSome, toI, dCut, eLenO, eIxO, sBind_ok, sBind_exc, sBind_stk, Res.bind_ok, Res.bind_exc, Res.bind_stk, SRes.thn_nx, SRes.thn_rt, SRes.thn_exc, SRes.thn_stk, List.map_cons, List.map_nil, List.cons_append, List.nil_append, List.length_cons, List.length_nil, List.replicate_succ, List.replicate_zero, List.getElem?_cons_zero, List.getElem?_cons_succ, List.set_cons_zero, List.set_cons_succ, Nat.zero_add, Nat.reduceAdd, Nat.reduceSub, dAdd, dSub, dMul, dDiv, dMod, dNeg, dCmp, dLt, dLe, dGt, dGe, dEq, dNe, dEq?, dIsN, dNotN, dIsi, isTy, dLen, dIx_lst, dIx_tup, dIx_scr, dList, dRev, dInt, dMax2, dMin2, decide_eq_true_eq, if_true, if_false, Bool.not_true, Bool.not_false, Bool.false_eq_true, reduceIte, Int.reduceLT, Int.reduceLE, Int.reduceEq, Int.reduceNeg, String.reduceEq, decide_true, decide_false, ci0, ci1, ci2, ci3, ci4, ci5, dAt_0, dAt_1, dAt_2, dAt_3, dI_len, hcast, e, Int.le_refl, decide_true, f2]
    rfl
  · rw [if_neg (fun z => c1 z.1)]
    have c1' : ¬ (bs.length : Int) ≤ ((p + k : Nat) : Int) := by omega
    have e : dAt (dI bs) ((p + k : Nat) : Int) = .ok (.int bs[p + k]) := dAt_dI rfl (List.getElem?_eq_getElem (by omega))
    have eg : bs.getD (p + k) 0 = bs[p + k] := by rw [List.getD_eq_getElem?_getD, List.getElem?_eq_getElem (by omega)]; rfl
    rw [eg]
    have ej : (w : Int) - 1 - (k : Int) = ((j : Nat) : Int) := by omega
    refine seq_nx (ρ' := [.v (.lst (dI bs)), .v (.int p), .v (.int w), .v (.int m), .v (.int n), .v (.int k)]) (by simp only [fnD, gNx, gSeq, gSet, gSetO, ownAt, gApp, gRev, gPut, frz, gFrz, gRet, gExpr, gIf, gExc, asL, eVar, eC, eOp, eUn, toB, tB, tAndB, tOrB, tNotB, eAnd, eOr, eNot, eChain, aNil, aCons, eTup, oLst, eO, eCall, oUn, oSl, rNone, rSome, toI, dCut, eLenO, eIxO, sBind_ok, sBind_exc, sBind_stk, Res.bind_ok, Res.bind_exc, Res.bind_stk, SRes.thn_nx, SRes.thn_rt, SRes.thn_exc, SRes.thn_stk, List.map_cons, List.map_nil, List.cons_append, List.nil_append, List.length_cons, List.length_nil, List.replicate_succ, List.replicate_zero, List.getElem?_cons_zero, List.getElem?_cons_succ, List.set_cons_zero, List.set_cons_succ, Nat.zero_add, Nat.reduceAdd, Nat.reduceSub, dAdd, dSub, dMul, dDiv, dMod, dNeg, dCmp, dLt, dLe, dGt, dGe, dEq, dNe, dEq?, dIsN, dNotN, dIsi, isTy, dLen, dIx_lst, dIx_tup, dIx_scr, dList, dRev, dInt, dMax2, dMin2, decide_eq_true_eq, if_true, if_false, Bool.not_true, Bool.not_false, Bool.false_eq_true, reduceIte, Int.reduceLT, Int.reduceLE, Int.reduceEq, Int.reduceNeg, String.reduceEq, decide_true, decide_false, ci0, ci1, ci2, ci3, ci4, ci5, dAt_0, dAt_1, dAt_2, dAt_3, dI_len, hcast, c1', decide_false]) (seq_nx (ρ' := [.v (.lst (dI bs)), .v (.int p), .v (.int w), .v (.int m), .v (.int (n * 2 + bs[p + k])), .v (.int k)]) (by simp only [fnD, gNx, gSeq, gSet, gSetO, ownAt, gApp, gRev, gPut, frz, gFrz, gRet, gExpr, gIf, gExc, asL, eVar, eC, eOp, eUn, toB, tB, tAndB, tOrB, tNotB, eAnd, eOr, eNot, eChain, aNil, aCons, eTup, oLst, eO, eCall, oUn, oSl, rNone, rSome, toI, dCut, eLenO, eIxO, sBind_ok, sBind_exc, sBind_stk, Res.bind_ok, Res.bind_exc, Res.bind_stk, SRes.thn_nx, SRes.thn_rt, SRes.thn_exc, SRes.thn_stk, List.map_cons, List.map_nil, List.cons_append, List.nil_append, List.length_cons, List.length_nil, List.replicate_succ, List.replicate_zero, List.getElem?_cons_zero, List.getElem?_cons_succ, List.set_cons_zero, List.set_cons_succ, Nat.zero_add, Nat.reduceAdd, Nat.reduceSub, dAdd, dSub, dMul, dDiv, dMod, dNeg, dCmp, dLt, dLe, dGt, dGe, dEq, dNe, dEq?, dIsN, dNotN, dIsi, isTy, dLen, dIx_lst, dIx_tup, dIx_scr, dList, dRev, dInt, dMax2, dMin2, decide_eq_true_eq, if_true, if_false, Bool.not_true, Bool.not_false, Bool.false_eq_true, reduceIte, Int.reduceLT, Int.reduceLE, Int.reduceEq, Int.reduceNeg, String.reduceEq, decide_true, decide_false, ci0, ci1, ci2, ci3, ci4, ci5, dAt_0, dAt_1, dAt_2, dAt_3, hcast, e, mulOk_two]) ?_)
    have mo : mulOk (n * 2 + bs[p + k]) (2 ^ j) = true := mulOk_r (pow_le64 (by omega))
    have hrj := hr j (by omega)
    by_cases c2 : n * 2 + bs[p + k] > m / 2 ^ j
    · rw [if_pos c2]
      have c2' : m < (n * 2 + bs[p + k]) * 2 ^ j := gt_pow.mpr c2
      simp only [fnD, gNx, gSeq, gSet, gSetO, ownAt, gApp, gRev, gPut, frz, gFrz, gRet, gExpr, gIf, gExc, asL, eVar, eC, eOp, eUn, toB, tB, tAndB, tOrB, tNotB, eAnd, eOr, eNot, eChain, aNil, aCons, eTup, oLst, eO, eCall, oUn, oSl, rNone, rSome, toI, dCut, eLenO, eIxO, sBind_ok, sBind_exc, sBind_stk, Res.bind_ok, Res.bind_exc, Res.bind_stk, SRes.thn_nx, SRes.thn_rt, SRes.thn_exc, SRes.thn_stk, List.map_cons, List.map_nil, List.cons_append, List.nil_append, List.length_cons, List.length_nil, List.replicate_succ, List.replicate_zero, List.getElem?_cons_zero, List.getElem?_cons_succ, List.set_cons_zero, List.set_cons_succ, Nat.zero_add, Nat.reduceAdd, Nat.reduceSub, dAdd, dSub, dMul, dDiv, dMod, dNeg, dCmp, dLt, dLe, dGt, dGe, dEq, dNe, dEq?, dIsN, dNotN, dIsi, isTy, dLen, dIx_lst, dIx_tup, dIx_scr, dList, dRev, dInt, dMax2, dMin2, decide_eq_true_eq, if_true, if_false, Bool.not_true, Bool.not_false, Bool.false_eq_true, reduceIte, Int.reduceLT, Int.reduceLE, Int.reduceEq, Int.reduceNeg, String.reduceEq, decide_true, decide_false, ci0, ci1, ci2, ci3, ci4, ci5, dAt_0, dAt_1, dAt_2, dAt_3, ej, hrj, mo, c2', decide_true, f2, hcast]
      rfl
    · rw [if_neg c2]
      have c2' : ¬ m < (n * 2 + bs[p + k]) * 2 ^ j := fun z => c2 (gt_pow.mp z)
      simp only [fnD, gNx, gSeq, gSet, gSetO, ownAt, gApp, gRev, gPut, frz, gFrz, gRet, gExpr, gIf, gExc, asL, eVar, eC, eOp, eUn, toB, tB, tAndB, tOrB, tNotB, eAnd, eOr, eNot, eChain, aNil, aCons, eTup, oLst, eO, eCall, oUn, oSl, rNone, rSome, toI, dCut, eLenO, eIxO, sBind_ok, sBind_exc, sBind_stk, Res.bind_ok, Res.bind_exc, Res.bind_stk, SRes.thn_nx, SRes.thn_rt, SRes.thn_exc, SRes.thn_stk, List.map_cons, List.map_nil, List.cons_append, List.nil_append, List.length_cons, List.length_nil, List.replicate_succ, List.replicate_zero, List.getElem?_cons_zero, List.getElem?_cons_succ, List.set_cons_zero, List.set_cons_succ, Nat.zero_add, Nat.reduceAdd, Nat.reduceSub, dAdd, dSub, dMul, dDiv, dMod, dNeg, dCmp, dLt, dLe, dGt, dGe, dEq, dNe, dEq?, dIsN, dNotN, dIsi, isTy, dLen, dIx_lst, dIx_tup, dIx_scr, dList, dRev, dInt, dMax2, dMin2, decide_eq_true_eq, if_true, if_false, Bool.not_true, Bool.not_false, Bool.false_eq_true, reduceIte, Int.reduceLT, Int.reduceLE, Int.reduceEq, Int.reduceNeg, String.reduceEq, decide_true, decide_false, ci0, ci1, ci2, ci3, ci4, ci5, dAt_0, dAt_1, dAt_2, dAt_3, ej, hrj, mo, c2', decide_false, hcast]
theorem loopLC {p_r : List D → Res D} (hr : ∀ w : Nat, w ≤ 64 → p_r [.int w] = .ok (.int (2 ^ w))) {bs : List Int} {m : Int} {p w : Nat} (hw : w ≤ 64) : ∀ (j k : Nat) (n : Int) (a : Slt), k + j = w → p + k ≤ bs.length →
    match rc bs false m j (p + k) n with
    | .rd n' q => ∃ a', forL (fun (k : Nat) ρ => bodyLC p_r (ρ.set 5 (.v (.int k)))) (List.range' k j) [.v (.lst (dI bs)), .v (.int p), .v (.int w), .v (.int m), .v (.int n), a] =
        .nx [.v (.lst (dI bs)), .v (.int p), .v (.int w), .v (.int m), .v (.int n'), a']
    | o => forL (fun (k : Nat) ρ => bodyLC p_r (ρ.set 5 (.v (.int k)))) (List.range' k j) [.v (.lst (dI bs)), .v (.int p), .v (.int w), .v (.int m), .v (.int n), a] = .rt o.enc := by
  intro j
  induction j with
  | zero =>
    intro k n a hk hp
    simp only [rc, List.range'_zero, forL]
    exact ⟨a, rfl⟩
  | succ j ih =>
    intro k n a hk hp
    rw [List.range'_succ]
    simp only [forL]
    have T := turnLC hr (m := m) (n := n) hk hw hp a
    have T' : bodyLC p_r ([.v (.lst (dI bs)), .v (.int p), .v (.int w), .v (.int m), .v (.int n), a].set 5 (.v (.int k))) = _ := T
    rw [T']
    unfold rc
    by_cases c1 : bs.length ≤ p + k ∧ false = false
    · rw [if_pos c1, if_pos c1]; rfl
    · rw [if_neg c1, if_neg c1]
      by_cases c2 : n * 2 + bs.getD (p + k) 0 > m / 2 ^ j
      · rw [if_pos c2, if_pos c2]; rfl
      · rw [if_neg c2, if_neg c2]
        simp only [SRes.thn_nx]
        have c1' : ¬ bs.length ≤ p + k := fun z => c1 ⟨z, rfl⟩
        exact ih (k + 1) _ _ (by omega) (by omega)
theorem law_code_eq {p_r : List D → Res D} (hr : ∀ w : Nat, w ≤ 64 → p_r [.int w] = .ok (.int (2 ^ w))) {bs : List Int} {m : Int} {p w : Nat} (hw : w ≤ 64) (hp : p ≤ bs.length) :
    S_law_code p_r [.lst (dI bs), .int p, .int w, .int m] = .ok (rc bs false m w p 0).enc := by
  have L := loopLC hr (bs := bs) (m := m) (p := p) hw w 0 0 .un (by omega) (by omega)
  have F : ∀ r, forL (fun (k : Nat) ρ => bodyLC p_r (ρ.set 5 (.v (.int k)))) (List.range' 0 w) [.v (.lst (dI bs)), .v (.int p), .v (.int w), .v (.int m), .v (.int 0), .un] = r →
      gForR 5 (eVar 2) (bodyLC p_r) [.v (.lst (dI bs)), .v (.int p), .v (.int w), .v (.int m), .v (.int 0), .un] = r := fun r h => by
    unfold gForR
    have e : (eVar 2 [.v (.lst (dI bs)), .v (.int p), .v (.int w), .v (.int m), .v (.int 0), .un] : Res D) = .ok (.int w) := rfl
    rw [e]
    simp only [Res.bind_ok, asN, rngOk_nat (show w ≤ 16777216 by omega), if_true, sBind_ok, Int.toNat_natCast]
    rw [List.range_eq_range']
    exact h
  refine fnD_rt (seq_nx rfl ?_)
  rw [Nat.add_zero] at L
  cases e : rc bs false m w p 0 with
  | rd n' q =>
    rw [e] at L
    obtain ⟨a', L⟩ := L
    have hq := rc_place e
    have f3 : fits 3 = true := fits_num
    refine seq_nx (F _ L) ?_
    have hc : (p : Int) + w = ((q : Nat) : Int) := by omega
    simp only [fnD, gNx, gSeq, gSet, gSetO, ownAt, gApp, gRev, gPut, frz, gFrz, gRet, gExpr, gIf, gExc, asL, eVar, eC, eOp, eUn, toB, tB, tAndB, tOrB, tNotB, eAnd, eOr, eNot, eChain, aNil, aCons, eTup, oLst, eO, eCall, oUn, oSl, rNone, rSome, toI, dCut, eLenO, eIxO, sBind_ok, sBind_exc, sBind_stk, Res.bind_ok, Res.bind_exc, Res.bind_stk, SRes.thn_nx, SRes.thn_rt, SRes.thn_exc, SRes.thn_stk, List.map_cons, List.map_nil, List.cons_append, List.nil_append, List.length_cons, List.length_nil, List.replicate_succ, List.replicate_zero, List.getElem?_cons_zero, List.getElem?_cons_succ, List.set_cons_zero, List.set_cons_succ, Nat.zero_add, Nat.reduceAdd, Nat.reduceSub, dAdd, dSub, dMul, dDiv, dMod, dNeg, dCmp, dLt, dLe, dGt, dGe, dEq, dNe, dEq?, dIsN, dNotN, dIsi, isTy, dLen, dIx_lst, dIx_tup, dIx_scr, dList, dRev, dInt, dMax2, dMin2, decide_eq_true_eq, if_true, if_false, Bool.not_true, Bool.not_false, Bool.false_eq_true, reduceIte, Int.reduceLT, Int.reduceLE, Int.reduceEq, Int.reduceNeg, String.reduceEq, decide_true, decide_false, ci0, ci1, ci2, ci3, ci4, ci5, dAt_0, dAt_1, dAt_2, dAt_3, f3, hc]
    rfl
  | sh q =>
    rw [e] at L
    exact seq_rt (F _ L)
  | wg q =>
    rw [e] at L
    exact seq_rt (F _ L)
theorem lowB_01 (n : Int) (w : Nat) : ∀ b ∈ lowB n w, b = 0 ∨ b = 1 := by
  induction w generalizing n with
  | zero => intro b h; cases h
  | succ w ih =>
    intro b h
    rw [lowB] at h
    rcases List.mem_cons.mp h with rfl | h
    · omega
    · exact ih _ b h
theorem wr_01 (n : Int) (w : Nat) : Bts01 (wr n w) := fun b h => lowB_01 n w b (List.mem_reverse.mp h)
theorem Bts01.app {a b : List Int} (h1 : Bts01 a) (h2 : Bts01 b) : Bts01 (a ++ b) := fun x h => (List.mem_append.mp h).elim (h1 x) (h2 x)
theorem Bts01.take {a : List Int} (h : Bts01 a) (n : Nat) : Bts01 (a.take n) := fun x hx => h x (List.mem_of_mem_take hx)
theorem Bts01.drop {a : List Int} (h : Bts01 a) (n : Nat) : Bts01 (a.drop n) := fun x hx => h x (List.mem_of_mem_drop hx)
theorem Bts01.nil : Bts01 [] := fun x h => by cases h
theorem okD_dI {l : List Int} (h : l.length ≤ 16777216) : okD (.lst (dI l)) = true := by
  unfold okD
  rw [okDs_dI, dI_len, fits_le h]
  rfl
theorem okD_co (o : Co) : okD o.enc = true := by
  cases o <;> (unfold Co.enc okD okDs okDs okDs; first | rfl | (unfold okDs; rfl))
theorem dep_co (o : Co) : dep o.enc ≤ 2 := by
  cases o <;> (simp only [Co.enc, dep, deps]; omega)
theorem dep_dI (l : List Int) : dep (.lst (dI l)) ≤ 2 := by
  have := deps_dI l
  unfold dep; omega
end Pu

namespace Pu
open PySem L2
theorem dAt_get {l : List D} {i : Nat} {d : D} (h : l[i]? = some d) : dAt l (i : Int) = .ok d := by unfold dAt; rw [atI_nat h]
/-- shapes -/
inductive Sh where
  | num (w : Nat) (lo hi : Int) | pad (w : Nat) | maybe (s : Sh) | rows (w : Nat) (s : Sh) | group (ss : List Sh) | one (w : Nat) (ss : List Sh)
mutual
def enc : Sh → D
  | .num w lo hi => .tup [.str "num", .int w, .int lo, .int hi]
  | .pad w => .tup [.str "pad", .int w]
  | .maybe s => .tup [.str "maybe", enc s]
  | .rows w s => .tup [.str "rows", .int w, enc s]
  | .group ss => .tup [.str "group", .lst (encs ss)]
  | .one w ss => .tup [.str "one", .int w, .lst (encs ss)]
def encs : List Sh → List D
  | [] => []
  | s :: ss => enc s :: encs ss
end
mutual
def Good : Sh → Prop
  | .num w lo hi => w ≤ 64 ∧ lo ≤ hi ∧ hi - lo < 2 ^ w ∧ -100000000000000000000 ≤ lo ∧ hi ≤ 100000000000000000000
  | .pad w => w ≤ 64
  | .maybe s => Good s
  | .rows w s => w ≤ 8 ∧ Good s
  | .group ss => ss.length ≤ 20 ∧ Goods ss
  | .one w ss => w ≤ 8 ∧ 1 ≤ ss.length ∧ ss.length ≤ 16 ∧ ss.length ≤ 2 ^ w ∧ Goods ss
def Goods : List Sh → Prop
  | [] => True
  | s :: ss => Good s ∧ Goods ss
end
mutual
def dpt : Sh → Nat
  | .num _ _ _ => 1
  | .pad _ => 1
  | .maybe s => dpt s + 1
  | .rows _ s => dpt s + 1
  | .group ss => dpts ss + 1
  | .one _ ss => dpts ss + 1
def dpts : List Sh → Nat
  | [] => 0
  | s :: ss => max (dpt s) (dpts ss)
end
theorem encs_len : ∀ ss : List Sh, (encs ss).length = ss.length
  | [] => by unfold encs; rfl
  | s :: ss => by unfold encs; rw [List.length_cons, List.length_cons, encs_len ss]
theorem encs_map : ∀ ss : List Sh, encs ss = ss.map enc
  | [] => by unfold encs; rfl
  | s :: ss => by unfold encs; rw [List.map_cons, encs_map ss]
theorem Goods.get : ∀ {ss : List Sh} {i : Nat} {s : Sh}, Goods ss → ss[i]? = some s → Good s
  | [], _, _, _, h => by simp at h
  | s :: ss, 0, t, g, h => by
    simp only [List.getElem?_cons_zero, Option.some.injEq] at h
    subst h
    unfold Goods at g
    exact g.1
  | s :: ss, i + 1, t, g, h => by
    unfold Goods at g
    exact Goods.get (ss := ss) (i := i) g.2 (by simpa using h)
theorem dpts_get : ∀ {ss : List Sh} {i : Nat} {s : Sh}, ss[i]? = some s → dpt s ≤ dpts ss
  | [], _, _, h => by simp at h
  | s :: ss, 0, t, h => by
    simp only [List.getElem?_cons_zero, Option.some.injEq] at h
    subst h
    unfold dpts; omega
  | s :: ss, i + 1, t, h => by
    have := dpts_get (ss := ss) (i := i) (s := t) (by simpa using h)
    unfold dpts; omega
theorem dpt_pos (s : Sh) : 1 ≤ dpt s := by cases s <;> unfold dpt <;> omega
mutual
def Fits : Sh → D → Prop
  | .num _ lo hi, d => ∃ n, d = .int n ∧ lo ≤ n ∧ n ≤ hi
  | .pad _, d => d = .non
  | .maybe s, d => ∃ rs, d = .lst rs ∧ rs.length ≤ 1 ∧ ∀ r ∈ rs, Fits s r
  | .rows w s, d => ∃ rs, d = .lst rs ∧ rs.length < 2 ^ w ∧ ∀ r ∈ rs, Fits s r
  | .group ss, d => ∃ rs, d = .lst rs ∧ FitsL ss rs
  | .one _ ss, d => ∃ p r, d = .tup [.int (p : Nat), r] ∧ FitsAt ss p r
def FitsL : List Sh → List D → Prop
  | [], rs => rs = []
  | s :: ss, rs => ∃ r t, rs = r :: t ∧ Fits s r ∧ FitsL ss t
def FitsAt : List Sh → Nat → D → Prop
  | [], _, _ => False
  | s :: _, 0, r => Fits s r
  | _ :: ss, p + 1, r => FitsAt ss p r
end
theorem FitsL.len : ∀ {ss : List Sh} {rs : List D}, FitsL ss rs → rs.length = ss.length
  | [], rs, h => by unfold FitsL at h; subst h; rfl
  | s :: ss, rs, h => by
    unfold FitsL at h
    obtain ⟨r, t, rfl, _, h⟩ := h
    rw [List.length_cons, List.length_cons, FitsL.len h]
theorem FitsAt.get : ∀ {ss : List Sh} {p : Nat} {r : D}, FitsAt ss p r → ∃ s, ss[p]? = some s ∧ Fits s r
  | [], _, _, h => by unfold FitsAt at h; exact h.elim
  | s :: ss, 0, r, h => by unfold FitsAt at h; exact ⟨s, rfl, h⟩
  | s :: ss, p + 1, r, h => by
    unfold FitsAt at h
    obtain ⟨t, h1, h2⟩ := FitsAt.get h
    exact ⟨t, by simpa using h1, h2⟩
mutual
def bitsS : Sh → D → List Int
  | .num w lo _, d => match d with
    | .int n => wr (n - lo) w
    | _ => []
  | .pad w, _ => wr 0 w
  | .maybe s, d => match d with
    | .lst rs => (rs.length : Int) :: (rs.map (bitsS s)).flatten
    | _ => []
  | .rows w s, d => match d with
    | .lst rs => wr (rs.length : Int) w ++ (rs.map (bitsS s)).flatten
    | _ => []
  | .group ss, d => match d with
    | .lst rs => bitsL ss rs
    | _ => []
  | .one w ss, d => match d with
    | .tup [.int p, r] => wr p w ++ bitsA ss p.toNat r
    | _ => []
def bitsL : List Sh → List D → List Int
  | [], _ => []
  | s :: ss, rs => match rs with
    | [] => []
    | r :: t => bitsS s r ++ bitsL ss t
def bitsA : List Sh → Nat → D → List Int
  | [], _, _ => []
  | s :: _, 0, r => bitsS s r
  | _ :: ss, p + 1, r => bitsA ss p r
end
theorem bitsA_get : ∀ {ss : List Sh} {p : Nat} {s : Sh} (r : D), ss[p]? = some s → bitsA ss p r = bitsS s r
  | [], _, _, _, h => by simp at h
  | t :: ss, 0, s, r, h => by
    simp only [List.getElem?_cons_zero, Option.some.injEq] at h
    subst h
    unfold bitsA; rfl
  | t :: ss, p + 1, s, r, h => by
    unfold bitsA
    exact bitsA_get r (by simpa using h)
theorem forL_all {α : Type} {b : α → Rho → SRes} : ∀ (l : List α) (E : List α → Rho), (∀ a t, b a (E (a :: t)) = .nx (E t)) → forL b l (E l) = .nx (E [])
  | [], E, _ => rfl
  | a :: t, E, h => by
    simp only [forL]
    rw [h a t]
    exact forL_all t E h
end Pu

namespace Pu
open PySem L2
theorem forL_inv {α : Type} {b : α → Rho → SRes} (P : List α → Rho → Prop) (h : ∀ a t ρ, P (a :: t) ρ → ∃ ρ', b a ρ = .nx ρ' ∧ P t ρ') : ∀ (l : List α) (ρ : Rho), P l ρ → ∃ ρ', forL b l ρ = .nx ρ' ∧ P [] ρ'
  | [], ρ, p => ⟨ρ, rfl, p⟩
  | a :: t, ρ, p => by
    obtain ⟨ρ', e, p'⟩ := h a t ρ p
    simp only [forL]
    rw [e]
    exact forL_inv P h t ρ' p'
theorem for_inv {i : Nat} {f : Rho → Res D} {g : Rho → SRes} {ρ : Rho} {ds : List D} (P : List D → Rho → Prop) (hf : f ρ = .ok (.lst ds)) (h0 : P ds ρ) (h : ∀ a t ρ, P (a :: t) ρ → ∃ ρ', g (ρ.set i (.v a)) = .nx ρ' ∧ P t ρ') :
    ∃ ρ', gFor i f g ρ = .nx ρ' ∧ P [] ρ' := by
  unfold gFor
  rw [hf]
  exact forL_inv P h ds ρ h0
theorem forZ_inv {i j : Nat} {f f2 : Rho → Res D} {g : Rho → SRes} {ρ : Rho} {ds es : List D} (P : List (D × D) → Rho → Prop) (hf : f ρ = .ok (.lst ds)) (hf2 : f2 ρ = .ok (.lst es)) (hl : ds.length = es.length) (h0 : P (ds.zip es) ρ)
    (h : ∀ a b t ρ, P ((a, b) :: t) ρ → ∃ ρ', g ((ρ.set i (.v a)).set j (.v b)) = .nx ρ' ∧ P t ρ') : ∃ ρ', gForZ i j f f2 g ρ = .nx ρ' ∧ P [] ρ' := by
  unfold gForZ
  rw [hf, hf2]
  simp only [Res.bind_ok, asL, sBind_ok, hl, if_true]
  exact forL_inv P (fun p t ρ q => h p.1 p.2 t ρ q) (ds.zip es) ρ h0
theorem seq_ex {g h : Rho → SRes} {ρ : Rho} {r : SRes} {Q : Rho → Prop} (h1 : ∃ ρ', g ρ = .nx ρ' ∧ Q ρ') (h2 : ∀ ρ', Q ρ' → h ρ' = r) : gSeq g h ρ = r := by
  obtain ⟨ρ', e, q⟩ := h1
  exact seq_nx e (h2 ρ' q)
theorem between_eq {n a b : Int} (h1 : a ≤ n) (h2 : n ≤ b) : S_between [.int n, .int a, .int b] = .ok (.bl true) := by
  refine fnD_rt ?_
  simp only [fnD, gNx, gSeq, gSet, gSetO, ownAt, gApp, gRev, gPut, frz, gFrz, gRet, gExpr, gIf, gExc, asL, eVar, eC, eOp, eUn, toB, tB, tAndB, tOrB, tNotB, eAnd, eOr, eNot, eChain, aNil, aCons, eTup, oLst, eO, eCall, oUn, oSl, rNone, rSome, toI, dCut, eLenO, eIxO, sBind_ok, sBind_exc, sBind_stk, Res.bind_ok, Res.bind_exc, Res.bind_stk, SRes.thn_nx, SRes.thn_rt, SRes.thn_exc, SRes.thn_stk, List.map_cons, List.map_nil, List.cons_append, List.nil_append, List.length_cons, List.length_nil, List.replicate_succ, List.replicate_zero, List.getElem?_cons_zero, List.getElem?_cons_succ, List.set_cons_zero, List.set_cons_succ, Nat.zero_add, Nat.reduceAdd, Nat.reduceSub, dAdd, dSub, dMul, dDiv, dMod, dNeg, dCmp, dLt, dLe, dGt, dGe, dEq, dNe, dEq?, dIsN, dNotN, dIsi, isTy, dLen, dIx_lst, dIx_tup, dIx_scr, dList, dRev, dInt, dMax2, dMin2, decide_eq_true_eq, if_true, if_false, Bool.not_true, Bool.not_false, Bool.false_eq_true, reduceIte, Int.reduceLT, Int.reduceLE, Int.reduceEq, Int.reduceNeg, String.reduceEq, decide_true, decide_false, ci0, ci1, ci2, ci3, ci4, ci5, dAt_0, dAt_1, dAt_2, dAt_3, eChain, h1, h2, decide_true]
section
variable {fi gf af bt rm : Nat → List D → Res D}
  (hfi : ∀ k, fi (k + 1) = S_fits (bt k) (fi k) (gf k) (af k) (rm k)) (hgf : ∀ k, gf (k + 1) = S_group_fits (fi k)) (haf : ∀ k, af (k + 1) = S_all_fit (fi k))
  (hbt : ∀ k, bt (k + 1) = S_between) (hrm : ∀ k, rm (k + 1) = S_room)
include haf in
theorem all_fit_eq {e : D} {k : Nat} {rs : List D} (h : ∀ r ∈ rs, fi k [e, r] = .ok (.bl true)) : af (k + 1) [e, .lst rs] = .ok (.bl true) := by
  rw [haf]
  refine fnD_rt (seq_ex (for_inv (fun t ρ => (∀ r ∈ t, fi k [e, r] = .ok (.bl true)) ∧ ∃ a, ρ = [.v e, .v (.lst rs), a]) (by simp only [fnD, gNx, gSeq, gSet, gSetO, ownAt, gApp, gRev, gPut, frz, gFrz, gRet, gExpr, gIf, gExc, asL, eVar, eC, eOp, eUn, toB, tB, tAndB, tOrB, tNotB, eAnd, eOr, eNot, eChain, aNil, aCons, eTup, oLst, eO, eCall, oUn, oSl, rNone, rSome, toI, dCut, eLenO, eIxO, sBind_ok, sBind_exc, sBind_stk, Res.bind_ok, Res.bind_exc, Res.bind_stk, SRes.thn_nx, SRes.thn_rt, SRes.thn_exc, SRes.thn_stk, List.map_cons, List.map_nil, List.cons_append, List.nil_append, List.length_cons, List.length_nil, List.replicate_succ, List.replicate_zero, List.getElem?_cons_zero, List.getElem?_cons_succ, List.set_cons_zero, List.set_cons_succ, Nat.zero_add, Nat.reduceAdd, Nat.reduceSub, dAdd, dSub, dMul, dDiv, dMod, dNeg, dCmp, dLt, dLe, dGt, dGe, dEq, dNe, dEq?, dIsN, dNotN, dIsi, isTy, dLen, dIx_lst, dIx_tup, dIx_scr, dList, dRev, dInt, dMax2, dMin2, decide_eq_true_eq, if_true, if_false, Bool.not_true, Bool.not_false, Bool.false_eq_true, reduceIte, Int.reduceLT, Int.reduceLE, Int.reduceEq, Int.reduceNeg, String.reduceEq, decide_true, decide_false, ci0, ci1, ci2, ci3, ci4, ci5, dAt_0, dAt_1, dAt_2, dAt_3] <;> rfl) ⟨h, _, rfl⟩ ?_) ?_)
  · rintro a t ρ ⟨h1, b, rfl⟩
    refine ⟨_, ?_, fun r hr => h1 r (List.mem_cons_of_mem _ hr), .v a, rfl⟩
    simp only [fnD, gNx, gSeq, gSet, gSetO, ownAt, gApp, gRev, gPut, frz, gFrz, gRet, gExpr, gIf, gExc, asL, eVar, eC, eOp, eUn, toB, tB, tAndB, tOrB, tNotB, eAnd, eOr, eNot, eChain, aNil, aCons, eTup, oLst, eO, eCall, oUn, oSl, rNone, rSome, toI, dCut, eLenO, eIxO, sBind_ok, sBind_exc, sBind_stk, Res.bind_ok, Res.bind_exc, Res.bind_stk, SRes.thn_nx, SRes.thn_rt, SRes.thn_exc, SRes.thn_stk, List.map_cons, List.map_nil, List.cons_append, List.nil_append, List.length_cons, List.length_nil, List.replicate_succ, List.replicate_zero, List.getElem?_cons_zero, List.getElem?_cons_succ, List.set_cons_zero, List.set_cons_succ, Nat.zero_add, Nat.reduceAdd, Nat.reduceSub, dAdd, dSub, dMul, dDiv, dMod, dNeg, dCmp, dLt, dLe, dGt, dGe, dEq, dNe, dEq?, dIsN, dNotN, dIsi, isTy, dLen, dIx_lst, dIx_tup, dIx_scr, dList, dRev, dInt, dMax2, dMin2, decide_eq_true_eq, if_true, if_false, Bool.not_true, Bool.not_false, Bool.false_eq_true, reduceIte, Int.reduceLT, Int.reduceLE, Int.reduceEq, Int.reduceNeg, String.reduceEq, decide_true, decide_false, ci0, ci1, ci2, ci3, ci4, ci5, dAt_0, dAt_1, dAt_2, dAt_3, h1 a List.mem_cons_self]
  · rintro ρ' ⟨_, a, rfl⟩
    rfl
include hgf in
theorem group_fits_eq {k : Nat} {es rs : List D} (hl : es.length = rs.length) (h : ∀ p ∈ es.zip rs, fi k [p.1, p.2] = .ok (.bl true)) : gf (k + 1) [.lst es, .lst rs] = .ok (.bl true) := by
  rw [hgf]
  refine fnD_rt (seq_nx (ρ' := [.v (.lst es), .v (.lst rs), .un, .un]) (by simp only [fnD, gNx, gSeq, gSet, gSetO, ownAt, gApp, gRev, gPut, frz, gFrz, gRet, gExpr, gIf, gExc, asL, eVar, eC, eOp, eUn, toB, tB, tAndB, tOrB, tNotB, eAnd, eOr, eNot, eChain, aNil, aCons, eTup, oLst, eO, eCall, oUn, oSl, rNone, rSome, toI, dCut, eLenO, eIxO, sBind_ok, sBind_exc, sBind_stk, Res.bind_ok, Res.bind_exc, Res.bind_stk, SRes.thn_nx, SRes.thn_rt, SRes.thn_exc, SRes.thn_stk, List.map_cons, List.map_nil, List.cons_append, List.nil_append, List.length_cons, List.length_nil, List.replicate_succ, List.replicate_zero, List.getElem?_cons_zero, List.getElem?_cons_succ, List.set_cons_zero, List.set_cons_succ, Nat.zero_add, Nat.reduceAdd, Nat.reduceSub, dAdd, dSub, dMul, dDiv, dMod, dNeg, dCmp, dLt, dLe, dGt, dGe, dEq, dNe, dEq?, dIsN, dNotN, dIsi, isTy, dLen, dIx_lst, dIx_tup, dIx_scr, dList, dRev, dInt, dMax2, dMin2, decide_eq_true_eq, if_true, if_false, Bool.not_true, Bool.not_false, Bool.false_eq_true, reduceIte, Int.reduceLT, Int.reduceLE, Int.reduceEq, Int.reduceNeg, String.reduceEq, decide_true, decide_false, ci0, ci1, ci2, ci3, ci4, ci5, dAt_0, dAt_1, dAt_2, dAt_3, hl, decide_true]) (seq_ex (forZ_inv (fun t ρ => (∀ p ∈ t, fi k [p.1, p.2] = .ok (.bl true)) ∧ ∃ a b, ρ = [.v (.lst es), .v (.lst rs), a, b]) (by simp only [fnD, gNx, gSeq, gSet, gSetO, ownAt, gApp, gRev, gPut, frz, gFrz, gRet, gExpr, gIf, gExc, asL, eVar, eC, eOp, eUn, toB, tB, tAndB, tOrB, tNotB, eAnd, eOr, eNot, eChain, aNil, aCons, eTup, oLst, eO, eCall, oUn, oSl, rNone, rSome, toI, dCut, eLenO, eIxO, sBind_ok, sBind_exc, sBind_stk, Res.bind_ok, Res.bind_exc, Res.bind_stk, SRes.thn_nx, SRes.thn_rt, SRes.thn_exc, SRes.thn_stk, List.map_cons, List.map_nil, List.cons_append, List.nil_append, List.length_cons, List.length_nil, List.replicate_succ, List.replicate_zero, List.getElem?_cons_zero, List.getElem?_cons_succ, List.set_cons_zero, List.set_cons_succ, Nat.zero_add, Nat.reduceAdd, Nat.reduceSub, dAdd, dSub, dMul, dDiv, dMod, dNeg, dCmp, dLt, dLe, dGt, dGe, dEq, dNe, dEq?, dIsN, dNotN, dIsi, isTy, dLen, dIx_lst, dIx_tup, dIx_scr, dList, dRev, dInt, dMax2, dMin2, decide_eq_true_eq, if_true, if_false, Bool.not_true, Bool.not_false, Bool.false_eq_true, reduceIte, Int.reduceLT, Int.reduceLE, Int.reduceEq, Int.reduceNeg, String.reduceEq, decide_true, decide_false, ci0, ci1, ci2, ci3, ci4, ci5, dAt_0, dAt_1, dAt_2, dAt_3] <;> rfl) (by simp only [fnD, gNx, gSeq, gSet, gSetO, ownAt, gApp, gRev, gPut, frz, gFrz, gRet, gExpr, gIf, gExc, asL, eVar, eC, eOp, eUn, toB, tB, tAndB, tOrB, tNotB, eAnd, eOr, eNot, eChain, aNil, aCons, eTup, oLst, eO, eCall, oUn, oSl, rNone, rSome, toI, dCut, eLenO, eIxO, sBind_ok, sBind_exc, sBind_stk, Res.bind_ok, Res.bind_exc, Res.bind_stk, SRes.thn_nx, SRes.thn_rt, SRes.thn_exc, SRes.thn_stk, List.map_cons, List.map_nil, List.cons_append, List.nil_append, List.length_cons, List.length_nil, List.replicate_succ, List.replicate_zero, List.getElem?_cons_zero, List.getElem?_cons_succ, List.set_cons_zero, List.set_cons_succ, Nat.zero_add, Nat.reduceAdd, Nat.reduceSub, dAdd, dSub, dMul, dDiv, dMod, dNeg, dCmp, dLt, dLe, dGt, dGe, dEq, dNe, dEq?, dIsN, dNotN, dIsi, isTy, dLen, dIx_lst, dIx_tup, dIx_scr, dList, dRev, dInt, dMax2, dMin2, decide_eq_true_eq, if_true, if_false, Bool.not_true, Bool.not_false, Bool.false_eq_true, reduceIte, Int.reduceLT, Int.reduceLE, Int.reduceEq, Int.reduceNeg, String.reduceEq, decide_true, decide_false, ci0, ci1, ci2, ci3, ci4, ci5, dAt_0, dAt_1, dAt_2, dAt_3] <;> rfl) hl ⟨h, _, _, rfl⟩ ?_) ?_))
  · rintro a b t ρ ⟨h1, x, y, rfl⟩
    refine ⟨_, ?_, fun r hr => h1 r (List.mem_cons_of_mem _ hr), .v a, .v b, rfl⟩
    simp only [fnD, gNx, gSeq, gSet, gSetO, ownAt, gApp, gRev, gPut, frz, gFrz, gRet, gExpr, gIf, gExc, asL, eVar, eC, eOp, eUn, toB, tB, tAndB, tOrB, tNotB, eAnd, eOr, eNot, eChain, aNil, aCons, eTup, oLst, eO, eCall, oUn, oSl, rNone, rSome, toI, dCut, eLenO, eIxO, sBind_ok, sBind_exc, sBind_stk, Res.bind_ok, Res.bind_exc, Res.bind_stk, SRes.thn_nx, SRes.thn_rt, SRes.thn_exc, SRes.thn_stk, List.map_cons, List.map_nil, List.cons_append, List.nil_append, List.length_cons, List.length_nil, List.replicate_succ, List.replicate_zero, List.getElem?_cons_zero, List.getElem?_cons_succ, List.set_cons_zero, List.set_cons_succ, Nat.zero_add, Nat.reduceAdd, Nat.reduceSub, dAdd, dSub, dMul, dDiv, dMod, dNeg, dCmp, dLt, dLe, dGt, dGe, dEq, dNe, dEq?, dIsN, dNotN, dIsi, isTy, dLen, dIx_lst, dIx_tup, dIx_scr, dList, dRev, dInt, dMax2, dMin2, decide_eq_true_eq, if_true, if_false, Bool.not_true, Bool.not_false, Bool.false_eq_true, reduceIte, Int.reduceLT, Int.reduceLE, Int.reduceEq, Int.reduceNeg, String.reduceEq, decide_true, decide_false, ci0, ci1, ci2, ci3, ci4, ci5, dAt_0, dAt_1, dAt_2, dAt_3, h1 (a, b) List.mem_cons_self]
  · rintro ρ' ⟨_, a, b, rfl⟩
    rfl
theorem zip_fits : ∀ {ss : List Sh} {rs : List D}, FitsL ss rs → ∀ p ∈ (encs ss).zip rs, ∃ s ∈ ss, p.1 = enc s ∧ Fits s p.2
  | [], rs, _, p, h => by unfold encs at h; simp at h
  | s :: ss, rs, f, p, h => by
    unfold FitsL at f
    obtain ⟨r, t, rfl, f1, f2⟩ := f
    unfold encs at h
    rw [List.zip_cons_cons] at h
    rcases List.mem_cons.mp h with rfl | h
    · exact ⟨s, List.mem_cons_self, rfl, f1⟩
    · obtain ⟨s', a, b⟩ := zip_fits f2 p h
      exact ⟨s', List.mem_cons_of_mem _ a, b⟩
theorem Goods.mem {ss : List Sh} {s : Sh} (g : Goods ss) (h : s ∈ ss) : Good s := by
  obtain ⟨i, hi, e⟩ := List.mem_iff_getElem.mp h
  exact g.get (i := i) (by rw [List.getElem?_eq_getElem hi, e])
theorem dpts_mem {ss : List Sh} {s : Sh} (h : s ∈ ss) : dpt s ≤ dpts ss := by
  obtain ⟨i, hi, e⟩ := List.mem_iff_getElem.mp h
  exact dpts_get (i := i) (by rw [List.getElem?_eq_getElem hi, e])
theorem encs_get {ss : List Sh} {i : Nat} {s : Sh} (h : ss[i]? = some s) : (encs ss)[i]? = some (enc s) := by
  rw [encs_map, List.getElem?_map, h]; rfl
include hfi hgf haf hbt hrm in
theorem fits_eq : ∀ (n : Nat) (s : Sh) (r : D), dpt s ≤ n → Good s → Fits s r → ∀ k, 2 * n ≤ k → fi (k + 1) [enc s, r] = .ok (.bl true)
  | 0, s, r, hd, _, _, k, _ => by have := dpt_pos s; omega
  | n + 1, s, r, hd, g, f, k, hk => by
    obtain ⟨k, rfl⟩ : ∃ j, k = j + 2 := ⟨k - 2, by omega⟩
    rw [hfi]
    cases s with
    | num w lo hi =>
      unfold Fits at f
      obtain ⟨m, rfl, h1, h2⟩ := f
      refine fnD_rt ?_
      unfold enc
      simp only [fnD, gNx, gSeq, gSet, gSetO, ownAt, gApp, gRev, gPut, frz, gFrz, gRet, gExpr, gIf, gExc, asL, eVar, eC, eOp, eUn, toB, tB, tAndB, tOrB, tNotB, eAnd, eOr, eNot, eChain, aNil, aCons, eTup, oLst, eO, eCall, oUn, oSl, rNone, rSome, toI, dCut, eLenO, eIxO, sBind_ok, sBind_exc, sBind_stk, Res.bind_ok, Res.bind_exc, Res.bind_stk, SRes.thn_nx, SRes.thn_rt, SRes.thn_exc, SRes.thn_stk, List.map_cons, List.map_nil, List.cons_append, List.nil_append, List.length_cons, List.length_nil, List.replicate_succ, List.replicate_zero, List.getElem?_cons_zero, List.getElem?_cons_succ, List.set_cons_zero, List.set_cons_succ, Nat.zero_add, Nat.reduceAdd, Nat.reduceSub, dAdd, dSub, dMul, dDiv, dMod, dNeg, dCmp, dLt, dLe, dGt, dGe, dEq, dNe, dEq?, dIsN, dNotN, dIsi, isTy, dLen, dIx_lst, dIx_tup, dIx_scr, dList, dRev, dInt, dMax2, dMin2, decide_eq_true_eq, if_true, if_false, Bool.not_true, Bool.not_false, Bool.false_eq_true, reduceIte, Int.reduceLT, Int.reduceLE, Int.reduceEq, Int.reduceNeg, String.reduceEq, decide_true, decide_false, ci0, ci1, ci2, ci3, ci4, ci5, dAt_0, dAt_1, dAt_2, dAt_3, decide_true, hbt, between_eq h1 h2]
    | pad w =>
      unfold Fits at f
      subst f
      refine fnD_rt ?_
      unfold enc
      simp only [fnD, gNx, gSeq, gSet, gSetO, ownAt, gApp, gRev, gPut, frz, gFrz, gRet, gExpr, gIf, gExc, asL, eVar, eC, eOp, eUn, toB, tB, tAndB, tOrB, tNotB, eAnd, eOr, eNot, eChain, aNil, aCons, eTup, oLst, eO, eCall, oUn, oSl, rNone, rSome, toI, dCut, eLenO, eIxO, sBind_ok, sBind_exc, sBind_stk, Res.bind_ok, Res.bind_exc, Res.bind_stk, SRes.thn_nx, SRes.thn_rt, SRes.thn_exc, SRes.thn_stk, List.map_cons, List.map_nil, List.cons_append, List.nil_append, List.length_cons, List.length_nil, List.replicate_succ, List.replicate_zero, List.getElem?_cons_zero, List.getElem?_cons_succ, List.set_cons_zero, List.set_cons_succ, Nat.zero_add, Nat.reduceAdd, Nat.reduceSub, dAdd, dSub, dMul, dDiv, dMod, dNeg, dCmp, dLt, dLe, dGt, dGe, dEq, dNe, dEq?, dIsN, dNotN, dIsi, isTy, dLen, dIx_lst, dIx_tup, dIx_scr, dList, dRev, dInt, dMax2, dMin2, decide_eq_true_eq, if_true, if_false, Bool.not_true, Bool.not_false, Bool.false_eq_true, reduceIte, Int.reduceLT, Int.reduceLE, Int.reduceEq, Int.reduceNeg, String.reduceEq, decide_true, decide_false, ci0, ci1, ci2, ci3, ci4, ci5, dAt_0, dAt_1, dAt_2, dAt_3, decide_true, decide_false]
    | maybe s =>
      unfold Fits at f
      obtain ⟨rs, rfl, h1, h2⟩ := f
      unfold Good at g
      unfold dpt at hd
      have ih := all_fit_eq (k := k + 1) haf (e := enc s) fun r hr => fits_eq n s r (by omega) g (h2 r hr) k (by omega)
      refine fnD_rt ?_
      unfold enc
      have h1' : (rs.length : Int) ≤ 1 := by omega
      simp only [fnD, gNx, gSeq, gSet, gSetO, ownAt, gApp, gRev, gPut, frz, gFrz, gRet, gExpr, gIf, gExc, asL, eVar, eC, eOp, eUn, toB, tB, tAndB, tOrB, tNotB, eAnd, eOr, eNot, eChain, aNil, aCons, eTup, oLst, eO, eCall, oUn, oSl, rNone, rSome, toI, dCut, eLenO, eIxO, sBind_ok, sBind_exc, sBind_stk, Res.bind_ok, Res.bind_exc, Res.bind_stk, SRes.thn_nx, SRes.thn_rt, SRes.thn_exc, SRes.thn_stk, List.map_cons, List.map_nil, List.cons_append, List.nil_append, List.length_cons, List.length_nil, List.replicate_succ, List.replicate_zero, List.getElem?_cons_zero, List.getElem?_cons_succ, List.set_cons_zero, List.set_cons_succ, Nat.zero_add, Nat.reduceAdd, Nat.reduceSub, dAdd, dSub, dMul, dDiv, dMod, dNeg, dCmp, dLt, dLe, dGt, dGe, dEq, dNe, dEq?, dIsN, dNotN, dIsi, isTy, dLen, dIx_lst, dIx_tup, dIx_scr, dList, dRev, dInt, dMax2, dMin2, decide_eq_true_eq, if_true, if_false, Bool.not_true, Bool.not_false, Bool.false_eq_true, reduceIte, Int.reduceLT, Int.reduceLE, Int.reduceEq, Int.reduceNeg, String.reduceEq, decide_true, decide_false, ci0, ci1, ci2, ci3, ci4, ci5, dAt_0, dAt_1, dAt_2, dAt_3, decide_true, decide_false, h1', ih]
    | rows w s =>
      unfold Fits at f
      obtain ⟨rs, rfl, h1, h2⟩ := f
      unfold Good at g
      unfold dpt at hd
      have ih := all_fit_eq (k := k + 1) haf (e := enc s) fun r hr => fits_eq n s r (by omega) g.2 (h2 r hr) k (by omega)
      have hr := room_eq w (by omega)
      refine fnD_rt ?_
      unfold enc
      have h1' : (rs.length : Int) < 2 ^ w := by
        have e : (2 ^ w : Int) = ((2 ^ w : Nat) : Int) := by simp
        rw [e]; omega
      simp only [fnD, gNx, gSeq, gSet, gSetO, ownAt, gApp, gRev, gPut, frz, gFrz, gRet, gExpr, gIf, gExc, asL, eVar, eC, eOp, eUn, toB, tB, tAndB, tOrB, tNotB, eAnd, eOr, eNot, eChain, aNil, aCons, eTup, oLst, eO, eCall, oUn, oSl, rNone, rSome, toI, dCut, eLenO, eIxO, sBind_ok, sBind_exc, sBind_stk, Res.bind_ok, Res.bind_exc, Res.bind_stk, SRes.thn_nx, SRes.thn_rt, SRes.thn_exc, SRes.thn_stk, List.map_cons, List.map_nil, List.cons_append, List.nil_append, List.length_cons, List.length_nil, List.replicate_succ, List.replicate_zero, List.getElem?_cons_zero, List.getElem?_cons_succ, List.set_cons_zero, List.set_cons_succ, Nat.zero_add, Nat.reduceAdd, Nat.reduceSub, dAdd, dSub, dMul, dDiv, dMod, dNeg, dCmp, dLt, dLe, dGt, dGe, dEq, dNe, dEq?, dIsN, dNotN, dIsi, isTy, dLen, dIx_lst, dIx_tup, dIx_scr, dList, dRev, dInt, dMax2, dMin2, decide_eq_true_eq, if_true, if_false, Bool.not_true, Bool.not_false, Bool.false_eq_true, reduceIte, Int.reduceLT, Int.reduceLE, Int.reduceEq, Int.reduceNeg, String.reduceEq, decide_true, decide_false, ci0, ci1, ci2, ci3, ci4, ci5, dAt_0, dAt_1, dAt_2, dAt_3, decide_true, decide_false, hrm, hr, h1', ih]
    | group ss =>
      unfold Fits at f
      obtain ⟨rs, rfl, f⟩ := f
      unfold Good at g
      unfold dpt at hd
      have ih := group_fits_eq (k := k + 1) hgf (es := encs ss) (rs := rs) (by rw [encs_len, f.len]) fun p hp => by
        obtain ⟨s, hs, e, f'⟩ := zip_fits f p hp
        rw [e]
        exact fits_eq n s p.2 (by have := dpts_mem hs; omega) (g.2.mem hs) f' k (by omega)
      refine fnD_rt ?_
      unfold enc
      simp only [fnD, gNx, gSeq, gSet, gSetO, ownAt, gApp, gRev, gPut, frz, gFrz, gRet, gExpr, gIf, gExc, asL, eVar, eC, eOp, eUn, toB, tB, tAndB, tOrB, tNotB, eAnd, eOr, eNot, eChain, aNil, aCons, eTup, oLst, eO, eCall, oUn, oSl, rNone, rSome, toI, dCut, eLenO, eIxO, sBind_ok, sBind_exc, sBind_stk, Res.bind_ok, Res.bind_exc, Res.bind_stk, SRes.thn_nx, SRes.thn_rt, SRes.thn_exc, SRes.thn_stk, List.map_cons, List.map_nil, List.cons_append, List.nil_append, List.length_cons, List.length_nil, List.replicate_succ, List.replicate_zero, List.getElem?_cons_zero, List.getElem?_cons_succ, List.set_cons_zero, List.set_cons_succ, Nat.zero_add, Nat.reduceAdd, Nat.reduceSub, dAdd, dSub, dMul, dDiv, dMod, dNeg, dCmp, dLt, dLe, dGt, dGe, dEq, dNe, dEq?, dIsN, dNotN, dIsi, isTy, dLen, dIx_lst, dIx_tup, dIx_scr, dList, dRev, dInt, dMax2, dMin2, decide_eq_true_eq, if_true, if_false, Bool.not_true, Bool.not_false, Bool.false_eq_true, reduceIte, Int.reduceLT, Int.reduceLE, Int.reduceEq, Int.reduceNeg, String.reduceEq, decide_true, decide_false, ci0, ci1, ci2, ci3, ci4, ci5, dAt_0, dAt_1, dAt_2, dAt_3, decide_true, decide_false, ih]
    | one w ss =>
      unfold Fits at f
      obtain ⟨p, r, rfl, f⟩ := f
      obtain ⟨s, hs, f⟩ := f.get
      unfold Good at g
      unfold dpt at hd
      have hp : p < ss.length := (List.getElem?_eq_some_iff.mp hs).1
      have hd2 := dpts_get hs
      have ih := fits_eq n s r (by omega) (g.2.2.2.2.get hs) f (k + 1) (by omega)
      have e1 := dAt_get (encs_get hs)
      have b1 := between_eq (n := p) (a := 0) (b := ss.length - 1) (by omega) (by omega)
      refine fnD_rt ?_
      unfold enc
      simp only [fnD, gNx, gSeq, gSet, gSetO, ownAt, gApp, gRev, gPut, frz, gFrz, gRet, gExpr, gIf, gExc, asL, eVar, eC, eOp, eUn, toB, tB, tAndB, tOrB, tNotB, eAnd, eOr, eNot, eChain, aNil, aCons, eTup, oLst, eO, eCall, oUn, oSl, rNone, rSome, toI, dCut, eLenO, eIxO, sBind_ok, sBind_exc, sBind_stk, Res.bind_ok, Res.bind_exc, Res.bind_stk, SRes.thn_nx, SRes.thn_rt, SRes.thn_exc, SRes.thn_stk, List.map_cons, List.map_nil, List.cons_append, List.nil_append, List.length_cons, List.length_nil, List.replicate_succ, List.replicate_zero, List.getElem?_cons_zero, List.getElem?_cons_succ, List.set_cons_zero, List.set_cons_succ, Nat.zero_add, Nat.reduceAdd, Nat.reduceSub, dAdd, dSub, dMul, dDiv, dMod, dNeg, dCmp, dLt, dLe, dGt, dGe, dEq, dNe, dEq?, dIsN, dNotN, dIsi, isTy, dLen, dIx_lst, dIx_tup, dIx_scr, dList, dRev, dInt, dMax2, dMin2, decide_eq_true_eq, if_true, if_false, Bool.not_true, Bool.not_false, Bool.false_eq_true, reduceIte, Int.reduceLT, Int.reduceLE, Int.reduceEq, Int.reduceNeg, String.reduceEq, decide_true, decide_false, ci0, ci1, ci2, ci3, ci4, ci5, dAt_0, dAt_1, dAt_2, dAt_3, decide_true, decide_false, encs_len, hbt, b1, e1, ih]
end
end Pu

namespace Pu
open PySem L2
theorem repOk_nat {n k : Nat} (h : n * k ≤ 16777216) (h2 : k ≤ 16777216) : repOk n (k : Int) = true := by
  unfold repOk
  rw [Bool.and_eq_true, Nat.ble_eq, Nat.ble_eq, Int.toNat_natCast]
  exact ⟨by omega, h⟩
theorem mul_rep {d : D} {n : Nat} (h : n ≤ 16777216) : dMul (.lst [d]) (.int n) = .ok (.lst (List.replicate n d)) := by
  unfold dMul
  simp only [List.length_cons, List.length_nil, Nat.zero_add]
  rw [repOk_nat (by omega) h, if_pos rfl, Int.toNat_natCast]
  congr 2
  induction n with
  | zero => rfl
  | succ n ih => rw [List.replicate_succ, List.replicate_succ, List.flatten_cons, ih (by omega)]; rfl
theorem wr_zero (w : Nat) : wr 0 w = List.replicate w 0 := by
  have : ∀ w, lowB 0 w = List.replicate w 0 := by
    intro w
    induction w with
    | zero => rfl
    | succ w ih =>
      rw [lowB, List.replicate_succ, show (0 : Int) / 2 = 0 from rfl, ih]; rfl
  unfold wr
  rw [this, List.reverse_replicate]
theorem dI_rep (w : Nat) : dI (List.replicate w 0) = List.replicate w (.int 0) := List.map_replicate ..
theorem add_dI {a b : List Int} (h : (a ++ b).length ≤ 16777216) : dAdd (.lst (dI a)) (.lst (dI b)) = .ok (.lst (dI (a ++ b))) := by
  simp only [dAdd, dI_len]
  rw [← List.length_append, fits_le h, if_pos rfl, dI_app]
theorem fit_app {a b : List Int} (h : (a ++ b).length ≤ 16777216) : fits (a.length + b.length) = true := by
  rw [← List.length_append]; exact fits_le h
/-- pairs whose bits, one behind the other, are l -/
def ZB (f : List D → Res D) : List (D × D) → List Int → Prop
  | [], l => l = []
  | p :: t, l => ∃ x y, l = x ++ y ∧ f [p.1, p.2] = .ok (.lst (dI x)) ∧ ZB f t y
theorem ZB_map {f : List D → Res D} {e : D} {B : D → List Int} : ∀ {rs : List D}, (∀ r ∈ rs, f [e, r] = .ok (.lst (dI (B r)))) → ZB f (rs.map fun r => (e, r)) (rs.map B).flatten
  | [], _ => by simp [ZB]
  | r :: rs, h => by
    rw [List.map_cons, List.map_cons, List.flatten_cons]
    unfold ZB
    exact ⟨_, _, rfl, h r List.mem_cons_self, ZB_map fun r hr => h r (List.mem_cons_of_mem _ hr)⟩
theorem zip_rep {e : D} : ∀ {rs : List D}, (List.replicate rs.length e).zip rs = rs.map fun r => (e, r)
  | [] => rfl
  | r :: rs => by rw [List.length_cons, List.replicate_succ, List.zip_cons_cons, zip_rep, List.map_cons]
theorem flat_mem {B : D → List Int} {r : D} : ∀ {rs : List D}, r ∈ rs → (B r).length ≤ (rs.map B).flatten.length
  | [], h => by cases h
  | a :: rs, h => by
    rw [List.map_cons, List.flatten_cons, List.length_append]
    rcases List.mem_cons.mp h with rfl | h
    · omega
    · have := flat_mem (B := B) h
      omega
theorem ZB_zip {f : List D → Res D} : ∀ {ss : List Sh} {rs : List D}, FitsL ss rs → (∀ s ∈ ss, ∀ r, Fits s r → (bitsS s r).length ≤ (bitsL ss rs).length → f [enc s, r] = .ok (.lst (dI (bitsS s r)))) → ZB f ((encs ss).zip rs) (bitsL ss rs)
  | [], rs, h, _ => by unfold encs bitsL; simp [ZB]
  | s :: ss, rs, h, hf => by
    unfold FitsL at h
    obtain ⟨r, t, rfl, h1, h2⟩ := h
    unfold encs bitsL at *
    rw [List.zip_cons_cons]
    unfold ZB
    refine ⟨_, _, rfl, hf s List.mem_cons_self r h1 (by rw [List.length_append]; omega), ZB_zip h2 fun s' hs r' f' hl => hf s' (List.mem_cons_of_mem _ hs) r' f' (by rw [List.length_append]; omega)⟩
section
variable {bo jn bb lw lb rm : Nat → List D → Res D}
  (hbo : ∀ k, bo (k + 1) = S_bits_of (rm k)) (hrm : ∀ k, rm (k + 1) = S_room) (hjn : ∀ k, jn (k + 1) = S_joined (bb k)) (hbb : ∀ k, bb (k + 1) = S_bits_by (bo k) (jn k) (bb k))
  (hlw : ∀ k, lw (k + 1) = S_law_written) (hlb : ∀ k, lb (k + 1) = S_law_bits (lw k) (lb k))
include hjn in
theorem joined_eq {e : D} {k : Nat} {rs : List D} {l : List Int} (h : ZB (bb k) (rs.map fun r => (e, r)) l) (hl : l.length ≤ 16777216) : jn (k + 1) [e, .lst rs] = .ok (.lst (dI l)) := by
  rw [hjn]
  have f0 : fits 0 = true := fits_num
  refine fnD_rt (seq_nx (ρ' := [.v e, .v (.lst rs), .v (.lst (dI [])), .un]) (by simp only [fnD, gNx, gSeq, gSet, gSetO, ownAt, gApp, gRev, gPut, frz, gFrz, gRet, gExpr, gIf, gExc, asL, eVar, eC, eOp, eUn, toB, tB, tAndB, tOrB, tNotB, eAnd, eOr, eNot, eChain, aNil, aCons, eTup, oLst, eO, eCall, oUn, oSl, rNone, rSome, toI, dCut, eLenO, eIxO, sBind_ok, sBind_exc, sBind_stk, Res.bind_ok, Res.bind_exc, Res.bind_stk, SRes.thn_nx, SRes.thn_rt, SRes.thn_exc, SRes.thn_stk, List.map_cons, List.map_nil, List.cons_append, List.nil_append, List.length_cons, List.length_nil, List.replicate_succ, List.replicate_zero, List.getElem?_cons_zero, List.getElem?_cons_succ, List.set_cons_zero, List.set_cons_succ, Nat.zero_add, Nat.reduceAdd, Nat.reduceSub, dAdd, dSub, dMul, dDiv, dMod, dNeg, dCmp, dLt, dLe, dGt, dGe, dEq, dNe, dEq?, dIsN, dNotN, dIsi, isTy, dLen, dIx_lst, dIx_tup, dIx_scr, dList, dRev, dInt, dMax2, dMin2, decide_eq_true_eq, if_true, if_false, Bool.not_true, Bool.not_false, Bool.false_eq_true, reduceIte, Int.reduceLT, Int.reduceLE, Int.reduceEq, Int.reduceNeg, String.reduceEq, decide_true, decide_false, ci0, ci1, ci2, ci3, ci4, ci5, dAt_0, dAt_1, dAt_2, dAt_3, f0]) (seq_ex (for_inv (fun t ρ => ∃ x y a, l = x ++ y ∧ ZB (bb k) (t.map fun r => (e, r)) y ∧ ρ = [.v e, .v (.lst rs), .v (.lst (dI x)), a]) (by simp only [fnD, gNx, gSeq, gSet, gSetO, ownAt, gApp, gRev, gPut, frz, gFrz, gRet, gExpr, gIf, gExc, asL, eVar, eC, eOp, eUn, toB, tB, tAndB, tOrB, tNotB, eAnd, eOr, eNot, eChain, aNil, aCons, eTup, oLst, eO, eCall, oUn, oSl, rNone, rSome, toI, dCut, eLenO, eIxO, sBind_ok, sBind_exc, sBind_stk, Res.bind_ok, Res.bind_exc, Res.bind_stk, SRes.thn_nx, SRes.thn_rt, SRes.thn_exc, SRes.thn_stk, List.map_cons, List.map_nil, List.cons_append, List.nil_append, List.length_cons, List.length_nil, List.replicate_succ, List.replicate_zero, List.getElem?_cons_zero, List.getElem?_cons_succ, List.set_cons_zero, List.set_cons_succ, Nat.zero_add, Nat.reduceAdd, Nat.reduceSub, dAdd, dSub, dMul, dDiv, dMod, dNeg, dCmp, dLt, dLe, dGt, dGe, dEq, dNe, dEq?, dIsN, dNotN, dIsi, isTy, dLen, dIx_lst, dIx_tup, dIx_scr, dList, dRev, dInt, dMax2, dMin2, decide_eq_true_eq, if_true, if_false, Bool.not_true, Bool.not_false, Bool.false_eq_true, reduceIte, Int.reduceLT, Int.reduceLE, Int.reduceEq, Int.reduceNeg, String.reduceEq, decide_true, decide_false, ci0, ci1, ci2, ci3, ci4, ci5, dAt_0, dAt_1, dAt_2, dAt_3] <;> rfl) ⟨[], l, _, rfl, h, rfl⟩ ?_) ?_))
  · rintro r t ρ ⟨x, y, a, rfl, z, rfl⟩
    rw [List.map_cons] at z
    unfold ZB at z
    obtain ⟨u, v, rfl, z1, z2⟩ := z
    refine ⟨_, ?_, x ++ u, v, .v r, by rw [List.append_assoc], z2, rfl⟩
    simp only [fnD, gNx, gSeq, gSet, gSetO, ownAt, gApp, gRev, gPut, frz, gFrz, gRet, gExpr, gIf, gExc, asL, eVar, eC, eOp, eUn, toB, tB, tAndB, tOrB, tNotB, eAnd, eOr, eNot, eChain, aNil, aCons, eTup, oLst, eO, eCall, oUn, oSl, rNone, rSome, toI, dCut, eLenO, eIxO, sBind_ok, sBind_exc, sBind_stk, Res.bind_ok, Res.bind_exc, Res.bind_stk, SRes.thn_nx, SRes.thn_rt, SRes.thn_exc, SRes.thn_stk, List.map_cons, List.map_nil, List.cons_append, List.nil_append, List.length_cons, List.length_nil, List.replicate_succ, List.replicate_zero, List.getElem?_cons_zero, List.getElem?_cons_succ, List.set_cons_zero, List.set_cons_succ, Nat.zero_add, Nat.reduceAdd, Nat.reduceSub, dAdd, dSub, dMul, dDiv, dMod, dNeg, dCmp, dLt, dLe, dGt, dGe, dEq, dNe, dEq?, dIsN, dNotN, dIsi, isTy, dLen, dIx_lst, dIx_tup, dIx_scr, dList, dRev, dInt, dMax2, dMin2, decide_eq_true_eq, if_true, if_false, Bool.not_true, Bool.not_false, Bool.false_eq_true, reduceIte, Int.reduceLT, Int.reduceLE, Int.reduceEq, Int.reduceNeg, String.reduceEq, decide_true, decide_false, ci0, ci1, ci2, ci3, ci4, ci5, dAt_0, dAt_1, dAt_2, dAt_3, z1, dI_len, ← dI_app, fit_app (a := x) (b := u) (by rw [List.length_append, List.length_append] at hl; rw [List.length_append]; omega)]
  · rintro ρ' ⟨x, y, a, rfl, z, rfl⟩
    rw [List.map_nil] at z
    unfold ZB at z
    subst z
    rw [List.append_nil]
    rfl
include hbo hrm hjn hbb in
theorem bits_by_eq : ∀ (n : Nat) (s : Sh) (r : D), dpt s ≤ n → Good s → Fits s r → (bitsS s r).length ≤ 16777216 → ∀ k, 2 * n ≤ k → bb (k + 1) [enc s, r] = .ok (.lst (dI (bitsS s r)))
  | 0, s, r, hd, _, _, _, k, _ => by have := dpt_pos s; omega
  | n + 1, s, r, hd, g, f, hl, k, hk => by
    obtain ⟨k, rfl⟩ : ∃ j, k = j + 2 := ⟨k - 2, by omega⟩
    rw [hbb]
    have B : ∀ (m : Int) (w : Nat), w ≤ 64 → 0 ≤ m → m < 2 ^ w → bo (k + 2) [.int m, .int w] = .ok (.lst (dI (wr m w))) := fun m w hw h0 h1 => by
      rw [hbo]
      exact bits_of_ok (by rw [hrm]; exact room_eq w (by omega)) (by omega) h0 h1
    cases s with
    | num w lo hi =>
      unfold Fits at f
      obtain ⟨m, rfl, h1, h2⟩ := f
      unfold Good at g
      unfold bitsS
      refine fnD_rt ?_
      unfold enc
      simp only [fnD, gNx, gSeq, gSet, gSetO, ownAt, gApp, gRev, gPut, frz, gFrz, gRet, gExpr, gIf, gExc, asL, eVar, eC, eOp, eUn, toB, tB, tAndB, tOrB, tNotB, eAnd, eOr, eNot, eChain, aNil, aCons, eTup, oLst, eO, eCall, oUn, oSl, rNone, rSome, toI, dCut, eLenO, eIxO, sBind_ok, sBind_exc, sBind_stk, Res.bind_ok, Res.bind_exc, Res.bind_stk, SRes.thn_nx, SRes.thn_rt, SRes.thn_exc, SRes.thn_stk, List.map_cons, List.map_nil, List.cons_append, List.nil_append, List.length_cons, List.length_nil, List.replicate_succ, List.replicate_zero, List.getElem?_cons_zero, List.getElem?_cons_succ, List.set_cons_zero, List.set_cons_succ, Nat.zero_add, Nat.reduceAdd, Nat.reduceSub, dAdd, dSub, dMul, dDiv, dMod, dNeg, dCmp, dLt, dLe, dGt, dGe, dEq, dNe, dEq?, dIsN, dNotN, dIsi, isTy, dLen, dIx_lst, dIx_tup, dIx_scr, dList, dRev, dInt, dMax2, dMin2, decide_eq_true_eq, if_true, if_false, Bool.not_true, Bool.not_false, Bool.false_eq_true, reduceIte, Int.reduceLT, Int.reduceLE, Int.reduceEq, Int.reduceNeg, String.reduceEq, decide_true, decide_false, ci0, ci1, ci2, ci3, ci4, ci5, dAt_0, dAt_1, dAt_2, dAt_3, decide_true, B (m - lo) w g.1 (by omega) (by omega)]
    | pad w =>
      unfold Fits at f
      subst f
      unfold Good at g
      unfold bitsS
      refine fnD_rt ?_
      unfold enc
      simp only [fnD, gNx, gSeq, gSet, gSetO, ownAt, gApp, gRev, gPut, frz, gFrz, gRet, gExpr, gIf, gExc, asL, eVar, eC, eOp, eUn, toB, tB, tAndB, tOrB, tNotB, eAnd, eOr, eNot, eChain, aNil, aCons, eTup, oLst, eO, eCall, oUn, oSl, rNone, rSome, toI, dCut, eLenO, eIxO, sBind_ok, sBind_exc, sBind_stk, Res.bind_ok, Res.bind_exc, Res.bind_stk, SRes.thn_nx, SRes.thn_rt, SRes.thn_exc, SRes.thn_stk, List.map_cons, List.map_nil, List.cons_append, List.nil_append, List.length_cons, List.length_nil, List.replicate_succ, List.replicate_zero, List.getElem?_cons_zero, List.getElem?_cons_succ, List.set_cons_zero, List.set_cons_succ, Nat.zero_add, Nat.reduceAdd, Nat.reduceSub, dAdd, dSub, dMul, dDiv, dMod, dNeg, dCmp, dLt, dLe, dGt, dGe, dEq, dNe, dEq?, dIsN, dNotN, dIsi, isTy, dLen, dIx_lst, dIx_tup, dIx_scr, dList, dRev, dInt, dMax2, dMin2, decide_eq_true_eq, if_true, if_false, Bool.not_true, Bool.not_false, Bool.false_eq_true, reduceIte, Int.reduceLT, Int.reduceLE, Int.reduceEq, Int.reduceNeg, String.reduceEq, decide_true, decide_false, ci0, ci1, ci2, ci3, ci4, ci5, dAt_0, dAt_1, dAt_2, dAt_3, decide_true, decide_false, B 0 w g (by omega) (two_pos w)]
    | maybe s =>
      unfold Fits at f
      obtain ⟨rs, rfl, h1, h2⟩ := f
      unfold Good at g
      unfold dpt at hd
      unfold bitsS at hl ⊢
      simp only at hl ⊢
      have ih := joined_eq (k := k + 1) hjn (e := enc s) (rs := rs) (ZB_map (B := bitsS s) fun r hr => bits_by_eq n s r (by omega) g (h2 r hr) (by have := flat_mem (B := bitsS s) hr; rw [List.length_cons] at hl; omega) k (by omega)) (by rw [List.length_cons] at hl; omega)
      refine fnD_rt ?_
      unfold enc
      have f1 : fits 1 = true := fits_num
      have e : fits ((rs.map (bitsS s)).flatten.length + 1) = true := by rw [← List.length_cons]; exact fits_le hl
      simp only [fnD, gNx, gSeq, gSet, gSetO, ownAt, gApp, gRev, gPut, frz, gFrz, gRet, gExpr, gIf, gExc, asL, eVar, eC, eOp, eUn, toB, tB, tAndB, tOrB, tNotB, eAnd, eOr, eNot, eChain, aNil, aCons, eTup, oLst, eO, eCall, oUn, oSl, rNone, rSome, toI, dCut, eLenO, eIxO, sBind_ok, sBind_exc, sBind_stk, Res.bind_ok, Res.bind_exc, Res.bind_stk, SRes.thn_nx, SRes.thn_rt, SRes.thn_exc, SRes.thn_stk, List.map_cons, List.map_nil, List.cons_append, List.nil_append, List.length_cons, List.length_nil, List.replicate_succ, List.replicate_zero, List.getElem?_cons_zero, List.getElem?_cons_succ, List.set_cons_zero, List.set_cons_succ, Nat.zero_add, Nat.reduceAdd, Nat.reduceSub, dAdd, dSub, dMul, dDiv, dMod, dNeg, dCmp, dLt, dLe, dGt, dGe, dEq, dNe, dEq?, dIsN, dNotN, dIsi, isTy, dLen, dIx_lst, dIx_tup, dIx_scr, dList, dRev, dInt, dMax2, dMin2, decide_eq_true_eq, if_true, if_false, Bool.not_true, Bool.not_false, Bool.false_eq_true, reduceIte, Int.reduceLT, Int.reduceLE, Int.reduceEq, Int.reduceNeg, String.reduceEq, decide_true, decide_false, ci0, ci1, ci2, ci3, ci4, ci5, dAt_0, dAt_1, dAt_2, dAt_3, decide_true, decide_false, f1, ih, dI_len, Nat.add_comm 1, e]
    | rows w s =>
      unfold Fits at f
      obtain ⟨rs, rfl, h1, h2⟩ := f
      unfold Good at g
      unfold dpt at hd
      unfold bitsS at hl ⊢
      simp only at hl ⊢
      have ih := joined_eq (k := k + 1) hjn (e := enc s) (rs := rs) (ZB_map (B := bitsS s) fun r hr => bits_by_eq n s r (by omega) g.2 (h2 r hr) (by have := flat_mem (B := bitsS s) hr; rw [List.length_append] at hl; omega) k (by omega)) (by rw [List.length_append] at hl; omega)
      have h1' : (rs.length : Int) < 2 ^ w := by
        have e : (2 ^ w : Int) = ((2 ^ w : Nat) : Int) := by simp
        rw [e]; omega
      refine fnD_rt ?_
      unfold enc
      simp only [fnD, gNx, gSeq, gSet, gSetO, ownAt, gApp, gRev, gPut, frz, gFrz, gRet, gExpr, gIf, gExc, asL, eVar, eC, eOp, eUn, toB, tB, tAndB, tOrB, tNotB, eAnd, eOr, eNot, eChain, aNil, aCons, eTup, oLst, eO, eCall, oUn, oSl, rNone, rSome, toI, dCut, eLenO, eIxO, sBind_ok, sBind_exc, sBind_stk, Res.bind_ok, Res.bind_exc, Res.bind_stk, SRes.thn_nx, SRes.thn_rt, SRes.thn_exc, SRes.thn_stk, List.map_cons, List.map_nil, List.cons_append, List.nil_append, List.length_cons, List.length_nil, List.replicate_succ, List.replicate_zero, List.getElem?_cons_zero, List.getElem?_cons_succ, List.set_cons_zero, List.set_cons_succ, Nat.zero_add, Nat.reduceAdd, Nat.reduceSub, dAdd, dSub, dMul, dDiv, dMod, dNeg, dCmp, dLt, dLe, dGt, dGe, dEq, dNe, dEq?, dIsN, dNotN, dIsi, isTy, dLen, dIx_lst, dIx_tup, dIx_scr, dList, dRev, dInt, dMax2, dMin2, decide_eq_true_eq, if_true, if_false, Bool.not_true, Bool.not_false, Bool.false_eq_true, reduceIte, Int.reduceLT, Int.reduceLE, Int.reduceEq, Int.reduceNeg, String.reduceEq, decide_true, decide_false, ci0, ci1, ci2, ci3, ci4, ci5, dAt_0, dAt_1, dAt_2, dAt_3, B rs.length w (by omega) (by omega) h1', ih, dI_len, ← dI_app, fit_app hl]
    | group ss =>
      unfold Fits at f
      obtain ⟨rs, rfl, f⟩ := f
      unfold Good at g
      unfold dpt at hd
      unfold bitsS at hl ⊢
      simp only at hl ⊢
      have Z := ZB_zip (f := bb (k + 2)) f fun s hs r' f' hl' => bits_by_eq n s r' (by have := dpts_mem hs; omega) (g.2.mem hs) f' (by omega) (k + 1) (by omega)
      have f0 : fits 0 = true := fits_num
      refine fnD_rt ?_
      unfold enc
      refine seq_nx (by simp only [fnD, gNx, gSeq, gSet, gSetO, ownAt, gApp, gRev, gPut, frz, gFrz, gRet, gExpr, gIf, gExc, asL, eVar, eC, eOp, eUn, toB, tB, tAndB, tOrB, tNotB, eAnd, eOr, eNot, eChain, aNil, aCons, eTup, oLst, eO, eCall, oUn, oSl, rNone, rSome, toI, dCut, eLenO, eIxO, sBind_ok, sBind_exc, sBind_stk, Res.bind_ok, Res.bind_exc, Res.bind_stk, SRes.thn_nx, SRes.thn_rt, SRes.thn_exc, SRes.thn_stk, List.map_cons, List.map_nil, List.cons_append, List.nil_append, List.length_cons, List.length_nil, List.replicate_succ, List.replicate_zero, List.getElem?_cons_zero, List.getElem?_cons_succ, List.set_cons_zero, List.set_cons_succ, Nat.zero_add, Nat.reduceAdd, Nat.reduceSub, dAdd, dSub, dMul, dDiv, dMod, dNeg, dCmp, dLt, dLe, dGt, dGe, dEq, dNe, dEq?, dIsN, dNotN, dIsi, isTy, dLen, dIx_lst, dIx_tup, dIx_scr, dList, dRev, dInt, dMax2, dMin2, decide_eq_true_eq, if_true, if_false, Bool.not_true, Bool.not_false, Bool.false_eq_true, reduceIte, Int.reduceLT, Int.reduceLE, Int.reduceEq, Int.reduceNeg, String.reduceEq, decide_true, decide_false, ci0, ci1, ci2, ci3, ci4, ci5, dAt_0, dAt_1, dAt_2, dAt_3] <;> rfl) (seq_nx (by simp only [fnD, gNx, gSeq, gSet, gSetO, ownAt, gApp, gRev, gPut, frz, gFrz, gRet, gExpr, gIf, gExc, asL, eVar, eC, eOp, eUn, toB, tB, tAndB, tOrB, tNotB, eAnd, eOr, eNot, eChain, aNil, aCons, eTup, oLst, eO, eCall, oUn, oSl, rNone, rSome, toI, dCut, eLenO, eIxO, sBind_ok, sBind_exc, sBind_stk, Res.bind_ok, Res.bind_exc, Res.bind_stk, SRes.thn_nx, SRes.thn_rt, SRes.thn_exc, SRes.thn_stk, List.map_cons, List.map_nil, List.cons_append, List.nil_append, List.length_cons, List.length_nil, List.replicate_succ, List.replicate_zero, List.getElem?_cons_zero, List.getElem?_cons_succ, List.set_cons_zero, List.set_cons_succ, Nat.zero_add, Nat.reduceAdd, Nat.reduceSub, dAdd, dSub, dMul, dDiv, dMod, dNeg, dCmp, dLt, dLe, dGt, dGe, dEq, dNe, dEq?, dIsN, dNotN, dIsi, isTy, dLen, dIx_lst, dIx_tup, dIx_scr, dList, dRev, dInt, dMax2, dMin2, decide_eq_true_eq, if_true, if_false, Bool.not_true, Bool.not_false, Bool.false_eq_true, reduceIte, Int.reduceLT, Int.reduceLE, Int.reduceEq, Int.reduceNeg, String.reduceEq, decide_true, decide_false, ci0, ci1, ci2, ci3, ci4, ci5, dAt_0, dAt_1, dAt_2, dAt_3] <;> rfl) (seq_nx (by simp only [fnD, gNx, gSeq, gSet, gSetO, ownAt, gApp, gRev, gPut, frz, gFrz, gRet, gExpr, gIf, gExc, asL, eVar, eC, eOp, eUn, toB, tB, tAndB, tOrB, tNotB, eAnd, eOr, eNot, eChain, aNil, aCons, eTup, oLst, eO, eCall, oUn, oSl, rNone, rSome, toI, dCut, eLenO, eIxO, sBind_ok, sBind_exc, sBind_stk, Res.bind_ok, Res.bind_exc, Res.bind_stk, SRes.thn_nx, SRes.thn_rt, SRes.thn_exc, SRes.thn_stk, List.map_cons, List.map_nil, List.cons_append, List.nil_append, List.length_cons, List.length_nil, List.replicate_succ, List.replicate_zero, List.getElem?_cons_zero, List.getElem?_cons_succ, List.set_cons_zero, List.set_cons_succ, Nat.zero_add, Nat.reduceAdd, Nat.reduceSub, dAdd, dSub, dMul, dDiv, dMod, dNeg, dCmp, dLt, dLe, dGt, dGe, dEq, dNe, dEq?, dIsN, dNotN, dIsi, isTy, dLen, dIx_lst, dIx_tup, dIx_scr, dList, dRev, dInt, dMax2, dMin2, decide_eq_true_eq, if_true, if_false, Bool.not_true, Bool.not_false, Bool.false_eq_true, reduceIte, Int.reduceLT, Int.reduceLE, Int.reduceEq, Int.reduceNeg, String.reduceEq, decide_true, decide_false, ci0, ci1, ci2, ci3, ci4, ci5, dAt_0, dAt_1, dAt_2, dAt_3] <;> rfl) (seq_nx (by simp only [fnD, gNx, gSeq, gSet, gSetO, ownAt, gApp, gRev, gPut, frz, gFrz, gRet, gExpr, gIf, gExc, asL, eVar, eC, eOp, eUn, toB, tB, tAndB, tOrB, tNotB, eAnd, eOr, eNot, eChain, aNil, aCons, eTup, oLst, eO, eCall, oUn, oSl, rNone, rSome, toI, dCut, eLenO, eIxO, sBind_ok, sBind_exc, sBind_stk, Res.bind_ok, Res.bind_exc, Res.bind_stk, SRes.thn_nx, SRes.thn_rt, SRes.thn_exc, SRes.thn_stk, List.map_cons, List.map_nil, List.cons_append, List.nil_append, List.length_cons, List.length_nil, List.replicate_succ, List.replicate_zero, List.getElem?_cons_zero, List.getElem?_cons_succ, List.set_cons_zero, List.set_cons_succ, Nat.zero_add, Nat.reduceAdd, Nat.reduceSub, dAdd, dSub, dMul, dDiv, dMod, dNeg, dCmp, dLt, dLe, dGt, dGe, dEq, dNe, dEq?, dIsN, dNotN, dIsi, isTy, dLen, dIx_lst, dIx_tup, dIx_scr, dList, dRev, dInt, dMax2, dMin2, decide_eq_true_eq, if_true, if_false, Bool.not_true, Bool.not_false, Bool.false_eq_true, reduceIte, Int.reduceLT, Int.reduceLE, Int.reduceEq, Int.reduceNeg, String.reduceEq, decide_true, decide_false, ci0, ci1, ci2, ci3, ci4, ci5, dAt_0, dAt_1, dAt_2, dAt_3] <;> rfl) (seq_nx (by simp only [fnD, gNx, gSeq, gSet, gSetO, ownAt, gApp, gRev, gPut, frz, gFrz, gRet, gExpr, gIf, gExc, asL, eVar, eC, eOp, eUn, toB, tB, tAndB, tOrB, tNotB, eAnd, eOr, eNot, eChain, aNil, aCons, eTup, oLst, eO, eCall, oUn, oSl, rNone, rSome, toI, dCut, eLenO, eIxO, sBind_ok, sBind_exc, sBind_stk, Res.bind_ok, Res.bind_exc, Res.bind_stk, SRes.thn_nx, SRes.thn_rt, SRes.thn_exc, SRes.thn_stk, List.map_cons, List.map_nil, List.cons_append, List.nil_append, List.length_cons, List.length_nil, List.replicate_succ, List.replicate_zero, List.getElem?_cons_zero, List.getElem?_cons_succ, List.set_cons_zero, List.set_cons_succ, Nat.zero_add, Nat.reduceAdd, Nat.reduceSub, dAdd, dSub, dMul, dDiv, dMod, dNeg, dCmp, dLt, dLe, dGt, dGe, dEq, dNe, dEq?, dIsN, dNotN, dIsi, isTy, dLen, dIx_lst, dIx_tup, dIx_scr, dList, dRev, dInt, dMax2, dMin2, decide_eq_true_eq, if_true, if_false, Bool.not_true, Bool.not_false, Bool.false_eq_true, reduceIte, Int.reduceLT, Int.reduceLE, Int.reduceEq, Int.reduceNeg, String.reduceEq, decide_true, decide_false, ci0, ci1, ci2, ci3, ci4, ci5, dAt_0, dAt_1, dAt_2, dAt_3] <;> rfl) (seq_nx (by simp only [fnD, gNx, gSeq, gSet, gSetO, ownAt, gApp, gRev, gPut, frz, gFrz, gRet, gExpr, gIf, gExc, asL, eVar, eC, eOp, eUn, toB, tB, tAndB, tOrB, tNotB, eAnd, eOr, eNot, eChain, aNil, aCons, eTup, oLst, eO, eCall, oUn, oSl, rNone, rSome, toI, dCut, eLenO, eIxO, sBind_ok, sBind_exc, sBind_stk, Res.bind_ok, Res.bind_exc, Res.bind_stk, SRes.thn_nx, SRes.thn_rt, SRes.thn_exc, SRes.thn_stk, List.map_cons, List.map_nil, List.cons_append, List.nil_append, List.length_cons, List.length_nil, List.replicate_succ, List.replicate_zero, List.getElem?_cons_zero, List.getElem?_cons_succ, List.set_cons_zero, List.set_cons_succ, Nat.zero_add, Nat.reduceAdd, Nat.reduceSub, dAdd, dSub, dMul, dDiv, dMod, dNeg, dCmp, dLt, dLe, dGt, dGe, dEq, dNe, dEq?, dIsN, dNotN, dIsi, isTy, dLen, dIx_lst, dIx_tup, dIx_scr, dList, dRev, dInt, dMax2, dMin2, decide_eq_true_eq, if_true, if_false, Bool.not_true, Bool.not_false, Bool.false_eq_true, reduceIte, Int.reduceLT, Int.reduceLE, Int.reduceEq, Int.reduceNeg, String.reduceEq, decide_true, decide_false, ci0, ci1, ci2, ci3, ci4, ci5, dAt_0, dAt_1, dAt_2, dAt_3] <;> rfl) (seq_nx (by simp only [fnD, gNx, gSeq, gSet, gSetO, ownAt, gApp, gRev, gPut, frz, gFrz, gRet, gExpr, gIf, gExc, asL, eVar, eC, eOp, eUn, toB, tB, tAndB, tOrB, tNotB, eAnd, eOr, eNot, eChain, aNil, aCons, eTup, oLst, eO, eCall, oUn, oSl, rNone, rSome, toI, dCut, eLenO, eIxO, sBind_ok, sBind_exc, sBind_stk, Res.bind_ok, Res.bind_exc, Res.bind_stk, SRes.thn_nx, SRes.thn_rt, SRes.thn_exc, SRes.thn_stk, List.map_cons, List.map_nil, List.cons_append, List.nil_append, List.length_cons, List.length_nil, List.replicate_succ, List.replicate_zero, List.getElem?_cons_zero, List.getElem?_cons_succ, List.set_cons_zero, List.set_cons_succ, Nat.zero_add, Nat.reduceAdd, Nat.reduceSub, dAdd, dSub, dMul, dDiv, dMod, dNeg, dCmp, dLt, dLe, dGt, dGe, dEq, dNe, dEq?, dIsN, dNotN, dIsi, isTy, dLen, dIx_lst, dIx_tup, dIx_scr, dList, dRev, dInt, dMax2, dMin2, decide_eq_true_eq, if_true, if_false, Bool.not_true, Bool.not_false, Bool.false_eq_true, reduceIte, Int.reduceLT, Int.reduceLE, Int.reduceEq, Int.reduceNeg, String.reduceEq, decide_true, decide_false, ci0, ci1, ci2, ci3, ci4, ci5, dAt_0, dAt_1, dAt_2, dAt_3, f0] <;> rfl)
        (seq_ex (forZ_inv (fun t ρ => ∃ x y a b, bitsL ss rs = x ++ y ∧ ZB (bb (k + 2)) t y ∧ ρ = [.v (.tup [.str "group", .lst (encs ss)]), .v (.lst rs), .v (.str "group"), .v (.lst (dI x)), a, b]) (by simp only [fnD, gNx, gSeq, gSet, gSetO, ownAt, gApp, gRev, gPut, frz, gFrz, gRet, gExpr, gIf, gExc, asL, eVar, eC, eOp, eUn, toB, tB, tAndB, tOrB, tNotB, eAnd, eOr, eNot, eChain, aNil, aCons, eTup, oLst, eO, eCall, oUn, oSl, rNone, rSome, toI, dCut, eLenO, eIxO, sBind_ok, sBind_exc, sBind_stk, Res.bind_ok, Res.bind_exc, Res.bind_stk, SRes.thn_nx, SRes.thn_rt, SRes.thn_exc, SRes.thn_stk, List.map_cons, List.map_nil, List.cons_append, List.nil_append, List.length_cons, List.length_nil, List.replicate_succ, List.replicate_zero, List.getElem?_cons_zero, List.getElem?_cons_succ, List.set_cons_zero, List.set_cons_succ, Nat.zero_add, Nat.reduceAdd, Nat.reduceSub, dAdd, dSub, dMul, dDiv, dMod, dNeg, dCmp, dLt, dLe, dGt, dGe, dEq, dNe, dEq?, dIsN, dNotN, dIsi, isTy, dLen, dIx_lst, dIx_tup, dIx_scr, dList, dRev, dInt, dMax2, dMin2, decide_eq_true_eq, if_true, if_false, Bool.not_true, Bool.not_false, Bool.false_eq_true, reduceIte, Int.reduceLT, Int.reduceLE, Int.reduceEq, Int.reduceNeg, String.reduceEq, decide_true, decide_false, ci0, ci1, ci2, ci3, ci4, ci5, dAt_0, dAt_1, dAt_2, dAt_3] <;> rfl) (by simp only [fnD, gNx, gSeq, gSet, gSetO, ownAt, gApp, gRev, gPut, frz, gFrz, gRet, gExpr, gIf, gExc, asL, eVar, eC, eOp, eUn, toB, tB, tAndB, tOrB, tNotB, eAnd, eOr, eNot, eChain, aNil, aCons, eTup, oLst, eO, eCall, oUn, oSl, rNone, rSome, toI, dCut, eLenO, eIxO, sBind_ok, sBind_exc, sBind_stk, Res.bind_ok, Res.bind_exc, Res.bind_stk, SRes.thn_nx, SRes.thn_rt, SRes.thn_exc, SRes.thn_stk, List.map_cons, List.map_nil, List.cons_append, List.nil_append, List.length_cons, List.length_nil, List.replicate_succ, List.replicate_zero, List.getElem?_cons_zero, List.getElem?_cons_succ, List.set_cons_zero, List.set_cons_succ, Nat.zero_add, Nat.reduceAdd, Nat.reduceSub, dAdd, dSub, dMul, dDiv, dMod, dNeg, dCmp, dLt, dLe, dGt, dGe, dEq, dNe, dEq?, dIsN, dNotN, dIsi, isTy, dLen, dIx_lst, dIx_tup, dIx_scr, dList, dRev, dInt, dMax2, dMin2, decide_eq_true_eq, if_true, if_false, Bool.not_true, Bool.not_false, Bool.false_eq_true, reduceIte, Int.reduceLT, Int.reduceLE, Int.reduceEq, Int.reduceNeg, String.reduceEq, decide_true, decide_false, ci0, ci1, ci2, ci3, ci4, ci5, dAt_0, dAt_1, dAt_2, dAt_3] <;> rfl) (by rw [encs_len, f.len]) ⟨[], bitsL ss rs, _, _, rfl, Z, rfl⟩ ?_) ?_)))))))
      · rintro e r t ρ ⟨x, y, a, b, el, z, rfl⟩
        unfold ZB at z
        obtain ⟨u, v, rfl, z1, z2⟩ := z
        refine ⟨_, ?_, x ++ u, v, .v e, .v r, by rw [List.append_assoc, el], z2, rfl⟩
        simp only [fnD, gNx, gSeq, gSet, gSetO, ownAt, gApp, gRev, gPut, frz, gFrz, gRet, gExpr, gIf, gExc, asL, eVar, eC, eOp, eUn, toB, tB, tAndB, tOrB, tNotB, eAnd, eOr, eNot, eChain, aNil, aCons, eTup, oLst, eO, eCall, oUn, oSl, rNone, rSome, toI, dCut, eLenO, eIxO, sBind_ok, sBind_exc, sBind_stk, Res.bind_ok, Res.bind_exc, Res.bind_stk, SRes.thn_nx, SRes.thn_rt, SRes.thn_exc, SRes.thn_stk, List.map_cons, List.map_nil, List.cons_append, List.nil_append, List.length_cons, List.length_nil, List.replicate_succ, List.replicate_zero, List.getElem?_cons_zero, List.getElem?_cons_succ, List.set_cons_zero, List.set_cons_succ, Nat.zero_add, Nat.reduceAdd, Nat.reduceSub, dAdd, dSub, dMul, dDiv, dMod, dNeg, dCmp, dLt, dLe, dGt, dGe, dEq, dNe, dEq?, dIsN, dNotN, dIsi, isTy, dLen, dIx_lst, dIx_tup, dIx_scr, dList, dRev, dInt, dMax2, dMin2, decide_eq_true_eq, if_true, if_false, Bool.not_true, Bool.not_false, Bool.false_eq_true, reduceIte, Int.reduceLT, Int.reduceLE, Int.reduceEq, Int.reduceNeg, String.reduceEq, decide_true, decide_false, ci0, ci1, ci2, ci3, ci4, ci5, dAt_0, dAt_1, dAt_2, dAt_3, z1, dI_len, ← dI_app, fit_app (a := x) (b := u) (by rw [el, List.length_append, List.length_append] at hl; rw [List.length_append]; omega)]
      · rintro ρ' ⟨x, y, a, b, el, z, rfl⟩
        unfold ZB at z
        subst z
        rw [List.append_nil] at el
        rw [el]
        rfl
    | one w ss =>
      unfold Fits at f
      obtain ⟨p, r, rfl, f⟩ := f
      obtain ⟨s, hs, f⟩ := f.get
      unfold Good at g
      unfold dpt at hd
      have hp : p < ss.length := (List.getElem?_eq_some_iff.mp hs).1
      have hd2 := dpts_get hs
      unfold bitsS at hl ⊢
      simp only [Int.toNat_natCast, bitsA_get r hs] at hl ⊢
      have ih := bits_by_eq n s r (by omega) (g.2.2.2.2.get hs) f (by rw [List.length_append] at hl; omega) (k + 1) (by omega)
      have e1 := dAt_get (encs_get hs)
      have hb := B p w (by omega) (by omega) (by
        have e : (2 ^ w : Int) = ((2 ^ w : Nat) : Int) := by simp
        rw [e]; omega)
      refine fnD_rt ?_
      unfold enc
      simp only [fnD, gNx, gSeq, gSet, gSetO, ownAt, gApp, gRev, gPut, frz, gFrz, gRet, gExpr, gIf, gExc, asL, eVar, eC, eOp, eUn, toB, tB, tAndB, tOrB, tNotB, eAnd, eOr, eNot, eChain, aNil, aCons, eTup, oLst, eO, eCall, oUn, oSl, rNone, rSome, toI, dCut, eLenO, eIxO, sBind_ok, sBind_exc, sBind_stk, Res.bind_ok, Res.bind_exc, Res.bind_stk, SRes.thn_nx, SRes.thn_rt, SRes.thn_exc, SRes.thn_stk, List.map_cons, List.map_nil, List.cons_append, List.nil_append, List.length_cons, List.length_nil, List.replicate_succ, List.replicate_zero, List.getElem?_cons_zero, List.getElem?_cons_succ, List.set_cons_zero, List.set_cons_succ, Nat.zero_add, Nat.reduceAdd, Nat.reduceSub, dAdd, dSub, dMul, dDiv, dMod, dNeg, dCmp, dLt, dLe, dGt, dGe, dEq, dNe, dEq?, dIsN, dNotN, dIsi, isTy, dLen, dIx_lst, dIx_tup, dIx_scr, dList, dRev, dInt, dMax2, dMin2, decide_eq_true_eq, if_true, if_false, Bool.not_true, Bool.not_false, Bool.false_eq_true, reduceIte, Int.reduceLT, Int.reduceLE, Int.reduceEq, Int.reduceNeg, String.reduceEq, decide_true, decide_false, ci0, ci1, ci2, ci3, ci4, ci5, dAt_0, dAt_1, dAt_2, dAt_3, e1, ih, hb, dI_len, ← dI_app, fit_app hl]
include hlw hlb in
theorem law_bits_eq : ∀ (n : Nat) (s : Sh) (r : D), dpt s ≤ n → Good s → Fits s r → (bitsS s r).length ≤ 16777216 → ∀ k, n ≤ k → lb (k + 1) [enc s, r] = .ok (.lst (dI (bitsS s r)))
  | 0, s, r, hd, _, _, _, k, _ => by have := dpt_pos s; omega
  | n + 1, s, r, hd, g, f, hl, k, hk => by
    obtain ⟨k, rfl⟩ : ∃ j, k = j + 1 := ⟨k - 1, by omega⟩
    rw [hlb]
    have B : ∀ (m : Int) (w : Nat), w ≤ 64 → lw (k + 1) [.int m, .int w] = .ok (.lst (dI (wr m w))) := fun m w hw => by
      rw [hlw]
      exact written_eq m w (by omega)
    have f0 : fits 0 = true := fits_num
    have f1 : fits 1 = true := fits_num
    -- the loop over parts and records
    have L : ∀ (e0 : D) (kd : String) (ps rs : List D) (x0 y0 l : List Int), ps.length = rs.length → l = x0 ++ y0 → l.length ≤ 16777216 → ZB (lb (k + 1)) (ps.zip rs) y0 →
        gSeq (gForZ 5 6 (eVar 4) (eVar 1) (gSet 3 (eOp dAdd (eVar 3) (eCall (lb (k + 1)) (aCons (eVar 5) (aCons (eVar 6) aNil)))))) (gRet (eVar 3)) [.v e0, .v (.lst rs), .v (.str kd), .v (.lst (dI x0)), .v (.lst ps), .un, .un] = .rt (.lst (dI l)) := by
      intro e0 kd ps rs x0 y0 l hps el hl Z
      refine seq_ex (forZ_inv (fun t ρ => ∃ x y a b, l = x ++ y ∧ ZB (lb (k + 1)) t y ∧ ρ = [.v e0, .v (.lst rs), .v (.str kd), .v (.lst (dI x)), .v (.lst ps), a, b]) (by simp only [fnD, gNx, gSeq, gSet, gSetO, ownAt, gApp, gRev, gPut, frz, gFrz, gRet, gExpr, gIf, gExc, asL, eVar, eC, eOp, eUn, toB, tB, tAndB, tOrB, tNotB, eAnd, eOr, eNot, eChain, aNil, aCons, eTup, oLst, eO, eCall, oUn, oSl, rNone, rSome, toI, dCut, eLenO, eIxO, sBind_ok, sBind_exc, sBind_stk, Res.bind_ok, Res.bind_exc, Res.bind_stk, SRes.thn_nx, SRes.thn_rt, SRes.thn_exc, SRes.thn_stk, List.map_cons, List.map_nil, List.cons_append, List.nil_append, List.length_cons, List.length_nil, List.replicate_succ, List.replicate_zero, List.getElem?_cons_zero, List.getElem?_cons_succ, List.set_cons_zero, List.set_cons_succ, Nat.zero_add, Nat.reduceAdd, Nat.reduceSub, dAdd, dSub, dMul, dDiv, dMod, dNeg, dCmp, dLt, dLe, dGt, dGe, dEq, dNe, dEq?, dIsN, dNotN, dIsi, isTy, dLen, dIx_lst, dIx_tup, dIx_scr, dList, dRev, dInt, dMax2, dMin2, decide_eq_true_eq, if_true, if_false, Bool.not_true, Bool.not_false, Bool.false_eq_true, reduceIte, Int.reduceLT, Int.reduceLE, Int.reduceEq, Int.reduceNeg, String.reduceEq, decide_true, decide_false, ci0, ci1, ci2, ci3, ci4, ci5, dAt_0, dAt_1, dAt_2, dAt_3] <;> rfl) (by simp only [fnD, gNx, gSeq, gSet, gSetO, ownAt, gApp, gRev, gPut, frz, gFrz, gRet, gExpr, gIf, gExc, asL, eVar, eC, eOp, eUn, toB, tB, tAndB, tOrB, tNotB, eAnd, eOr, eNot, eChain, aNil, aCons, eTup, oLst, eO, eCall, oUn, oSl, rNone, rSome, toI, dCut, eLenO, eIxO, sBind_ok, sBind_exc, sBind_stk, Res.bind_ok, Res.bind_exc, Res.bind_stk, SRes.thn_nx, SRes.thn_rt, SRes.thn_exc, SRes.thn_stk, List.map_cons, List.map_nil, List.cons_append, List.nil_append, List.length_cons, List.length_nil, List.replicate_succ, List.replicate_zero, List.getElem?_cons_zero, List.getElem?_cons_succ, List.set_cons_zero, List.set_cons_succ, Nat.zero_add, Nat.reduceAdd, Nat.reduceSub, dAdd, dSub, dMul, dDiv, dMod, dNeg, dCmp, dLt, dLe, dGt, dGe, dEq, dNe, dEq?, dIsN, dNotN, dIsi, isTy, dLen, dIx_lst, dIx_tup, dIx_scr, dList, dRev, dInt, dMax2, dMin2, decide_eq_true_eq, if_true, if_false, Bool.not_true, Bool.not_false, Bool.false_eq_true, reduceIte, Int.reduceLT, Int.reduceLE, Int.reduceEq, Int.reduceNeg, String.reduceEq, decide_true, decide_false, ci0, ci1, ci2, ci3, ci4, ci5, dAt_0, dAt_1, dAt_2, dAt_3] <;> rfl) hps ⟨x0, y0, _, _, el, Z, rfl⟩ ?_) ?_
      · rintro e r t ρ ⟨x, y, a, b, el, z, rfl⟩
        unfold ZB at z
        obtain ⟨u, v, rfl, z1, z2⟩ := z
        refine ⟨_, ?_, x ++ u, v, .v e, .v r, by rw [List.append_assoc, el], z2, rfl⟩
        simp only [fnD, gNx, gSeq, gSet, gSetO, ownAt, gApp, gRev, gPut, frz, gFrz, gRet, gExpr, gIf, gExc, asL, eVar, eC, eOp, eUn, toB, tB, tAndB, tOrB, tNotB, eAnd, eOr, eNot, eChain, aNil, aCons, eTup, oLst, eO, eCall, oUn, oSl, rNone, rSome, toI, dCut, eLenO, eIxO, sBind_ok, sBind_exc, sBind_stk, Res.bind_ok, Res.bind_exc, Res.bind_stk, SRes.thn_nx, SRes.thn_rt, SRes.thn_exc, SRes.thn_stk, List.map_cons, List.map_nil, List.cons_append, List.nil_append, List.length_cons, List.length_nil, List.replicate_succ, List.replicate_zero, List.getElem?_cons_zero, List.getElem?_cons_succ, List.set_cons_zero, List.set_cons_succ, Nat.zero_add, Nat.reduceAdd, Nat.reduceSub, dAdd, dSub, dMul, dDiv, dMod, dNeg, dCmp, dLt, dLe, dGt, dGe, dEq, dNe, dEq?, dIsN, dNotN, dIsi, isTy, dLen, dIx_lst, dIx_tup, dIx_scr, dList, dRev, dInt, dMax2, dMin2, decide_eq_true_eq, if_true, if_false, Bool.not_true, Bool.not_false, Bool.false_eq_true, reduceIte, Int.reduceLT, Int.reduceLE, Int.reduceEq, Int.reduceNeg, String.reduceEq, decide_true, decide_false, ci0, ci1, ci2, ci3, ci4, ci5, dAt_0, dAt_1, dAt_2, dAt_3, z1, dI_len, ← dI_app, fit_app (a := x) (b := u) (by rw [el, List.length_append, List.length_append] at hl; rw [List.length_append]; omega)]
      · rintro ρ' ⟨x, y, a, b, el, z, rfl⟩
        unfold ZB at z
        subst z
        rw [List.append_nil] at el
        rw [el]
        rfl
    cases s with
    | num w lo hi =>
      unfold Fits at f
      obtain ⟨m, rfl, h1, h2⟩ := f
      unfold Good at g
      unfold bitsS
      refine fnD_rt ?_
      unfold enc
      simp only [fnD, gNx, gSeq, gSet, gSetO, ownAt, gApp, gRev, gPut, frz, gFrz, gRet, gExpr, gIf, gExc, asL, eVar, eC, eOp, eUn, toB, tB, tAndB, tOrB, tNotB, eAnd, eOr, eNot, eChain, aNil, aCons, eTup, oLst, eO, eCall, oUn, oSl, rNone, rSome, toI, dCut, eLenO, eIxO, sBind_ok, sBind_exc, sBind_stk, Res.bind_ok, Res.bind_exc, Res.bind_stk, SRes.thn_nx, SRes.thn_rt, SRes.thn_exc, SRes.thn_stk, List.map_cons, List.map_nil, List.cons_append, List.nil_append, List.length_cons, List.length_nil, List.replicate_succ, List.replicate_zero, List.getElem?_cons_zero, List.getElem?_cons_succ, List.set_cons_zero, List.set_cons_succ, Nat.zero_add, Nat.reduceAdd, Nat.reduceSub, dAdd, dSub, dMul, dDiv, dMod, dNeg, dCmp, dLt, dLe, dGt, dGe, dEq, dNe, dEq?, dIsN, dNotN, dIsi, isTy, dLen, dIx_lst, dIx_tup, dIx_scr, dList, dRev, dInt, dMax2, dMin2, decide_eq_true_eq, if_true, if_false, Bool.not_true, Bool.not_false, Bool.false_eq_true, reduceIte, Int.reduceLT, Int.reduceLE, Int.reduceEq, Int.reduceNeg, String.reduceEq, decide_true, decide_false, ci0, ci1, ci2, ci3, ci4, ci5, dAt_0, dAt_1, dAt_2, dAt_3, decide_true, B (m - lo) w g.1]
    | pad w =>
      unfold Fits at f
      subst f
      unfold Good at g
      unfold bitsS
      rw [wr_zero, dI_rep]
      refine fnD_rt ?_
      unfold enc
      refine seq_nx (by simp only [fnD, gNx, gSeq, gSet, gSetO, ownAt, gApp, gRev, gPut, frz, gFrz, gRet, gExpr, gIf, gExc, asL, eVar, eC, eOp, eUn, toB, tB, tAndB, tOrB, tNotB, eAnd, eOr, eNot, eChain, aNil, aCons, eTup, oLst, eO, eCall, oUn, oSl, rNone, rSome, toI, dCut, eLenO, eIxO, sBind_ok, sBind_exc, sBind_stk, Res.bind_ok, Res.bind_exc, Res.bind_stk, SRes.thn_nx, SRes.thn_rt, SRes.thn_exc, SRes.thn_stk, List.map_cons, List.map_nil, List.cons_append, List.nil_append, List.length_cons, List.length_nil, List.replicate_succ, List.replicate_zero, List.getElem?_cons_zero, List.getElem?_cons_succ, List.set_cons_zero, List.set_cons_succ, Nat.zero_add, Nat.reduceAdd, Nat.reduceSub, dAdd, dSub, dMul, dDiv, dMod, dNeg, dCmp, dLt, dLe, dGt, dGe, dEq, dNe, dEq?, dIsN, dNotN, dIsi, isTy, dLen, dIx_lst, dIx_tup, dIx_scr, dList, dRev, dInt, dMax2, dMin2, decide_eq_true_eq, if_true, if_false, Bool.not_true, Bool.not_false, Bool.false_eq_true, reduceIte, Int.reduceLT, Int.reduceLE, Int.reduceEq, Int.reduceNeg, String.reduceEq, decide_true, decide_false, ci0, ci1, ci2, ci3, ci4, ci5, dAt_0, dAt_1, dAt_2, dAt_3] <;> rfl) (seq_nx (by simp only [fnD, gNx, gSeq, gSet, gSetO, ownAt, gApp, gRev, gPut, frz, gFrz, gRet, gExpr, gIf, gExc, asL, eVar, eC, eOp, eUn, toB, tB, tAndB, tOrB, tNotB, eAnd, eOr, eNot, eChain, aNil, aCons, eTup, oLst, eO, eCall, oUn, oSl, rNone, rSome, toI, dCut, eLenO, eIxO, sBind_ok, sBind_exc, sBind_stk, Res.bind_ok, Res.bind_exc, Res.bind_stk, SRes.thn_nx, SRes.thn_rt, SRes.thn_exc, SRes.thn_stk, List.map_cons, List.map_nil, List.cons_append, List.nil_append, List.length_cons, List.length_nil, List.replicate_succ, List.replicate_zero, List.getElem?_cons_zero, List.getElem?_cons_succ, List.set_cons_zero, List.set_cons_succ, Nat.zero_add, Nat.reduceAdd, Nat.reduceSub, dAdd, dSub, dMul, dDiv, dMod, dNeg, dCmp, dLt, dLe, dGt, dGe, dEq, dNe, dEq?, dIsN, dNotN, dIsi, isTy, dLen, dIx_lst, dIx_tup, dIx_scr, dList, dRev, dInt, dMax2, dMin2, decide_eq_true_eq, if_true, if_false, Bool.not_true, Bool.not_false, Bool.false_eq_true, reduceIte, Int.reduceLT, Int.reduceLE, Int.reduceEq, Int.reduceNeg, String.reduceEq, decide_true, decide_false, ci0, ci1, ci2, ci3, ci4, ci5, dAt_0, dAt_1, dAt_2, dAt_3] <;> rfl) (seq_rt ?_))
      have e := mul_rep (d := .int 0) (n := w) (by omega)
      rw [if_t (by simp only [fnD, gNx, gSeq, gSet, gSetO, ownAt, gApp, gRev, gPut, frz, gFrz, gRet, gExpr, gIf, gExc, asL, eVar, eC, eOp, eUn, toB, tB, tAndB, tOrB, tNotB, eAnd, eOr, eNot, eChain, aNil, aCons, eTup, oLst, eO, eCall, oUn, oSl, rNone, rSome, toI, dCut, eLenO, eIxO, sBind_ok, sBind_exc, sBind_stk, Res.bind_ok, Res.bind_exc, Res.bind_stk, SRes.thn_nx, SRes.thn_rt, SRes.thn_exc, SRes.thn_stk, List.map_cons, List.map_nil, List.cons_append, List.nil_append, List.length_cons, List.length_nil, List.replicate_succ, List.replicate_zero, List.getElem?_cons_zero, List.getElem?_cons_succ, List.set_cons_zero, List.set_cons_succ, Nat.zero_add, Nat.reduceAdd, Nat.reduceSub, dAdd, dSub, dMul, dDiv, dMod, dNeg, dCmp, dLt, dLe, dGt, dGe, dEq, dNe, dEq?, dIsN, dNotN, dIsi, isTy, dLen, dIx_lst, dIx_tup, dIx_scr, dList, dRev, dInt, dMax2, dMin2, decide_eq_true_eq, if_true, if_false, Bool.not_true, Bool.not_false, Bool.false_eq_true, reduceIte, Int.reduceLT, Int.reduceLE, Int.reduceEq, Int.reduceNeg, String.reduceEq, decide_true, decide_false, ci0, ci1, ci2, ci3, ci4, ci5, dAt_0, dAt_1, dAt_2, dAt_3] <;> rfl)]
      refine ret_ok ?_
      simp only [eOp, eO, oLst, aCons, aNil, eC, eVar, Res.bind_ok, List.getElem?_cons_zero, List.length_cons, List.length_nil, Nat.zero_add, f1, if_true, dIx, dAt_1, e]
    | maybe s =>
      unfold Fits at f
      obtain ⟨rs, rfl, h1, h2⟩ := f
      unfold Good at g
      unfold dpt at hd
      unfold bitsS at hl ⊢
      simp only at hl ⊢
      have Z := ZB_map (f := lb (k + 1)) (e := enc s) (rs := rs) (B := bitsS s) fun r hr => law_bits_eq n s r (by omega) g (h2 r hr) (by have := flat_mem (B := bitsS s) hr; rw [List.length_cons] at hl; omega) k (by omega)
      rw [← zip_rep] at Z
      have e := mul_rep (d := enc s) (n := rs.length) (by omega)
      refine fnD_rt ?_
      unfold enc
      refine seq_nx (by simp only [fnD, gNx, gSeq, gSet, gSetO, ownAt, gApp, gRev, gPut, frz, gFrz, gRet, gExpr, gIf, gExc, asL, eVar, eC, eOp, eUn, toB, tB, tAndB, tOrB, tNotB, eAnd, eOr, eNot, eChain, aNil, aCons, eTup, oLst, eO, eCall, oUn, oSl, rNone, rSome, toI, dCut, eLenO, eIxO, sBind_ok, sBind_exc, sBind_stk, Res.bind_ok, Res.bind_exc, Res.bind_stk, SRes.thn_nx, SRes.thn_rt, SRes.thn_exc, SRes.thn_stk, List.map_cons, List.map_nil, List.cons_append, List.nil_append, List.length_cons, List.length_nil, List.replicate_succ, List.replicate_zero, List.getElem?_cons_zero, List.getElem?_cons_succ, List.set_cons_zero, List.set_cons_succ, Nat.zero_add, Nat.reduceAdd, Nat.reduceSub, dAdd, dSub, dMul, dDiv, dMod, dNeg, dCmp, dLt, dLe, dGt, dGe, dEq, dNe, dEq?, dIsN, dNotN, dIsi, isTy, dLen, dIx_lst, dIx_tup, dIx_scr, dList, dRev, dInt, dMax2, dMin2, decide_eq_true_eq, if_true, if_false, Bool.not_true, Bool.not_false, Bool.false_eq_true, reduceIte, Int.reduceLT, Int.reduceLE, Int.reduceEq, Int.reduceNeg, String.reduceEq, decide_true, decide_false, ci0, ci1, ci2, ci3, ci4, ci5, dAt_0, dAt_1, dAt_2, dAt_3] <;> rfl) (seq_nx (by simp only [fnD, gNx, gSeq, gSet, gSetO, ownAt, gApp, gRev, gPut, frz, gFrz, gRet, gExpr, gIf, gExc, asL, eVar, eC, eOp, eUn, toB, tB, tAndB, tOrB, tNotB, eAnd, eOr, eNot, eChain, aNil, aCons, eTup, oLst, eO, eCall, oUn, oSl, rNone, rSome, toI, dCut, eLenO, eIxO, sBind_ok, sBind_exc, sBind_stk, Res.bind_ok, Res.bind_exc, Res.bind_stk, SRes.thn_nx, SRes.thn_rt, SRes.thn_exc, SRes.thn_stk, List.map_cons, List.map_nil, List.cons_append, List.nil_append, List.length_cons, List.length_nil, List.replicate_succ, List.replicate_zero, List.getElem?_cons_zero, List.getElem?_cons_succ, List.set_cons_zero, List.set_cons_succ, Nat.zero_add, Nat.reduceAdd, Nat.reduceSub, dAdd, dSub, dMul, dDiv, dMod, dNeg, dCmp, dLt, dLe, dGt, dGe, dEq, dNe, dEq?, dIsN, dNotN, dIsi, isTy, dLen, dIx_lst, dIx_tup, dIx_scr, dList, dRev, dInt, dMax2, dMin2, decide_eq_true_eq, if_true, if_false, Bool.not_true, Bool.not_false, Bool.false_eq_true, reduceIte, Int.reduceLT, Int.reduceLE, Int.reduceEq, Int.reduceNeg, String.reduceEq, decide_true, decide_false, ci0, ci1, ci2, ci3, ci4, ci5, dAt_0, dAt_1, dAt_2, dAt_3] <;> rfl) (seq_nx (by simp only [fnD, gNx, gSeq, gSet, gSetO, ownAt, gApp, gRev, gPut, frz, gFrz, gRet, gExpr, gIf, gExc, asL, eVar, eC, eOp, eUn, toB, tB, tAndB, tOrB, tNotB, eAnd, eOr, eNot, eChain, aNil, aCons, eTup, oLst, eO, eCall, oUn, oSl, rNone, rSome, toI, dCut, eLenO, eIxO, sBind_ok, sBind_exc, sBind_stk, Res.bind_ok, Res.bind_exc, Res.bind_stk, SRes.thn_nx, SRes.thn_rt, SRes.thn_exc, SRes.thn_stk, List.map_cons, List.map_nil, List.cons_append, List.nil_append, List.length_cons, List.length_nil, List.replicate_succ, List.replicate_zero, List.getElem?_cons_zero, List.getElem?_cons_succ, List.set_cons_zero, List.set_cons_succ, Nat.zero_add, Nat.reduceAdd, Nat.reduceSub, dAdd, dSub, dMul, dDiv, dMod, dNeg, dCmp, dLt, dLe, dGt, dGe, dEq, dNe, dEq?, dIsN, dNotN, dIsi, isTy, dLen, dIx_lst, dIx_tup, dIx_scr, dList, dRev, dInt, dMax2, dMin2, decide_eq_true_eq, if_true, if_false, Bool.not_true, Bool.not_false, Bool.false_eq_true, reduceIte, Int.reduceLT, Int.reduceLE, Int.reduceEq, Int.reduceNeg, String.reduceEq, decide_true, decide_false, ci0, ci1, ci2, ci3, ci4, ci5, dAt_0, dAt_1, dAt_2, dAt_3] <;> rfl) (seq_nx (by simp only [fnD, gNx, gSeq, gSet, gSetO, ownAt, gApp, gRev, gPut, frz, gFrz, gRet, gExpr, gIf, gExc, asL, eVar, eC, eOp, eUn, toB, tB, tAndB, tOrB, tNotB, eAnd, eOr, eNot, eChain, aNil, aCons, eTup, oLst, eO, eCall, oUn, oSl, rNone, rSome, toI, dCut, eLenO, eIxO, sBind_ok, sBind_exc, sBind_stk, Res.bind_ok, Res.bind_exc, Res.bind_stk, SRes.thn_nx, SRes.thn_rt, SRes.thn_exc, SRes.thn_stk, List.map_cons, List.map_nil, List.cons_append, List.nil_append, List.length_cons, List.length_nil, List.replicate_succ, List.replicate_zero, List.getElem?_cons_zero, List.getElem?_cons_succ, List.set_cons_zero, List.set_cons_succ, Nat.zero_add, Nat.reduceAdd, Nat.reduceSub, dAdd, dSub, dMul, dDiv, dMod, dNeg, dCmp, dLt, dLe, dGt, dGe, dEq, dNe, dEq?, dIsN, dNotN, dIsi, isTy, dLen, dIx_lst, dIx_tup, dIx_scr, dList, dRev, dInt, dMax2, dMin2, decide_eq_true_eq, if_true, if_false, Bool.not_true, Bool.not_false, Bool.false_eq_true, reduceIte, Int.reduceLT, Int.reduceLE, Int.reduceEq, Int.reduceNeg, String.reduceEq, decide_true, decide_false, ci0, ci1, ci2, ci3, ci4, ci5, dAt_0, dAt_1, dAt_2, dAt_3] <;> rfl) (seq_nx (by simp only [fnD, gNx, gSeq, gSet, gSetO, ownAt, gApp, gRev, gPut, frz, gFrz, gRet, gExpr, gIf, gExc, asL, eVar, eC, eOp, eUn, toB, tB, tAndB, tOrB, tNotB, eAnd, eOr, eNot, eChain, aNil, aCons, eTup, oLst, eO, eCall, oUn, oSl, rNone, rSome, toI, dCut, eLenO, eIxO, sBind_ok, sBind_exc, sBind_stk, Res.bind_ok, Res.bind_exc, Res.bind_stk, SRes.thn_nx, SRes.thn_rt, SRes.thn_exc, SRes.thn_stk, List.map_cons, List.map_nil, List.cons_append, List.nil_append, List.length_cons, List.length_nil, List.replicate_succ, List.replicate_zero, List.getElem?_cons_zero, List.getElem?_cons_succ, List.set_cons_zero, List.set_cons_succ, Nat.zero_add, Nat.reduceAdd, Nat.reduceSub, dAdd, dSub, dMul, dDiv, dMod, dNeg, dCmp, dLt, dLe, dGt, dGe, dEq, dNe, dEq?, dIsN, dNotN, dIsi, isTy, dLen, dIx_lst, dIx_tup, dIx_scr, dList, dRev, dInt, dMax2, dMin2, decide_eq_true_eq, if_true, if_false, Bool.not_true, Bool.not_false, Bool.false_eq_true, reduceIte, Int.reduceLT, Int.reduceLE, Int.reduceEq, Int.reduceNeg, String.reduceEq, decide_true, decide_false, ci0, ci1, ci2, ci3, ci4, ci5, dAt_0, dAt_1, dAt_2, dAt_3, f0] <;> rfl) (seq_nx (by simp only [fnD, gNx, gSeq, gSet, gSetO, ownAt, gApp, gRev, gPut, frz, gFrz, gRet, gExpr, gIf, gExc, asL, eVar, eC, eOp, eUn, toB, tB, tAndB, tOrB, tNotB, eAnd, eOr, eNot, eChain, aNil, aCons, eTup, oLst, eO, eCall, oUn, oSl, rNone, rSome, toI, dCut, eLenO, eIxO, sBind_ok, sBind_exc, sBind_stk, Res.bind_ok, Res.bind_exc, Res.bind_stk, SRes.thn_nx, SRes.thn_rt, SRes.thn_exc, SRes.thn_stk, List.map_cons, List.map_nil, List.cons_append, List.nil_append, List.length_cons, List.length_nil, List.replicate_succ, List.replicate_zero, List.getElem?_cons_zero, List.getElem?_cons_succ, List.set_cons_zero, List.set_cons_succ, Nat.zero_add, Nat.reduceAdd, Nat.reduceSub, dAdd, dSub, dMul, dDiv, dMod, dNeg, dCmp, dLt, dLe, dGt, dGe, dEq, dNe, dEq?, dIsN, dNotN, dIsi, isTy, dLen, dIx_lst, dIx_tup, dIx_scr, dList, dRev, dInt, dMax2, dMin2, decide_eq_true_eq, if_true, if_false, Bool.not_true, Bool.not_false, Bool.false_eq_true, reduceIte, Int.reduceLT, Int.reduceLE, Int.reduceEq, Int.reduceNeg, String.reduceEq, decide_true, decide_false, ci0, ci1, ci2, ci3, ci4, ci5, dAt_0, dAt_1, dAt_2, dAt_3] <;> rfl) (seq_nx (?_ : _ = SRes.nx [.v (.tup [.str "maybe", enc s]), .v (.lst rs), .v (.str "maybe"), .v (.lst (dI [(rs.length : Int)])), .v (.lst (List.replicate rs.length (enc s))), .un, .un]) (seq_nx (by simp only [fnD, gNx, gSeq, gSet, gSetO, ownAt, gApp, gRev, gPut, frz, gFrz, gRet, gExpr, gIf, gExc, asL, eVar, eC, eOp, eUn, toB, tB, tAndB, tOrB, tNotB, eAnd, eOr, eNot, eChain, aNil, aCons, eTup, oLst, eO, eCall, oUn, oSl, rNone, rSome, toI, dCut, eLenO, eIxO, sBind_ok, sBind_exc, sBind_stk, Res.bind_ok, Res.bind_exc, Res.bind_stk, SRes.thn_nx, SRes.thn_rt, SRes.thn_exc, SRes.thn_stk, List.map_cons, List.map_nil, List.cons_append, List.nil_append, List.length_cons, List.length_nil, List.replicate_succ, List.replicate_zero, List.getElem?_cons_zero, List.getElem?_cons_succ, List.set_cons_zero, List.set_cons_succ, Nat.zero_add, Nat.reduceAdd, Nat.reduceSub, dAdd, dSub, dMul, dDiv, dMod, dNeg, dCmp, dLt, dLe, dGt, dGe, dEq, dNe, dEq?, dIsN, dNotN, dIsi, isTy, dLen, dIx_lst, dIx_tup, dIx_scr, dList, dRev, dInt, dMax2, dMin2, decide_eq_true_eq, if_true, if_false, Bool.not_true, Bool.not_false, Bool.false_eq_true, reduceIte, Int.reduceLT, Int.reduceLE, Int.reduceEq, Int.reduceNeg, String.reduceEq, decide_true, decide_false, ci0, ci1, ci2, ci3, ci4, ci5, dAt_0, dAt_1, dAt_2, dAt_3] <;> rfl)
        (L _ _ _ _ [(rs.length : Int)] _ _ (by simp) rfl hl Z))))))))
      rw [if_t (by simp only [fnD, gNx, gSeq, gSet, gSetO, ownAt, gApp, gRev, gPut, frz, gFrz, gRet, gExpr, gIf, gExc, asL, eVar, eC, eOp, eUn, toB, tB, tAndB, tOrB, tNotB, eAnd, eOr, eNot, eChain, aNil, aCons, eTup, oLst, eO, eCall, oUn, oSl, rNone, rSome, toI, dCut, eLenO, eIxO, sBind_ok, sBind_exc, sBind_stk, Res.bind_ok, Res.bind_exc, Res.bind_stk, SRes.thn_nx, SRes.thn_rt, SRes.thn_exc, SRes.thn_stk, List.map_cons, List.map_nil, List.cons_append, List.nil_append, List.length_cons, List.length_nil, List.replicate_succ, List.replicate_zero, List.getElem?_cons_zero, List.getElem?_cons_succ, List.set_cons_zero, List.set_cons_succ, Nat.zero_add, Nat.reduceAdd, Nat.reduceSub, dAdd, dSub, dMul, dDiv, dMod, dNeg, dCmp, dLt, dLe, dGt, dGe, dEq, dNe, dEq?, dIsN, dNotN, dIsi, isTy, dLen, dIx_lst, dIx_tup, dIx_scr, dList, dRev, dInt, dMax2, dMin2, decide_eq_true_eq, if_true, if_false, Bool.not_true, Bool.not_false, Bool.false_eq_true, reduceIte, Int.reduceLT, Int.reduceLE, Int.reduceEq, Int.reduceNeg, String.reduceEq, decide_true, decide_false, ci0, ci1, ci2, ci3, ci4, ci5, dAt_0, dAt_1, dAt_2, dAt_3] <;> rfl)]
      refine seq_nx (by simp only [fnD, gNx, gSeq, gSet, gSetO, ownAt, gApp, gRev, gPut, frz, gFrz, gRet, gExpr, gIf, gExc, asL, eVar, eC, eOp, eUn, toB, tB, tAndB, tOrB, tNotB, eAnd, eOr, eNot, eChain, aNil, aCons, eTup, oLst, eO, eCall, oUn, oSl, rNone, rSome, toI, dCut, eLenO, eIxO, sBind_ok, sBind_exc, sBind_stk, Res.bind_ok, Res.bind_exc, Res.bind_stk, SRes.thn_nx, SRes.thn_rt, SRes.thn_exc, SRes.thn_stk, List.map_cons, List.map_nil, List.cons_append, List.nil_append, List.length_cons, List.length_nil, List.replicate_succ, List.replicate_zero, List.getElem?_cons_zero, List.getElem?_cons_succ, List.set_cons_zero, List.set_cons_succ, Nat.zero_add, Nat.reduceAdd, Nat.reduceSub, dAdd, dSub, dMul, dDiv, dMod, dNeg, dCmp, dLt, dLe, dGt, dGe, dEq, dNe, dEq?, dIsN, dNotN, dIsi, isTy, dLen, dIx_lst, dIx_tup, dIx_scr, dList, dRev, dInt, dMax2, dMin2, decide_eq_true_eq, if_true, if_false, Bool.not_true, Bool.not_false, Bool.false_eq_true, reduceIte, Int.reduceLT, Int.reduceLE, Int.reduceEq, Int.reduceNeg, String.reduceEq, decide_true, decide_false, ci0, ci1, ci2, ci3, ci4, ci5, dAt_0, dAt_1, dAt_2, dAt_3, f1] <;> rfl) ?_
      refine set_ok ?_
      simp only [eOp, eO, oLst, aCons, aNil, eC, eUn, eVar, Res.bind_ok, List.getElem?_cons_zero, List.getElem?_cons_succ, List.length_cons, List.length_nil, Nat.zero_add, f1, if_true, dIx, dAt_1, dLen, e]
    | rows w s =>
      unfold Fits at f
      obtain ⟨rs, rfl, h1, h2⟩ := f
      unfold Good at g
      unfold dpt at hd
      unfold bitsS at hl ⊢
      simp only at hl ⊢
      have Z := ZB_map (f := lb (k + 1)) (e := enc s) (rs := rs) (B := bitsS s) fun r hr => law_bits_eq n s r (by omega) g.2 (h2 r hr) (by have := flat_mem (B := bitsS s) hr; rw [List.length_append] at hl; omega) k (by omega)
      rw [← zip_rep] at Z
      have h3 : rs.length < 256 := Nat.lt_of_lt_of_le h1 (Nat.pow_le_pow_right (by omega) g.1)
      have e := mul_rep (d := enc s) (n := rs.length) (by omega)
      refine fnD_rt ?_
      unfold enc
      refine seq_nx (by simp only [fnD, gNx, gSeq, gSet, gSetO, ownAt, gApp, gRev, gPut, frz, gFrz, gRet, gExpr, gIf, gExc, asL, eVar, eC, eOp, eUn, toB, tB, tAndB, tOrB, tNotB, eAnd, eOr, eNot, eChain, aNil, aCons, eTup, oLst, eO, eCall, oUn, oSl, rNone, rSome, toI, dCut, eLenO, eIxO, sBind_ok, sBind_exc, sBind_stk, Res.bind_ok, Res.bind_exc, Res.bind_stk, SRes.thn_nx, SRes.thn_rt, SRes.thn_exc, SRes.thn_stk, List.map_cons, List.map_nil, List.cons_append, List.nil_append, List.length_cons, List.length_nil, List.replicate_succ, List.replicate_zero, List.getElem?_cons_zero, List.getElem?_cons_succ, List.set_cons_zero, List.set_cons_succ, Nat.zero_add, Nat.reduceAdd, Nat.reduceSub, dAdd, dSub, dMul, dDiv, dMod, dNeg, dCmp, dLt, dLe, dGt, dGe, dEq, dNe, dEq?, dIsN, dNotN, dIsi, isTy, dLen, dIx_lst, dIx_tup, dIx_scr, dList, dRev, dInt, dMax2, dMin2, decide_eq_true_eq, if_true, if_false, Bool.not_true, Bool.not_false, Bool.false_eq_true, reduceIte, Int.reduceLT, Int.reduceLE, Int.reduceEq, Int.reduceNeg, String.reduceEq, decide_true, decide_false, ci0, ci1, ci2, ci3, ci4, ci5, dAt_0, dAt_1, dAt_2, dAt_3] <;> rfl) (seq_nx (by simp only [fnD, gNx, gSeq, gSet, gSetO, ownAt, gApp, gRev, gPut, frz, gFrz, gRet, gExpr, gIf, gExc, asL, eVar, eC, eOp, eUn, toB, tB, tAndB, tOrB, tNotB, eAnd, eOr, eNot, eChain, aNil, aCons, eTup, oLst, eO, eCall, oUn, oSl, rNone, rSome, toI, dCut, eLenO, eIxO, sBind_ok, sBind_exc, sBind_stk, Res.bind_ok, Res.bind_exc, Res.bind_stk, SRes.thn_nx, SRes.thn_rt, SRes.thn_exc, SRes.thn_stk, List.map_cons, List.map_nil, List.cons_append, List.nil_append, List.length_cons, List.length_nil, List.replicate_succ, List.replicate_zero, List.getElem?_cons_zero, List.getElem?_cons_succ, List.set_cons_zero, List.set_cons_succ, Nat.zero_add, Nat.reduceAdd, Nat.reduceSub, dAdd, dSub, dMul, dDiv, dMod, dNeg, dCmp, dLt, dLe, dGt, dGe, dEq, dNe, dEq?, dIsN, dNotN, dIsi, isTy, dLen, dIx_lst, dIx_tup, dIx_scr, dList, dRev, dInt, dMax2, dMin2, decide_eq_true_eq, if_true, if_false, Bool.not_true, Bool.not_false, Bool.false_eq_true, reduceIte, Int.reduceLT, Int.reduceLE, Int.reduceEq, Int.reduceNeg, String.reduceEq, decide_true, decide_false, ci0, ci1, ci2, ci3, ci4, ci5, dAt_0, dAt_1, dAt_2, dAt_3] <;> rfl) (seq_nx (by simp only [fnD, gNx, gSeq, gSet, gSetO, ownAt, gApp, gRev, gPut, frz, gFrz, gRet, gExpr, gIf, gExc, asL, eVar, eC, eOp, eUn, toB, tB, tAndB, tOrB, tNotB, eAnd, eOr, eNot, eChain, aNil, aCons, eTup, oLst, eO, eCall, oUn, oSl, rNone, rSome, toI, dCut, eLenO, eIxO, sBind_ok, sBind_exc, sBind_stk, Res.bind_ok, Res.bind_exc, Res.bind_stk, SRes.thn_nx, SRes.thn_rt, SRes.thn_exc, SRes.thn_stk, List.map_cons, List.map_nil, List.cons_append, List.nil_append, List.length_cons, List.length_nil, List.replicate_succ, List.replicate_zero, List.getElem?_cons_zero, List.getElem?_cons_succ, List.set_cons_zero, List.set_cons_succ, Nat.zero_add, Nat.reduceAdd, Nat.reduceSub, dAdd, dSub, dMul, dDiv, dMod, dNeg, dCmp, dLt, dLe, dGt, dGe, dEq, dNe, dEq?, dIsN, dNotN, dIsi, isTy, dLen, dIx_lst, dIx_tup, dIx_scr, dList, dRev, dInt, dMax2, dMin2, decide_eq_true_eq, if_true, if_false, Bool.not_true, Bool.not_false, Bool.false_eq_true, reduceIte, Int.reduceLT, Int.reduceLE, Int.reduceEq, Int.reduceNeg, String.reduceEq, decide_true, decide_false, ci0, ci1, ci2, ci3, ci4, ci5, dAt_0, dAt_1, dAt_2, dAt_3] <;> rfl) (seq_nx (by simp only [fnD, gNx, gSeq, gSet, gSetO, ownAt, gApp, gRev, gPut, frz, gFrz, gRet, gExpr, gIf, gExc, asL, eVar, eC, eOp, eUn, toB, tB, tAndB, tOrB, tNotB, eAnd, eOr, eNot, eChain, aNil, aCons, eTup, oLst, eO, eCall, oUn, oSl, rNone, rSome, toI, dCut, eLenO, eIxO, sBind_ok, sBind_exc, sBind_stk, Res.bind_ok, Res.bind_exc, Res.bind_stk, SRes.thn_nx, SRes.thn_rt, SRes.thn_exc, SRes.thn_stk, List.map_cons, List.map_nil, List.cons_append, List.nil_append, List.length_cons, List.length_nil, List.replicate_succ, List.replicate_zero, List.getElem?_cons_zero, List.getElem?_cons_succ, List.set_cons_zero, List.set_cons_succ, Nat.zero_add, Nat.reduceAdd, Nat.reduceSub, dAdd, dSub, dMul, dDiv, dMod, dNeg, dCmp, dLt, dLe, dGt, dGe, dEq, dNe, dEq?, dIsN, dNotN, dIsi, isTy, dLen, dIx_lst, dIx_tup, dIx_scr, dList, dRev, dInt, dMax2, dMin2, decide_eq_true_eq, if_true, if_false, Bool.not_true, Bool.not_false, Bool.false_eq_true, reduceIte, Int.reduceLT, Int.reduceLE, Int.reduceEq, Int.reduceNeg, String.reduceEq, decide_true, decide_false, ci0, ci1, ci2, ci3, ci4, ci5, dAt_0, dAt_1, dAt_2, dAt_3] <;> rfl) (seq_nx (by simp only [fnD, gNx, gSeq, gSet, gSetO, ownAt, gApp, gRev, gPut, frz, gFrz, gRet, gExpr, gIf, gExc, asL, eVar, eC, eOp, eUn, toB, tB, tAndB, tOrB, tNotB, eAnd, eOr, eNot, eChain, aNil, aCons, eTup, oLst, eO, eCall, oUn, oSl, rNone, rSome, toI, dCut, eLenO, eIxO, sBind_ok, sBind_exc, sBind_stk, Res.bind_ok, Res.bind_exc, Res.bind_stk, SRes.thn_nx, SRes.thn_rt, SRes.thn_exc, SRes.thn_stk, List.map_cons, List.map_nil, List.cons_append, List.nil_append, List.length_cons, List.length_nil, List.replicate_succ, List.replicate_zero, List.getElem?_cons_zero, List.getElem?_cons_succ, List.set_cons_zero, List.set_cons_succ, Nat.zero_add, Nat.reduceAdd, Nat.reduceSub, dAdd, dSub, dMul, dDiv, dMod, dNeg, dCmp, dLt, dLe, dGt, dGe, dEq, dNe, dEq?, dIsN, dNotN, dIsi, isTy, dLen, dIx_lst, dIx_tup, dIx_scr, dList, dRev, dInt, dMax2, dMin2, decide_eq_true_eq, if_true, if_false, Bool.not_true, Bool.not_false, Bool.false_eq_true, reduceIte, Int.reduceLT, Int.reduceLE, Int.reduceEq, Int.reduceNeg, String.reduceEq, decide_true, decide_false, ci0, ci1, ci2, ci3, ci4, ci5, dAt_0, dAt_1, dAt_2, dAt_3, f0] <;> rfl) (seq_nx (by simp only [fnD, gNx, gSeq, gSet, gSetO, ownAt, gApp, gRev, gPut, frz, gFrz, gRet, gExpr, gIf, gExc, asL, eVar, eC, eOp, eUn, toB, tB, tAndB, tOrB, tNotB, eAnd, eOr, eNot, eChain, aNil, aCons, eTup, oLst, eO, eCall, oUn, oSl, rNone, rSome, toI, dCut, eLenO, eIxO, sBind_ok, sBind_exc, sBind_stk, Res.bind_ok, Res.bind_exc, Res.bind_stk, SRes.thn_nx, SRes.thn_rt, SRes.thn_exc, SRes.thn_stk, List.map_cons, List.map_nil, List.cons_append, List.nil_append, List.length_cons, List.length_nil, List.replicate_succ, List.replicate_zero, List.getElem?_cons_zero, List.getElem?_cons_succ, List.set_cons_zero, List.set_cons_succ, Nat.zero_add, Nat.reduceAdd, Nat.reduceSub, dAdd, dSub, dMul, dDiv, dMod, dNeg, dCmp, dLt, dLe, dGt, dGe, dEq, dNe, dEq?, dIsN, dNotN, dIsi, isTy, dLen, dIx_lst, dIx_tup, dIx_scr, dList, dRev, dInt, dMax2, dMin2, decide_eq_true_eq, if_true, if_false, Bool.not_true, Bool.not_false, Bool.false_eq_true, reduceIte, Int.reduceLT, Int.reduceLE, Int.reduceEq, Int.reduceNeg, String.reduceEq, decide_true, decide_false, ci0, ci1, ci2, ci3, ci4, ci5, dAt_0, dAt_1, dAt_2, dAt_3] <;> rfl) (seq_nx (by simp only [fnD, gNx, gSeq, gSet, gSetO, ownAt, gApp, gRev, gPut, frz, gFrz, gRet, gExpr, gIf, gExc, asL, eVar, eC, eOp, eUn, toB, tB, tAndB, tOrB, tNotB, eAnd, eOr, eNot, eChain, aNil, aCons, eTup, oLst, eO, eCall, oUn, oSl, rNone, rSome, toI, dCut, eLenO, eIxO, sBind_ok, sBind_exc, sBind_stk, Res.bind_ok, Res.bind_exc, Res.bind_stk, SRes.thn_nx, SRes.thn_rt, SRes.thn_exc, SRes.thn_stk, List.map_cons, List.map_nil, List.cons_append, List.nil_append, List.length_cons, List.length_nil, List.replicate_succ, List.replicate_zero, List.getElem?_cons_zero, List.getElem?_cons_succ, List.set_cons_zero, List.set_cons_succ, Nat.zero_add, Nat.reduceAdd, Nat.reduceSub, dAdd, dSub, dMul, dDiv, dMod, dNeg, dCmp, dLt, dLe, dGt, dGe, dEq, dNe, dEq?, dIsN, dNotN, dIsi, isTy, dLen, dIx_lst, dIx_tup, dIx_scr, dList, dRev, dInt, dMax2, dMin2, decide_eq_true_eq, if_true, if_false, Bool.not_true, Bool.not_false, Bool.false_eq_true, reduceIte, Int.reduceLT, Int.reduceLE, Int.reduceEq, Int.reduceNeg, String.reduceEq, decide_true, decide_false, ci0, ci1, ci2, ci3, ci4, ci5, dAt_0, dAt_1, dAt_2, dAt_3] <;> rfl) (seq_nx (?_ : _ = SRes.nx [.v (.tup [.str "rows", .int w, enc s]), .v (.lst rs), .v (.str "rows"), .v (.lst (dI (wr rs.length w))), .v (.lst (List.replicate rs.length (enc s))), .un, .un])
        (L _ _ _ _ (wr rs.length w) _ _ (by simp) rfl hl Z))))))))
      rw [if_t (by simp only [fnD, gNx, gSeq, gSet, gSetO, ownAt, gApp, gRev, gPut, frz, gFrz, gRet, gExpr, gIf, gExc, asL, eVar, eC, eOp, eUn, toB, tB, tAndB, tOrB, tNotB, eAnd, eOr, eNot, eChain, aNil, aCons, eTup, oLst, eO, eCall, oUn, oSl, rNone, rSome, toI, dCut, eLenO, eIxO, sBind_ok, sBind_exc, sBind_stk, Res.bind_ok, Res.bind_exc, Res.bind_stk, SRes.thn_nx, SRes.thn_rt, SRes.thn_exc, SRes.thn_stk, List.map_cons, List.map_nil, List.cons_append, List.nil_append, List.length_cons, List.length_nil, List.replicate_succ, List.replicate_zero, List.getElem?_cons_zero, List.getElem?_cons_succ, List.set_cons_zero, List.set_cons_succ, Nat.zero_add, Nat.reduceAdd, Nat.reduceSub, dAdd, dSub, dMul, dDiv, dMod, dNeg, dCmp, dLt, dLe, dGt, dGe, dEq, dNe, dEq?, dIsN, dNotN, dIsi, isTy, dLen, dIx_lst, dIx_tup, dIx_scr, dList, dRev, dInt, dMax2, dMin2, decide_eq_true_eq, if_true, if_false, Bool.not_true, Bool.not_false, Bool.false_eq_true, reduceIte, Int.reduceLT, Int.reduceLE, Int.reduceEq, Int.reduceNeg, String.reduceEq, decide_true, decide_false, ci0, ci1, ci2, ci3, ci4, ci5, dAt_0, dAt_1, dAt_2, dAt_3] <;> rfl)]
      refine seq_nx (by simp only [fnD, gNx, gSeq, gSet, gSetO, ownAt, gApp, gRev, gPut, frz, gFrz, gRet, gExpr, gIf, gExc, asL, eVar, eC, eOp, eUn, toB, tB, tAndB, tOrB, tNotB, eAnd, eOr, eNot, eChain, aNil, aCons, eTup, oLst, eO, eCall, oUn, oSl, rNone, rSome, toI, dCut, eLenO, eIxO, sBind_ok, sBind_exc, sBind_stk, Res.bind_ok, Res.bind_exc, Res.bind_stk, SRes.thn_nx, SRes.thn_rt, SRes.thn_exc, SRes.thn_stk, List.map_cons, List.map_nil, List.cons_append, List.nil_append, List.length_cons, List.length_nil, List.replicate_succ, List.replicate_zero, List.getElem?_cons_zero, List.getElem?_cons_succ, List.set_cons_zero, List.set_cons_succ, Nat.zero_add, Nat.reduceAdd, Nat.reduceSub, dAdd, dSub, dMul, dDiv, dMod, dNeg, dCmp, dLt, dLe, dGt, dGe, dEq, dNe, dEq?, dIsN, dNotN, dIsi, isTy, dLen, dIx_lst, dIx_tup, dIx_scr, dList, dRev, dInt, dMax2, dMin2, decide_eq_true_eq, if_true, if_false, Bool.not_true, Bool.not_false, Bool.false_eq_true, reduceIte, Int.reduceLT, Int.reduceLE, Int.reduceEq, Int.reduceNeg, String.reduceEq, decide_true, decide_false, ci0, ci1, ci2, ci3, ci4, ci5, dAt_0, dAt_1, dAt_2, dAt_3, B rs.length w (by omega)] <;> rfl) ?_
      refine set_ok ?_
      simp only [eOp, eO, oLst, aCons, aNil, eC, eUn, eVar, Res.bind_ok, List.getElem?_cons_zero, List.getElem?_cons_succ, List.length_cons, List.length_nil, Nat.zero_add, f1, if_true, dIx, dAt_2, dLen, e]
    | group ss =>
      unfold Fits at f
      obtain ⟨rs, rfl, f⟩ := f
      unfold Good at g
      unfold dpt at hd
      unfold bitsS at hl ⊢
      simp only at hl ⊢
      have Z := ZB_zip (f := lb (k + 1)) f fun s hs r' f' hl' => law_bits_eq n s r' (by have := dpts_mem hs; omega) (g.2.mem hs) f' (by omega) k (by omega)
      refine fnD_rt ?_
      unfold enc
      exact seq_nx (by simp only [fnD, gNx, gSeq, gSet, gSetO, ownAt, gApp, gRev, gPut, frz, gFrz, gRet, gExpr, gIf, gExc, asL, eVar, eC, eOp, eUn, toB, tB, tAndB, tOrB, tNotB, eAnd, eOr, eNot, eChain, aNil, aCons, eTup, oLst, eO, eCall, oUn, oSl, rNone, rSome, toI, dCut, eLenO, eIxO, sBind_ok, sBind_exc, sBind_stk, Res.bind_ok, Res.bind_exc, Res.bind_stk, SRes.thn_nx, SRes.thn_rt, SRes.thn_exc, SRes.thn_stk, List.map_cons, List.map_nil, List.cons_append, List.nil_append, List.length_cons, List.length_nil, List.replicate_succ, List.replicate_zero, List.getElem?_cons_zero, List.getElem?_cons_succ, List.set_cons_zero, List.set_cons_succ, Nat.zero_add, Nat.reduceAdd, Nat.reduceSub, dAdd, dSub, dMul, dDiv, dMod, dNeg, dCmp, dLt, dLe, dGt, dGe, dEq, dNe, dEq?, dIsN, dNotN, dIsi, isTy, dLen, dIx_lst, dIx_tup, dIx_scr, dList, dRev, dInt, dMax2, dMin2, decide_eq_true_eq, if_true, if_false, Bool.not_true, Bool.not_false, Bool.false_eq_true, reduceIte, Int.reduceLT, Int.reduceLE, Int.reduceEq, Int.reduceNeg, String.reduceEq, decide_true, decide_false, ci0, ci1, ci2, ci3, ci4, ci5, dAt_0, dAt_1, dAt_2, dAt_3] <;> rfl) (seq_nx (by simp only [fnD, gNx, gSeq, gSet, gSetO, ownAt, gApp, gRev, gPut, frz, gFrz, gRet, gExpr, gIf, gExc, asL, eVar, eC, eOp, eUn, toB, tB, tAndB, tOrB, tNotB, eAnd, eOr, eNot, eChain, aNil, aCons, eTup, oLst, eO, eCall, oUn, oSl, rNone, rSome, toI, dCut, eLenO, eIxO, sBind_ok, sBind_exc, sBind_stk, Res.bind_ok, Res.bind_exc, Res.bind_stk, SRes.thn_nx, SRes.thn_rt, SRes.thn_exc, SRes.thn_stk, List.map_cons, List.map_nil, List.cons_append, List.nil_append, List.length_cons, List.length_nil, List.replicate_succ, List.replicate_zero, List.getElem?_cons_zero, List.getElem?_cons_succ, List.set_cons_zero, List.set_cons_succ, Nat.zero_add, Nat.reduceAdd, Nat.reduceSub, dAdd, dSub, dMul, dDiv, dMod, dNeg, dCmp, dLt, dLe, dGt, dGe, dEq, dNe, dEq?, dIsN, dNotN, dIsi, isTy, dLen, dIx_lst, dIx_tup, dIx_scr, dList, dRev, dInt, dMax2, dMin2, decide_eq_true_eq, if_true, if_false, Bool.not_true, Bool.not_false, Bool.false_eq_true, reduceIte, Int.reduceLT, Int.reduceLE, Int.reduceEq, Int.reduceNeg, String.reduceEq, decide_true, decide_false, ci0, ci1, ci2, ci3, ci4, ci5, dAt_0, dAt_1, dAt_2, dAt_3] <;> rfl) (seq_nx (by simp only [fnD, gNx, gSeq, gSet, gSetO, ownAt, gApp, gRev, gPut, frz, gFrz, gRet, gExpr, gIf, gExc, asL, eVar, eC, eOp, eUn, toB, tB, tAndB, tOrB, tNotB, eAnd, eOr, eNot, eChain, aNil, aCons, eTup, oLst, eO, eCall, oUn, oSl, rNone, rSome, toI, dCut, eLenO, eIxO, sBind_ok, sBind_exc, sBind_stk, Res.bind_ok, Res.bind_exc, Res.bind_stk, SRes.thn_nx, SRes.thn_rt, SRes.thn_exc, SRes.thn_stk, List.map_cons, List.map_nil, List.cons_append, List.nil_append, List.length_cons, List.length_nil, List.replicate_succ, List.replicate_zero, List.getElem?_cons_zero, List.getElem?_cons_succ, List.set_cons_zero, List.set_cons_succ, Nat.zero_add, Nat.reduceAdd, Nat.reduceSub, dAdd, dSub, dMul, dDiv, dMod, dNeg, dCmp, dLt, dLe, dGt, dGe, dEq, dNe, dEq?, dIsN, dNotN, dIsi, isTy, dLen, dIx_lst, dIx_tup, dIx_scr, dList, dRev, dInt, dMax2, dMin2, decide_eq_true_eq, if_true, if_false, Bool.not_true, Bool.not_false, Bool.false_eq_true, reduceIte, Int.reduceLT, Int.reduceLE, Int.reduceEq, Int.reduceNeg, String.reduceEq, decide_true, decide_false, ci0, ci1, ci2, ci3, ci4, ci5, dAt_0, dAt_1, dAt_2, dAt_3] <;> rfl) (seq_nx (by simp only [fnD, gNx, gSeq, gSet, gSetO, ownAt, gApp, gRev, gPut, frz, gFrz, gRet, gExpr, gIf, gExc, asL, eVar, eC, eOp, eUn, toB, tB, tAndB, tOrB, tNotB, eAnd, eOr, eNot, eChain, aNil, aCons, eTup, oLst, eO, eCall, oUn, oSl, rNone, rSome, toI, dCut, eLenO, eIxO, sBind_ok, sBind_exc, sBind_stk, Res.bind_ok, Res.bind_exc, Res.bind_stk, SRes.thn_nx, SRes.thn_rt, SRes.thn_exc, SRes.thn_stk, List.map_cons, List.map_nil, List.cons_append, List.nil_append, List.length_cons, List.length_nil, List.replicate_succ, List.replicate_zero, List.getElem?_cons_zero, List.getElem?_cons_succ, List.set_cons_zero, List.set_cons_succ, Nat.zero_add, Nat.reduceAdd, Nat.reduceSub, dAdd, dSub, dMul, dDiv, dMod, dNeg, dCmp, dLt, dLe, dGt, dGe, dEq, dNe, dEq?, dIsN, dNotN, dIsi, isTy, dLen, dIx_lst, dIx_tup, dIx_scr, dList, dRev, dInt, dMax2, dMin2, decide_eq_true_eq, if_true, if_false, Bool.not_true, Bool.not_false, Bool.false_eq_true, reduceIte, Int.reduceLT, Int.reduceLE, Int.reduceEq, Int.reduceNeg, String.reduceEq, decide_true, decide_false, ci0, ci1, ci2, ci3, ci4, ci5, dAt_0, dAt_1, dAt_2, dAt_3] <;> rfl) (seq_nx (by simp only [fnD, gNx, gSeq, gSet, gSetO, ownAt, gApp, gRev, gPut, frz, gFrz, gRet, gExpr, gIf, gExc, asL, eVar, eC, eOp, eUn, toB, tB, tAndB, tOrB, tNotB, eAnd, eOr, eNot, eChain, aNil, aCons, eTup, oLst, eO, eCall, oUn, oSl, rNone, rSome, toI, dCut, eLenO, eIxO, sBind_ok, sBind_exc, sBind_stk, Res.bind_ok, Res.bind_exc, Res.bind_stk, SRes.thn_nx, SRes.thn_rt, SRes.thn_exc, SRes.thn_stk, List.map_cons, List.map_nil, List.cons_append, List.nil_append, List.length_cons, List.length_nil, List.replicate_succ, List.replicate_zero, List.getElem?_cons_zero, List.getElem?_cons_succ, List.set_cons_zero, List.set_cons_succ, Nat.zero_add, Nat.reduceAdd, Nat.reduceSub, dAdd, dSub, dMul, dDiv, dMod, dNeg, dCmp, dLt, dLe, dGt, dGe, dEq, dNe, dEq?, dIsN, dNotN, dIsi, isTy, dLen, dIx_lst, dIx_tup, dIx_scr, dList, dRev, dInt, dMax2, dMin2, decide_eq_true_eq, if_true, if_false, Bool.not_true, Bool.not_false, Bool.false_eq_true, reduceIte, Int.reduceLT, Int.reduceLE, Int.reduceEq, Int.reduceNeg, String.reduceEq, decide_true, decide_false, ci0, ci1, ci2, ci3, ci4, ci5, dAt_0, dAt_1, dAt_2, dAt_3, f0] <;> rfl) (seq_nx (by simp only [fnD, gNx, gSeq, gSet, gSetO, ownAt, gApp, gRev, gPut, frz, gFrz, gRet, gExpr, gIf, gExc, asL, eVar, eC, eOp, eUn, toB, tB, tAndB, tOrB, tNotB, eAnd, eOr, eNot, eChain, aNil, aCons, eTup, oLst, eO, eCall, oUn, oSl, rNone, rSome, toI, dCut, eLenO, eIxO, sBind_ok, sBind_exc, sBind_stk, Res.bind_ok, Res.bind_exc, Res.bind_stk, SRes.thn_nx, SRes.thn_rt, SRes.thn_exc, SRes.thn_stk, List.map_cons, List.map_nil, List.cons_append, List.nil_append, List.length_cons, List.length_nil, List.replicate_succ, List.replicate_zero, List.getElem?_cons_zero, List.getElem?_cons_succ, List.set_cons_zero, List.set_cons_succ, Nat.zero_add, Nat.reduceAdd, Nat.reduceSub, dAdd, dSub, dMul, dDiv, dMod, dNeg, dCmp, dLt, dLe, dGt, dGe, dEq, dNe, dEq?, dIsN, dNotN, dIsi, isTy, dLen, dIx_lst, dIx_tup, dIx_scr, dList, dRev, dInt, dMax2, dMin2, decide_eq_true_eq, if_true, if_false, Bool.not_true, Bool.not_false, Bool.false_eq_true, reduceIte, Int.reduceLT, Int.reduceLE, Int.reduceEq, Int.reduceNeg, String.reduceEq, decide_true, decide_false, ci0, ci1, ci2, ci3, ci4, ci5, dAt_0, dAt_1, dAt_2, dAt_3] <;> rfl) (seq_nx (by simp only [fnD, gNx, gSeq, gSet, gSetO, ownAt, gApp, gRev, gPut, frz, gFrz, gRet, gExpr, gIf, gExc, asL, eVar, eC, eOp, eUn, toB, tB, tAndB, tOrB, tNotB, eAnd, eOr, eNot, eChain, aNil, aCons, eTup, oLst, eO, eCall, oUn, oSl, rNone, rSome, toI, dCut, eLenO, eIxO, sBind_ok, sBind_exc, sBind_stk, Res.bind_ok, Res.bind_exc, Res.bind_stk, SRes.thn_nx, SRes.thn_rt, SRes.thn_exc, SRes.thn_stk, List.map_cons, List.map_nil, List.cons_append, List.nil_append, List.length_cons, List.length_nil, List.replicate_succ, List.replicate_zero, List.getElem?_cons_zero, List.getElem?_cons_succ, List.set_cons_zero, List.set_cons_succ, Nat.zero_add, Nat.reduceAdd, Nat.reduceSub, dAdd, dSub, dMul, dDiv, dMod, dNeg, dCmp, dLt, dLe, dGt, dGe, dEq, dNe, dEq?, dIsN, dNotN, dIsi, isTy, dLen, dIx_lst, dIx_tup, dIx_scr, dList, dRev, dInt, dMax2, dMin2, decide_eq_true_eq, if_true, if_false, Bool.not_true, Bool.not_false, Bool.false_eq_true, reduceIte, Int.reduceLT, Int.reduceLE, Int.reduceEq, Int.reduceNeg, String.reduceEq, decide_true, decide_false, ci0, ci1, ci2, ci3, ci4, ci5, dAt_0, dAt_1, dAt_2, dAt_3] <;> rfl) (seq_nx (by simp only [fnD, gNx, gSeq, gSet, gSetO, ownAt, gApp, gRev, gPut, frz, gFrz, gRet, gExpr, gIf, gExc, asL, eVar, eC, eOp, eUn, toB, tB, tAndB, tOrB, tNotB, eAnd, eOr, eNot, eChain, aNil, aCons, eTup, oLst, eO, eCall, oUn, oSl, rNone, rSome, toI, dCut, eLenO, eIxO, sBind_ok, sBind_exc, sBind_stk, Res.bind_ok, Res.bind_exc, Res.bind_stk, SRes.thn_nx, SRes.thn_rt, SRes.thn_exc, SRes.thn_stk, List.map_cons, List.map_nil, List.cons_append, List.nil_append, List.length_cons, List.length_nil, List.replicate_succ, List.replicate_zero, List.getElem?_cons_zero, List.getElem?_cons_succ, List.set_cons_zero, List.set_cons_succ, Nat.zero_add, Nat.reduceAdd, Nat.reduceSub, dAdd, dSub, dMul, dDiv, dMod, dNeg, dCmp, dLt, dLe, dGt, dGe, dEq, dNe, dEq?, dIsN, dNotN, dIsi, isTy, dLen, dIx_lst, dIx_tup, dIx_scr, dList, dRev, dInt, dMax2, dMin2, decide_eq_true_eq, if_true, if_false, Bool.not_true, Bool.not_false, Bool.false_eq_true, reduceIte, Int.reduceLT, Int.reduceLE, Int.reduceEq, Int.reduceNeg, String.reduceEq, decide_true, decide_false, ci0, ci1, ci2, ci3, ci4, ci5, dAt_0, dAt_1, dAt_2, dAt_3] <;> rfl)
        (L _ _ _ _ [] _ _ (by rw [encs_len, f.len]) rfl hl Z))))))))
    | one w ss =>
      unfold Fits at f
      obtain ⟨p, r, rfl, f⟩ := f
      obtain ⟨s, hs, f⟩ := f.get
      unfold Good at g
      unfold dpt at hd
      have hp : p < ss.length := (List.getElem?_eq_some_iff.mp hs).1
      have hd2 := dpts_get hs
      unfold bitsS at hl ⊢
      simp only [Int.toNat_natCast, bitsA_get r hs] at hl ⊢
      have ih := law_bits_eq n s r (by omega) (g.2.2.2.2.get hs) f (by rw [List.length_append] at hl; omega) k (by omega)
      have e1 := dAt_get (encs_get hs)
      refine fnD_rt ?_
      unfold enc
      simp only [fnD, gNx, gSeq, gSet, gSetO, ownAt, gApp, gRev, gPut, frz, gFrz, gRet, gExpr, gIf, gExc, asL, eVar, eC, eOp, eUn, toB, tB, tAndB, tOrB, tNotB, eAnd, eOr, eNot, eChain, aNil, aCons, eTup, oLst, eO, eCall, oUn, oSl, rNone, rSome, toI, dCut, eLenO, eIxO, sBind_ok, sBind_exc, sBind_stk, Res.bind_ok, Res.bind_exc, Res.bind_stk, SRes.thn_nx, SRes.thn_rt, SRes.thn_exc, SRes.thn_stk, List.map_cons, List.map_nil, List.cons_append, List.nil_append, List.length_cons, List.length_nil, List.replicate_succ, List.replicate_zero, List.getElem?_cons_zero, List.getElem?_cons_succ, List.set_cons_zero, List.set_cons_succ, Nat.zero_add, Nat.reduceAdd, Nat.reduceSub, dAdd, dSub, dMul, dDiv, dMod, dNeg, dCmp, dLt, dLe, dGt, dGe, dEq, dNe, dEq?, dIsN, dNotN, dIsi, isTy, dLen, dIx_lst, dIx_tup, dIx_scr, dList, dRev, dInt, dMax2, dMin2, decide_eq_true_eq, if_true, if_false, Bool.not_true, Bool.not_false, Bool.false_eq_true, reduceIte, Int.reduceLT, Int.reduceLE, Int.reduceEq, Int.reduceNeg, String.reduceEq, decide_true, decide_false, ci0, ci1, ci2, ci3, ci4, ci5, dAt_0, dAt_1, dAt_2, dAt_3, e1, ih, B p w (by omega), dI_len, ← dI_app, fit_app hl]
end
end Pu

namespace Pu
open PySem L2
theorem dv_nat (n : Nat) (a : 0 < n) (b : n < 1000) : divOk (n : Int) = true := divOk_lt (by omega) (Nat.lt_of_lt_of_le (by omega : ((n : Nat) : Int).natAbs < 2 ^ 10) (Nat.pow_le_pow_right (by omega) (by omega)))
theorem dv2 : divOk 2 = true := dv_nat 2 (by omega) (by omega)
theorem dv3 : divOk 3 = true := dv_nat 3 (by omega) (by omega)
theorem dv4 : divOk 4 = true := dv_nat 4 (by omega) (by omega)
theorem dv5 : divOk 5 = true := dv_nat 5 (by omega) (by omega)
theorem dv7 : divOk 7 = true := dv_nat 7 (by omega) (by omega)
theorem dv12 : divOk 12 = true := dv_nat 12 (by omega) (by omega)
theorem dv60 : divOk 60 = true := dv_nat 60 (by omega) (by omega)
theorem dv64 : divOk 64 = true := dv_nat 64 (by omega) (by omega)
theorem fz0 : fits 0 = true := fits_num
theorem fz1 : fits 1 = true := fits_num
theorem fz2 : fits 2 = true := fits_num
theorem fz3 : fits 3 = true := fits_num
theorem fz4 : fits 4 = true := fits_num
theorem fz5 : fits 5 = true := fits_num
theorem fz11 : fits 11 = true := fits_num
theorem mulOk2 {a : Int} : mulOk 2 a = true := mulOk_l (by decide)
theorem mulOk7 {a : Int} : mulOk 7 a = true := mulOk_l (by decide)
def RT (r : SRes) (Q : D → Prop) : Prop := ∃ d, r = .rt d ∧ Q d
section
variable {g h : Rho → SRes} {ρ ρ' : Rho} {d : D} {c : Rho → Res Bool} {f : Rho → Res D} {Q : D → Prop}
theorem RT.sq (h1 : g ρ = .nx ρ') (h2 : RT (h ρ') Q) : RT (gSeq g h ρ) Q := by
  obtain ⟨d, e, q⟩ := h2
  exact ⟨d, seq_nx h1 e, q⟩
theorem RT.sr (h1 : RT (g ρ) Q) : RT (gSeq g h ρ) Q := by
  obtain ⟨d, e, q⟩ := h1
  exact ⟨d, seq_rt e, q⟩
theorem RT.ift (h1 : c ρ = .ok true) (h2 : RT (g ρ) Q) : RT (gIf c g h ρ) Q := by
  obtain ⟨d, e, q⟩ := h2
  exact ⟨d, (if_t h1).trans e, q⟩
theorem RT.iff (h1 : c ρ = .ok false) (h2 : RT (h ρ) Q) : RT (gIf c g h ρ) Q := by
  obtain ⟨d, e, q⟩ := h2
  exact ⟨d, (if_f h1).trans e, q⟩
theorem RT.ret (h1 : f ρ = .ok d) (q : Q d) : RT (gRet f ρ) Q := ⟨d, ret_ok h1, q⟩
theorem if_n (h1 : c ρ = .ok false) : gIf c g gNx ρ = .nx ρ := (if_f h1).trans rfl
end
theorem fnD_RT {m : Nat} {g : Rho → SRes} {ds : List D} {Q : D → Prop} (h : RT (g (ds.map Slt.v ++ List.replicate (m - ds.length) .un)) Q) : ∃ d, fnD m g ds = .ok d ∧ Q d := by
  obtain ⟨d, e, q⟩ := h
  exact ⟨d, fnD_rt e, q⟩
def Sh.leaf : Sh → Prop
  | .num _ _ _ => True
  | .pad _ => True
  | _ => False
section
variable {ca rm : List D → Res D} {ns : List Int} {c : Int → Int} (hc : ∀ k : Int, 0 ≤ k → ca [.scr ns, .int k] = .ok (.int (c k))) (hr : ∀ w : Nat, w ≤ 64 → rm [.int w] = .ok (.int (2 ^ w)))
theorem p20 : dPow (.int 10) (.int 20) = .ok (.int 100000000000000000000) := by
  have a : powOk 10 20 = true := by decide
  simp only [dPow, a, if_true]
  rfl
include hc hr in
theorem leaf_eq (k : Int) (hk : 0 ≤ k) : ∃ d, S_law_leaf ca rm [.scr ns, .int k] = .ok d ∧ ∃ s, d = enc s ∧ Good s ∧ s.leaf := by
  have h0 := hc (2 * k) (by omega)
  have h1 := hc (2 * k + 1) (by omega)
  generalize c (2 * k) = c0 at h0
  generalize c (2 * k + 1) = B at h1
  refine fnD_RT (.sq (by simp only [fnD, gNx, gSeq, gSet, gSetO, ownAt, gApp, gRev, gPut, frz, gFrz, gRet, gExpr, gIf, gExc, asL, eVar, eC, eOp, eUn, toB, tB, tAndB, tOrB, tNotB, eAnd, eOr, eNot, eChain, aNil, aCons, eTup, oLst, eO, eCall, oUn, oSl, rNone, rSome, toI, dCut, eLenO, eIxO, sBind_ok, sBind_exc, sBind_stk, Res.bind_ok, Res.bind_exc, Res.bind_stk, SRes.thn_nx, SRes.thn_rt, SRes.thn_exc, SRes.thn_stk, List.map_cons, List.map_nil, List.cons_append, List.nil_append, List.length_cons, List.length_nil, List.replicate_succ, List.replicate_zero, List.getElem?_cons_zero, List.getElem?_cons_succ, List.set_cons_zero, List.set_cons_succ, Nat.zero_add, Nat.reduceAdd, Nat.reduceSub, dAdd, dSub, dMul, dDiv, dMod, dNeg, dCmp, dLt, dLe, dGt, dGe, dEq, dNe, dEq?, dIsN, dNotN, dIsi, isTy, dLen, dIx_lst, dIx_tup, dIx_scr, dList, dRev, dInt, dMax2, dMin2, decide_eq_true_eq, if_true, if_false, Bool.not_true, Bool.not_false, Bool.false_eq_true, reduceIte, Int.reduceLT, Int.reduceLE, Int.reduceEq, Int.reduceNeg, String.reduceEq, decide_true, decide_false, ci0, ci1, ci2, ci3, ci4, ci5, dAt_0, dAt_1, dAt_2, dAt_3, dv2, dv3, dv4, dv5, dv7, dv12, dv60, dv64, fz0, fz1, fz2, fz3, fz4, fz5, fz11, mulOk2, mulOk7, h0] <;> rfl) (.sq (by simp only [fnD, gNx, gSeq, gSet, gSetO, ownAt, gApp, gRev, gPut, frz, gFrz, gRet, gExpr, gIf, gExc, asL, eVar, eC, eOp, eUn, toB, tB, tAndB, tOrB, tNotB, eAnd, eOr, eNot, eChain, aNil, aCons, eTup, oLst, eO, eCall, oUn, oSl, rNone, rSome, toI, dCut, eLenO, eIxO, sBind_ok, sBind_exc, sBind_stk, Res.bind_ok, Res.bind_exc, Res.bind_stk, SRes.thn_nx, SRes.thn_rt, SRes.thn_exc, SRes.thn_stk, List.map_cons, List.map_nil, List.cons_append, List.nil_append, List.length_cons, List.length_nil, List.replicate_succ, List.replicate_zero, List.getElem?_cons_zero, List.getElem?_cons_succ, List.set_cons_zero, List.set_cons_succ, Nat.zero_add, Nat.reduceAdd, Nat.reduceSub, dAdd, dSub, dMul, dDiv, dMod, dNeg, dCmp, dLt, dLe, dGt, dGe, dEq, dNe, dEq?, dIsN, dNotN, dIsi, isTy, dLen, dIx_lst, dIx_tup, dIx_scr, dList, dRev, dInt, dMax2, dMin2, decide_eq_true_eq, if_true, if_false, Bool.not_true, Bool.not_false, Bool.false_eq_true, reduceIte, Int.reduceLT, Int.reduceLE, Int.reduceEq, Int.reduceNeg, String.reduceEq, decide_true, decide_false, ci0, ci1, ci2, ci3, ci4, ci5, dAt_0, dAt_1, dAt_2, dAt_3, dv2, dv3, dv4, dv5, dv7, dv12, dv60, dv64, fz0, fz1, fz2, fz3, fz4, fz5, fz11, mulOk2, mulOk7, h1] <;> rfl) (.sq (by simp only [fnD, gNx, gSeq, gSet, gSetO, ownAt, gApp, gRev, gPut, frz, gFrz, gRet, gExpr, gIf, gExc, asL, eVar, eC, eOp, eUn, toB, tB, tAndB, tOrB, tNotB, eAnd, eOr, eNot, eChain, aNil, aCons, eTup, oLst, eO, eCall, oUn, oSl, rNone, rSome, toI, dCut, eLenO, eIxO, sBind_ok, sBind_exc, sBind_stk, Res.bind_ok, Res.bind_exc, Res.bind_stk, SRes.thn_nx, SRes.thn_rt, SRes.thn_exc, SRes.thn_stk, List.map_cons, List.map_nil, List.cons_append, List.nil_append, List.length_cons, List.length_nil, List.replicate_succ, List.replicate_zero, List.getElem?_cons_zero, List.getElem?_cons_succ, List.set_cons_zero, List.set_cons_succ, Nat.zero_add, Nat.reduceAdd, Nat.reduceSub, dAdd, dSub, dMul, dDiv, dMod, dNeg, dCmp, dLt, dLe, dGt, dGe, dEq, dNe, dEq?, dIsN, dNotN, dIsi, isTy, dLen, dIx_lst, dIx_tup, dIx_scr, dList, dRev, dInt, dMax2, dMin2, decide_eq_true_eq, if_true, if_false, Bool.not_true, Bool.not_false, Bool.false_eq_true, reduceIte, Int.reduceLT, Int.reduceLE, Int.reduceEq, Int.reduceNeg, String.reduceEq, decide_true, decide_false, ci0, ci1, ci2, ci3, ci4, ci5, dAt_0, dAt_1, dAt_2, dAt_3, dv2, dv3, dv4, dv5, dv7, dv12, dv60, dv64, fz0, fz1, fz2, fz3, fz4, fz5, fz11, mulOk2, mulOk7] <;> rfl) (.sq (ifset (b := decide (B % 5 = 4)) (by simp only [fnD, gNx, gSeq, gSet, gSetO, ownAt, gApp, gRev, gPut, frz, gFrz, gRet, gExpr, gIf, gExc, asL, eVar, eC, eOp, eUn, toB, tB, tAndB, tOrB, tNotB, eAnd, eOr, eNot, eChain, aNil, aCons, eTup, oLst, eO, eCall, oUn, oSl, rNone, rSome, toI, dCut, eLenO, eIxO, sBind_ok, sBind_exc, sBind_stk, Res.bind_ok, Res.bind_exc, Res.bind_stk, SRes.thn_nx, SRes.thn_rt, SRes.thn_exc, SRes.thn_stk, List.map_cons, List.map_nil, List.cons_append, List.nil_append, List.length_cons, List.length_nil, List.replicate_succ, List.replicate_zero, List.getElem?_cons_zero, List.getElem?_cons_succ, List.set_cons_zero, List.set_cons_succ, Nat.zero_add, Nat.reduceAdd, Nat.reduceSub, dAdd, dSub, dMul, dDiv, dMod, dNeg, dCmp, dLt, dLe, dGt, dGe, dEq, dNe, dEq?, dIsN, dNotN, dIsi, isTy, dLen, dIx_lst, dIx_tup, dIx_scr, dList, dRev, dInt, dMax2, dMin2, decide_eq_true_eq, if_true, if_false, Bool.not_true, Bool.not_false, Bool.false_eq_true, reduceIte, Int.reduceLT, Int.reduceLE, Int.reduceEq, Int.reduceNeg, String.reduceEq, decide_true, decide_false, ci0, ci1, ci2, ci3, ci4, ci5, dAt_0, dAt_1, dAt_2, dAt_3, dv2, dv3, dv4, dv5, dv7, dv12, dv60, dv64, fz0, fz1, fz2, fz3, fz4, fz5, fz11, mulOk2, mulOk7] <;> rfl) (fun _ => by simp only [fnD, gNx, gSeq, gSet, gSetO, ownAt, gApp, gRev, gPut, frz, gFrz, gRet, gExpr, gIf, gExc, asL, eVar, eC, eOp, eUn, toB, tB, tAndB, tOrB, tNotB, eAnd, eOr, eNot, eChain, aNil, aCons, eTup, oLst, eO, eCall, oUn, oSl, rNone, rSome, toI, dCut, eLenO, eIxO, sBind_ok, sBind_exc, sBind_stk, Res.bind_ok, Res.bind_exc, Res.bind_stk, SRes.thn_nx, SRes.thn_rt, SRes.thn_exc, SRes.thn_stk, List.map_cons, List.map_nil, List.cons_append, List.nil_append, List.length_cons, List.length_nil, List.replicate_succ, List.replicate_zero, List.getElem?_cons_zero, List.getElem?_cons_succ, List.set_cons_zero, List.set_cons_succ, Nat.zero_add, Nat.reduceAdd, Nat.reduceSub, dAdd, dSub, dMul, dDiv, dMod, dNeg, dCmp, dLt, dLe, dGt, dGe, dEq, dNe, dEq?, dIsN, dNotN, dIsi, isTy, dLen, dIx_lst, dIx_tup, dIx_scr, dList, dRev, dInt, dMax2, dMin2, decide_eq_true_eq, if_true, if_false, Bool.not_true, Bool.not_false, Bool.false_eq_true, reduceIte, Int.reduceLT, Int.reduceLE, Int.reduceEq, Int.reduceNeg, String.reduceEq, decide_true, decide_false, ci0, ci1, ci2, ci3, ci4, ci5, dAt_0, dAt_1, dAt_2, dAt_3, dv2, dv3, dv4, dv5, dv7, dv12, dv60, dv64, fz0, fz1, fz2, fz3, fz4, fz5, fz11, mulOk2, mulOk7] <;> rfl) rfl) ?_))))
  obtain ⟨W, eW, hW⟩ : ∃ W : Nat, (if decide (B % 5 = 4) = true then (c0 / 7 + 7 * B) % 65 else c0 / 7 / 3 % 9) = (W : Int) ∧ W ≤ 64 :=
    ⟨(if decide (B % 5 = 4) = true then (c0 / 7 + 7 * B) % 65 else c0 / 7 / 3 % 9).toNat, by split <;> omega, by split <;> omega⟩
  rw [eW]
  have hrW := hr W hW
  have hpos := two_pos W
  by_cases hp : c0 / 7 % 3 = 2
  · refine .sr (.ift (by simp only [fnD, gNx, gSeq, gSet, gSetO, ownAt, gApp, gRev, gPut, frz, gFrz, gRet, gExpr, gIf, gExc, asL, eVar, eC, eOp, eUn, toB, tB, tAndB, tOrB, tNotB, eAnd, eOr, eNot, eChain, aNil, aCons, eTup, oLst, eO, eCall, oUn, oSl, rNone, rSome, toI, dCut, eLenO, eIxO, sBind_ok, sBind_exc, sBind_stk, Res.bind_ok, Res.bind_exc, Res.bind_stk, SRes.thn_nx, SRes.thn_rt, SRes.thn_exc, SRes.thn_stk, List.map_cons, List.map_nil, List.cons_append, List.nil_append, List.length_cons, List.length_nil, List.replicate_succ, List.replicate_zero, List.getElem?_cons_zero, List.getElem?_cons_succ, List.set_cons_zero, List.set_cons_succ, Nat.zero_add, Nat.reduceAdd, Nat.reduceSub, dAdd, dSub, dMul, dDiv, dMod, dNeg, dCmp, dLt, dLe, dGt, dGe, dEq, dNe, dEq?, dIsN, dNotN, dIsi, isTy, dLen, dIx_lst, dIx_tup, dIx_scr, dList, dRev, dInt, dMax2, dMin2, decide_eq_true_eq, if_true, if_false, Bool.not_true, Bool.not_false, Bool.false_eq_true, reduceIte, Int.reduceLT, Int.reduceLE, Int.reduceEq, Int.reduceNeg, String.reduceEq, decide_true, decide_false, ci0, ci1, ci2, ci3, ci4, ci5, dAt_0, dAt_1, dAt_2, dAt_3, dv2, dv3, dv4, dv5, dv7, dv12, dv60, dv64, fz0, fz1, fz2, fz3, fz4, fz5, fz11, mulOk2, mulOk7, hp, decide_true]) (.ret (by simp only [fnD, gNx, gSeq, gSet, gSetO, ownAt, gApp, gRev, gPut, frz, gFrz, gRet, gExpr, gIf, gExc, asL, eVar, eC, eOp, eUn, toB, tB, tAndB, tOrB, tNotB, eAnd, eOr, eNot, eChain, aNil, aCons, eTup, oLst, eO, eCall, oUn, oSl, rNone, rSome, toI, dCut, eLenO, eIxO, sBind_ok, sBind_exc, sBind_stk, Res.bind_ok, Res.bind_exc, Res.bind_stk, SRes.thn_nx, SRes.thn_rt, SRes.thn_exc, SRes.thn_stk, List.map_cons, List.map_nil, List.cons_append, List.nil_append, List.length_cons, List.length_nil, List.replicate_succ, List.replicate_zero, List.getElem?_cons_zero, List.getElem?_cons_succ, List.set_cons_zero, List.set_cons_succ, Nat.zero_add, Nat.reduceAdd, Nat.reduceSub, dAdd, dSub, dMul, dDiv, dMod, dNeg, dCmp, dLt, dLe, dGt, dGe, dEq, dNe, dEq?, dIsN, dNotN, dIsi, isTy, dLen, dIx_lst, dIx_tup, dIx_scr, dList, dRev, dInt, dMax2, dMin2, decide_eq_true_eq, if_true, if_false, Bool.not_true, Bool.not_false, Bool.false_eq_true, reduceIte, Int.reduceLT, Int.reduceLE, Int.reduceEq, Int.reduceNeg, String.reduceEq, decide_true, decide_false, ci0, ci1, ci2, ci3, ci4, ci5, dAt_0, dAt_1, dAt_2, dAt_3, dv2, dv3, dv4, dv5, dv7, dv12, dv60, dv64, fz0, fz1, fz2, fz3, fz4, fz5, fz11, mulOk2, mulOk7] <;> rfl) ⟨.pad W, by unfold enc; rfl, by unfold Good; exact hW, by unfold Sh.leaf; trivial⟩))
  · refine .sq (if_n (by simp only [fnD, gNx, gSeq, gSet, gSetO, ownAt, gApp, gRev, gPut, frz, gFrz, gRet, gExpr, gIf, gExc, asL, eVar, eC, eOp, eUn, toB, tB, tAndB, tOrB, tNotB, eAnd, eOr, eNot, eChain, aNil, aCons, eTup, oLst, eO, eCall, oUn, oSl, rNone, rSome, toI, dCut, eLenO, eIxO, sBind_ok, sBind_exc, sBind_stk, Res.bind_ok, Res.bind_exc, Res.bind_stk, SRes.thn_nx, SRes.thn_rt, SRes.thn_exc, SRes.thn_stk, List.map_cons, List.map_nil, List.cons_append, List.nil_append, List.length_cons, List.length_nil, List.replicate_succ, List.replicate_zero, List.getElem?_cons_zero, List.getElem?_cons_succ, List.set_cons_zero, List.set_cons_succ, Nat.zero_add, Nat.reduceAdd, Nat.reduceSub, dAdd, dSub, dMul, dDiv, dMod, dNeg, dCmp, dLt, dLe, dGt, dGe, dEq, dNe, dEq?, dIsN, dNotN, dIsi, isTy, dLen, dIx_lst, dIx_tup, dIx_scr, dList, dRev, dInt, dMax2, dMin2, decide_eq_true_eq, if_true, if_false, Bool.not_true, Bool.not_false, Bool.false_eq_true, reduceIte, Int.reduceLT, Int.reduceLE, Int.reduceEq, Int.reduceNeg, String.reduceEq, decide_true, decide_false, ci0, ci1, ci2, ci3, ci4, ci5, dAt_0, dAt_1, dAt_2, dAt_3, dv2, dv3, dv4, dv5, dv7, dv12, dv60, dv64, fz0, fz1, fz2, fz3, fz4, fz5, fz11, mulOk2, mulOk7, hp, decide_false])) (.sq (by simp only [fnD, gNx, gSeq, gSet, gSetO, ownAt, gApp, gRev, gPut, frz, gFrz, gRet, gExpr, gIf, gExc, asL, eVar, eC, eOp, eUn, toB, tB, tAndB, tOrB, tNotB, eAnd, eOr, eNot, eChain, aNil, aCons, eTup, oLst, eO, eCall, oUn, oSl, rNone, rSome, toI, dCut, eLenO, eIxO, sBind_ok, sBind_exc, sBind_stk, Res.bind_ok, Res.bind_exc, Res.bind_stk, SRes.thn_nx, SRes.thn_rt, SRes.thn_exc, SRes.thn_stk, List.map_cons, List.map_nil, List.cons_append, List.nil_append, List.length_cons, List.length_nil, List.replicate_succ, List.replicate_zero, List.getElem?_cons_zero, List.getElem?_cons_succ, List.set_cons_zero, List.set_cons_succ, Nat.zero_add, Nat.reduceAdd, Nat.reduceSub, dAdd, dSub, dMul, dDiv, dMod, dNeg, dCmp, dLt, dLe, dGt, dGe, dEq, dNe, dEq?, dIsN, dNotN, dIsi, isTy, dLen, dIx_lst, dIx_tup, dIx_scr, dList, dRev, dInt, dMax2, dMin2, decide_eq_true_eq, if_true, if_false, Bool.not_true, Bool.not_false, Bool.false_eq_true, reduceIte, Int.reduceLT, Int.reduceLE, Int.reduceEq, Int.reduceNeg, String.reduceEq, decide_true, decide_false, ci0, ci1, ci2, ci3, ci4, ci5, dAt_0, dAt_1, dAt_2, dAt_3, dv2, dv3, dv4, dv5, dv7, dv12, dv60, dv64, fz0, fz1, fz2, fz3, fz4, fz5, fz11, mulOk2, mulOk7, hrW] <;> rfl) (.sq (ifset (b := decide (B % 3 = 1)) (x := B / 12 % 2 ^ W) (y := 2 ^ W - 1) (by simp only [fnD, gNx, gSeq, gSet, gSetO, ownAt, gApp, gRev, gPut, frz, gFrz, gRet, gExpr, gIf, gExc, asL, eVar, eC, eOp, eUn, toB, tB, tAndB, tOrB, tNotB, eAnd, eOr, eNot, eChain, aNil, aCons, eTup, oLst, eO, eCall, oUn, oSl, rNone, rSome, toI, dCut, eLenO, eIxO, sBind_ok, sBind_exc, sBind_stk, Res.bind_ok, Res.bind_exc, Res.bind_stk, SRes.thn_nx, SRes.thn_rt, SRes.thn_exc, SRes.thn_stk, List.map_cons, List.map_nil, List.cons_append, List.nil_append, List.length_cons, List.length_nil, List.replicate_succ, List.replicate_zero, List.getElem?_cons_zero, List.getElem?_cons_succ, List.set_cons_zero, List.set_cons_succ, Nat.zero_add, Nat.reduceAdd, Nat.reduceSub, dAdd, dSub, dMul, dDiv, dMod, dNeg, dCmp, dLt, dLe, dGt, dGe, dEq, dNe, dEq?, dIsN, dNotN, dIsi, isTy, dLen, dIx_lst, dIx_tup, dIx_scr, dList, dRev, dInt, dMax2, dMin2, decide_eq_true_eq, if_true, if_false, Bool.not_true, Bool.not_false, Bool.false_eq_true, reduceIte, Int.reduceLT, Int.reduceLE, Int.reduceEq, Int.reduceNeg, String.reduceEq, decide_true, decide_false, ci0, ci1, ci2, ci3, ci4, ci5, dAt_0, dAt_1, dAt_2, dAt_3, dv2, dv3, dv4, dv5, dv7, dv12, dv60, dv64, fz0, fz1, fz2, fz3, fz4, fz5, fz11, mulOk2, mulOk7] <;> rfl) (fun _ => ?_) rfl) ?_))
    · have e : (2 ^ W - 1 + 1 : Int) = 2 ^ W := by omega
      simp only [fnD, gNx, gSeq, gSet, gSetO, ownAt, gApp, gRev, gPut, frz, gFrz, gRet, gExpr, gIf, gExc, asL, eVar, eC, eOp, eUn, toB, tB, tAndB, tOrB, tNotB, eAnd, eOr, eNot, eChain, aNil, aCons, eTup, oLst, eO, eCall, oUn, oSl, rNone, rSome, toI, dCut, eLenO, eIxO, sBind_ok, sBind_exc, sBind_stk, Res.bind_ok, Res.bind_exc, Res.bind_stk, SRes.thn_nx, SRes.thn_rt, SRes.thn_exc, SRes.thn_stk, List.map_cons, List.map_nil, List.cons_append, List.nil_append, List.length_cons, List.length_nil, List.replicate_succ, List.replicate_zero, List.getElem?_cons_zero, List.getElem?_cons_succ, List.set_cons_zero, List.set_cons_succ, Nat.zero_add, Nat.reduceAdd, Nat.reduceSub, dAdd, dSub, dMul, dDiv, dMod, dNeg, dCmp, dLt, dLe, dGt, dGe, dEq, dNe, dEq?, dIsN, dNotN, dIsi, isTy, dLen, dIx_lst, dIx_tup, dIx_scr, dList, dRev, dInt, dMax2, dMin2, decide_eq_true_eq, if_true, if_false, Bool.not_true, Bool.not_false, Bool.false_eq_true, reduceIte, Int.reduceLT, Int.reduceLE, Int.reduceEq, Int.reduceNeg, String.reduceEq, decide_true, decide_false, ci0, ci1, ci2, ci3, ci4, ci5, dAt_0, dAt_1, dAt_2, dAt_3, dv2, dv3, dv4, dv5, dv7, dv12, dv60, dv64, fz0, fz1, fz2, fz3, fz4, fz5, fz11, mulOk2, mulOk7, e, hpos]
    obtain ⟨S, eS, hS0, hS1⟩ : ∃ S : Int, (if decide (B % 3 = 1) = true then B / 12 % 2 ^ W else 2 ^ W - 1) = S ∧ 0 ≤ S ∧ S < 2 ^ W := by
      refine ⟨_, rfl, ?_, ?_⟩
      · split
        · exact Int.emod_nonneg _ (by omega)
        · omega
      · split
        · exact Int.emod_lt_of_pos _ hpos
        · omega
    rw [eS]
    refine .sq (ifset (b := decide (B % 3 = 2)) (x := S / 2 + (if S / 2 < 1 then S / 2 else 1)) (y := S) (by simp only [fnD, gNx, gSeq, gSet, gSetO, ownAt, gApp, gRev, gPut, frz, gFrz, gRet, gExpr, gIf, gExc, asL, eVar, eC, eOp, eUn, toB, tB, tAndB, tOrB, tNotB, eAnd, eOr, eNot, eChain, aNil, aCons, eTup, oLst, eO, eCall, oUn, oSl, rNone, rSome, toI, dCut, eLenO, eIxO, sBind_ok, sBind_exc, sBind_stk, Res.bind_ok, Res.bind_exc, Res.bind_stk, SRes.thn_nx, SRes.thn_rt, SRes.thn_exc, SRes.thn_stk, List.map_cons, List.map_nil, List.cons_append, List.nil_append, List.length_cons, List.length_nil, List.replicate_succ, List.replicate_zero, List.getElem?_cons_zero, List.getElem?_cons_succ, List.set_cons_zero, List.set_cons_succ, Nat.zero_add, Nat.reduceAdd, Nat.reduceSub, dAdd, dSub, dMul, dDiv, dMod, dNeg, dCmp, dLt, dLe, dGt, dGe, dEq, dNe, dEq?, dIsN, dNotN, dIsi, isTy, dLen, dIx_lst, dIx_tup, dIx_scr, dList, dRev, dInt, dMax2, dMin2, decide_eq_true_eq, if_true, if_false, Bool.not_true, Bool.not_false, Bool.false_eq_true, reduceIte, Int.reduceLT, Int.reduceLE, Int.reduceEq, Int.reduceNeg, String.reduceEq, decide_true, decide_false, ci0, ci1, ci2, ci3, ci4, ci5, dAt_0, dAt_1, dAt_2, dAt_3, dv2, dv3, dv4, dv5, dv7, dv12, dv60, dv64, fz0, fz1, fz2, fz3, fz4, fz5, fz11, mulOk2, mulOk7] <;> rfl) (fun _ => ?_) rfl) ?_
    · simp only [fnD, gNx, gSeq, gSet, gSetO, ownAt, gApp, gRev, gPut, frz, gFrz, gRet, gExpr, gIf, gExc, asL, eVar, eC, eOp, eUn, toB, tB, tAndB, tOrB, tNotB, eAnd, eOr, eNot, eChain, aNil, aCons, eTup, oLst, eO, eCall, oUn, oSl, rNone, rSome, toI, dCut, eLenO, eIxO, sBind_ok, sBind_exc, sBind_stk, Res.bind_ok, Res.bind_exc, Res.bind_stk, SRes.thn_nx, SRes.thn_rt, SRes.thn_exc, SRes.thn_stk, List.map_cons, List.map_nil, List.cons_append, List.nil_append, List.length_cons, List.length_nil, List.replicate_succ, List.replicate_zero, List.getElem?_cons_zero, List.getElem?_cons_succ, List.set_cons_zero, List.set_cons_succ, Nat.zero_add, Nat.reduceAdd, Nat.reduceSub, dAdd, dSub, dMul, dDiv, dMod, dNeg, dCmp, dLt, dLe, dGt, dGe, dEq, dNe, dEq?, dIsN, dNotN, dIsi, isTy, dLen, dIx_lst, dIx_tup, dIx_scr, dList, dRev, dInt, dMax2, dMin2, decide_eq_true_eq, if_true, if_false, Bool.not_true, Bool.not_false, Bool.false_eq_true, reduceIte, Int.reduceLT, Int.reduceLE, Int.reduceEq, Int.reduceNeg, String.reduceEq, decide_true, decide_false, ci0, ci1, ci2, ci3, ci4, ci5, dAt_0, dAt_1, dAt_2, dAt_3, dv2, dv3, dv4, dv5, dv7, dv12, dv60, dv64, fz0, fz1, fz2, fz3, fz4, fz5, fz11, mulOk2, mulOk7]
    obtain ⟨T, eT, hT0, hT1⟩ : ∃ T : Int, (if decide (B % 3 = 2) = true then S / 2 + (if S / 2 < 1 then S / 2 else 1) else S) = T ∧ 0 ≤ T ∧ T < 2 ^ W := by
      refine ⟨_, rfl, ?_, ?_⟩ <;> (split <;> (try split) <;> omega)
    rw [eT]
    have hT2 : T < 18446744073709551616 := by
      have e : (2 ^ W : Int) = ((2 ^ W : Nat) : Int) := by simp
      have := Nat.pow_le_pow_right (show 0 < 2 by omega) hW
      omega
    refine .sq (by simp only [fnD, gNx, gSeq, gSet, gSetO, ownAt, gApp, gRev, gPut, frz, gFrz, gRet, gExpr, gIf, gExc, asL, eVar, eC, eOp, eUn, toB, tB, tAndB, tOrB, tNotB, eAnd, eOr, eNot, eChain, aNil, aCons, eTup, oLst, eO, eCall, oUn, oSl, rNone, rSome, toI, dCut, eLenO, eIxO, sBind_ok, sBind_exc, sBind_stk, Res.bind_ok, Res.bind_exc, Res.bind_stk, SRes.thn_nx, SRes.thn_rt, SRes.thn_exc, SRes.thn_stk, List.map_cons, List.map_nil, List.cons_append, List.nil_append, List.length_cons, List.length_nil, List.replicate_succ, List.replicate_zero, List.getElem?_cons_zero, List.getElem?_cons_succ, List.set_cons_zero, List.set_cons_succ, Nat.zero_add, Nat.reduceAdd, Nat.reduceSub, dAdd, dSub, dMul, dDiv, dMod, dNeg, dCmp, dLt, dLe, dGt, dGe, dEq, dNe, dEq?, dIsN, dNotN, dIsi, isTy, dLen, dIx_lst, dIx_tup, dIx_scr, dList, dRev, dInt, dMax2, dMin2, decide_eq_true_eq, if_true, if_false, Bool.not_true, Bool.not_false, Bool.false_eq_true, reduceIte, Int.reduceLT, Int.reduceLE, Int.reduceEq, Int.reduceNeg, String.reduceEq, decide_true, decide_false, ci0, ci1, ci2, ci3, ci4, ci5, dAt_0, dAt_1, dAt_2, dAt_3, dv2, dv3, dv4, dv5, dv7, dv12, dv60, dv64, fz0, fz1, fz2, fz3, fz4, fz5, fz11, mulOk2, mulOk7] <;> rfl) (.sq (ifset (b := decide (B / 3 % 4 = 1)) (x := B / 12 % (200000000000000000000 - T + 1) - 100000000000000000000) (y := B / 12 % 41 - 20) (by simp only [fnD, gNx, gSeq, gSet, gSetO, ownAt, gApp, gRev, gPut, frz, gFrz, gRet, gExpr, gIf, gExc, asL, eVar, eC, eOp, eUn, toB, tB, tAndB, tOrB, tNotB, eAnd, eOr, eNot, eChain, aNil, aCons, eTup, oLst, eO, eCall, oUn, oSl, rNone, rSome, toI, dCut, eLenO, eIxO, sBind_ok, sBind_exc, sBind_stk, Res.bind_ok, Res.bind_exc, Res.bind_stk, SRes.thn_nx, SRes.thn_rt, SRes.thn_exc, SRes.thn_stk, List.map_cons, List.map_nil, List.cons_append, List.nil_append, List.length_cons, List.length_nil, List.replicate_succ, List.replicate_zero, List.getElem?_cons_zero, List.getElem?_cons_succ, List.set_cons_zero, List.set_cons_succ, Nat.zero_add, Nat.reduceAdd, Nat.reduceSub, dAdd, dSub, dMul, dDiv, dMod, dNeg, dCmp, dLt, dLe, dGt, dGe, dEq, dNe, dEq?, dIsN, dNotN, dIsi, isTy, dLen, dIx_lst, dIx_tup, dIx_scr, dList, dRev, dInt, dMax2, dMin2, decide_eq_true_eq, if_true, if_false, Bool.not_true, Bool.not_false, Bool.false_eq_true, reduceIte, Int.reduceLT, Int.reduceLE, Int.reduceEq, Int.reduceNeg, String.reduceEq, decide_true, decide_false, ci0, ci1, ci2, ci3, ci4, ci5, dAt_0, dAt_1, dAt_2, dAt_3, dv2, dv3, dv4, dv5, dv7, dv12, dv60, dv64, fz0, fz1, fz2, fz3, fz4, fz5, fz11, mulOk2, mulOk7] <;> rfl) (fun _ => ?_) rfl) ?_)
    · have e : (2 * 100000000000000000000 : Int) = 200000000000000000000 := rfl
      have e2 : (0 : Int) < 200000000000000000000 - T + 1 := by omega
      simp only [fnD, gNx, gSeq, gSet, gSetO, ownAt, gApp, gRev, gPut, frz, gFrz, gRet, gExpr, gIf, gExc, asL, eVar, eC, eOp, eUn, toB, tB, tAndB, tOrB, tNotB, eAnd, eOr, eNot, eChain, aNil, aCons, eTup, oLst, eO, eCall, oUn, oSl, rNone, rSome, toI, dCut, eLenO, eIxO, sBind_ok, sBind_exc, sBind_stk, Res.bind_ok, Res.bind_exc, Res.bind_stk, SRes.thn_nx, SRes.thn_rt, SRes.thn_exc, SRes.thn_stk, List.map_cons, List.map_nil, List.cons_append, List.nil_append, List.length_cons, List.length_nil, List.replicate_succ, List.replicate_zero, List.getElem?_cons_zero, List.getElem?_cons_succ, List.set_cons_zero, List.set_cons_succ, Nat.zero_add, Nat.reduceAdd, Nat.reduceSub, dAdd, dSub, dMul, dDiv, dMod, dNeg, dCmp, dLt, dLe, dGt, dGe, dEq, dNe, dEq?, dIsN, dNotN, dIsi, isTy, dLen, dIx_lst, dIx_tup, dIx_scr, dList, dRev, dInt, dMax2, dMin2, decide_eq_true_eq, if_true, if_false, Bool.not_true, Bool.not_false, Bool.false_eq_true, reduceIte, Int.reduceLT, Int.reduceLE, Int.reduceEq, Int.reduceNeg, String.reduceEq, decide_true, decide_false, ci0, ci1, ci2, ci3, ci4, ci5, dAt_0, dAt_1, dAt_2, dAt_3, dv2, dv3, dv4, dv5, dv7, dv12, dv60, dv64, fz0, fz1, fz2, fz3, fz4, fz5, fz11, mulOk2, mulOk7, p20, e, e2]
    obtain ⟨L, eL, hL0, hL1⟩ : ∃ L : Int, (if decide (B / 3 % 4 = 1) = true then B / 12 % (200000000000000000000 - T + 1) - 100000000000000000000 else B / 12 % 41 - 20) = L ∧ -100000000000000000000 ≤ L ∧ L + T ≤ 100000000000000000000 := by
      refine ⟨_, rfl, ?_, ?_⟩
      · split
        · have := Int.emod_nonneg (B / 12) (show (200000000000000000000 - T + 1 : Int) ≠ 0 by omega)
          omega
        · omega
      · split
        · have := Int.emod_lt_of_pos (B / 12) (show (0 : Int) < 200000000000000000000 - T + 1 by omega)
          omega
        · omega
    rw [eL]
    refine .sq (ifset (b := decide (B / 3 % 4 = 2)) (x := if B / 12 % 2 = 0 then -100000000000000000000 else 100000000000000000000 - T) (y := L) (by simp only [fnD, gNx, gSeq, gSet, gSetO, ownAt, gApp, gRev, gPut, frz, gFrz, gRet, gExpr, gIf, gExc, asL, eVar, eC, eOp, eUn, toB, tB, tAndB, tOrB, tNotB, eAnd, eOr, eNot, eChain, aNil, aCons, eTup, oLst, eO, eCall, oUn, oSl, rNone, rSome, toI, dCut, eLenO, eIxO, sBind_ok, sBind_exc, sBind_stk, Res.bind_ok, Res.bind_exc, Res.bind_stk, SRes.thn_nx, SRes.thn_rt, SRes.thn_exc, SRes.thn_stk, List.map_cons, List.map_nil, List.cons_append, List.nil_append, List.length_cons, List.length_nil, List.replicate_succ, List.replicate_zero, List.getElem?_cons_zero, List.getElem?_cons_succ, List.set_cons_zero, List.set_cons_succ, Nat.zero_add, Nat.reduceAdd, Nat.reduceSub, dAdd, dSub, dMul, dDiv, dMod, dNeg, dCmp, dLt, dLe, dGt, dGe, dEq, dNe, dEq?, dIsN, dNotN, dIsi, isTy, dLen, dIx_lst, dIx_tup, dIx_scr, dList, dRev, dInt, dMax2, dMin2, decide_eq_true_eq, if_true, if_false, Bool.not_true, Bool.not_false, Bool.false_eq_true, reduceIte, Int.reduceLT, Int.reduceLE, Int.reduceEq, Int.reduceNeg, String.reduceEq, decide_true, decide_false, ci0, ci1, ci2, ci3, ci4, ci5, dAt_0, dAt_1, dAt_2, dAt_3, dv2, dv3, dv4, dv5, dv7, dv12, dv60, dv64, fz0, fz1, fz2, fz3, fz4, fz5, fz11, mulOk2, mulOk7] <;> rfl) (fun _ => ?_) rfl) ?_
    · rcases (show B / 12 % 2 = 0 ∨ B / 12 % 2 = 1 by omega) with z | z <;> simp only [fnD, gNx, gSeq, gSet, gSetO, ownAt, gApp, gRev, gPut, frz, gFrz, gRet, gExpr, gIf, gExc, asL, eVar, eC, eOp, eUn, toB, tB, tAndB, tOrB, tNotB, eAnd, eOr, eNot, eChain, aNil, aCons, eTup, oLst, eO, eCall, oUn, oSl, rNone, rSome, toI, dCut, eLenO, eIxO, sBind_ok, sBind_exc, sBind_stk, Res.bind_ok, Res.bind_exc, Res.bind_stk, SRes.thn_nx, SRes.thn_rt, SRes.thn_exc, SRes.thn_stk, List.map_cons, List.map_nil, List.cons_append, List.nil_append, List.length_cons, List.length_nil, List.replicate_succ, List.replicate_zero, List.getElem?_cons_zero, List.getElem?_cons_succ, List.set_cons_zero, List.set_cons_succ, Nat.zero_add, Nat.reduceAdd, Nat.reduceSub, dAdd, dSub, dMul, dDiv, dMod, dNeg, dCmp, dLt, dLe, dGt, dGe, dEq, dNe, dEq?, dIsN, dNotN, dIsi, isTy, dLen, dIx_lst, dIx_tup, dIx_scr, dList, dRev, dInt, dMax2, dMin2, decide_eq_true_eq, if_true, if_false, Bool.not_true, Bool.not_false, Bool.false_eq_true, reduceIte, Int.reduceLT, Int.reduceLE, Int.reduceEq, Int.reduceNeg, String.reduceEq, decide_true, decide_false, ci0, ci1, ci2, ci3, ci4, ci5, dAt_0, dAt_1, dAt_2, dAt_3, dv2, dv3, dv4, dv5, dv7, dv12, dv60, dv64, fz0, fz1, fz2, fz3, fz4, fz5, fz11, mulOk2, mulOk7, p20, z]
    obtain ⟨N, eN, hN0, hN1⟩ : ∃ N : Int, (if decide (B / 3 % 4 = 2) = true then (if B / 12 % 2 = 0 then -100000000000000000000 else 100000000000000000000 - T) else L) = N ∧ -100000000000000000000 ≤ N ∧ N + T ≤ 100000000000000000000 := by
      refine ⟨_, rfl, ?_, ?_⟩ <;> (split <;> (try split) <;> omega)
    rw [eN]
    refine .ret (by simp only [fnD, gNx, gSeq, gSet, gSetO, ownAt, gApp, gRev, gPut, frz, gFrz, gRet, gExpr, gIf, gExc, asL, eVar, eC, eOp, eUn, toB, tB, tAndB, tOrB, tNotB, eAnd, eOr, eNot, eChain, aNil, aCons, eTup, oLst, eO, eCall, oUn, oSl, rNone, rSome, toI, dCut, eLenO, eIxO, sBind_ok, sBind_exc, sBind_stk, Res.bind_ok, Res.bind_exc, Res.bind_stk, SRes.thn_nx, SRes.thn_rt, SRes.thn_exc, SRes.thn_stk, List.map_cons, List.map_nil, List.cons_append, List.nil_append, List.length_cons, List.length_nil, List.replicate_succ, List.replicate_zero, List.getElem?_cons_zero, List.getElem?_cons_succ, List.set_cons_zero, List.set_cons_succ, Nat.zero_add, Nat.reduceAdd, Nat.reduceSub, dAdd, dSub, dMul, dDiv, dMod, dNeg, dCmp, dLt, dLe, dGt, dGe, dEq, dNe, dEq?, dIsN, dNotN, dIsi, isTy, dLen, dIx_lst, dIx_tup, dIx_scr, dList, dRev, dInt, dMax2, dMin2, decide_eq_true_eq, if_true, if_false, Bool.not_true, Bool.not_false, Bool.false_eq_true, reduceIte, Int.reduceLT, Int.reduceLE, Int.reduceEq, Int.reduceNeg, String.reduceEq, decide_true, decide_false, ci0, ci1, ci2, ci3, ci4, ci5, dAt_0, dAt_1, dAt_2, dAt_3, dv2, dv3, dv4, dv5, dv7, dv12, dv60, dv64, fz0, fz1, fz2, fz3, fz4, fz5, fz11, mulOk2, mulOk7] <;> rfl) ⟨.num W N (N + T), by unfold enc; rfl, ?_, by unfold Sh.leaf; trivial⟩
    unfold Good
    exact ⟨hW, by omega, by omega, hN0, hN1⟩
end
end Pu

namespace Pu
open PySem L2
mutual
/-- what a record made for the shape comes to in bits, at most -/
def bb : Sh → Nat
  | .num w _ _ => w
  | .pad w => w
  | .maybe s => 1 + bb s
  | .rows w s => w + max 520 (2 * bb s)
  | .group ss => bbs ss
  | .one w ss => w + bbs ss
def bbs : List Sh → Nat
  | [] => 0
  | s :: ss => bb s + bbs ss
end
def shOk (m n : Nat) (s : Sh) : Prop := Good s ∧ dpt s ≤ m ∧ bb s ≤ n
theorem shs_ok {m n : Nat} : ∀ {ss : List Sh}, (∀ s ∈ ss, shOk m n s) → Goods ss ∧ dpts ss ≤ m ∧ bbs ss ≤ ss.length * n
  | [], _ => by unfold Goods dpts bbs; exact ⟨trivial, by omega, by omega⟩
  | s :: ss, h => by
    obtain ⟨a, b, c⟩ := shs_ok fun s' hs => h s' (List.mem_cons_of_mem _ hs)
    obtain ⟨a', b', c'⟩ := h s List.mem_cons_self
    unfold Goods dpts bbs
    refine ⟨⟨a', a⟩, by omega, ?_⟩
    rw [List.length_cons, Nat.succ_mul]
    omega
theorem shOk.mono {m n m' n' : Nat} {s : Sh} (h : shOk m n s) (h1 : m ≤ m') (h2 : n ≤ n') : shOk m' n' s := ⟨h.1, by have := h.2.1; omega, by have := h.2.2; omega⟩
theorem group_ok {m n : Nat} {ss : List Sh} (h : ∀ s ∈ ss, shOk m n s) (hl : ss.length ≤ 20) : shOk (m + 1) (20 * n) (.group ss) := by
  obtain ⟨a, b, c⟩ := shs_ok h
  unfold shOk Good dpt bb
  refine ⟨⟨hl, a⟩, by omega, ?_⟩
  have := Nat.mul_le_mul_right n hl
  omega
theorem one_ok {m n w : Nat} {ss : List Sh} (h : ∀ s ∈ ss, shOk m n s) (hn : 64 ≤ n) (hw : w ≤ 8) (h1 : 1 ≤ ss.length) (hl : ss.length ≤ 16) (h2 : ss.length ≤ 2 ^ w) : shOk (m + 1) (20 * n) (.one w ss) := by
  obtain ⟨a, b, c⟩ := shs_ok h
  unfold shOk Good dpt bb
  refine ⟨⟨hw, h1, hl, h2, a⟩, by omega, ?_⟩
  have := Nat.mul_le_mul_right n hl
  omega
theorem maybe_ok {m n : Nat} {s : Sh} (h : shOk m n s) (hn : 64 ≤ n) : shOk (m + 1) (20 * n) (.maybe s) := by
  unfold shOk Good dpt bb
  exact ⟨h.1, by have := h.2.1; omega, by have := h.2.2; omega⟩
theorem rows_ok {m n w : Nat} {s : Sh} (h : shOk m n s) (hn : 64 ≤ n) (hw : w ≤ 8) : shOk (m + 1) (20 * n) (.rows w s) := by
  unfold shOk Good dpt bb
  exact ⟨⟨hw, h.1⟩, by have := h.2.1; omega, by have := h.2.2; omega⟩
theorem leaf_ok {s : Sh} (g : Good s) (l : s.leaf) : shOk 1 64 s := by
  cases s with
  | num w lo hi => unfold shOk dpt bb; unfold Good at *; exact ⟨g, by omega, g.1⟩
  | pad w => unfold shOk dpt bb; unfold Good at *; exact ⟨g, by omega, g⟩
  | maybe s => exact l.elim
  | rows w s => exact l.elim
  | group s => exact l.elim
  | one w s => exact l.elim
theorem cut_to {ds : List D} (n : Nat) : cutD ds none (some (n : Int)) = ds.take n := by
  unfold cutD
  rw [HT.sIx_none, HT.sIx_nat, List.drop_zero, Nat.sub_zero, List.take_eq_take_iff]
  omega
theorem encs_take (ss : List Sh) (n : Nat) : encs (ss.take n) = (encs ss).take n := by
  rw [encs_map, encs_map, List.map_take]
theorem repOk13 : repOk 1 3 = true := repOk_nat (n := 1) (k := 3) (by omega) (by omega)
theorem repOk54 : repOk 5 4 = true := repOk_nat (n := 5) (k := 4) (by omega) (by omega)
def kd : Sh → String
  | .num _ _ _ => "num" | .pad _ => "pad" | .maybe _ => "maybe" | .rows _ _ => "rows" | .group _ => "group" | .one _ _ => "one"
theorem enc_0 (s : Sh) : dIx (enc s) (.int 0) = .ok (.str (kd s)) := by
  cases s <;> (rw [enc, dIx_tup, dAt_0]; rfl)
def isLeaf : Sh → Bool
  | .num _ _ _ => true | .pad _ => true | _ => false
theorem in_np (s : Sh) : dIn (.str (kd s)) (.tup [.str "num", .str "pad"]) = .ok (.bl (isLeaf s)) := by
  cases s <;> (unfold kd isLeaf; rfl)
theorem dInt_bl (b : Bool) : dInt (.bl b) = .ok (.int (if b then 1 else 0)) := by cases b <;> rfl
section
variable {s0 s1 s2 s3 : Sh} {m n : Nat} (h0 : shOk m n s0) (h1 : shOk m n s1) (h2 : shOk m n s2) (h3 : shOk m n s3)
include h0 h1 h2 h3 in
theorem mem4 {L : List Sh} (h : ∀ s ∈ L, s = s0 ∨ s = s1 ∨ s = s2 ∨ s = s3) : ∀ s ∈ L, shOk m n s := fun s hs => by
  rcases h s hs with rfl | rfl | rfl | rfl <;> assumption
include h0 h1 h2 h3 in
theorem law_one_eq (hn : 64 ≤ n) (a : Int) : ∃ d, S_law_one [.lst [enc s0, enc s1, enc s2, enc s3], .int a] = .ok d ∧ ∃ s, d = enc s ∧ shOk (m + 1) (20 * n) s := by
  by_cases c : a % 5 = 4
  · obtain ⟨N, eN, N1, N2⟩ : ∃ N : Nat, 5 + a / 5 % 12 = (N : Int) ∧ 5 ≤ N ∧ N ≤ 16 := ⟨(5 + a / 5 % 12).toNat, by omega, by omega, by omega⟩
    obtain ⟨W, eW, W1, W2⟩ : ∃ W : Nat, 3 + (if 8 < (N : Int) then 1 else 0) + a / 60 % 5 = (W : Int) ∧ W ≤ 8 ∧ N ≤ 2 ^ W := by
      refine ⟨(3 + (if 8 < (N : Int) then 1 else 0) + a / 60 % 5).toNat, by split <;> omega, by split <;> omega, ?_⟩
      by_cases z : 8 < (N : Int)
      · simp only [z, if_true]
        exact Nat.le_trans (show N ≤ 2 ^ 4 by omega) (Nat.pow_le_pow_right (by omega) (by omega))
      · simp only [z, if_false]
        exact Nat.le_trans (show N ≤ 2 ^ 3 by omega) (Nat.pow_le_pow_right (by omega) (by omega))
    refine fnD_RT (.sr (.ift (by simp only [fnD, gNx, gSeq, gSet, gSetO, ownAt, gApp, gRev, gPut, frz, gFrz, gRet, gExpr, gIf, gExc, asL, eVar, eC, eOp, eUn, toB, tB, tAndB, tOrB, tNotB, eAnd, eOr, eNot, eChain, aNil, aCons, eTup, oLst, eO, eCall, oUn, oSl, rNone, rSome, toI, dCut, eLenO, eIxO, sBind_ok, sBind_exc, sBind_stk, Res.bind_ok, Res.bind_exc, Res.bind_stk, SRes.thn_nx, SRes.thn_rt, SRes.thn_exc, SRes.thn_stk, List.map_cons, List.map_nil, List.cons_append, List.nil_append, List.length_cons, List.length_nil, List.replicate_succ, List.replicate_zero, List.getElem?_cons_zero, List.getElem?_cons_succ, List.set_cons_zero, List.set_cons_succ, Nat.zero_add, Nat.reduceAdd, Nat.reduceSub, dAdd, dSub, dMul, dDiv, dMod, dNeg, dCmp, dLt, dLe, dGt, dGe, dEq, dNe, dEq?, dIsN, dNotN, dIsi, isTy, dLen, dIx_lst, dIx_tup, dIx_scr, dList, dRev, dInt, dMax2, dMin2, decide_eq_true_eq, if_true, if_false, Bool.not_true, Bool.not_false, Bool.false_eq_true, reduceIte, Int.reduceLT, Int.reduceLE, Int.reduceEq, Int.reduceNeg, String.reduceEq, decide_true, decide_false, ci0, ci1, ci2, ci3, ci4, ci5, dAt_0, dAt_1, dAt_2, dAt_3, dv2, dv3, dv4, dv5, dv7, dv12, dv60, dv64, fz0, fz1, fz2, fz3, fz4, fz5, fz11, mulOk2, mulOk7, Int.reduceSub, Int.reduceAdd, dCut, repOk13, repOk54, Int.reduceToNat, List.flatten_cons, List.flatten_nil, List.append_nil, c, decide_true]) (.sq (by simp only [fnD, gNx, gSeq, gSet, gSetO, ownAt, gApp, gRev, gPut, frz, gFrz, gRet, gExpr, gIf, gExc, asL, eVar, eC, eOp, eUn, toB, tB, tAndB, tOrB, tNotB, eAnd, eOr, eNot, eChain, aNil, aCons, eTup, oLst, eO, eCall, oUn, oSl, rNone, rSome, toI, dCut, eLenO, eIxO, sBind_ok, sBind_exc, sBind_stk, Res.bind_ok, Res.bind_exc, Res.bind_stk, SRes.thn_nx, SRes.thn_rt, SRes.thn_exc, SRes.thn_stk, List.map_cons, List.map_nil, List.cons_append, List.nil_append, List.length_cons, List.length_nil, List.replicate_succ, List.replicate_zero, List.getElem?_cons_zero, List.getElem?_cons_succ, List.set_cons_zero, List.set_cons_succ, Nat.zero_add, Nat.reduceAdd, Nat.reduceSub, dAdd, dSub, dMul, dDiv, dMod, dNeg, dCmp, dLt, dLe, dGt, dGe, dEq, dNe, dEq?, dIsN, dNotN, dIsi, isTy, dLen, dIx_lst, dIx_tup, dIx_scr, dList, dRev, dInt, dMax2, dMin2, decide_eq_true_eq, if_true, if_false, Bool.not_true, Bool.not_false, Bool.false_eq_true, reduceIte, Int.reduceLT, Int.reduceLE, Int.reduceEq, Int.reduceNeg, String.reduceEq, decide_true, decide_false, ci0, ci1, ci2, ci3, ci4, ci5, dAt_0, dAt_1, dAt_2, dAt_3, dv2, dv3, dv4, dv5, dv7, dv12, dv60, dv64, fz0, fz1, fz2, fz3, fz4, fz5, fz11, mulOk2, mulOk7, Int.reduceSub, Int.reduceAdd, dCut, repOk13, repOk54, Int.reduceToNat, List.flatten_cons, List.flatten_nil, List.append_nil, eN] <;> rfl) (.sq (ρ' := [.v (.lst [enc s0, enc s1, enc s2, enc s3]), .v (.int a), .v (.int N), .v (.int W)]) ?_ (.ret (by simp only [fnD, gNx, gSeq, gSet, gSetO, ownAt, gApp, gRev, gPut, frz, gFrz, gRet, gExpr, gIf, gExc, asL, eVar, eC, eOp, eUn, toB, tB, tAndB, tOrB, tNotB, eAnd, eOr, eNot, eChain, aNil, aCons, eTup, oLst, eO, eCall, oUn, oSl, rNone, rSome, toI, dCut, eLenO, eIxO, sBind_ok, sBind_exc, sBind_stk, Res.bind_ok, Res.bind_exc, Res.bind_stk, SRes.thn_nx, SRes.thn_rt, SRes.thn_exc, SRes.thn_stk, List.map_cons, List.map_nil, List.cons_append, List.nil_append, List.length_cons, List.length_nil, List.replicate_succ, List.replicate_zero, List.getElem?_cons_zero, List.getElem?_cons_succ, List.set_cons_zero, List.set_cons_succ, Nat.zero_add, Nat.reduceAdd, Nat.reduceSub, dAdd, dSub, dMul, dDiv, dMod, dNeg, dCmp, dLt, dLe, dGt, dGe, dEq, dNe, dEq?, dIsN, dNotN, dIsi, isTy, dLen, dIx_lst, dIx_tup, dIx_scr, dList, dRev, dInt, dMax2, dMin2, decide_eq_true_eq, if_true, if_false, Bool.not_true, Bool.not_false, Bool.false_eq_true, reduceIte, Int.reduceLT, Int.reduceLE, Int.reduceEq, Int.reduceNeg, String.reduceEq, decide_true, decide_false, ci0, ci1, ci2, ci3, ci4, ci5, dAt_0, dAt_1, dAt_2, dAt_3, dv2, dv3, dv4, dv5, dv7, dv12, dv60, dv64, fz0, fz1, fz2, fz3, fz4, fz5, fz11, mulOk2, mulOk7, Int.reduceSub, Int.reduceAdd, dCut, repOk13, repOk54, Int.reduceToNat, List.flatten_cons, List.flatten_nil, List.append_nil, cut_to] <;> rfl)
      ⟨.one W ((List.replicate 4 [s0, s2, s1, s3, s2]).flatten.take N), ?_, one_ok (mem4 h0 h1 h2 h3 ?_) hn W1 ?_ ?_ ?_⟩)))))
    · simp only [fnD, gNx, gSeq, gSet, gSetO, ownAt, gApp, gRev, gPut, frz, gFrz, gRet, gExpr, gIf, gExc, asL, eVar, eC, eOp, eUn, toB, tB, tAndB, tOrB, tNotB, eAnd, eOr, eNot, eChain, aNil, aCons, eTup, oLst, eO, eCall, oUn, oSl, rNone, rSome, toI, dCut, eLenO, eIxO, sBind_ok, sBind_exc, sBind_stk, Res.bind_ok, Res.bind_exc, Res.bind_stk, SRes.thn_nx, SRes.thn_rt, SRes.thn_exc, SRes.thn_stk, List.map_cons, List.map_nil, List.cons_append, List.nil_append, List.length_cons, List.length_nil, List.replicate_succ, List.replicate_zero, List.getElem?_cons_zero, List.getElem?_cons_succ, List.set_cons_zero, List.set_cons_succ, Nat.zero_add, Nat.reduceAdd, Nat.reduceSub, dAdd, dSub, dMul, dDiv, dMod, dNeg, dCmp, dLt, dLe, dGt, dGe, dEq, dNe, dEq?, dIsN, dNotN, dIsi, isTy, dLen, dIx_lst, dIx_tup, dIx_scr, dList, dRev, dInt, dMax2, dMin2, decide_eq_true_eq, if_true, if_false, Bool.not_true, Bool.not_false, Bool.false_eq_true, reduceIte, Int.reduceLT, Int.reduceLE, Int.reduceEq, Int.reduceNeg, String.reduceEq, decide_true, decide_false, ci0, ci1, ci2, ci3, ci4, ci5, dAt_0, dAt_1, dAt_2, dAt_3, dv2, dv3, dv4, dv5, dv7, dv12, dv60, dv64, fz0, fz1, fz2, fz3, fz4, fz5, fz11, mulOk2, mulOk7, Int.reduceSub, Int.reduceAdd, dCut, repOk13, repOk54, Int.reduceToNat, List.flatten_cons, List.flatten_nil, List.append_nil, eW]
    · rw [enc, encs_take, encs_map]
      rfl
    · intro s hs
      have := List.mem_of_mem_take hs
      simp only [List.replicate_succ, List.replicate_zero, List.flatten_cons, List.flatten_nil, List.cons_append, List.nil_append, List.mem_cons, List.not_mem_nil, or_false] at this
      grind
    · simp only [List.length_take, List.replicate_succ, List.replicate_zero, List.flatten_cons, List.flatten_nil, List.cons_append, List.nil_append, List.length_cons, List.length_nil]; omega
    · simp only [List.length_take, List.replicate_succ, List.replicate_zero, List.flatten_cons, List.flatten_nil, List.cons_append, List.nil_append, List.length_cons, List.length_nil]; omega
    · simp only [List.length_take, List.replicate_succ, List.replicate_zero, List.flatten_cons, List.flatten_nil, List.cons_append, List.nil_append, List.length_cons, List.length_nil]; omega
  · obtain ⟨N, eN, N1, N2⟩ : ∃ N : Nat, 1 + a % 5 % 4 = (N : Int) ∧ 1 ≤ N ∧ N ≤ 4 := ⟨(1 + a % 5 % 4).toNat, by omega, by omega, by omega⟩
    obtain ⟨V, eV, V1, V2⟩ : ∃ V : Nat, dAt [.int 0, .int 1, .int 2, .int 2] ((N : Int) - 1) = .ok (.int V) ∧ V ≤ 2 ∧ N ≤ 2 ^ V := by
      rcases (show N = 1 ∨ N = 2 ∨ N = 3 ∨ N = 4 by omega) with rfl | rfl | rfl | rfl
      · exact ⟨0, rfl, by omega, by omega⟩
      · exact ⟨1, rfl, by omega, by omega⟩
      · exact ⟨2, rfl, by omega, by omega⟩
      · exact ⟨2, rfl, by omega, by omega⟩
    obtain ⟨W, eW, W1, W2⟩ : ∃ W : Nat, (V : Int) + a / 5 % 3 = (W : Int) ∧ W ≤ 8 ∧ N ≤ 2 ^ W := by
      refine ⟨((V : Int) + a / 5 % 3).toNat, by omega, by omega, ?_⟩
      exact Nat.le_trans V2 (Nat.pow_le_pow_right (by omega) (by omega))
    refine fnD_RT (.sq (if_n (by simp only [fnD, gNx, gSeq, gSet, gSetO, ownAt, gApp, gRev, gPut, frz, gFrz, gRet, gExpr, gIf, gExc, asL, eVar, eC, eOp, eUn, toB, tB, tAndB, tOrB, tNotB, eAnd, eOr, eNot, eChain, aNil, aCons, eTup, oLst, eO, eCall, oUn, oSl, rNone, rSome, toI, dCut, eLenO, eIxO, sBind_ok, sBind_exc, sBind_stk, Res.bind_ok, Res.bind_exc, Res.bind_stk, SRes.thn_nx, SRes.thn_rt, SRes.thn_exc, SRes.thn_stk, List.map_cons, List.map_nil, List.cons_append, List.nil_append, List.length_cons, List.length_nil, List.replicate_succ, List.replicate_zero, List.getElem?_cons_zero, List.getElem?_cons_succ, List.set_cons_zero, List.set_cons_succ, Nat.zero_add, Nat.reduceAdd, Nat.reduceSub, dAdd, dSub, dMul, dDiv, dMod, dNeg, dCmp, dLt, dLe, dGt, dGe, dEq, dNe, dEq?, dIsN, dNotN, dIsi, isTy, dLen, dIx_lst, dIx_tup, dIx_scr, dList, dRev, dInt, dMax2, dMin2, decide_eq_true_eq, if_true, if_false, Bool.not_true, Bool.not_false, Bool.false_eq_true, reduceIte, Int.reduceLT, Int.reduceLE, Int.reduceEq, Int.reduceNeg, String.reduceEq, decide_true, decide_false, ci0, ci1, ci2, ci3, ci4, ci5, dAt_0, dAt_1, dAt_2, dAt_3, dv2, dv3, dv4, dv5, dv7, dv12, dv60, dv64, fz0, fz1, fz2, fz3, fz4, fz5, fz11, mulOk2, mulOk7, Int.reduceSub, Int.reduceAdd, dCut, repOk13, repOk54, Int.reduceToNat, List.flatten_cons, List.flatten_nil, List.append_nil, c, decide_false])) (.sq (by simp only [fnD, gNx, gSeq, gSet, gSetO, ownAt, gApp, gRev, gPut, frz, gFrz, gRet, gExpr, gIf, gExc, asL, eVar, eC, eOp, eUn, toB, tB, tAndB, tOrB, tNotB, eAnd, eOr, eNot, eChain, aNil, aCons, eTup, oLst, eO, eCall, oUn, oSl, rNone, rSome, toI, dCut, eLenO, eIxO, sBind_ok, sBind_exc, sBind_stk, Res.bind_ok, Res.bind_exc, Res.bind_stk, SRes.thn_nx, SRes.thn_rt, SRes.thn_exc, SRes.thn_stk, List.map_cons, List.map_nil, List.cons_append, List.nil_append, List.length_cons, List.length_nil, List.replicate_succ, List.replicate_zero, List.getElem?_cons_zero, List.getElem?_cons_succ, List.set_cons_zero, List.set_cons_succ, Nat.zero_add, Nat.reduceAdd, Nat.reduceSub, dAdd, dSub, dMul, dDiv, dMod, dNeg, dCmp, dLt, dLe, dGt, dGe, dEq, dNe, dEq?, dIsN, dNotN, dIsi, isTy, dLen, dIx_lst, dIx_tup, dIx_scr, dList, dRev, dInt, dMax2, dMin2, decide_eq_true_eq, if_true, if_false, Bool.not_true, Bool.not_false, Bool.false_eq_true, reduceIte, Int.reduceLT, Int.reduceLE, Int.reduceEq, Int.reduceNeg, String.reduceEq, decide_true, decide_false, ci0, ci1, ci2, ci3, ci4, ci5, dAt_0, dAt_1, dAt_2, dAt_3, dv2, dv3, dv4, dv5, dv7, dv12, dv60, dv64, fz0, fz1, fz2, fz3, fz4, fz5, fz11, mulOk2, mulOk7, Int.reduceSub, Int.reduceAdd, dCut, repOk13, repOk54, Int.reduceToNat, List.flatten_cons, List.flatten_nil, List.append_nil, eN] <;> rfl) (.ret (by simp only [fnD, gNx, gSeq, gSet, gSetO, ownAt, gApp, gRev, gPut, frz, gFrz, gRet, gExpr, gIf, gExc, asL, eVar, eC, eOp, eUn, toB, tB, tAndB, tOrB, tNotB, eAnd, eOr, eNot, eChain, aNil, aCons, eTup, oLst, eO, eCall, oUn, oSl, rNone, rSome, toI, dCut, eLenO, eIxO, sBind_ok, sBind_exc, sBind_stk, Res.bind_ok, Res.bind_exc, Res.bind_stk, SRes.thn_nx, SRes.thn_rt, SRes.thn_exc, SRes.thn_stk, List.map_cons, List.map_nil, List.cons_append, List.nil_append, List.length_cons, List.length_nil, List.replicate_succ, List.replicate_zero, List.getElem?_cons_zero, List.getElem?_cons_succ, List.set_cons_zero, List.set_cons_succ, Nat.zero_add, Nat.reduceAdd, Nat.reduceSub, dAdd, dSub, dMul, dDiv, dMod, dNeg, dCmp, dLt, dLe, dGt, dGe, dEq, dNe, dEq?, dIsN, dNotN, dIsi, isTy, dLen, dIx_lst, dIx_tup, dIx_scr, dList, dRev, dInt, dMax2, dMin2, decide_eq_true_eq, if_true, if_false, Bool.not_true, Bool.not_false, Bool.false_eq_true, reduceIte, Int.reduceLT, Int.reduceLE, Int.reduceEq, Int.reduceNeg, String.reduceEq, decide_true, decide_false, ci0, ci1, ci2, ci3, ci4, ci5, dAt_0, dAt_1, dAt_2, dAt_3, dv2, dv3, dv4, dv5, dv7, dv12, dv60, dv64, fz0, fz1, fz2, fz3, fz4, fz5, fz11, mulOk2, mulOk7, Int.reduceSub, Int.reduceAdd, dCut, repOk13, repOk54, Int.reduceToNat, List.flatten_cons, List.flatten_nil, List.append_nil, cut_to, eV, eW] <;> rfl) ⟨.one W ([s0, s1, s2, s3].take N), ?_, one_ok (mem4 h0 h1 h2 h3 ?_) hn W1 ?_ ?_ ?_⟩)))
    · rw [enc, encs_take, encs_map]
      rfl
    · intro s hs
      have := List.mem_of_mem_take hs
      simp only [List.mem_cons, List.not_mem_nil, or_false] at this
      exact this
    · simp only [List.length_take, List.length_cons, List.length_nil]; omega
    · simp only [List.length_take, List.length_cons, List.length_nil]; omega
    · simp only [List.length_take, List.length_cons, List.length_nil]; omega
include h0 h1 h2 h3 in
theorem law_group_eq (hn : 64 ≤ n) (a : Int) : ∃ d, S_law_group [.lst [enc s0, enc s1, enc s2, enc s3], .int a] = .ok d ∧ ∃ s, d = enc s ∧ shOk (m + 1) (20 * n) s := by
  by_cases c : (a % 4 = 3 ∧ isLeaf s0 = true) ∧ isLeaf s1 = true
  · obtain ⟨N, eN, N2⟩ : ∃ N : Nat, 4 + a / 4 % 17 = (N : Int) ∧ N ≤ 20 := ⟨(4 + a / 4 % 17).toNat, by omega, by omega⟩
    refine fnD_RT (.sr (.ift (by simp only [fnD, gNx, gSeq, gSet, gSetO, ownAt, gApp, gRev, gPut, frz, gFrz, gRet, gExpr, gIf, gExc, asL, eVar, eC, eOp, eUn, toB, tB, tAndB, tOrB, tNotB, eAnd, eOr, eNot, eChain, aNil, aCons, eTup, oLst, eO, eCall, oUn, oSl, rNone, rSome, toI, dCut, eLenO, eIxO, sBind_ok, sBind_exc, sBind_stk, Res.bind_ok, Res.bind_exc, Res.bind_stk, SRes.thn_nx, SRes.thn_rt, SRes.thn_exc, SRes.thn_stk, List.map_cons, List.map_nil, List.cons_append, List.nil_append, List.length_cons, List.length_nil, List.replicate_succ, List.replicate_zero, List.getElem?_cons_zero, List.getElem?_cons_succ, List.set_cons_zero, List.set_cons_succ, Nat.zero_add, Nat.reduceAdd, Nat.reduceSub, dAdd, dSub, dMul, dDiv, dMod, dNeg, dCmp, dLt, dLe, dGt, dGe, dEq, dNe, dEq?, dIsN, dNotN, dIsi, isTy, dLen, dIx_lst, dIx_tup, dIx_scr, dList, dRev, dInt, dMax2, dMin2, decide_eq_true_eq, if_true, if_false, Bool.not_true, Bool.not_false, Bool.false_eq_true, reduceIte, Int.reduceLT, Int.reduceLE, Int.reduceEq, Int.reduceNeg, String.reduceEq, decide_true, decide_false, ci0, ci1, ci2, ci3, ci4, ci5, dAt_0, dAt_1, dAt_2, dAt_3, dv2, dv3, dv4, dv5, dv7, dv12, dv60, dv64, fz0, fz1, fz2, fz3, fz4, fz5, fz11, mulOk2, mulOk7, Int.reduceSub, Int.reduceAdd, dCut, repOk13, repOk54, Int.reduceToNat, List.flatten_cons, List.flatten_nil, List.append_nil, enc_0, in_np, c.1.1, c.1.2, c.2, decide_true]) (.ret (by simp only [fnD, gNx, gSeq, gSet, gSetO, ownAt, gApp, gRev, gPut, frz, gFrz, gRet, gExpr, gIf, gExc, asL, eVar, eC, eOp, eUn, toB, tB, tAndB, tOrB, tNotB, eAnd, eOr, eNot, eChain, aNil, aCons, eTup, oLst, eO, eCall, oUn, oSl, rNone, rSome, toI, dCut, eLenO, eIxO, sBind_ok, sBind_exc, sBind_stk, Res.bind_ok, Res.bind_exc, Res.bind_stk, SRes.thn_nx, SRes.thn_rt, SRes.thn_exc, SRes.thn_stk, List.map_cons, List.map_nil, List.cons_append, List.nil_append, List.length_cons, List.length_nil, List.replicate_succ, List.replicate_zero, List.getElem?_cons_zero, List.getElem?_cons_succ, List.set_cons_zero, List.set_cons_succ, Nat.zero_add, Nat.reduceAdd, Nat.reduceSub, dAdd, dSub, dMul, dDiv, dMod, dNeg, dCmp, dLt, dLe, dGt, dGe, dEq, dNe, dEq?, dIsN, dNotN, dIsi, isTy, dLen, dIx_lst, dIx_tup, dIx_scr, dList, dRev, dInt, dMax2, dMin2, decide_eq_true_eq, if_true, if_false, Bool.not_true, Bool.not_false, Bool.false_eq_true, reduceIte, Int.reduceLT, Int.reduceLE, Int.reduceEq, Int.reduceNeg, String.reduceEq, decide_true, decide_false, ci0, ci1, ci2, ci3, ci4, ci5, dAt_0, dAt_1, dAt_2, dAt_3, dv2, dv3, dv4, dv5, dv7, dv12, dv60, dv64, fz0, fz1, fz2, fz3, fz4, fz5, fz11, mulOk2, mulOk7, Int.reduceSub, Int.reduceAdd, dCut, repOk13, repOk54, Int.reduceToNat, List.flatten_cons, List.flatten_nil, List.append_nil, cut_to, eN] <;> rfl)
      ⟨.group ((List.replicate 4 [s0, s2, s1, s3, s0]).flatten.take N), ?_, group_ok (mem4 h0 h1 h2 h3 ?_) ?_⟩)))
    · rw [enc, encs_take, encs_map]
      rfl
    · intro s hs
      have := List.mem_of_mem_take hs
      simp only [List.replicate_succ, List.replicate_zero, List.flatten_cons, List.flatten_nil, List.cons_append, List.nil_append, List.mem_cons, List.not_mem_nil, or_false] at this
      grind
    · simp only [List.length_take, List.replicate_succ, List.replicate_zero, List.flatten_cons, List.flatten_nil, List.cons_append, List.nil_append, List.length_cons, List.length_nil]; omega
  · refine fnD_RT (.sq (if_n ?_) ?_)
    · by_cases z : a % 4 = 3
      · cases z1 : isLeaf s0 with
        | false => simp only [fnD, gNx, gSeq, gSet, gSetO, ownAt, gApp, gRev, gPut, frz, gFrz, gRet, gExpr, gIf, gExc, asL, eVar, eC, eOp, eUn, toB, tB, tAndB, tOrB, tNotB, eAnd, eOr, eNot, eChain, aNil, aCons, eTup, oLst, eO, eCall, oUn, oSl, rNone, rSome, toI, dCut, eLenO, eIxO, sBind_ok, sBind_exc, sBind_stk, Res.bind_ok, Res.bind_exc, Res.bind_stk, SRes.thn_nx, SRes.thn_rt, SRes.thn_exc, SRes.thn_stk, List.map_cons, List.map_nil, List.cons_append, List.nil_append, List.length_cons, List.length_nil, List.replicate_succ, List.replicate_zero, List.getElem?_cons_zero, List.getElem?_cons_succ, List.set_cons_zero, List.set_cons_succ, Nat.zero_add, Nat.reduceAdd, Nat.reduceSub, dAdd, dSub, dMul, dDiv, dMod, dNeg, dCmp, dLt, dLe, dGt, dGe, dEq, dNe, dEq?, dIsN, dNotN, dIsi, isTy, dLen, dIx_lst, dIx_tup, dIx_scr, dList, dRev, dInt, dMax2, dMin2, decide_eq_true_eq, if_true, if_false, Bool.not_true, Bool.not_false, Bool.false_eq_true, reduceIte, Int.reduceLT, Int.reduceLE, Int.reduceEq, Int.reduceNeg, String.reduceEq, decide_true, decide_false, ci0, ci1, ci2, ci3, ci4, ci5, dAt_0, dAt_1, dAt_2, dAt_3, dv2, dv3, dv4, dv5, dv7, dv12, dv60, dv64, fz0, fz1, fz2, fz3, fz4, fz5, fz11, mulOk2, mulOk7, Int.reduceSub, Int.reduceAdd, dCut, repOk13, repOk54, Int.reduceToNat, List.flatten_cons, List.flatten_nil, List.append_nil, enc_0, in_np, z, z1, decide_true]
        | true =>
          cases z2 : isLeaf s1 with
          | false => simp only [fnD, gNx, gSeq, gSet, gSetO, ownAt, gApp, gRev, gPut, frz, gFrz, gRet, gExpr, gIf, gExc, asL, eVar, eC, eOp, eUn, toB, tB, tAndB, tOrB, tNotB, eAnd, eOr, eNot, eChain, aNil, aCons, eTup, oLst, eO, eCall, oUn, oSl, rNone, rSome, toI, dCut, eLenO, eIxO, sBind_ok, sBind_exc, sBind_stk, Res.bind_ok, Res.bind_exc, Res.bind_stk, SRes.thn_nx, SRes.thn_rt, SRes.thn_exc, SRes.thn_stk, List.map_cons, List.map_nil, List.cons_append, List.nil_append, List.length_cons, List.length_nil, List.replicate_succ, List.replicate_zero, List.getElem?_cons_zero, List.getElem?_cons_succ, List.set_cons_zero, List.set_cons_succ, Nat.zero_add, Nat.reduceAdd, Nat.reduceSub, dAdd, dSub, dMul, dDiv, dMod, dNeg, dCmp, dLt, dLe, dGt, dGe, dEq, dNe, dEq?, dIsN, dNotN, dIsi, isTy, dLen, dIx_lst, dIx_tup, dIx_scr, dList, dRev, dInt, dMax2, dMin2, decide_eq_true_eq, if_true, if_false, Bool.not_true, Bool.not_false, Bool.false_eq_true, reduceIte, Int.reduceLT, Int.reduceLE, Int.reduceEq, Int.reduceNeg, String.reduceEq, decide_true, decide_false, ci0, ci1, ci2, ci3, ci4, ci5, dAt_0, dAt_1, dAt_2, dAt_3, dv2, dv3, dv4, dv5, dv7, dv12, dv60, dv64, fz0, fz1, fz2, fz3, fz4, fz5, fz11, mulOk2, mulOk7, Int.reduceSub, Int.reduceAdd, dCut, repOk13, repOk54, Int.reduceToNat, List.flatten_cons, List.flatten_nil, List.append_nil, enc_0, in_np, z, z1, z2, decide_true]
          | true => exact absurd ⟨⟨z, z1⟩, z2⟩ c
      · simp only [fnD, gNx, gSeq, gSet, gSetO, ownAt, gApp, gRev, gPut, frz, gFrz, gRet, gExpr, gIf, gExc, asL, eVar, eC, eOp, eUn, toB, tB, tAndB, tOrB, tNotB, eAnd, eOr, eNot, eChain, aNil, aCons, eTup, oLst, eO, eCall, oUn, oSl, rNone, rSome, toI, dCut, eLenO, eIxO, sBind_ok, sBind_exc, sBind_stk, Res.bind_ok, Res.bind_exc, Res.bind_stk, SRes.thn_nx, SRes.thn_rt, SRes.thn_exc, SRes.thn_stk, List.map_cons, List.map_nil, List.cons_append, List.nil_append, List.length_cons, List.length_nil, List.replicate_succ, List.replicate_zero, List.getElem?_cons_zero, List.getElem?_cons_succ, List.set_cons_zero, List.set_cons_succ, Nat.zero_add, Nat.reduceAdd, Nat.reduceSub, dAdd, dSub, dMul, dDiv, dMod, dNeg, dCmp, dLt, dLe, dGt, dGe, dEq, dNe, dEq?, dIsN, dNotN, dIsi, isTy, dLen, dIx_lst, dIx_tup, dIx_scr, dList, dRev, dInt, dMax2, dMin2, decide_eq_true_eq, if_true, if_false, Bool.not_true, Bool.not_false, Bool.false_eq_true, reduceIte, Int.reduceLT, Int.reduceLE, Int.reduceEq, Int.reduceNeg, String.reduceEq, decide_true, decide_false, ci0, ci1, ci2, ci3, ci4, ci5, dAt_0, dAt_1, dAt_2, dAt_3, dv2, dv3, dv4, dv5, dv7, dv12, dv60, dv64, fz0, fz1, fz2, fz3, fz4, fz5, fz11, mulOk2, mulOk7, Int.reduceSub, Int.reduceAdd, dCut, repOk13, repOk54, Int.reduceToNat, List.flatten_cons, List.flatten_nil, List.append_nil, z, decide_false]
    · by_cases c2 : a % 12 = 5
      · obtain ⟨N, eN, N2⟩ : ∃ N : Nat, 4 + a / 12 % 2 = (N : Int) ∧ N ≤ 5 := ⟨(4 + a / 12 % 2).toNat, by omega, by omega⟩
        refine .sr (.ift (by simp only [fnD, gNx, gSeq, gSet, gSetO, ownAt, gApp, gRev, gPut, frz, gFrz, gRet, gExpr, gIf, gExc, asL, eVar, eC, eOp, eUn, toB, tB, tAndB, tOrB, tNotB, eAnd, eOr, eNot, eChain, aNil, aCons, eTup, oLst, eO, eCall, oUn, oSl, rNone, rSome, toI, dCut, eLenO, eIxO, sBind_ok, sBind_exc, sBind_stk, Res.bind_ok, Res.bind_exc, Res.bind_stk, SRes.thn_nx, SRes.thn_rt, SRes.thn_exc, SRes.thn_stk, List.map_cons, List.map_nil, List.cons_append, List.nil_append, List.length_cons, List.length_nil, List.replicate_succ, List.replicate_zero, List.getElem?_cons_zero, List.getElem?_cons_succ, List.set_cons_zero, List.set_cons_succ, Nat.zero_add, Nat.reduceAdd, Nat.reduceSub, dAdd, dSub, dMul, dDiv, dMod, dNeg, dCmp, dLt, dLe, dGt, dGe, dEq, dNe, dEq?, dIsN, dNotN, dIsi, isTy, dLen, dIx_lst, dIx_tup, dIx_scr, dList, dRev, dInt, dMax2, dMin2, decide_eq_true_eq, if_true, if_false, Bool.not_true, Bool.not_false, Bool.false_eq_true, reduceIte, Int.reduceLT, Int.reduceLE, Int.reduceEq, Int.reduceNeg, String.reduceEq, decide_true, decide_false, ci0, ci1, ci2, ci3, ci4, ci5, dAt_0, dAt_1, dAt_2, dAt_3, dv2, dv3, dv4, dv5, dv7, dv12, dv60, dv64, fz0, fz1, fz2, fz3, fz4, fz5, fz11, mulOk2, mulOk7, Int.reduceSub, Int.reduceAdd, dCut, repOk13, repOk54, Int.reduceToNat, List.flatten_cons, List.flatten_nil, List.append_nil, c2, decide_true]) (.ret (by simp only [fnD, gNx, gSeq, gSet, gSetO, ownAt, gApp, gRev, gPut, frz, gFrz, gRet, gExpr, gIf, gExc, asL, eVar, eC, eOp, eUn, toB, tB, tAndB, tOrB, tNotB, eAnd, eOr, eNot, eChain, aNil, aCons, eTup, oLst, eO, eCall, oUn, oSl, rNone, rSome, toI, dCut, eLenO, eIxO, sBind_ok, sBind_exc, sBind_stk, Res.bind_ok, Res.bind_exc, Res.bind_stk, SRes.thn_nx, SRes.thn_rt, SRes.thn_exc, SRes.thn_stk, List.map_cons, List.map_nil, List.cons_append, List.nil_append, List.length_cons, List.length_nil, List.replicate_succ, List.replicate_zero, List.getElem?_cons_zero, List.getElem?_cons_succ, List.set_cons_zero, List.set_cons_succ, Nat.zero_add, Nat.reduceAdd, Nat.reduceSub, dAdd, dSub, dMul, dDiv, dMod, dNeg, dCmp, dLt, dLe, dGt, dGe, dEq, dNe, dEq?, dIsN, dNotN, dIsi, isTy, dLen, dIx_lst, dIx_tup, dIx_scr, dList, dRev, dInt, dMax2, dMin2, decide_eq_true_eq, if_true, if_false, Bool.not_true, Bool.not_false, Bool.false_eq_true, reduceIte, Int.reduceLT, Int.reduceLE, Int.reduceEq, Int.reduceNeg, String.reduceEq, decide_true, decide_false, ci0, ci1, ci2, ci3, ci4, ci5, dAt_0, dAt_1, dAt_2, dAt_3, dv2, dv3, dv4, dv5, dv7, dv12, dv60, dv64, fz0, fz1, fz2, fz3, fz4, fz5, fz11, mulOk2, mulOk7, Int.reduceSub, Int.reduceAdd, dCut, repOk13, repOk54, Int.reduceToNat, List.flatten_cons, List.flatten_nil, List.append_nil, cut_to, eN] <;> rfl) ⟨.group ([s0, s2, s1, s0, s3].take N), ?_, group_ok (mem4 h0 h1 h2 h3 ?_) ?_⟩))
        · rw [enc, encs_take, encs_map]
          rfl
        · intro s hs
          have := List.mem_of_mem_take hs
          simp only [List.mem_cons, List.not_mem_nil, or_false] at this
          grind
        · simp only [List.length_take, List.length_cons, List.length_nil]; omega
      · refine .sq (if_n (by simp only [fnD, gNx, gSeq, gSet, gSetO, ownAt, gApp, gRev, gPut, frz, gFrz, gRet, gExpr, gIf, gExc, asL, eVar, eC, eOp, eUn, toB, tB, tAndB, tOrB, tNotB, eAnd, eOr, eNot, eChain, aNil, aCons, eTup, oLst, eO, eCall, oUn, oSl, rNone, rSome, toI, dCut, eLenO, eIxO, sBind_ok, sBind_exc, sBind_stk, Res.bind_ok, Res.bind_exc, Res.bind_stk, SRes.thn_nx, SRes.thn_rt, SRes.thn_exc, SRes.thn_stk, List.map_cons, List.map_nil, List.cons_append, List.nil_append, List.length_cons, List.length_nil, List.replicate_succ, List.replicate_zero, List.getElem?_cons_zero, List.getElem?_cons_succ, List.set_cons_zero, List.set_cons_succ, Nat.zero_add, Nat.reduceAdd, Nat.reduceSub, dAdd, dSub, dMul, dDiv, dMod, dNeg, dCmp, dLt, dLe, dGt, dGe, dEq, dNe, dEq?, dIsN, dNotN, dIsi, isTy, dLen, dIx_lst, dIx_tup, dIx_scr, dList, dRev, dInt, dMax2, dMin2, decide_eq_true_eq, if_true, if_false, Bool.not_true, Bool.not_false, Bool.false_eq_true, reduceIte, Int.reduceLT, Int.reduceLE, Int.reduceEq, Int.reduceNeg, String.reduceEq, decide_true, decide_false, ci0, ci1, ci2, ci3, ci4, ci5, dAt_0, dAt_1, dAt_2, dAt_3, dv2, dv3, dv4, dv5, dv7, dv12, dv60, dv64, fz0, fz1, fz2, fz3, fz4, fz5, fz11, mulOk2, mulOk7, Int.reduceSub, Int.reduceAdd, dCut, repOk13, repOk54, Int.reduceToNat, List.flatten_cons, List.flatten_nil, List.append_nil, c2, decide_false])) ?_
        rcases (show a % 4 = 0 ∨ a % 4 = 1 ∨ a % 4 = 2 ∨ a % 4 = 3 by omega) with z | z | z | z
        · refine .ret (by simp only [fnD, gNx, gSeq, gSet, gSetO, ownAt, gApp, gRev, gPut, frz, gFrz, gRet, gExpr, gIf, gExc, asL, eVar, eC, eOp, eUn, toB, tB, tAndB, tOrB, tNotB, eAnd, eOr, eNot, eChain, aNil, aCons, eTup, oLst, eO, eCall, oUn, oSl, rNone, rSome, toI, dCut, eLenO, eIxO, sBind_ok, sBind_exc, sBind_stk, Res.bind_ok, Res.bind_exc, Res.bind_stk, SRes.thn_nx, SRes.thn_rt, SRes.thn_exc, SRes.thn_stk, List.map_cons, List.map_nil, List.cons_append, List.nil_append, List.length_cons, List.length_nil, List.replicate_succ, List.replicate_zero, List.getElem?_cons_zero, List.getElem?_cons_succ, List.set_cons_zero, List.set_cons_succ, Nat.zero_add, Nat.reduceAdd, Nat.reduceSub, dAdd, dSub, dMul, dDiv, dMod, dNeg, dCmp, dLt, dLe, dGt, dGe, dEq, dNe, dEq?, dIsN, dNotN, dIsi, isTy, dLen, dIx_lst, dIx_tup, dIx_scr, dList, dRev, dInt, dMax2, dMin2, decide_eq_true_eq, if_true, if_false, Bool.not_true, Bool.not_false, Bool.false_eq_true, reduceIte, Int.reduceLT, Int.reduceLE, Int.reduceEq, Int.reduceNeg, String.reduceEq, decide_true, decide_false, ci0, ci1, ci2, ci3, ci4, ci5, dAt_0, dAt_1, dAt_2, dAt_3, dv2, dv3, dv4, dv5, dv7, dv12, dv60, dv64, fz0, fz1, fz2, fz3, fz4, fz5, fz11, mulOk2, mulOk7, Int.reduceSub, Int.reduceAdd, dCut, repOk13, repOk54, Int.reduceToNat, List.flatten_cons, List.flatten_nil, List.append_nil, z] <;> rfl) ⟨.group [], by rw [enc, encs_map]; rfl, group_ok (mem4 h0 h1 h2 h3 ?_) (by simp)⟩
          intro s hs; cases hs
        · refine .ret (by simp only [fnD, gNx, gSeq, gSet, gSetO, ownAt, gApp, gRev, gPut, frz, gFrz, gRet, gExpr, gIf, gExc, asL, eVar, eC, eOp, eUn, toB, tB, tAndB, tOrB, tNotB, eAnd, eOr, eNot, eChain, aNil, aCons, eTup, oLst, eO, eCall, oUn, oSl, rNone, rSome, toI, dCut, eLenO, eIxO, sBind_ok, sBind_exc, sBind_stk, Res.bind_ok, Res.bind_exc, Res.bind_stk, SRes.thn_nx, SRes.thn_rt, SRes.thn_exc, SRes.thn_stk, List.map_cons, List.map_nil, List.cons_append, List.nil_append, List.length_cons, List.length_nil, List.replicate_succ, List.replicate_zero, List.getElem?_cons_zero, List.getElem?_cons_succ, List.set_cons_zero, List.set_cons_succ, Nat.zero_add, Nat.reduceAdd, Nat.reduceSub, dAdd, dSub, dMul, dDiv, dMod, dNeg, dCmp, dLt, dLe, dGt, dGe, dEq, dNe, dEq?, dIsN, dNotN, dIsi, isTy, dLen, dIx_lst, dIx_tup, dIx_scr, dList, dRev, dInt, dMax2, dMin2, decide_eq_true_eq, if_true, if_false, Bool.not_true, Bool.not_false, Bool.false_eq_true, reduceIte, Int.reduceLT, Int.reduceLE, Int.reduceEq, Int.reduceNeg, String.reduceEq, decide_true, decide_false, ci0, ci1, ci2, ci3, ci4, ci5, dAt_0, dAt_1, dAt_2, dAt_3, dv2, dv3, dv4, dv5, dv7, dv12, dv60, dv64, fz0, fz1, fz2, fz3, fz4, fz5, fz11, mulOk2, mulOk7, Int.reduceSub, Int.reduceAdd, dCut, repOk13, repOk54, Int.reduceToNat, List.flatten_cons, List.flatten_nil, List.append_nil, z] <;> rfl) ⟨.group [s0, s0, s0], by rw [enc, encs_map]; rfl, group_ok (mem4 h0 h1 h2 h3 ?_) (by simp)⟩
          intro s hs
          simp only [List.mem_cons, List.not_mem_nil, or_false] at hs
          grind
        · refine .ret (by simp only [fnD, gNx, gSeq, gSet, gSetO, ownAt, gApp, gRev, gPut, frz, gFrz, gRet, gExpr, gIf, gExc, asL, eVar, eC, eOp, eUn, toB, tB, tAndB, tOrB, tNotB, eAnd, eOr, eNot, eChain, aNil, aCons, eTup, oLst, eO, eCall, oUn, oSl, rNone, rSome, toI, dCut, eLenO, eIxO, sBind_ok, sBind_exc, sBind_stk, Res.bind_ok, Res.bind_exc, Res.bind_stk, SRes.thn_nx, SRes.thn_rt, SRes.thn_exc, SRes.thn_stk, List.map_cons, List.map_nil, List.cons_append, List.nil_append, List.length_cons, List.length_nil, List.replicate_succ, List.replicate_zero, List.getElem?_cons_zero, List.getElem?_cons_succ, List.set_cons_zero, List.set_cons_succ, Nat.zero_add, Nat.reduceAdd, Nat.reduceSub, dAdd, dSub, dMul, dDiv, dMod, dNeg, dCmp, dLt, dLe, dGt, dGe, dEq, dNe, dEq?, dIsN, dNotN, dIsi, isTy, dLen, dIx_lst, dIx_tup, dIx_scr, dList, dRev, dInt, dMax2, dMin2, decide_eq_true_eq, if_true, if_false, Bool.not_true, Bool.not_false, Bool.false_eq_true, reduceIte, Int.reduceLT, Int.reduceLE, Int.reduceEq, Int.reduceNeg, String.reduceEq, decide_true, decide_false, ci0, ci1, ci2, ci3, ci4, ci5, dAt_0, dAt_1, dAt_2, dAt_3, dv2, dv3, dv4, dv5, dv7, dv12, dv60, dv64, fz0, fz1, fz2, fz3, fz4, fz5, fz11, mulOk2, mulOk7, Int.reduceSub, Int.reduceAdd, dCut, repOk13, repOk54, Int.reduceToNat, List.flatten_cons, List.flatten_nil, List.append_nil, z] <;> rfl) ⟨.group [s2, s0, s1], by rw [enc, encs_map]; rfl, group_ok (mem4 h0 h1 h2 h3 ?_) (by simp)⟩
          intro s hs
          simp only [List.mem_cons, List.not_mem_nil, or_false] at hs
          grind
        · refine .ret (by simp only [fnD, gNx, gSeq, gSet, gSetO, ownAt, gApp, gRev, gPut, frz, gFrz, gRet, gExpr, gIf, gExc, asL, eVar, eC, eOp, eUn, toB, tB, tAndB, tOrB, tNotB, eAnd, eOr, eNot, eChain, aNil, aCons, eTup, oLst, eO, eCall, oUn, oSl, rNone, rSome, toI, dCut, eLenO, eIxO, sBind_ok, sBind_exc, sBind_stk, Res.bind_ok, Res.bind_exc, Res.bind_stk, SRes.thn_nx, SRes.thn_rt, SRes.thn_exc, SRes.thn_stk, List.map_cons, List.map_nil, List.cons_append, List.nil_append, List.length_cons, List.length_nil, List.replicate_succ, List.replicate_zero, List.getElem?_cons_zero, List.getElem?_cons_succ, List.set_cons_zero, List.set_cons_succ, Nat.zero_add, Nat.reduceAdd, Nat.reduceSub, dAdd, dSub, dMul, dDiv, dMod, dNeg, dCmp, dLt, dLe, dGt, dGe, dEq, dNe, dEq?, dIsN, dNotN, dIsi, isTy, dLen, dIx_lst, dIx_tup, dIx_scr, dList, dRev, dInt, dMax2, dMin2, decide_eq_true_eq, if_true, if_false, Bool.not_true, Bool.not_false, Bool.false_eq_true, reduceIte, Int.reduceLT, Int.reduceLE, Int.reduceEq, Int.reduceNeg, String.reduceEq, decide_true, decide_false, ci0, ci1, ci2, ci3, ci4, ci5, dAt_0, dAt_1, dAt_2, dAt_3, dv2, dv3, dv4, dv5, dv7, dv12, dv60, dv64, fz0, fz1, fz2, fz3, fz4, fz5, fz11, mulOk2, mulOk7, Int.reduceSub, Int.reduceAdd, dCut, repOk13, repOk54, Int.reduceToNat, List.flatten_cons, List.flatten_nil, List.append_nil, z] <;> rfl) ⟨.group [s1, s1], by rw [enc, encs_map]; rfl, group_ok (mem4 h0 h1 h2 h3 ?_) (by simp)⟩
          intro s hs
          simp only [List.mem_cons, List.not_mem_nil, or_false] at hs
          grind
end
end Pu

namespace Pu
open PySem L2
theorem forRx {i n : Nat} {f : Rho → Res D} {g : Rho → SRes} {ρ : Rho} (P : Nat → Rho → Prop) (hf : f ρ = .ok (.int n)) (hn : n ≤ 16777216) (h0 : P 0 ρ) (h : ∀ k ρ, k < n → P k ρ → ∃ ρ', g (ρ.set i (.v (.int (k : Nat)))) = .nx ρ' ∧ P (k + 1) ρ') :
    ∃ ρ', gForR i f g ρ = .nx ρ' ∧ P n ρ' := by
  have go : ∀ m j ρ, j + m = n → P j ρ → ∃ ρ', forL (fun (k : Nat) ρ => g (ρ.set i (.v (.int (k : Nat))))) (List.range' j m) ρ = .nx ρ' ∧ P n ρ' := by
    intro m
    induction m with
    | zero => intro j ρ e p; exact ⟨ρ, rfl, by rw [show n = j by omega]; exact p⟩
    | succ m ih =>
      intro j ρ e p
      rw [List.range'_succ]
      simp only [forL]
      obtain ⟨ρ', e1, p1⟩ := h j ρ (by omega) p
      rw [e1]
      exact ih (j + 1) ρ' (by omega) p1
  unfold gForR
  rw [hf]
  simp only [Res.bind_ok, asN, rngOk_nat hn, if_true, sBind_ok, Int.toNat_natCast]
  rw [List.range_eq_range']
  exact go n 0 ρ (by omega) h0
theorem RT.sx {g h : Rho → SRes} {ρ : Rho} {Q : D → Prop} {P : Rho → Prop} (h1 : ∃ ρ', g ρ = .nx ρ' ∧ P ρ') (h2 : ∀ ρ', P ρ' → RT (h ρ') Q) : RT (gSeq g h ρ) Q := by
  obtain ⟨ρ', e, p⟩ := h1
  exact RT.sq e (h2 ρ' p)
section
variable {ca lf sh on gp rm : Nat → List D → Res D} {ns : List Int}
  (hca : ∀ k, ca (k + 1) = S_law_cell_at) (hrm : ∀ k, rm (k + 1) = S_law_room) (hlf : ∀ k, lf (k + 1) = S_law_leaf (ca k) (rm k))
  (hon : ∀ k, on (k + 1) = S_law_one) (hgp : ∀ k, gp (k + 1) = S_law_group) (hsh : ∀ k, sh (k + 1) = S_law_shape (ca k) (lf k) (sh k) (on k) (gp k))
include hca hrm hlf in
theorem leaf_at (l : Nat) (k : Int) (hk : 0 ≤ k) : ∃ d, lf (l + 2) [.scr ns, .int k] = .ok d ∧ ∃ s, d = enc s ∧ Good s ∧ s.leaf := by
  rw [hlf]
  exact leaf_eq (c := fun k => ns.getD k.toNat 0) (fun k hk => by rw [hca]; exact cell_eq ns k hk) (fun w hw => by rw [hrm]; exact law_room_eq w (by omega)) k hk
include hca hrm hlf hon hgp hsh in
theorem shape_eq : ∀ (n k : Nat), 7 < (k + 1) * 2 ^ n → ∀ l, n + 2 ≤ l → ∃ d, sh (l + 1) [.scr ns, .int (k : Nat)] = .ok d ∧ ∃ s, d = enc s ∧ shOk (n + 1) (64 * 20 ^ n) s := by
  intro n
  induction n with
  | zero =>
    intro k hk l hl
    obtain ⟨l, rfl⟩ : ∃ j, l = j + 2 := ⟨l - 2, by omega⟩
    obtain ⟨d, e, s, rfl, g, lf'⟩ := leaf_at (ns := ns) hca hrm hlf l (k : Nat) (by omega)
    have hc := cell_eq ns (2 * (k : Int)) (by omega)
    have hk6 : (6 : Int) < k := by omega
    rw [hsh]
    refine fnD_RT (.sq (by simp only [fnD, gNx, gSeq, gSet, gSetO, ownAt, gApp, gRev, gPut, frz, gFrz, gRet, gExpr, gIf, gExc, asL, eVar, eC, eOp, eUn, toB, tB, tAndB, tOrB, tNotB, eAnd, eOr, eNot, eChain, aNil, aCons, eTup, oLst, eO, eCall, oUn, oSl, rNone, rSome, toI, dCut, eLenO, eIxO, sBind_ok, sBind_exc, sBind_stk, Res.bind_ok, Res.bind_exc, Res.bind_stk, SRes.thn_nx, SRes.thn_rt, SRes.thn_exc, SRes.thn_stk, List.map_cons, List.map_nil, List.cons_append, List.nil_append, List.length_cons, List.length_nil, List.replicate_succ, List.replicate_zero, List.getElem?_cons_zero, List.getElem?_cons_succ, List.set_cons_zero, List.set_cons_succ, Nat.zero_add, Nat.reduceAdd, Nat.reduceSub, dAdd, dSub, dMul, dDiv, dMod, dNeg, dCmp, dLt, dLe, dGt, dGe, dEq, dNe, dEq?, dIsN, dNotN, dIsi, isTy, dLen, dIx_lst, dIx_tup, dIx_scr, dList, dRev, dInt, dMax2, dMin2, decide_eq_true_eq, if_true, if_false, Bool.not_true, Bool.not_false, Bool.false_eq_true, reduceIte, Int.reduceLT, Int.reduceLE, Int.reduceEq, Int.reduceNeg, String.reduceEq, decide_true, decide_false, ci0, ci1, ci2, ci3, ci4, ci5, dAt_0, dAt_1, dAt_2, dAt_3, dv2, dv3, dv4, dv5, dv7, dv12, dv60, dv64, fz0, fz1, fz2, fz3, fz4, fz5, fz11, mulOk2, mulOk7, Int.reduceSub, Int.reduceAdd, dCut, repOk13, repOk54, Int.reduceToNat, List.flatten_cons, List.flatten_nil, List.append_nil, hca, hc] <;> rfl) (.sq (by simp only [fnD, gNx, gSeq, gSet, gSetO, ownAt, gApp, gRev, gPut, frz, gFrz, gRet, gExpr, gIf, gExc, asL, eVar, eC, eOp, eUn, toB, tB, tAndB, tOrB, tNotB, eAnd, eOr, eNot, eChain, aNil, aCons, eTup, oLst, eO, eCall, oUn, oSl, rNone, rSome, toI, dCut, eLenO, eIxO, sBind_ok, sBind_exc, sBind_stk, Res.bind_ok, Res.bind_exc, Res.bind_stk, SRes.thn_nx, SRes.thn_rt, SRes.thn_exc, SRes.thn_stk, List.map_cons, List.map_nil, List.cons_append, List.nil_append, List.length_cons, List.length_nil, List.replicate_succ, List.replicate_zero, List.getElem?_cons_zero, List.getElem?_cons_succ, List.set_cons_zero, List.set_cons_succ, Nat.zero_add, Nat.reduceAdd, Nat.reduceSub, dAdd, dSub, dMul, dDiv, dMod, dNeg, dCmp, dLt, dLe, dGt, dGe, dEq, dNe, dEq?, dIsN, dNotN, dIsi, isTy, dLen, dIx_lst, dIx_tup, dIx_scr, dList, dRev, dInt, dMax2, dMin2, decide_eq_true_eq, if_true, if_false, Bool.not_true, Bool.not_false, Bool.false_eq_true, reduceIte, Int.reduceLT, Int.reduceLE, Int.reduceEq, Int.reduceNeg, String.reduceEq, decide_true, decide_false, ci0, ci1, ci2, ci3, ci4, ci5, dAt_0, dAt_1, dAt_2, dAt_3, dv2, dv3, dv4, dv5, dv7, dv12, dv60, dv64, fz0, fz1, fz2, fz3, fz4, fz5, fz11, mulOk2, mulOk7, Int.reduceSub, Int.reduceAdd, dCut, repOk13, repOk54, Int.reduceToNat, List.flatten_cons, List.flatten_nil, List.append_nil] <;> rfl) (.sr (.ift (by simp only [fnD, gNx, gSeq, gSet, gSetO, ownAt, gApp, gRev, gPut, frz, gFrz, gRet, gExpr, gIf, gExc, asL, eVar, eC, eOp, eUn, toB, tB, tAndB, tOrB, tNotB, eAnd, eOr, eNot, eChain, aNil, aCons, eTup, oLst, eO, eCall, oUn, oSl, rNone, rSome, toI, dCut, eLenO, eIxO, sBind_ok, sBind_exc, sBind_stk, Res.bind_ok, Res.bind_exc, Res.bind_stk, SRes.thn_nx, SRes.thn_rt, SRes.thn_exc, SRes.thn_stk, List.map_cons, List.map_nil, List.cons_append, List.nil_append, List.length_cons, List.length_nil, List.replicate_succ, List.replicate_zero, List.getElem?_cons_zero, List.getElem?_cons_succ, List.set_cons_zero, List.set_cons_succ, Nat.zero_add, Nat.reduceAdd, Nat.reduceSub, dAdd, dSub, dMul, dDiv, dMod, dNeg, dCmp, dLt, dLe, dGt, dGe, dEq, dNe, dEq?, dIsN, dNotN, dIsi, isTy, dLen, dIx_lst, dIx_tup, dIx_scr, dList, dRev, dInt, dMax2, dMin2, decide_eq_true_eq, if_true, if_false, Bool.not_true, Bool.not_false, Bool.false_eq_true, reduceIte, Int.reduceLT, Int.reduceLE, Int.reduceEq, Int.reduceNeg, String.reduceEq, decide_true, decide_false, ci0, ci1, ci2, ci3, ci4, ci5, dAt_0, dAt_1, dAt_2, dAt_3, dv2, dv3, dv4, dv5, dv7, dv12, dv60, dv64, fz0, fz1, fz2, fz3, fz4, fz5, fz11, mulOk2, mulOk7, Int.reduceSub, Int.reduceAdd, dCut, repOk13, repOk54, Int.reduceToNat, List.flatten_cons, List.flatten_nil, List.append_nil, hk6, decide_true]) (.ret (by simp only [fnD, gNx, gSeq, gSet, gSetO, ownAt, gApp, gRev, gPut, frz, gFrz, gRet, gExpr, gIf, gExc, asL, eVar, eC, eOp, eUn, toB, tB, tAndB, tOrB, tNotB, eAnd, eOr, eNot, eChain, aNil, aCons, eTup, oLst, eO, eCall, oUn, oSl, rNone, rSome, toI, dCut, eLenO, eIxO, sBind_ok, sBind_exc, sBind_stk, Res.bind_ok, Res.bind_exc, Res.bind_stk, SRes.thn_nx, SRes.thn_rt, SRes.thn_exc, SRes.thn_stk, List.map_cons, List.map_nil, List.cons_append, List.nil_append, List.length_cons, List.length_nil, List.replicate_succ, List.replicate_zero, List.getElem?_cons_zero, List.getElem?_cons_succ, List.set_cons_zero, List.set_cons_succ, Nat.zero_add, Nat.reduceAdd, Nat.reduceSub, dAdd, dSub, dMul, dDiv, dMod, dNeg, dCmp, dLt, dLe, dGt, dGe, dEq, dNe, dEq?, dIsN, dNotN, dIsi, isTy, dLen, dIx_lst, dIx_tup, dIx_scr, dList, dRev, dInt, dMax2, dMin2, decide_eq_true_eq, if_true, if_false, Bool.not_true, Bool.not_false, Bool.false_eq_true, reduceIte, Int.reduceLT, Int.reduceLE, Int.reduceEq, Int.reduceNeg, String.reduceEq, decide_true, decide_false, ci0, ci1, ci2, ci3, ci4, ci5, dAt_0, dAt_1, dAt_2, dAt_3, dv2, dv3, dv4, dv5, dv7, dv12, dv60, dv64, fz0, fz1, fz2, fz3, fz4, fz5, fz11, mulOk2, mulOk7, Int.reduceSub, Int.reduceAdd, dCut, repOk13, repOk54, Int.reduceToNat, List.flatten_cons, List.flatten_nil, List.append_nil, e] <;> rfl) ⟨s, rfl, leaf_ok g lf'⟩)))))
  | succ n ih =>
    intro k hk l hl
    obtain ⟨l, rfl⟩ : ∃ j, l = j + 2 := ⟨l - 2, by omega⟩
    have hp : 1 ≤ 20 ^ n := Nat.one_le_pow n 20 (by omega)
    have mono : ∀ s, shOk 1 64 s → shOk (n + 1) (64 * 20 ^ n) s := fun s h => h.mono (by omega) (by omega)
    have up : ∀ s, shOk (n + 1) (64 * 20 ^ n) s → shOk (n + 1 + 1) (64 * 20 ^ (n + 1)) s := fun s h => h.mono (by omega) (by rw [Nat.pow_succ]; omega)
    have e20 : 64 * 20 ^ (n + 1) = 20 * (64 * 20 ^ n) := by rw [Nat.pow_succ]; omega
    have h64 : 64 ≤ 64 * 20 ^ n := by omega
    obtain ⟨d, e, s, rfl, g, lf'⟩ := leaf_at (ns := ns) hca hrm hlf l (k : Nat) (by omega)
    obtain ⟨d2, e2, s2, rfl, g2, lf2⟩ := leaf_at (ns := ns) hca hrm hlf l (15 + (k : Nat)) (by omega)
    obtain ⟨d3, e3, s3, rfl, g3, lf3⟩ := leaf_at (ns := ns) hca hrm hlf l (22 + (k : Nat)) (by omega)
    obtain ⟨d0, e0, s0, rfl, o0⟩ := ih (2 * k + 1) (by rw [Nat.pow_succ] at hk; rw [show 2 * k + 1 + 1 = (k + 1) * 2 by omega, Nat.mul_assoc, Nat.mul_comm 2]; exact hk) (l + 1) (by omega)
    obtain ⟨d1, e1, s1, rfl, o1⟩ := ih (2 * k + 2) (by
      rw [Nat.pow_succ] at hk
      have : (k + 1) * (2 ^ n * 2) ≤ (2 * k + 2 + 1) * 2 ^ n := by rw [Nat.mul_comm (2 ^ n), ← Nat.mul_assoc]; exact Nat.mul_le_mul_right _ (by omega)
      omega) (l + 1) (by omega)
    have c0 : (2 * (k : Int) + 1) = ((2 * k + 1 : Nat) : Int) := by omega
    have c1 : (2 * (k : Int) + 2) = ((2 * k + 2 : Nat) : Int) := by omega
    rw [← c0] at e0
    rw [← c1] at e1
    have hc := cell_eq ns (2 * (k : Int)) (by omega)
    generalize ns.getD (2 * (k : Int)).toNat 0 = c at hc
    rw [hsh]
    refine fnD_RT (.sq (by simp only [fnD, gNx, gSeq, gSet, gSetO, ownAt, gApp, gRev, gPut, frz, gFrz, gRet, gExpr, gIf, gExc, asL, eVar, eC, eOp, eUn, toB, tB, tAndB, tOrB, tNotB, eAnd, eOr, eNot, eChain, aNil, aCons, eTup, oLst, eO, eCall, oUn, oSl, rNone, rSome, toI, dCut, eLenO, eIxO, sBind_ok, sBind_exc, sBind_stk, Res.bind_ok, Res.bind_exc, Res.bind_stk, SRes.thn_nx, SRes.thn_rt, SRes.thn_exc, SRes.thn_stk, List.map_cons, List.map_nil, List.cons_append, List.nil_append, List.length_cons, List.length_nil, List.replicate_succ, List.replicate_zero, List.getElem?_cons_zero, List.getElem?_cons_succ, List.set_cons_zero, List.set_cons_succ, Nat.zero_add, Nat.reduceAdd, Nat.reduceSub, dAdd, dSub, dMul, dDiv, dMod, dNeg, dCmp, dLt, dLe, dGt, dGe, dEq, dNe, dEq?, dIsN, dNotN, dIsi, isTy, dLen, dIx_lst, dIx_tup, dIx_scr, dList, dRev, dInt, dMax2, dMin2, decide_eq_true_eq, if_true, if_false, Bool.not_true, Bool.not_false, Bool.false_eq_true, reduceIte, Int.reduceLT, Int.reduceLE, Int.reduceEq, Int.reduceNeg, String.reduceEq, decide_true, decide_false, ci0, ci1, ci2, ci3, ci4, ci5, dAt_0, dAt_1, dAt_2, dAt_3, dv2, dv3, dv4, dv5, dv7, dv12, dv60, dv64, fz0, fz1, fz2, fz3, fz4, fz5, fz11, mulOk2, mulOk7, Int.reduceSub, Int.reduceAdd, dCut, repOk13, repOk54, Int.reduceToNat, List.flatten_cons, List.flatten_nil, List.append_nil, hca, hc] <;> rfl) (.sq (by simp only [fnD, gNx, gSeq, gSet, gSetO, ownAt, gApp, gRev, gPut, frz, gFrz, gRet, gExpr, gIf, gExc, asL, eVar, eC, eOp, eUn, toB, tB, tAndB, tOrB, tNotB, eAnd, eOr, eNot, eChain, aNil, aCons, eTup, oLst, eO, eCall, oUn, oSl, rNone, rSome, toI, dCut, eLenO, eIxO, sBind_ok, sBind_exc, sBind_stk, Res.bind_ok, Res.bind_exc, Res.bind_stk, SRes.thn_nx, SRes.thn_rt, SRes.thn_exc, SRes.thn_stk, List.map_cons, List.map_nil, List.cons_append, List.nil_append, List.length_cons, List.length_nil, List.replicate_succ, List.replicate_zero, List.getElem?_cons_zero, List.getElem?_cons_succ, List.set_cons_zero, List.set_cons_succ, Nat.zero_add, Nat.reduceAdd, Nat.reduceSub, dAdd, dSub, dMul, dDiv, dMod, dNeg, dCmp, dLt, dLe, dGt, dGe, dEq, dNe, dEq?, dIsN, dNotN, dIsi, isTy, dLen, dIx_lst, dIx_tup, dIx_scr, dList, dRev, dInt, dMax2, dMin2, decide_eq_true_eq, if_true, if_false, Bool.not_true, Bool.not_false, Bool.false_eq_true, reduceIte, Int.reduceLT, Int.reduceLE, Int.reduceEq, Int.reduceNeg, String.reduceEq, decide_true, decide_false, ci0, ci1, ci2, ci3, ci4, ci5, dAt_0, dAt_1, dAt_2, dAt_3, dv2, dv3, dv4, dv5, dv7, dv12, dv60, dv64, fz0, fz1, fz2, fz3, fz4, fz5, fz11, mulOk2, mulOk7, Int.reduceSub, Int.reduceAdd, dCut, repOk13, repOk54, Int.reduceToNat, List.flatten_cons, List.flatten_nil, List.append_nil] <;> rfl) ?_))
    by_cases b : (6 : Int) < k ∨ c % 7 < 2
    · refine .sr (.ift ?_ (.ret (by simp only [fnD, gNx, gSeq, gSet, gSetO, ownAt, gApp, gRev, gPut, frz, gFrz, gRet, gExpr, gIf, gExc, asL, eVar, eC, eOp, eUn, toB, tB, tAndB, tOrB, tNotB, eAnd, eOr, eNot, eChain, aNil, aCons, eTup, oLst, eO, eCall, oUn, oSl, rNone, rSome, toI, dCut, eLenO, eIxO, sBind_ok, sBind_exc, sBind_stk, Res.bind_ok, Res.bind_exc, Res.bind_stk, SRes.thn_nx, SRes.thn_rt, SRes.thn_exc, SRes.thn_stk, List.map_cons, List.map_nil, List.cons_append, List.nil_append, List.length_cons, List.length_nil, List.replicate_succ, List.replicate_zero, List.getElem?_cons_zero, List.getElem?_cons_succ, List.set_cons_zero, List.set_cons_succ, Nat.zero_add, Nat.reduceAdd, Nat.reduceSub, dAdd, dSub, dMul, dDiv, dMod, dNeg, dCmp, dLt, dLe, dGt, dGe, dEq, dNe, dEq?, dIsN, dNotN, dIsi, isTy, dLen, dIx_lst, dIx_tup, dIx_scr, dList, dRev, dInt, dMax2, dMin2, decide_eq_true_eq, if_true, if_false, Bool.not_true, Bool.not_false, Bool.false_eq_true, reduceIte, Int.reduceLT, Int.reduceLE, Int.reduceEq, Int.reduceNeg, String.reduceEq, decide_true, decide_false, ci0, ci1, ci2, ci3, ci4, ci5, dAt_0, dAt_1, dAt_2, dAt_3, dv2, dv3, dv4, dv5, dv7, dv12, dv60, dv64, fz0, fz1, fz2, fz3, fz4, fz5, fz11, mulOk2, mulOk7, Int.reduceSub, Int.reduceAdd, dCut, repOk13, repOk54, Int.reduceToNat, List.flatten_cons, List.flatten_nil, List.append_nil, e] <;> rfl) ⟨s, rfl, up s (mono s (leaf_ok g lf'))⟩))
      by_cases b1 : (6 : Int) < k
      · simp only [fnD, gNx, gSeq, gSet, gSetO, ownAt, gApp, gRev, gPut, frz, gFrz, gRet, gExpr, gIf, gExc, asL, eVar, eC, eOp, eUn, toB, tB, tAndB, tOrB, tNotB, eAnd, eOr, eNot, eChain, aNil, aCons, eTup, oLst, eO, eCall, oUn, oSl, rNone, rSome, toI, dCut, eLenO, eIxO, sBind_ok, sBind_exc, sBind_stk, Res.bind_ok, Res.bind_exc, Res.bind_stk, SRes.thn_nx, SRes.thn_rt, SRes.thn_exc, SRes.thn_stk, List.map_cons, List.map_nil, List.cons_append, List.nil_append, List.length_cons, List.length_nil, List.replicate_succ, List.replicate_zero, List.getElem?_cons_zero, List.getElem?_cons_succ, List.set_cons_zero, List.set_cons_succ, Nat.zero_add, Nat.reduceAdd, Nat.reduceSub, dAdd, dSub, dMul, dDiv, dMod, dNeg, dCmp, dLt, dLe, dGt, dGe, dEq, dNe, dEq?, dIsN, dNotN, dIsi, isTy, dLen, dIx_lst, dIx_tup, dIx_scr, dList, dRev, dInt, dMax2, dMin2, decide_eq_true_eq, if_true, if_false, Bool.not_true, Bool.not_false, Bool.false_eq_true, reduceIte, Int.reduceLT, Int.reduceLE, Int.reduceEq, Int.reduceNeg, String.reduceEq, decide_true, decide_false, ci0, ci1, ci2, ci3, ci4, ci5, dAt_0, dAt_1, dAt_2, dAt_3, dv2, dv3, dv4, dv5, dv7, dv12, dv60, dv64, fz0, fz1, fz2, fz3, fz4, fz5, fz11, mulOk2, mulOk7, Int.reduceSub, Int.reduceAdd, dCut, repOk13, repOk54, Int.reduceToNat, List.flatten_cons, List.flatten_nil, List.append_nil, b1, decide_true]
      · simp only [fnD, gNx, gSeq, gSet, gSetO, ownAt, gApp, gRev, gPut, frz, gFrz, gRet, gExpr, gIf, gExc, asL, eVar, eC, eOp, eUn, toB, tB, tAndB, tOrB, tNotB, eAnd, eOr, eNot, eChain, aNil, aCons, eTup, oLst, eO, eCall, oUn, oSl, rNone, rSome, toI, dCut, eLenO, eIxO, sBind_ok, sBind_exc, sBind_stk, Res.bind_ok, Res.bind_exc, Res.bind_stk, SRes.thn_nx, SRes.thn_rt, SRes.thn_exc, SRes.thn_stk, List.map_cons, List.map_nil, List.cons_append, List.nil_append, List.length_cons, List.length_nil, List.replicate_succ, List.replicate_zero, List.getElem?_cons_zero, List.getElem?_cons_succ, List.set_cons_zero, List.set_cons_succ, Nat.zero_add, Nat.reduceAdd, Nat.reduceSub, dAdd, dSub, dMul, dDiv, dMod, dNeg, dCmp, dLt, dLe, dGt, dGe, dEq, dNe, dEq?, dIsN, dNotN, dIsi, isTy, dLen, dIx_lst, dIx_tup, dIx_scr, dList, dRev, dInt, dMax2, dMin2, decide_eq_true_eq, if_true, if_false, Bool.not_true, Bool.not_false, Bool.false_eq_true, reduceIte, Int.reduceLT, Int.reduceLE, Int.reduceEq, Int.reduceNeg, String.reduceEq, decide_true, decide_false, ci0, ci1, ci2, ci3, ci4, ci5, dAt_0, dAt_1, dAt_2, dAt_3, dv2, dv3, dv4, dv5, dv7, dv12, dv60, dv64, fz0, fz1, fz2, fz3, fz4, fz5, fz11, mulOk2, mulOk7, Int.reduceSub, Int.reduceAdd, dCut, repOk13, repOk54, Int.reduceToNat, List.flatten_cons, List.flatten_nil, List.append_nil, b1, b.resolve_left b1, decide_true, decide_false]
    · have b1 : ¬ (6 : Int) < k := fun z => b (.inl z)
      have b2 : ¬ c % 7 < 2 := fun z => b (.inr z)
      refine .sq (if_n (by simp only [fnD, gNx, gSeq, gSet, gSetO, ownAt, gApp, gRev, gPut, frz, gFrz, gRet, gExpr, gIf, gExc, asL, eVar, eC, eOp, eUn, toB, tB, tAndB, tOrB, tNotB, eAnd, eOr, eNot, eChain, aNil, aCons, eTup, oLst, eO, eCall, oUn, oSl, rNone, rSome, toI, dCut, eLenO, eIxO, sBind_ok, sBind_exc, sBind_stk, Res.bind_ok, Res.bind_exc, Res.bind_stk, SRes.thn_nx, SRes.thn_rt, SRes.thn_exc, SRes.thn_stk, List.map_cons, List.map_nil, List.cons_append, List.nil_append, List.length_cons, List.length_nil, List.replicate_succ, List.replicate_zero, List.getElem?_cons_zero, List.getElem?_cons_succ, List.set_cons_zero, List.set_cons_succ, Nat.zero_add, Nat.reduceAdd, Nat.reduceSub, dAdd, dSub, dMul, dDiv, dMod, dNeg, dCmp, dLt, dLe, dGt, dGe, dEq, dNe, dEq?, dIsN, dNotN, dIsi, isTy, dLen, dIx_lst, dIx_tup, dIx_scr, dList, dRev, dInt, dMax2, dMin2, decide_eq_true_eq, if_true, if_false, Bool.not_true, Bool.not_false, Bool.false_eq_true, reduceIte, Int.reduceLT, Int.reduceLE, Int.reduceEq, Int.reduceNeg, String.reduceEq, decide_true, decide_false, ci0, ci1, ci2, ci3, ci4, ci5, dAt_0, dAt_1, dAt_2, dAt_3, dv2, dv3, dv4, dv5, dv7, dv12, dv60, dv64, fz0, fz1, fz2, fz3, fz4, fz5, fz11, mulOk2, mulOk7, Int.reduceSub, Int.reduceAdd, dCut, repOk13, repOk54, Int.reduceToNat, List.flatten_cons, List.flatten_nil, List.append_nil, b1, b2, decide_false])) (.sq (by simp only [fnD, gNx, gSeq, gSet, gSetO, ownAt, gApp, gRev, gPut, frz, gFrz, gRet, gExpr, gIf, gExc, asL, eVar, eC, eOp, eUn, toB, tB, tAndB, tOrB, tNotB, eAnd, eOr, eNot, eChain, aNil, aCons, eTup, oLst, eO, eCall, oUn, oSl, rNone, rSome, toI, dCut, eLenO, eIxO, sBind_ok, sBind_exc, sBind_stk, Res.bind_ok, Res.bind_exc, Res.bind_stk, SRes.thn_nx, SRes.thn_rt, SRes.thn_exc, SRes.thn_stk, List.map_cons, List.map_nil, List.cons_append, List.nil_append, List.length_cons, List.length_nil, List.replicate_succ, List.replicate_zero, List.getElem?_cons_zero, List.getElem?_cons_succ, List.set_cons_zero, List.set_cons_succ, Nat.zero_add, Nat.reduceAdd, Nat.reduceSub, dAdd, dSub, dMul, dDiv, dMod, dNeg, dCmp, dLt, dLe, dGt, dGe, dEq, dNe, dEq?, dIsN, dNotN, dIsi, isTy, dLen, dIx_lst, dIx_tup, dIx_scr, dList, dRev, dInt, dMax2, dMin2, decide_eq_true_eq, if_true, if_false, Bool.not_true, Bool.not_false, Bool.false_eq_true, reduceIte, Int.reduceLT, Int.reduceLE, Int.reduceEq, Int.reduceNeg, String.reduceEq, decide_true, decide_false, ci0, ci1, ci2, ci3, ci4, ci5, dAt_0, dAt_1, dAt_2, dAt_3, dv2, dv3, dv4, dv5, dv7, dv12, dv60, dv64, fz0, fz1, fz2, fz3, fz4, fz5, fz11, mulOk2, mulOk7, Int.reduceSub, Int.reduceAdd, dCut, repOk13, repOk54, Int.reduceToNat, List.flatten_cons, List.flatten_nil, List.append_nil, e0] <;> rfl) (.sq (by simp only [fnD, gNx, gSeq, gSet, gSetO, ownAt, gApp, gRev, gPut, frz, gFrz, gRet, gExpr, gIf, gExc, asL, eVar, eC, eOp, eUn, toB, tB, tAndB, tOrB, tNotB, eAnd, eOr, eNot, eChain, aNil, aCons, eTup, oLst, eO, eCall, oUn, oSl, rNone, rSome, toI, dCut, eLenO, eIxO, sBind_ok, sBind_exc, sBind_stk, Res.bind_ok, Res.bind_exc, Res.bind_stk, SRes.thn_nx, SRes.thn_rt, SRes.thn_exc, SRes.thn_stk, List.map_cons, List.map_nil, List.cons_append, List.nil_append, List.length_cons, List.length_nil, List.replicate_succ, List.replicate_zero, List.getElem?_cons_zero, List.getElem?_cons_succ, List.set_cons_zero, List.set_cons_succ, Nat.zero_add, Nat.reduceAdd, Nat.reduceSub, dAdd, dSub, dMul, dDiv, dMod, dNeg, dCmp, dLt, dLe, dGt, dGe, dEq, dNe, dEq?, dIsN, dNotN, dIsi, isTy, dLen, dIx_lst, dIx_tup, dIx_scr, dList, dRev, dInt, dMax2, dMin2, decide_eq_true_eq, if_true, if_false, Bool.not_true, Bool.not_false, Bool.false_eq_true, reduceIte, Int.reduceLT, Int.reduceLE, Int.reduceEq, Int.reduceNeg, String.reduceEq, decide_true, decide_false, ci0, ci1, ci2, ci3, ci4, ci5, dAt_0, dAt_1, dAt_2, dAt_3, dv2, dv3, dv4, dv5, dv7, dv12, dv60, dv64, fz0, fz1, fz2, fz3, fz4, fz5, fz11, mulOk2, mulOk7, Int.reduceSub, Int.reduceAdd, dCut, repOk13, repOk54, Int.reduceToNat, List.flatten_cons, List.flatten_nil, List.append_nil, e1] <;> rfl) ?_))
      by_cases z2 : c % 7 = 2
      · exact .sr (.ift (by simp only [fnD, gNx, gSeq, gSet, gSetO, ownAt, gApp, gRev, gPut, frz, gFrz, gRet, gExpr, gIf, gExc, asL, eVar, eC, eOp, eUn, toB, tB, tAndB, tOrB, tNotB, eAnd, eOr, eNot, eChain, aNil, aCons, eTup, oLst, eO, eCall, oUn, oSl, rNone, rSome, toI, dCut, eLenO, eIxO, sBind_ok, sBind_exc, sBind_stk, Res.bind_ok, Res.bind_exc, Res.bind_stk, SRes.thn_nx, SRes.thn_rt, SRes.thn_exc, SRes.thn_stk, List.map_cons, List.map_nil, List.cons_append, List.nil_append, List.length_cons, List.length_nil, List.replicate_succ, List.replicate_zero, List.getElem?_cons_zero, List.getElem?_cons_succ, List.set_cons_zero, List.set_cons_succ, Nat.zero_add, Nat.reduceAdd, Nat.reduceSub, dAdd, dSub, dMul, dDiv, dMod, dNeg, dCmp, dLt, dLe, dGt, dGe, dEq, dNe, dEq?, dIsN, dNotN, dIsi, isTy, dLen, dIx_lst, dIx_tup, dIx_scr, dList, dRev, dInt, dMax2, dMin2, decide_eq_true_eq, if_true, if_false, Bool.not_true, Bool.not_false, Bool.false_eq_true, reduceIte, Int.reduceLT, Int.reduceLE, Int.reduceEq, Int.reduceNeg, String.reduceEq, decide_true, decide_false, ci0, ci1, ci2, ci3, ci4, ci5, dAt_0, dAt_1, dAt_2, dAt_3, dv2, dv3, dv4, dv5, dv7, dv12, dv60, dv64, fz0, fz1, fz2, fz3, fz4, fz5, fz11, mulOk2, mulOk7, Int.reduceSub, Int.reduceAdd, dCut, repOk13, repOk54, Int.reduceToNat, List.flatten_cons, List.flatten_nil, List.append_nil, z2, decide_true]) (.ret (by simp only [fnD, gNx, gSeq, gSet, gSetO, ownAt, gApp, gRev, gPut, frz, gFrz, gRet, gExpr, gIf, gExc, asL, eVar, eC, eOp, eUn, toB, tB, tAndB, tOrB, tNotB, eAnd, eOr, eNot, eChain, aNil, aCons, eTup, oLst, eO, eCall, oUn, oSl, rNone, rSome, toI, dCut, eLenO, eIxO, sBind_ok, sBind_exc, sBind_stk, Res.bind_ok, Res.bind_exc, Res.bind_stk, SRes.thn_nx, SRes.thn_rt, SRes.thn_exc, SRes.thn_stk, List.map_cons, List.map_nil, List.cons_append, List.nil_append, List.length_cons, List.length_nil, List.replicate_succ, List.replicate_zero, List.getElem?_cons_zero, List.getElem?_cons_succ, List.set_cons_zero, List.set_cons_succ, Nat.zero_add, Nat.reduceAdd, Nat.reduceSub, dAdd, dSub, dMul, dDiv, dMod, dNeg, dCmp, dLt, dLe, dGt, dGe, dEq, dNe, dEq?, dIsN, dNotN, dIsi, isTy, dLen, dIx_lst, dIx_tup, dIx_scr, dList, dRev, dInt, dMax2, dMin2, decide_eq_true_eq, if_true, if_false, Bool.not_true, Bool.not_false, Bool.false_eq_true, reduceIte, Int.reduceLT, Int.reduceLE, Int.reduceEq, Int.reduceNeg, String.reduceEq, decide_true, decide_false, ci0, ci1, ci2, ci3, ci4, ci5, dAt_0, dAt_1, dAt_2, dAt_3, dv2, dv3, dv4, dv5, dv7, dv12, dv60, dv64, fz0, fz1, fz2, fz3, fz4, fz5, fz11, mulOk2, mulOk7, Int.reduceSub, Int.reduceAdd, dCut, repOk13, repOk54, Int.reduceToNat, List.flatten_cons, List.flatten_nil, List.append_nil] <;> rfl) ⟨.maybe s0, by rw [enc], by rw [e20]; exact maybe_ok o0 h64⟩))
      refine .sq (if_n (by simp only [fnD, gNx, gSeq, gSet, gSetO, ownAt, gApp, gRev, gPut, frz, gFrz, gRet, gExpr, gIf, gExc, asL, eVar, eC, eOp, eUn, toB, tB, tAndB, tOrB, tNotB, eAnd, eOr, eNot, eChain, aNil, aCons, eTup, oLst, eO, eCall, oUn, oSl, rNone, rSome, toI, dCut, eLenO, eIxO, sBind_ok, sBind_exc, sBind_stk, Res.bind_ok, Res.bind_exc, Res.bind_stk, SRes.thn_nx, SRes.thn_rt, SRes.thn_exc, SRes.thn_stk, List.map_cons, List.map_nil, List.cons_append, List.nil_append, List.length_cons, List.length_nil, List.replicate_succ, List.replicate_zero, List.getElem?_cons_zero, List.getElem?_cons_succ, List.set_cons_zero, List.set_cons_succ, Nat.zero_add, Nat.reduceAdd, Nat.reduceSub, dAdd, dSub, dMul, dDiv, dMod, dNeg, dCmp, dLt, dLe, dGt, dGe, dEq, dNe, dEq?, dIsN, dNotN, dIsi, isTy, dLen, dIx_lst, dIx_tup, dIx_scr, dList, dRev, dInt, dMax2, dMin2, decide_eq_true_eq, if_true, if_false, Bool.not_true, Bool.not_false, Bool.false_eq_true, reduceIte, Int.reduceLT, Int.reduceLE, Int.reduceEq, Int.reduceNeg, String.reduceEq, decide_true, decide_false, ci0, ci1, ci2, ci3, ci4, ci5, dAt_0, dAt_1, dAt_2, dAt_3, dv2, dv3, dv4, dv5, dv7, dv12, dv60, dv64, fz0, fz1, fz2, fz3, fz4, fz5, fz11, mulOk2, mulOk7, Int.reduceSub, Int.reduceAdd, dCut, repOk13, repOk54, Int.reduceToNat, List.flatten_cons, List.flatten_nil, List.append_nil, z2, decide_false])) ?_
      by_cases z3 : c % 7 = 3
      · obtain ⟨w, ew, hw⟩ : ∃ w : Nat, dAt [.int 1, .int 2, .int 3, .int 4, .int 5, .int 6, .int 7, .int 8, .int 0, .int 2, .int 3] (c / 7 % 11) = .ok (.int w) ∧ w ≤ 8 := by
          obtain ⟨i, ei, hi⟩ : ∃ i : Nat, c / 7 % 11 = (i : Int) ∧ i < 11 := ⟨(c / 7 % 11).toNat, by omega, by omega⟩
          rw [ei]
          have : ∀ i : Nat, i < 11 → ∃ w : Nat, dAt [.int 1, .int 2, .int 3, .int 4, .int 5, .int 6, .int 7, .int 8, .int 0, .int 2, .int 3] (i : Int) = .ok (.int w) ∧ w ≤ 8
            | 0, _ => ⟨1, rfl, by omega⟩
            | 1, _ => ⟨2, rfl, by omega⟩
            | 2, _ => ⟨3, rfl, by omega⟩
            | 3, _ => ⟨4, rfl, by omega⟩
            | 4, _ => ⟨5, rfl, by omega⟩
            | 5, _ => ⟨6, rfl, by omega⟩
            | 6, _ => ⟨7, rfl, by omega⟩
            | 7, _ => ⟨8, rfl, by omega⟩
            | 8, _ => ⟨0, rfl, by omega⟩
            | 9, _ => ⟨2, rfl, by omega⟩
            | 10, _ => ⟨3, rfl, by omega⟩
            | i + 11, h => by omega
          exact this i hi
        exact .sr (.ift (by simp only [fnD, gNx, gSeq, gSet, gSetO, ownAt, gApp, gRev, gPut, frz, gFrz, gRet, gExpr, gIf, gExc, asL, eVar, eC, eOp, eUn, toB, tB, tAndB, tOrB, tNotB, eAnd, eOr, eNot, eChain, aNil, aCons, eTup, oLst, eO, eCall, oUn, oSl, rNone, rSome, toI, dCut, eLenO, eIxO, sBind_ok, sBind_exc, sBind_stk, Res.bind_ok, Res.bind_exc, Res.bind_stk, SRes.thn_nx, SRes.thn_rt, SRes.thn_exc, SRes.thn_stk, List.map_cons, List.map_nil, List.cons_append, List.nil_append, List.length_cons, List.length_nil, List.replicate_succ, List.replicate_zero, List.getElem?_cons_zero, List.getElem?_cons_succ, List.set_cons_zero, List.set_cons_succ, Nat.zero_add, Nat.reduceAdd, Nat.reduceSub, dAdd, dSub, dMul, dDiv, dMod, dNeg, dCmp, dLt, dLe, dGt, dGe, dEq, dNe, dEq?, dIsN, dNotN, dIsi, isTy, dLen, dIx_lst, dIx_tup, dIx_scr, dList, dRev, dInt, dMax2, dMin2, decide_eq_true_eq, if_true, if_false, Bool.not_true, Bool.not_false, Bool.false_eq_true, reduceIte, Int.reduceLT, Int.reduceLE, Int.reduceEq, Int.reduceNeg, String.reduceEq, decide_true, decide_false, ci0, ci1, ci2, ci3, ci4, ci5, dAt_0, dAt_1, dAt_2, dAt_3, dv2, dv3, dv4, dv5, dv7, dv12, dv60, dv64, fz0, fz1, fz2, fz3, fz4, fz5, fz11, mulOk2, mulOk7, Int.reduceSub, Int.reduceAdd, dCut, repOk13, repOk54, Int.reduceToNat, List.flatten_cons, List.flatten_nil, List.append_nil, z3, decide_true]) (.ret (by simp only [fnD, gNx, gSeq, gSet, gSetO, ownAt, gApp, gRev, gPut, frz, gFrz, gRet, gExpr, gIf, gExc, asL, eVar, eC, eOp, eUn, toB, tB, tAndB, tOrB, tNotB, eAnd, eOr, eNot, eChain, aNil, aCons, eTup, oLst, eO, eCall, oUn, oSl, rNone, rSome, toI, dCut, eLenO, eIxO, sBind_ok, sBind_exc, sBind_stk, Res.bind_ok, Res.bind_exc, Res.bind_stk, SRes.thn_nx, SRes.thn_rt, SRes.thn_exc, SRes.thn_stk, List.map_cons, List.map_nil, List.cons_append, List.nil_append, List.length_cons, List.length_nil, List.replicate_succ, List.replicate_zero, List.getElem?_cons_zero, List.getElem?_cons_succ, List.set_cons_zero, List.set_cons_succ, Nat.zero_add, Nat.reduceAdd, Nat.reduceSub, dAdd, dSub, dMul, dDiv, dMod, dNeg, dCmp, dLt, dLe, dGt, dGe, dEq, dNe, dEq?, dIsN, dNotN, dIsi, isTy, dLen, dIx_lst, dIx_tup, dIx_scr, dList, dRev, dInt, dMax2, dMin2, decide_eq_true_eq, if_true, if_false, Bool.not_true, Bool.not_false, Bool.false_eq_true, reduceIte, Int.reduceLT, Int.reduceLE, Int.reduceEq, Int.reduceNeg, String.reduceEq, decide_true, decide_false, ci0, ci1, ci2, ci3, ci4, ci5, dAt_0, dAt_1, dAt_2, dAt_3, dv2, dv3, dv4, dv5, dv7, dv12, dv60, dv64, fz0, fz1, fz2, fz3, fz4, fz5, fz11, mulOk2, mulOk7, Int.reduceSub, Int.reduceAdd, dCut, repOk13, repOk54, Int.reduceToNat, List.flatten_cons, List.flatten_nil, List.append_nil, ew] <;> rfl) ⟨.rows w s0, by rw [enc], by rw [e20]; exact rows_ok o0 h64 hw⟩))
      refine .sq (if_n (by simp only [fnD, gNx, gSeq, gSet, gSetO, ownAt, gApp, gRev, gPut, frz, gFrz, gRet, gExpr, gIf, gExc, asL, eVar, eC, eOp, eUn, toB, tB, tAndB, tOrB, tNotB, eAnd, eOr, eNot, eChain, aNil, aCons, eTup, oLst, eO, eCall, oUn, oSl, rNone, rSome, toI, dCut, eLenO, eIxO, sBind_ok, sBind_exc, sBind_stk, Res.bind_ok, Res.bind_exc, Res.bind_stk, SRes.thn_nx, SRes.thn_rt, SRes.thn_exc, SRes.thn_stk, List.map_cons, List.map_nil, List.cons_append, List.nil_append, List.length_cons, List.length_nil, List.replicate_succ, List.replicate_zero, List.getElem?_cons_zero, List.getElem?_cons_succ, List.set_cons_zero, List.set_cons_succ, Nat.zero_add, Nat.reduceAdd, Nat.reduceSub, dAdd, dSub, dMul, dDiv, dMod, dNeg, dCmp, dLt, dLe, dGt, dGe, dEq, dNe, dEq?, dIsN, dNotN, dIsi, isTy, dLen, dIx_lst, dIx_tup, dIx_scr, dList, dRev, dInt, dMax2, dMin2, decide_eq_true_eq, if_true, if_false, Bool.not_true, Bool.not_false, Bool.false_eq_true, reduceIte, Int.reduceLT, Int.reduceLE, Int.reduceEq, Int.reduceNeg, String.reduceEq, decide_true, decide_false, ci0, ci1, ci2, ci3, ci4, ci5, dAt_0, dAt_1, dAt_2, dAt_3, dv2, dv3, dv4, dv5, dv7, dv12, dv60, dv64, fz0, fz1, fz2, fz3, fz4, fz5, fz11, mulOk2, mulOk7, Int.reduceSub, Int.reduceAdd, dCut, repOk13, repOk54, Int.reduceToNat, List.flatten_cons, List.flatten_nil, List.append_nil, z3, decide_false])) ?_
      by_cases z4 : c % 7 = 4
      · have gm : ∀ s ∈ [s0, s1], shOk (n + 1) (64 * 20 ^ n) s := by
          intro s hs
          simp only [List.mem_cons, List.not_mem_nil, or_false] at hs
          rcases hs with rfl | rfl
          · exact o0
          · exact o1
        exact .sr (.ift (by simp only [fnD, gNx, gSeq, gSet, gSetO, ownAt, gApp, gRev, gPut, frz, gFrz, gRet, gExpr, gIf, gExc, asL, eVar, eC, eOp, eUn, toB, tB, tAndB, tOrB, tNotB, eAnd, eOr, eNot, eChain, aNil, aCons, eTup, oLst, eO, eCall, oUn, oSl, rNone, rSome, toI, dCut, eLenO, eIxO, sBind_ok, sBind_exc, sBind_stk, Res.bind_ok, Res.bind_exc, Res.bind_stk, SRes.thn_nx, SRes.thn_rt, SRes.thn_exc, SRes.thn_stk, List.map_cons, List.map_nil, List.cons_append, List.nil_append, List.length_cons, List.length_nil, List.replicate_succ, List.replicate_zero, List.getElem?_cons_zero, List.getElem?_cons_succ, List.set_cons_zero, List.set_cons_succ, Nat.zero_add, Nat.reduceAdd, Nat.reduceSub, dAdd, dSub, dMul, dDiv, dMod, dNeg, dCmp, dLt, dLe, dGt, dGe, dEq, dNe, dEq?, dIsN, dNotN, dIsi, isTy, dLen, dIx_lst, dIx_tup, dIx_scr, dList, dRev, dInt, dMax2, dMin2, decide_eq_true_eq, if_true, if_false, Bool.not_true, Bool.not_false, Bool.false_eq_true, reduceIte, Int.reduceLT, Int.reduceLE, Int.reduceEq, Int.reduceNeg, String.reduceEq, decide_true, decide_false, ci0, ci1, ci2, ci3, ci4, ci5, dAt_0, dAt_1, dAt_2, dAt_3, dv2, dv3, dv4, dv5, dv7, dv12, dv60, dv64, fz0, fz1, fz2, fz3, fz4, fz5, fz11, mulOk2, mulOk7, Int.reduceSub, Int.reduceAdd, dCut, repOk13, repOk54, Int.reduceToNat, List.flatten_cons, List.flatten_nil, List.append_nil, z4, decide_true]) (.ret (by simp only [fnD, gNx, gSeq, gSet, gSetO, ownAt, gApp, gRev, gPut, frz, gFrz, gRet, gExpr, gIf, gExc, asL, eVar, eC, eOp, eUn, toB, tB, tAndB, tOrB, tNotB, eAnd, eOr, eNot, eChain, aNil, aCons, eTup, oLst, eO, eCall, oUn, oSl, rNone, rSome, toI, dCut, eLenO, eIxO, sBind_ok, sBind_exc, sBind_stk, Res.bind_ok, Res.bind_exc, Res.bind_stk, SRes.thn_nx, SRes.thn_rt, SRes.thn_exc, SRes.thn_stk, List.map_cons, List.map_nil, List.cons_append, List.nil_append, List.length_cons, List.length_nil, List.replicate_succ, List.replicate_zero, List.getElem?_cons_zero, List.getElem?_cons_succ, List.set_cons_zero, List.set_cons_succ, Nat.zero_add, Nat.reduceAdd, Nat.reduceSub, dAdd, dSub, dMul, dDiv, dMod, dNeg, dCmp, dLt, dLe, dGt, dGe, dEq, dNe, dEq?, dIsN, dNotN, dIsi, isTy, dLen, dIx_lst, dIx_tup, dIx_scr, dList, dRev, dInt, dMax2, dMin2, decide_eq_true_eq, if_true, if_false, Bool.not_true, Bool.not_false, Bool.false_eq_true, reduceIte, Int.reduceLT, Int.reduceLE, Int.reduceEq, Int.reduceNeg, String.reduceEq, decide_true, decide_false, ci0, ci1, ci2, ci3, ci4, ci5, dAt_0, dAt_1, dAt_2, dAt_3, dv2, dv3, dv4, dv5, dv7, dv12, dv60, dv64, fz0, fz1, fz2, fz3, fz4, fz5, fz11, mulOk2, mulOk7, Int.reduceSub, Int.reduceAdd, dCut, repOk13, repOk54, Int.reduceToNat, List.flatten_cons, List.flatten_nil, List.append_nil] <;> rfl) ⟨.group [s0, s1], by rw [enc, encs_map]; rfl, by rw [e20]; exact group_ok gm (by simp)⟩))
      refine .sq (if_n (by simp only [fnD, gNx, gSeq, gSet, gSetO, ownAt, gApp, gRev, gPut, frz, gFrz, gRet, gExpr, gIf, gExc, asL, eVar, eC, eOp, eUn, toB, tB, tAndB, tOrB, tNotB, eAnd, eOr, eNot, eChain, aNil, aCons, eTup, oLst, eO, eCall, oUn, oSl, rNone, rSome, toI, dCut, eLenO, eIxO, sBind_ok, sBind_exc, sBind_stk, Res.bind_ok, Res.bind_exc, Res.bind_stk, SRes.thn_nx, SRes.thn_rt, SRes.thn_exc, SRes.thn_stk, List.map_cons, List.map_nil, List.cons_append, List.nil_append, List.length_cons, List.length_nil, List.replicate_succ, List.replicate_zero, List.getElem?_cons_zero, List.getElem?_cons_succ, List.set_cons_zero, List.set_cons_succ, Nat.zero_add, Nat.reduceAdd, Nat.reduceSub, dAdd, dSub, dMul, dDiv, dMod, dNeg, dCmp, dLt, dLe, dGt, dGe, dEq, dNe, dEq?, dIsN, dNotN, dIsi, isTy, dLen, dIx_lst, dIx_tup, dIx_scr, dList, dRev, dInt, dMax2, dMin2, decide_eq_true_eq, if_true, if_false, Bool.not_true, Bool.not_false, Bool.false_eq_true, reduceIte, Int.reduceLT, Int.reduceLE, Int.reduceEq, Int.reduceNeg, String.reduceEq, decide_true, decide_false, ci0, ci1, ci2, ci3, ci4, ci5, dAt_0, dAt_1, dAt_2, dAt_3, dv2, dv3, dv4, dv5, dv7, dv12, dv60, dv64, fz0, fz1, fz2, fz3, fz4, fz5, fz11, mulOk2, mulOk7, Int.reduceSub, Int.reduceAdd, dCut, repOk13, repOk54, Int.reduceToNat, List.flatten_cons, List.flatten_nil, List.append_nil, z4, decide_false])) (.sq (by simp only [fnD, gNx, gSeq, gSet, gSetO, ownAt, gApp, gRev, gPut, frz, gFrz, gRet, gExpr, gIf, gExc, asL, eVar, eC, eOp, eUn, toB, tB, tAndB, tOrB, tNotB, eAnd, eOr, eNot, eChain, aNil, aCons, eTup, oLst, eO, eCall, oUn, oSl, rNone, rSome, toI, dCut, eLenO, eIxO, sBind_ok, sBind_exc, sBind_stk, Res.bind_ok, Res.bind_exc, Res.bind_stk, SRes.thn_nx, SRes.thn_rt, SRes.thn_exc, SRes.thn_stk, List.map_cons, List.map_nil, List.cons_append, List.nil_append, List.length_cons, List.length_nil, List.replicate_succ, List.replicate_zero, List.getElem?_cons_zero, List.getElem?_cons_succ, List.set_cons_zero, List.set_cons_succ, Nat.zero_add, Nat.reduceAdd, Nat.reduceSub, dAdd, dSub, dMul, dDiv, dMod, dNeg, dCmp, dLt, dLe, dGt, dGe, dEq, dNe, dEq?, dIsN, dNotN, dIsi, isTy, dLen, dIx_lst, dIx_tup, dIx_scr, dList, dRev, dInt, dMax2, dMin2, decide_eq_true_eq, if_true, if_false, Bool.not_true, Bool.not_false, Bool.false_eq_true, reduceIte, Int.reduceLT, Int.reduceLE, Int.reduceEq, Int.reduceNeg, String.reduceEq, decide_true, decide_false, ci0, ci1, ci2, ci3, ci4, ci5, dAt_0, dAt_1, dAt_2, dAt_3, dv2, dv3, dv4, dv5, dv7, dv12, dv60, dv64, fz0, fz1, fz2, fz3, fz4, fz5, fz11, mulOk2, mulOk7, Int.reduceSub, Int.reduceAdd, dCut, repOk13, repOk54, Int.reduceToNat, List.flatten_cons, List.flatten_nil, List.append_nil, e2, e3] <;> rfl) ?_)
      by_cases z5 : c % 7 = 5
      · obtain ⟨d, e, q⟩ := law_one_eq o0 o1 (mono _ (leaf_ok g2 lf2)) (mono _ (leaf_ok g3 lf3)) h64 (c / 7)
        rw [e20]
        exact .sr (.ift (by simp only [fnD, gNx, gSeq, gSet, gSetO, ownAt, gApp, gRev, gPut, frz, gFrz, gRet, gExpr, gIf, gExc, asL, eVar, eC, eOp, eUn, toB, tB, tAndB, tOrB, tNotB, eAnd, eOr, eNot, eChain, aNil, aCons, eTup, oLst, eO, eCall, oUn, oSl, rNone, rSome, toI, dCut, eLenO, eIxO, sBind_ok, sBind_exc, sBind_stk, Res.bind_ok, Res.bind_exc, Res.bind_stk, SRes.thn_nx, SRes.thn_rt, SRes.thn_exc, SRes.thn_stk, List.map_cons, List.map_nil, List.cons_append, List.nil_append, List.length_cons, List.length_nil, List.replicate_succ, List.replicate_zero, List.getElem?_cons_zero, List.getElem?_cons_succ, List.set_cons_zero, List.set_cons_succ, Nat.zero_add, Nat.reduceAdd, Nat.reduceSub, dAdd, dSub, dMul, dDiv, dMod, dNeg, dCmp, dLt, dLe, dGt, dGe, dEq, dNe, dEq?, dIsN, dNotN, dIsi, isTy, dLen, dIx_lst, dIx_tup, dIx_scr, dList, dRev, dInt, dMax2, dMin2, decide_eq_true_eq, if_true, if_false, Bool.not_true, Bool.not_false, Bool.false_eq_true, reduceIte, Int.reduceLT, Int.reduceLE, Int.reduceEq, Int.reduceNeg, String.reduceEq, decide_true, decide_false, ci0, ci1, ci2, ci3, ci4, ci5, dAt_0, dAt_1, dAt_2, dAt_3, dv2, dv3, dv4, dv5, dv7, dv12, dv60, dv64, fz0, fz1, fz2, fz3, fz4, fz5, fz11, mulOk2, mulOk7, Int.reduceSub, Int.reduceAdd, dCut, repOk13, repOk54, Int.reduceToNat, List.flatten_cons, List.flatten_nil, List.append_nil, z5, decide_true]) (.ret (by simp only [fnD, gNx, gSeq, gSet, gSetO, ownAt, gApp, gRev, gPut, frz, gFrz, gRet, gExpr, gIf, gExc, asL, eVar, eC, eOp, eUn, toB, tB, tAndB, tOrB, tNotB, eAnd, eOr, eNot, eChain, aNil, aCons, eTup, oLst, eO, eCall, oUn, oSl, rNone, rSome, toI, dCut, eLenO, eIxO, sBind_ok, sBind_exc, sBind_stk, Res.bind_ok, Res.bind_exc, Res.bind_stk, SRes.thn_nx, SRes.thn_rt, SRes.thn_exc, SRes.thn_stk, List.map_cons, List.map_nil, List.cons_append, List.nil_append, List.length_cons, List.length_nil, List.replicate_succ, List.replicate_zero, List.getElem?_cons_zero, List.getElem?_cons_succ, List.set_cons_zero, List.set_cons_succ, Nat.zero_add, Nat.reduceAdd, Nat.reduceSub, dAdd, dSub, dMul, dDiv, dMod, dNeg, dCmp, dLt, dLe, dGt, dGe, dEq, dNe, dEq?, dIsN, dNotN, dIsi, isTy, dLen, dIx_lst, dIx_tup, dIx_scr, dList, dRev, dInt, dMax2, dMin2, decide_eq_true_eq, if_true, if_false, Bool.not_true, Bool.not_false, Bool.false_eq_true, reduceIte, Int.reduceLT, Int.reduceLE, Int.reduceEq, Int.reduceNeg, String.reduceEq, decide_true, decide_false, ci0, ci1, ci2, ci3, ci4, ci5, dAt_0, dAt_1, dAt_2, dAt_3, dv2, dv3, dv4, dv5, dv7, dv12, dv60, dv64, fz0, fz1, fz2, fz3, fz4, fz5, fz11, mulOk2, mulOk7, Int.reduceSub, Int.reduceAdd, dCut, repOk13, repOk54, Int.reduceToNat, List.flatten_cons, List.flatten_nil, List.append_nil, hon, e] <;> rfl) q))
      · obtain ⟨d, e, q⟩ := law_group_eq o0 o1 (mono _ (leaf_ok g2 lf2)) (mono _ (leaf_ok g3 lf3)) h64 (c / 7)
        rw [e20]
        exact .sq (if_n (by simp only [fnD, gNx, gSeq, gSet, gSetO, ownAt, gApp, gRev, gPut, frz, gFrz, gRet, gExpr, gIf, gExc, asL, eVar, eC, eOp, eUn, toB, tB, tAndB, tOrB, tNotB, eAnd, eOr, eNot, eChain, aNil, aCons, eTup, oLst, eO, eCall, oUn, oSl, rNone, rSome, toI, dCut, eLenO, eIxO, sBind_ok, sBind_exc, sBind_stk, Res.bind_ok, Res.bind_exc, Res.bind_stk, SRes.thn_nx, SRes.thn_rt, SRes.thn_exc, SRes.thn_stk, List.map_cons, List.map_nil, List.cons_append, List.nil_append, List.length_cons, List.length_nil, List.replicate_succ, List.replicate_zero, List.getElem?_cons_zero, List.getElem?_cons_succ, List.set_cons_zero, List.set_cons_succ, Nat.zero_add, Nat.reduceAdd, Nat.reduceSub, dAdd, dSub, dMul, dDiv, dMod, dNeg, dCmp, dLt, dLe, dGt, dGe, dEq, dNe, dEq?, dIsN, dNotN, dIsi, isTy, dLen, dIx_lst, dIx_tup, dIx_scr, dList, dRev, dInt, dMax2, dMin2, decide_eq_true_eq, if_true, if_false, Bool.not_true, Bool.not_false, Bool.false_eq_true, reduceIte, Int.reduceLT, Int.reduceLE, Int.reduceEq, Int.reduceNeg, String.reduceEq, decide_true, decide_false, ci0, ci1, ci2, ci3, ci4, ci5, dAt_0, dAt_1, dAt_2, dAt_3, dv2, dv3, dv4, dv5, dv7, dv12, dv60, dv64, fz0, fz1, fz2, fz3, fz4, fz5, fz11, mulOk2, mulOk7, Int.reduceSub, Int.reduceAdd, dCut, repOk13, repOk54, Int.reduceToNat, List.flatten_cons, List.flatten_nil, List.append_nil, z5, decide_false])) (.ret (by simp only [fnD, gNx, gSeq, gSet, gSetO, ownAt, gApp, gRev, gPut, frz, gFrz, gRet, gExpr, gIf, gExc, asL, eVar, eC, eOp, eUn, toB, tB, tAndB, tOrB, tNotB, eAnd, eOr, eNot, eChain, aNil, aCons, eTup, oLst, eO, eCall, oUn, oSl, rNone, rSome, toI, dCut, eLenO, eIxO, sBind_ok, sBind_exc, sBind_stk, Res.bind_ok, Res.bind_exc, Res.bind_stk, SRes.thn_nx, SRes.thn_rt, SRes.thn_exc, SRes.thn_stk, List.map_cons, List.map_nil, List.cons_append, List.nil_append, List.length_cons, List.length_nil, List.replicate_succ, List.replicate_zero, List.getElem?_cons_zero, List.getElem?_cons_succ, List.set_cons_zero, List.set_cons_succ, Nat.zero_add, Nat.reduceAdd, Nat.reduceSub, dAdd, dSub, dMul, dDiv, dMod, dNeg, dCmp, dLt, dLe, dGt, dGe, dEq, dNe, dEq?, dIsN, dNotN, dIsi, isTy, dLen, dIx_lst, dIx_tup, dIx_scr, dList, dRev, dInt, dMax2, dMin2, decide_eq_true_eq, if_true, if_false, Bool.not_true, Bool.not_false, Bool.false_eq_true, reduceIte, Int.reduceLT, Int.reduceLE, Int.reduceEq, Int.reduceNeg, String.reduceEq, decide_true, decide_false, ci0, ci1, ci2, ci3, ci4, ci5, dAt_0, dAt_1, dAt_2, dAt_3, dv2, dv3, dv4, dv5, dv7, dv12, dv60, dv64, fz0, fz1, fz2, fz3, fz4, fz5, fz11, mulOk2, mulOk7, Int.reduceSub, Int.reduceAdd, dCut, repOk13, repOk54, Int.reduceToNat, List.flatten_cons, List.flatten_nil, List.append_nil, hgp, e] <;> rfl) q)
end
theorem deep_ok {m n : Nat} {s : Sh} (h : shOk m n s) : shOk (m + 1) (n + 1) (.group [s]) ∧ shOk (m + 1) (n + 1) (.maybe s) ∧ shOk (m + 1) (n + 1) (.one 0 [s]) := by
  obtain ⟨a, b, c⟩ := h
  refine ⟨?_, ?_, ?_⟩
  · unfold shOk Good Goods Goods dpt dpts dpts bb bbs bbs
    exact ⟨⟨by simp, a, trivial⟩, by omega, by omega⟩
  · unfold shOk Good dpt bb
    exact ⟨a, by omega, by omega⟩
  · unfold shOk Good Goods Goods dpt dpts dpts bb bbs bbs
    exact ⟨⟨by omega, by simp, by simp, by simp, a, trivial⟩, by omega, by omega⟩
theorem deeper_eq {ca : List D → Res D} {ns : List Int} {c : Int → Int} (hc : ∀ k : Int, 0 ≤ k → ca [.scr ns, .int k] = .ok (.int (c k))) {m n : Nat} {s : Sh} (h : shOk m n s) (k : Int) (hk : 0 ≤ k) :
    ∃ d, S_law_deeper ca [.scr ns, .int k, enc s] = .ok d ∧ ∃ s', d = enc s' ∧ shOk (m + 4) (n + 4) s' := by
  have h0 := hc k hk
  generalize c k = C at h0
  obtain ⟨N, eN, hN⟩ : ∃ N : Nat, C % 5 = (N : Int) ∧ N ≤ 4 := ⟨(C % 5).toNat, by omega, by omega⟩
  refine fnD_RT (.sq (by simp only [fnD, gNx, gSeq, gSet, gSetO, ownAt, gApp, gRev, gPut, frz, gFrz, gRet, gExpr, gIf, gExc, asL, eVar, eC, eOp, eUn, toB, tB, tAndB, tOrB, tNotB, eAnd, eOr, eNot, eChain, aNil, aCons, eTup, oLst, eO, eCall, oUn, oSl, rNone, rSome, toI, dCut, eLenO, eIxO, sBind_ok, sBind_exc, sBind_stk, Res.bind_ok, Res.bind_exc, Res.bind_stk, SRes.thn_nx, SRes.thn_rt, SRes.thn_exc, SRes.thn_stk, List.map_cons, List.map_nil, List.cons_append, List.nil_append, List.length_cons, List.length_nil, List.replicate_succ, List.replicate_zero, List.getElem?_cons_zero, List.getElem?_cons_succ, List.set_cons_zero, List.set_cons_succ, Nat.zero_add, Nat.reduceAdd, Nat.reduceSub, dAdd, dSub, dMul, dDiv, dMod, dNeg, dCmp, dLt, dLe, dGt, dGe, dEq, dNe, dEq?, dIsN, dNotN, dIsi, isTy, dLen, dIx_lst, dIx_tup, dIx_scr, dList, dRev, dInt, dMax2, dMin2, decide_eq_true_eq, if_true, if_false, Bool.not_true, Bool.not_false, Bool.false_eq_true, reduceIte, Int.reduceLT, Int.reduceLE, Int.reduceEq, Int.reduceNeg, String.reduceEq, decide_true, decide_false, ci0, ci1, ci2, ci3, ci4, ci5, dAt_0, dAt_1, dAt_2, dAt_3, dv2, dv3, dv4, dv5, dv7, dv12, dv60, dv64, fz0, fz1, fz2, fz3, fz4, fz5, fz11, mulOk2, mulOk7, Int.reduceSub, Int.reduceAdd, dCut, repOk13, repOk54, Int.reduceToNat, List.flatten_cons, List.flatten_nil, List.append_nil, h0] <;> rfl) (.sx (forRx (n := N) (fun j ρ => ∃ s' a, shOk (m + j) (n + j) s' ∧ ρ = [.v (.scr ns), .v (.int k), .v (enc s'), .v (.int C), a]) (by simp only [fnD, gNx, gSeq, gSet, gSetO, ownAt, gApp, gRev, gPut, frz, gFrz, gRet, gExpr, gIf, gExc, asL, eVar, eC, eOp, eUn, toB, tB, tAndB, tOrB, tNotB, eAnd, eOr, eNot, eChain, aNil, aCons, eTup, oLst, eO, eCall, oUn, oSl, rNone, rSome, toI, dCut, eLenO, eIxO, sBind_ok, sBind_exc, sBind_stk, Res.bind_ok, Res.bind_exc, Res.bind_stk, SRes.thn_nx, SRes.thn_rt, SRes.thn_exc, SRes.thn_stk, List.map_cons, List.map_nil, List.cons_append, List.nil_append, List.length_cons, List.length_nil, List.replicate_succ, List.replicate_zero, List.getElem?_cons_zero, List.getElem?_cons_succ, List.set_cons_zero, List.set_cons_succ, Nat.zero_add, Nat.reduceAdd, Nat.reduceSub, dAdd, dSub, dMul, dDiv, dMod, dNeg, dCmp, dLt, dLe, dGt, dGe, dEq, dNe, dEq?, dIsN, dNotN, dIsi, isTy, dLen, dIx_lst, dIx_tup, dIx_scr, dList, dRev, dInt, dMax2, dMin2, decide_eq_true_eq, if_true, if_false, Bool.not_true, Bool.not_false, Bool.false_eq_true, reduceIte, Int.reduceLT, Int.reduceLE, Int.reduceEq, Int.reduceNeg, String.reduceEq, decide_true, decide_false, ci0, ci1, ci2, ci3, ci4, ci5, dAt_0, dAt_1, dAt_2, dAt_3, dv2, dv3, dv4, dv5, dv7, dv12, dv60, dv64, fz0, fz1, fz2, fz3, fz4, fz5, fz11, mulOk2, mulOk7, Int.reduceSub, Int.reduceAdd, dCut, repOk13, repOk54, Int.reduceToNat, List.flatten_cons, List.flatten_nil, List.append_nil, eN]) (by omega) ⟨s, _, h, rfl⟩ ?_) ?_))
  · rintro j ρ hj ⟨s', a, o, rfl⟩
    obtain ⟨g1, g2, g3⟩ := deep_ok o
    have dj : divOk ((j : Int) + 1) = true := dv_nat (j + 1) (by omega) (by omega)
    generalize hx : C / 5 / ((j : Int) + 1) = X
    have f3 : fits 3 = true := fits_num
    rcases (show X % 3 = 0 ∨ X % 3 = 1 ∨ X % 3 = 2 by omega) with z | z | z
    · refine ⟨_, by simp only [fnD, gNx, gSeq, gSet, gSetO, ownAt, gApp, gRev, gPut, frz, gFrz, gRet, gExpr, gIf, gExc, asL, eVar, eC, eOp, eUn, toB, tB, tAndB, tOrB, tNotB, eAnd, eOr, eNot, eChain, aNil, aCons, eTup, oLst, eO, eCall, oUn, oSl, rNone, rSome, toI, dCut, eLenO, eIxO, sBind_ok, sBind_exc, sBind_stk, Res.bind_ok, Res.bind_exc, Res.bind_stk, SRes.thn_nx, SRes.thn_rt, SRes.thn_exc, SRes.thn_stk, List.map_cons, List.map_nil, List.cons_append, List.nil_append, List.length_cons, List.length_nil, List.replicate_succ, List.replicate_zero, List.getElem?_cons_zero, List.getElem?_cons_succ, List.set_cons_zero, List.set_cons_succ, Nat.zero_add, Nat.reduceAdd, Nat.reduceSub, dAdd, dSub, dMul, dDiv, dMod, dNeg, dCmp, dLt, dLe, dGt, dGe, dEq, dNe, dEq?, dIsN, dNotN, dIsi, isTy, dLen, dIx_lst, dIx_tup, dIx_scr, dList, dRev, dInt, dMax2, dMin2, decide_eq_true_eq, if_true, if_false, Bool.not_true, Bool.not_false, Bool.false_eq_true, reduceIte, Int.reduceLT, Int.reduceLE, Int.reduceEq, Int.reduceNeg, String.reduceEq, decide_true, decide_false, ci0, ci1, ci2, ci3, ci4, ci5, dAt_0, dAt_1, dAt_2, dAt_3, dv2, dv3, dv4, dv5, dv7, dv12, dv60, dv64, fz0, fz1, fz2, fz3, fz4, fz5, fz11, mulOk2, mulOk7, Int.reduceSub, Int.reduceAdd, dCut, repOk13, repOk54, Int.reduceToNat, List.flatten_cons, List.flatten_nil, List.append_nil, dj, hx, z] <;> rfl, .group [s'], .v (.int j), g1, ?_⟩
      rw [enc, encs, encs]
    · refine ⟨_, by simp only [fnD, gNx, gSeq, gSet, gSetO, ownAt, gApp, gRev, gPut, frz, gFrz, gRet, gExpr, gIf, gExc, asL, eVar, eC, eOp, eUn, toB, tB, tAndB, tOrB, tNotB, eAnd, eOr, eNot, eChain, aNil, aCons, eTup, oLst, eO, eCall, oUn, oSl, rNone, rSome, toI, dCut, eLenO, eIxO, sBind_ok, sBind_exc, sBind_stk, Res.bind_ok, Res.bind_exc, Res.bind_stk, SRes.thn_nx, SRes.thn_rt, SRes.thn_exc, SRes.thn_stk, List.map_cons, List.map_nil, List.cons_append, List.nil_append, List.length_cons, List.length_nil, List.replicate_succ, List.replicate_zero, List.getElem?_cons_zero, List.getElem?_cons_succ, List.set_cons_zero, List.set_cons_succ, Nat.zero_add, Nat.reduceAdd, Nat.reduceSub, dAdd, dSub, dMul, dDiv, dMod, dNeg, dCmp, dLt, dLe, dGt, dGe, dEq, dNe, dEq?, dIsN, dNotN, dIsi, isTy, dLen, dIx_lst, dIx_tup, dIx_scr, dList, dRev, dInt, dMax2, dMin2, decide_eq_true_eq, if_true, if_false, Bool.not_true, Bool.not_false, Bool.false_eq_true, reduceIte, Int.reduceLT, Int.reduceLE, Int.reduceEq, Int.reduceNeg, String.reduceEq, decide_true, decide_false, ci0, ci1, ci2, ci3, ci4, ci5, dAt_0, dAt_1, dAt_2, dAt_3, dv2, dv3, dv4, dv5, dv7, dv12, dv60, dv64, fz0, fz1, fz2, fz3, fz4, fz5, fz11, mulOk2, mulOk7, Int.reduceSub, Int.reduceAdd, dCut, repOk13, repOk54, Int.reduceToNat, List.flatten_cons, List.flatten_nil, List.append_nil, dj, hx, z] <;> rfl, .maybe s', .v (.int j), g2, ?_⟩
      rw [enc]
    · refine ⟨_, by simp only [fnD, gNx, gSeq, gSet, gSetO, ownAt, gApp, gRev, gPut, frz, gFrz, gRet, gExpr, gIf, gExc, asL, eVar, eC, eOp, eUn, toB, tB, tAndB, tOrB, tNotB, eAnd, eOr, eNot, eChain, aNil, aCons, eTup, oLst, eO, eCall, oUn, oSl, rNone, rSome, toI, dCut, eLenO, eIxO, sBind_ok, sBind_exc, sBind_stk, Res.bind_ok, Res.bind_exc, Res.bind_stk, SRes.thn_nx, SRes.thn_rt, SRes.thn_exc, SRes.thn_stk, List.map_cons, List.map_nil, List.cons_append, List.nil_append, List.length_cons, List.length_nil, List.replicate_succ, List.replicate_zero, List.getElem?_cons_zero, List.getElem?_cons_succ, List.set_cons_zero, List.set_cons_succ, Nat.zero_add, Nat.reduceAdd, Nat.reduceSub, dAdd, dSub, dMul, dDiv, dMod, dNeg, dCmp, dLt, dLe, dGt, dGe, dEq, dNe, dEq?, dIsN, dNotN, dIsi, isTy, dLen, dIx_lst, dIx_tup, dIx_scr, dList, dRev, dInt, dMax2, dMin2, decide_eq_true_eq, if_true, if_false, Bool.not_true, Bool.not_false, Bool.false_eq_true, reduceIte, Int.reduceLT, Int.reduceLE, Int.reduceEq, Int.reduceNeg, String.reduceEq, decide_true, decide_false, ci0, ci1, ci2, ci3, ci4, ci5, dAt_0, dAt_1, dAt_2, dAt_3, dv2, dv3, dv4, dv5, dv7, dv12, dv60, dv64, fz0, fz1, fz2, fz3, fz4, fz5, fz11, mulOk2, mulOk7, Int.reduceSub, Int.reduceAdd, dCut, repOk13, repOk54, Int.reduceToNat, List.flatten_cons, List.flatten_nil, List.append_nil, dj, hx, z] <;> rfl, .one 0 [s'], .v (.int j), g3, ?_⟩
      rw [enc, encs, encs]; rfl
  · rintro ρ' ⟨s', a, o, rfl⟩
    exact .ret (by simp only [fnD, gNx, gSeq, gSet, gSetO, ownAt, gApp, gRev, gPut, frz, gFrz, gRet, gExpr, gIf, gExc, asL, eVar, eC, eOp, eUn, toB, tB, tAndB, tOrB, tNotB, eAnd, eOr, eNot, eChain, aNil, aCons, eTup, oLst, eO, eCall, oUn, oSl, rNone, rSome, toI, dCut, eLenO, eIxO, sBind_ok, sBind_exc, sBind_stk, Res.bind_ok, Res.bind_exc, Res.bind_stk, SRes.thn_nx, SRes.thn_rt, SRes.thn_exc, SRes.thn_stk, List.map_cons, List.map_nil, List.cons_append, List.nil_append, List.length_cons, List.length_nil, List.replicate_succ, List.replicate_zero, List.getElem?_cons_zero, List.getElem?_cons_succ, List.set_cons_zero, List.set_cons_succ, Nat.zero_add, Nat.reduceAdd, Nat.reduceSub, dAdd, dSub, dMul, dDiv, dMod, dNeg, dCmp, dLt, dLe, dGt, dGe, dEq, dNe, dEq?, dIsN, dNotN, dIsi, isTy, dLen, dIx_lst, dIx_tup, dIx_scr, dList, dRev, dInt, dMax2, dMin2, decide_eq_true_eq, if_true, if_false, Bool.not_true, Bool.not_false, Bool.false_eq_true, reduceIte, Int.reduceLT, Int.reduceLE, Int.reduceEq, Int.reduceNeg, String.reduceEq, decide_true, decide_false, ci0, ci1, ci2, ci3, ci4, ci5, dAt_0, dAt_1, dAt_2, dAt_3, dv2, dv3, dv4, dv5, dv7, dv12, dv60, dv64, fz0, fz1, fz2, fz3, fz4, fz5, fz11, mulOk2, mulOk7, Int.reduceSub, Int.reduceAdd, dCut, repOk13, repOk54, Int.reduceToNat, List.flatten_cons, List.flatten_nil, List.append_nil] <;> rfl) ⟨s', rfl, o.mono (by omega) (by omega)⟩
end Pu

namespace Pu
open PySem L2
theorem number_eq {ns : List Int} (h : ns.length ≤ 63) (j : Int) : ∃ d, S_law_number [.scr ns, .int j] = .ok d ∧ ∃ n, d = .int n := by
  refine fnD_RT ?_
  by_cases z : ns.length = 0
  · have z' : ((ns.length : Nat) : Int) = 0 := by omega
    exact .sr (.ift (by simp only [fnD, gNx, gSeq, gSet, gSetO, ownAt, gApp, gRev, gPut, frz, gFrz, gRet, gExpr, gIf, gExc, asL, eVar, eC, eOp, eUn, toB, tB, tAndB, tOrB, tNotB, eAnd, eOr, eNot, eChain, aNil, aCons, eTup, oLst, eO, eCall, oUn, oSl, rNone, rSome, toI, dCut, eLenO, eIxO, sBind_ok, sBind_exc, sBind_stk, Res.bind_ok, Res.bind_exc, Res.bind_stk, SRes.thn_nx, SRes.thn_rt, SRes.thn_exc, SRes.thn_stk, List.map_cons, List.map_nil, List.cons_append, List.nil_append, List.length_cons, List.length_nil, List.replicate_succ, List.replicate_zero, List.getElem?_cons_zero, List.getElem?_cons_succ, List.set_cons_zero, List.set_cons_succ, Nat.zero_add, Nat.reduceAdd, Nat.reduceSub, dAdd, dSub, dMul, dDiv, dMod, dNeg, dCmp, dLt, dLe, dGt, dGe, dEq, dNe, dEq?, dIsN, dNotN, dIsi, isTy, dLen, dIx_lst, dIx_tup, dIx_scr, dList, dRev, dInt, dMax2, dMin2, decide_eq_true_eq, if_true, if_false, Bool.not_true, Bool.not_false, Bool.false_eq_true, reduceIte, Int.reduceLT, Int.reduceLE, Int.reduceEq, Int.reduceNeg, String.reduceEq, decide_true, decide_false, ci0, ci1, ci2, ci3, ci4, ci5, dAt_0, dAt_1, dAt_2, dAt_3, dv2, dv3, dv4, dv5, dv7, dv12, dv60, dv64, fz0, fz1, fz2, fz3, fz4, fz5, fz11, mulOk2, mulOk7, Int.reduceSub, Int.reduceAdd, dCut, repOk13, repOk54, Int.reduceToNat, List.flatten_cons, List.flatten_nil, List.append_nil, z', decide_true]) (.ret (by simp only [fnD, gNx, gSeq, gSet, gSetO, ownAt, gApp, gRev, gPut, frz, gFrz, gRet, gExpr, gIf, gExc, asL, eVar, eC, eOp, eUn, toB, tB, tAndB, tOrB, tNotB, eAnd, eOr, eNot, eChain, aNil, aCons, eTup, oLst, eO, eCall, oUn, oSl, rNone, rSome, toI, dCut, eLenO, eIxO, sBind_ok, sBind_exc, sBind_stk, Res.bind_ok, Res.bind_exc, Res.bind_stk, SRes.thn_nx, SRes.thn_rt, SRes.thn_exc, SRes.thn_stk, List.map_cons, List.map_nil, List.cons_append, List.nil_append, List.length_cons, List.length_nil, List.replicate_succ, List.replicate_zero, List.getElem?_cons_zero, List.getElem?_cons_succ, List.set_cons_zero, List.set_cons_succ, Nat.zero_add, Nat.reduceAdd, Nat.reduceSub, dAdd, dSub, dMul, dDiv, dMod, dNeg, dCmp, dLt, dLe, dGt, dGe, dEq, dNe, dEq?, dIsN, dNotN, dIsi, isTy, dLen, dIx_lst, dIx_tup, dIx_scr, dList, dRev, dInt, dMax2, dMin2, decide_eq_true_eq, if_true, if_false, Bool.not_true, Bool.not_false, Bool.false_eq_true, reduceIte, Int.reduceLT, Int.reduceLE, Int.reduceEq, Int.reduceNeg, String.reduceEq, decide_true, decide_false, ci0, ci1, ci2, ci3, ci4, ci5, dAt_0, dAt_1, dAt_2, dAt_3, dv2, dv3, dv4, dv5, dv7, dv12, dv60, dv64, fz0, fz1, fz2, fz3, fz4, fz5, fz11, mulOk2, mulOk7, Int.reduceSub, Int.reduceAdd, dCut, repOk13, repOk54, Int.reduceToNat, List.flatten_cons, List.flatten_nil, List.append_nil] <;> rfl) ⟨_, rfl⟩))
  · have z' : ¬ ((ns.length : Nat) : Int) = 0 := by omega
    have p : (0 : Int) < ns.length := by omega
    have m0 := Int.emod_nonneg j (show (ns.length : Int) ≠ 0 by omega)
    have m1 := Int.emod_lt_of_pos j p
    have dl := dv_nat ns.length (by omega) (by omega)
    obtain ⟨i, ei, hi⟩ : ∃ i : Nat, (ns.length : Int) - 1 - j % ns.length = (i : Int) ∧ i < ns.length := ⟨((ns.length : Int) - 1 - j % ns.length).toNat, by omega, by omega⟩
    have e := atI_nat (xs := ns) (List.getElem?_eq_getElem hi)
    exact .sq (if_n (by simp only [fnD, gNx, gSeq, gSet, gSetO, ownAt, gApp, gRev, gPut, frz, gFrz, gRet, gExpr, gIf, gExc, asL, eVar, eC, eOp, eUn, toB, tB, tAndB, tOrB, tNotB, eAnd, eOr, eNot, eChain, aNil, aCons, eTup, oLst, eO, eCall, oUn, oSl, rNone, rSome, toI, dCut, eLenO, eIxO, sBind_ok, sBind_exc, sBind_stk, Res.bind_ok, Res.bind_exc, Res.bind_stk, SRes.thn_nx, SRes.thn_rt, SRes.thn_exc, SRes.thn_stk, List.map_cons, List.map_nil, List.cons_append, List.nil_append, List.length_cons, List.length_nil, List.replicate_succ, List.replicate_zero, List.getElem?_cons_zero, List.getElem?_cons_succ, List.set_cons_zero, List.set_cons_succ, Nat.zero_add, Nat.reduceAdd, Nat.reduceSub, dAdd, dSub, dMul, dDiv, dMod, dNeg, dCmp, dLt, dLe, dGt, dGe, dEq, dNe, dEq?, dIsN, dNotN, dIsi, isTy, dLen, dIx_lst, dIx_tup, dIx_scr, dList, dRev, dInt, dMax2, dMin2, decide_eq_true_eq, if_true, if_false, Bool.not_true, Bool.not_false, Bool.false_eq_true, reduceIte, Int.reduceLT, Int.reduceLE, Int.reduceEq, Int.reduceNeg, String.reduceEq, decide_true, decide_false, ci0, ci1, ci2, ci3, ci4, ci5, dAt_0, dAt_1, dAt_2, dAt_3, dv2, dv3, dv4, dv5, dv7, dv12, dv60, dv64, fz0, fz1, fz2, fz3, fz4, fz5, fz11, mulOk2, mulOk7, Int.reduceSub, Int.reduceAdd, dCut, repOk13, repOk54, Int.reduceToNat, List.flatten_cons, List.flatten_nil, List.append_nil, z', decide_false])) (.ret (by simp only [fnD, gNx, gSeq, gSet, gSetO, ownAt, gApp, gRev, gPut, frz, gFrz, gRet, gExpr, gIf, gExc, asL, eVar, eC, eOp, eUn, toB, tB, tAndB, tOrB, tNotB, eAnd, eOr, eNot, eChain, aNil, aCons, eTup, oLst, eO, eCall, oUn, oSl, rNone, rSome, toI, dCut, eLenO, eIxO, sBind_ok, sBind_exc, sBind_stk, Res.bind_ok, Res.bind_exc, Res.bind_stk, SRes.thn_nx, SRes.thn_rt, SRes.thn_exc, SRes.thn_stk, List.map_cons, List.map_nil, List.cons_append, List.nil_append, List.length_cons, List.length_nil, List.replicate_succ, List.replicate_zero, List.getElem?_cons_zero, List.getElem?_cons_succ, List.set_cons_zero, List.set_cons_succ, Nat.zero_add, Nat.reduceAdd, Nat.reduceSub, dAdd, dSub, dMul, dDiv, dMod, dNeg, dCmp, dLt, dLe, dGt, dGe, dEq, dNe, dEq?, dIsN, dNotN, dIsi, isTy, dLen, dIx_lst, dIx_tup, dIx_scr, dList, dRev, dInt, dMax2, dMin2, decide_eq_true_eq, if_true, if_false, Bool.not_true, Bool.not_false, Bool.false_eq_true, reduceIte, Int.reduceLT, Int.reduceLE, Int.reduceEq, Int.reduceNeg, String.reduceEq, decide_true, decide_false, ci0, ci1, ci2, ci3, ci4, ci5, dAt_0, dAt_1, dAt_2, dAt_3, dv2, dv3, dv4, dv5, dv7, dv12, dv60, dv64, fz0, fz1, fz2, fz3, fz4, fz5, fz11, mulOk2, mulOk7, Int.reduceSub, Int.reduceAdd, dCut, repOk13, repOk54, Int.reduceToNat, List.flatten_cons, List.flatten_nil, List.append_nil, p, dl, ei, e] <;> rfl) ⟨_, rfl⟩)
mutual
def wid : Sh → Int
  | .num w _ _ => if (w : Int) > 1 then w else 1
  | .pad w => if (w : Int) > 1 then w else 1
  | .maybe s => 1 + wid s
  | .rows w s => w + (2 ^ w - 1) * (if wid s > 1 then wid s else 1)
  | .group ss => (wids ss).sum
  | .one w ss => w + maxL (wids ss)
def wids : List Sh → List Int
  | [] => []
  | s :: ss => wid s :: wids ss
end
theorem maxL_up : ∀ {l : List Int} {x : Int}, x ∈ l → x ≤ maxL l
  | [], _, h => by cases h
  | [a], x, h => by
    simp only [List.mem_cons, List.not_mem_nil, or_false] at h
    unfold maxL; omega
  | a :: b :: r, x, h => by
    unfold maxL
    rcases List.mem_cons.mp h with rfl | h
    · split <;> omega
    · have := maxL_up h
      split <;> omega
theorem maxL_le {m : Int} (hm : 0 ≤ m) : ∀ {l : List Int}, (∀ x ∈ l, x ≤ m) → maxL l ≤ m
  | [], _ => by unfold maxL; exact hm
  | [a], h => by unfold maxL; exact h a List.mem_cons_self
  | a :: b :: r, h => by
    have h1 := h a List.mem_cons_self
    have h2 := maxL_le hm (l := b :: r) fun x hx => h x (List.mem_cons_of_mem _ hx)
    unfold maxL
    split <;> omega
theorem wids_len : ∀ ss : List Sh, (wids ss).length = ss.length
  | [] => by unfold wids; rfl
  | s :: ss => by unfold wids; rw [List.length_cons, List.length_cons, wids_len ss]
theorem wids_mem {s : Sh} : ∀ {ss : List Sh}, s ∈ ss → wid s ∈ wids ss
  | [], h => by cases h
  | t :: ss, h => by
    unfold wids
    rcases List.mem_cons.mp h with rfl | h
    · exact List.mem_cons_self
    · exact List.mem_cons_of_mem _ (wids_mem h)
theorem mem_wids {x : Int} : ∀ {ss : List Sh}, x ∈ wids ss → ∃ s ∈ ss, x = wid s
  | [], h => by unfold wids at h; cases h
  | t :: ss, h => by
    unfold wids at h
    rcases List.mem_cons.mp h with rfl | h
    · exact ⟨t, List.mem_cons_self, rfl⟩
    · obtain ⟨s, a, b⟩ := mem_wids h
      exact ⟨s, List.mem_cons_of_mem _ a, b⟩
theorem sum_le {m : Int} (hm : 0 ≤ m) : ∀ {l : List Int}, (∀ x ∈ l, 0 ≤ x ∧ x ≤ m) → 0 ≤ l.sum ∧ l.sum ≤ l.length * m
  | [], _ => by simp
  | a :: l, h => by
    have h1 := h a List.mem_cons_self
    have h2 := sum_le hm (l := l) fun x hx => h x (List.mem_cons_of_mem _ hx)
    rw [List.sum_cons, List.length_cons]
    have e : ((l.length + 1 : Nat) : Int) * m = l.length * m + m := by rw [Int.natCast_add, Int.add_mul]; omega
    rw [e]
    omega
theorem pow_step (n : Nat) : (2 : Int) ^ (10 * (n + 1)) = 1024 * 2 ^ (10 * n) := by
  rw [show 10 * (n + 1) = 10 * n + 10 by omega, Int.pow_add, Int.mul_comm]
  rfl
theorem wid_le : ∀ (n : Nat) (s : Sh), dpt s ≤ n → Good s → 0 ≤ wid s ∧ wid s ≤ 2 ^ (10 * n)
  | 0, s, h, _ => by have := dpt_pos s; omega
  | n + 1, s, h, g => by
    have hp := two_pos (10 * n)
    rw [pow_step]
    have ih := wid_le n
    generalize (2 : Int) ^ (10 * n) = P at *
    cases s with
    | num w lo hi => unfold Good at g; unfold wid; split <;> omega
    | pad w => unfold Good at g; unfold wid; split <;> omega
    | maybe s =>
      unfold Good at g; unfold dpt at h; unfold wid
      have := ih s (by omega) g
      omega
    | rows w s =>
      unfold Good at g; unfold dpt at h; unfold wid
      have i := ih s (by omega) g.2
      have a : (2 ^ w : Int) ≤ 256 := by
        have e : (2 ^ w : Int) = ((2 ^ w : Nat) : Int) := by simp
        have := Nat.pow_le_pow_right (show 0 < 2 by omega) g.1
        omega
      have b := two_pos w
      have c : (if wid s > 1 then wid s else 1) ≤ P ∧ 1 ≤ (if wid s > 1 then wid s else 1) := by split <;> omega
      generalize (if wid s > 1 then wid s else 1) = X at *
      have d : 0 ≤ (2 ^ w - 1 : Int) * X := Int.mul_nonneg (by omega) (by omega)
      have d2 : (2 ^ w - 1 : Int) * X ≤ 255 * P := Int.mul_le_mul (by omega) c.1 (by omega) (by omega)
      omega
    | group ss =>
      unfold Good at g; unfold dpt at h; unfold wid
      have i := sum_le (m := P) (l := wids ss) (by omega) fun x hx => by
        obtain ⟨s, hs, rfl⟩ := mem_wids hx
        exact ih s (by have := dpts_mem hs; omega) (g.2.mem hs)
      rw [wids_len] at i
      have : (ss.length : Int) * P ≤ 20 * P := Int.mul_le_mul_of_nonneg_right (by omega) (by omega)
      omega
    | one w ss =>
      unfold Good at g; unfold dpt at h; unfold wid
      obtain ⟨s, hs⟩ : ∃ s, s ∈ ss := by
        cases ss with
        | nil => have := g.2.1; simp at this
        | cons a t => exact ⟨a, List.mem_cons_self⟩
      have a := maxL_up (wids_mem hs)
      have a2 := (ih s (by have := dpts_mem hs; omega) (g.2.2.2.2.mem hs)).1
      have b := maxL_le (m := P) (l := wids ss) (by omega) fun x hx => by
        obtain ⟨s, hs, rfl⟩ := mem_wids hx
        exact (ih s (by have := dpts_mem hs; omega) (g.2.2.2.2.mem hs)).2
      omega
/-- bits of what fits: no more than the width -/
theorem flat_le {B : D → List Int} {x : Int} : ∀ {rs : List D}, (∀ r ∈ rs, ((B r).length : Int) ≤ x) → ((rs.map B).flatten.length : Int) ≤ rs.length * x
  | [], _ => by simp
  | r :: rs, h => by
    have h1 := h r List.mem_cons_self
    have h2 := flat_le (B := B) (rs := rs) fun r hr => h r (List.mem_cons_of_mem _ hr)
    rw [List.map_cons, List.flatten_cons, List.length_append, List.length_cons]
    have e : ((rs.length + 1 : Nat) : Int) * x = rs.length * x + x := by rw [Int.natCast_add, Int.add_mul]; omega
    rw [e]
    omega
theorem bitsL_le : ∀ {ss : List Sh} {rs : List D}, FitsL ss rs → (∀ s ∈ ss, ∀ r, Fits s r → ((bitsS s r).length : Int) ≤ wid s) → ((bitsL ss rs).length : Int) ≤ (wids ss).sum
  | [], rs, _, _ => by unfold bitsL wids; simp
  | s :: ss, rs, h, q => by
    unfold FitsL at h
    obtain ⟨r, t, rfl, h1, h2⟩ := h
    have a := q s List.mem_cons_self r h1
    have b := bitsL_le h2 fun s hs r hr => q s (List.mem_cons_of_mem _ hs) r hr
    unfold bitsL wids
    rw [List.sum_cons, List.length_append]
    omega
theorem bits_le_wid : ∀ (n : Nat) (s : Sh) (r : D), dpt s ≤ n → Good s → Fits s r → ((bitsS s r).length : Int) ≤ wid s
  | 0, s, _, h, _, _ => by have := dpt_pos s; omega
  | n + 1, s, r, h, g, f => by
    cases s with
    | num w lo hi =>
      unfold Fits at f
      obtain ⟨m, rfl, h1, h2⟩ := f
      unfold bitsS wid
      simp only [wr_len]
      split <;> omega
    | pad w => unfold bitsS wid; simp only [wr_len]; split <;> omega
    | maybe s =>
      unfold Fits at f
      obtain ⟨rs, rfl, h1, h2⟩ := f
      unfold Good at g; unfold dpt at h
      have w0 := wid_le n s (by omega) g
      have a := flat_le (B := bitsS s) (x := wid s) fun r hr => bits_le_wid n s r (by omega) g (h2 r hr)
      have b : (rs.length : Int) * wid s ≤ 1 * wid s := Int.mul_le_mul_of_nonneg_right (by omega) (by omega)
      unfold bitsS wid
      simp only [List.length_cons]
      omega
    | rows w s =>
      unfold Fits at f
      obtain ⟨rs, rfl, h1, h2⟩ := f
      unfold Good at g; unfold dpt at h
      have a := flat_le (B := bitsS s) (x := if wid s > 1 then wid s else 1) fun r hr => by
        have := bits_le_wid n s r (by omega) g.2 (h2 r hr)
        split <;> omega
      have e : (2 ^ w : Int) = ((2 ^ w : Nat) : Int) := by simp
      have b : (rs.length : Int) * (if wid s > 1 then wid s else 1) ≤ (2 ^ w - 1) * (if wid s > 1 then wid s else 1) := Int.mul_le_mul_of_nonneg_right (by omega) (by split <;> omega)
      unfold bitsS wid
      simp only [List.length_append, wr_len]
      omega
    | group ss =>
      unfold Fits at f
      obtain ⟨rs, rfl, f⟩ := f
      unfold Good at g; unfold dpt at h
      unfold bitsS wid
      exact bitsL_le f fun s hs r hr => bits_le_wid n s r (by have := dpts_mem hs; omega) (g.2.mem hs) hr
    | one w ss =>
      unfold Fits at f
      obtain ⟨p, r, rfl, f⟩ := f
      obtain ⟨s, hs, f⟩ := f.get
      unfold Good at g; unfold dpt at h
      have hm := List.mem_of_getElem? hs
      have a := bits_le_wid n s r (by have := dpts_mem hm; omega) (g.2.2.2.2.mem hm) f
      have b := maxL_up (wids_mem hm)
      unfold bitsS wid
      simp only [Int.toNat_natCast, bitsA_get r hs, List.length_append, wr_len]
      omega
theorem intsOf_dI : ∀ l : List Int, intsOf (dI l) = some l
  | [] => rfl
  | a :: l => by
    unfold dI at *
    rw [List.map_cons]
    unfold intsOf
    have := intsOf_dI l
    unfold dI at this
    rw [this]; rfl
theorem mapR_encs {h : D → Res D} : ∀ {ss : List Sh}, (∀ s ∈ ss, h (enc s) = .ok (.int (wid s))) → mapR h (encs ss) = .ok (dI (wids ss))
  | [], _ => by unfold encs wids mapR; rfl
  | s :: ss, q => by
    unfold encs wids
    unfold mapR
    rw [q s List.mem_cons_self]
    simp only
    rw [mapR_encs fun s hs => q s (List.mem_cons_of_mem _ hs)]
    rfl
section
variable {wd rm : Nat → List D → Res D} (hrm : ∀ k, rm (k + 1) = S_law_room) (hwd : ∀ k, wd (k + 1) = S_law_wide (wd k) (rm k))
include hrm hwd in
theorem wide_eq : ∀ (n : Nat) (s : Sh), dpt s ≤ n → Good s → ∀ k, n ≤ k → wd (k + 1) [enc s] = .ok (.int (wid s))
  | 0, s, h, _, _, _ => by have := dpt_pos s; omega
  | n + 1, s, h, g, k, hk => by
    obtain ⟨k, rfl⟩ : ∃ j, k = j + 1 := ⟨k - 1, by omega⟩
    rw [hwd]
    refine fnD_rt ?_
    cases s with
    | num w lo hi => rw [enc]; unfold wid; simp only [fnD, gNx, gSeq, gSet, gSetO, ownAt, gApp, gRev, gPut, frz, gFrz, gRet, gExpr, gIf, gExc, asL, eVar, eC, eOp, eUn, toB, tB, tAndB, tOrB, tNotB, eAnd, eOr, eNot, eChain, aNil, aCons, eTup, oLst, eO, eCall, oUn, oSl, rNone, rSome, toI, dCut, eLenO, eIxO, sBind_ok, sBind_exc, sBind_stk, Res.bind_ok, Res.bind_exc, Res.bind_stk, SRes.thn_nx, SRes.thn_rt, SRes.thn_exc, SRes.thn_stk, List.map_cons, List.map_nil, List.cons_append, List.nil_append, List.length_cons, List.length_nil, List.replicate_succ, List.replicate_zero, List.getElem?_cons_zero, List.getElem?_cons_succ, List.set_cons_zero, List.set_cons_succ, Nat.zero_add, Nat.reduceAdd, Nat.reduceSub, dAdd, dSub, dMul, dDiv, dMod, dNeg, dCmp, dLt, dLe, dGt, dGe, dEq, dNe, dEq?, dIsN, dNotN, dIsi, isTy, dLen, dIx_lst, dIx_tup, dIx_scr, dList, dRev, dInt, dMax2, dMin2, decide_eq_true_eq, if_true, if_false, Bool.not_true, Bool.not_false, Bool.false_eq_true, reduceIte, Int.reduceLT, Int.reduceLE, Int.reduceEq, Int.reduceNeg, String.reduceEq, decide_true, decide_false, ci0, ci1, ci2, ci3, ci4, ci5, dAt_0, dAt_1, dAt_2, dAt_3, dv2, dv3, dv4, dv5, dv7, dv12, dv60, dv64, fz0, fz1, fz2, fz3, fz4, fz5, fz11, mulOk2, mulOk7, Int.reduceSub, Int.reduceAdd, dCut, repOk13, repOk54, Int.reduceToNat, List.flatten_cons, List.flatten_nil, List.append_nil, decide_true]
    | pad w => rw [enc]; unfold wid; simp only [fnD, gNx, gSeq, gSet, gSetO, ownAt, gApp, gRev, gPut, frz, gFrz, gRet, gExpr, gIf, gExc, asL, eVar, eC, eOp, eUn, toB, tB, tAndB, tOrB, tNotB, eAnd, eOr, eNot, eChain, aNil, aCons, eTup, oLst, eO, eCall, oUn, oSl, rNone, rSome, toI, dCut, eLenO, eIxO, sBind_ok, sBind_exc, sBind_stk, Res.bind_ok, Res.bind_exc, Res.bind_stk, SRes.thn_nx, SRes.thn_rt, SRes.thn_exc, SRes.thn_stk, List.map_cons, List.map_nil, List.cons_append, List.nil_append, List.length_cons, List.length_nil, List.replicate_succ, List.replicate_zero, List.getElem?_cons_zero, List.getElem?_cons_succ, List.set_cons_zero, List.set_cons_succ, Nat.zero_add, Nat.reduceAdd, Nat.reduceSub, dAdd, dSub, dMul, dDiv, dMod, dNeg, dCmp, dLt, dLe, dGt, dGe, dEq, dNe, dEq?, dIsN, dNotN, dIsi, isTy, dLen, dIx_lst, dIx_tup, dIx_scr, dList, dRev, dInt, dMax2, dMin2, decide_eq_true_eq, if_true, if_false, Bool.not_true, Bool.not_false, Bool.false_eq_true, reduceIte, Int.reduceLT, Int.reduceLE, Int.reduceEq, Int.reduceNeg, String.reduceEq, decide_true, decide_false, ci0, ci1, ci2, ci3, ci4, ci5, dAt_0, dAt_1, dAt_2, dAt_3, dv2, dv3, dv4, dv5, dv7, dv12, dv60, dv64, fz0, fz1, fz2, fz3, fz4, fz5, fz11, mulOk2, mulOk7, Int.reduceSub, Int.reduceAdd, dCut, repOk13, repOk54, Int.reduceToNat, List.flatten_cons, List.flatten_nil, List.append_nil, decide_true, decide_false]
    | maybe s =>
      unfold Good at g; unfold dpt at h
      have ih := wide_eq n s (by omega) g k (by omega)
      rw [enc]; unfold wid; simp only [fnD, gNx, gSeq, gSet, gSetO, ownAt, gApp, gRev, gPut, frz, gFrz, gRet, gExpr, gIf, gExc, asL, eVar, eC, eOp, eUn, toB, tB, tAndB, tOrB, tNotB, eAnd, eOr, eNot, eChain, aNil, aCons, eTup, oLst, eO, eCall, oUn, oSl, rNone, rSome, toI, dCut, eLenO, eIxO, sBind_ok, sBind_exc, sBind_stk, Res.bind_ok, Res.bind_exc, Res.bind_stk, SRes.thn_nx, SRes.thn_rt, SRes.thn_exc, SRes.thn_stk, List.map_cons, List.map_nil, List.cons_append, List.nil_append, List.length_cons, List.length_nil, List.replicate_succ, List.replicate_zero, List.getElem?_cons_zero, List.getElem?_cons_succ, List.set_cons_zero, List.set_cons_succ, Nat.zero_add, Nat.reduceAdd, Nat.reduceSub, dAdd, dSub, dMul, dDiv, dMod, dNeg, dCmp, dLt, dLe, dGt, dGe, dEq, dNe, dEq?, dIsN, dNotN, dIsi, isTy, dLen, dIx_lst, dIx_tup, dIx_scr, dList, dRev, dInt, dMax2, dMin2, decide_eq_true_eq, if_true, if_false, Bool.not_true, Bool.not_false, Bool.false_eq_true, reduceIte, Int.reduceLT, Int.reduceLE, Int.reduceEq, Int.reduceNeg, String.reduceEq, decide_true, decide_false, ci0, ci1, ci2, ci3, ci4, ci5, dAt_0, dAt_1, dAt_2, dAt_3, dv2, dv3, dv4, dv5, dv7, dv12, dv60, dv64, fz0, fz1, fz2, fz3, fz4, fz5, fz11, mulOk2, mulOk7, Int.reduceSub, Int.reduceAdd, dCut, repOk13, repOk54, Int.reduceToNat, List.flatten_cons, List.flatten_nil, List.append_nil, decide_true, decide_false, ih]
    | rows w s =>
      unfold Good at g; unfold dpt at h
      have ih := wide_eq n s (by omega) g.2 k (by omega)
      have hr := law_room_eq w (by omega)
      have a : (2 ^ w : Int) ≤ 256 := by
        have e : (2 ^ w : Int) = ((2 ^ w : Nat) : Int) := by simp
        have := Nat.pow_le_pow_right (show 0 < 2 by omega) g.1
        omega
      have b := two_pos w
      have mo : ∀ x : Int, mulOk (2 ^ w - 1) x = true := fun x => mulOk_l (by omega)
      rw [enc]; unfold wid; simp only [fnD, gNx, gSeq, gSet, gSetO, ownAt, gApp, gRev, gPut, frz, gFrz, gRet, gExpr, gIf, gExc, asL, eVar, eC, eOp, eUn, toB, tB, tAndB, tOrB, tNotB, eAnd, eOr, eNot, eChain, aNil, aCons, eTup, oLst, eO, eCall, oUn, oSl, rNone, rSome, toI, dCut, eLenO, eIxO, sBind_ok, sBind_exc, sBind_stk, Res.bind_ok, Res.bind_exc, Res.bind_stk, SRes.thn_nx, SRes.thn_rt, SRes.thn_exc, SRes.thn_stk, List.map_cons, List.map_nil, List.cons_append, List.nil_append, List.length_cons, List.length_nil, List.replicate_succ, List.replicate_zero, List.getElem?_cons_zero, List.getElem?_cons_succ, List.set_cons_zero, List.set_cons_succ, Nat.zero_add, Nat.reduceAdd, Nat.reduceSub, dAdd, dSub, dMul, dDiv, dMod, dNeg, dCmp, dLt, dLe, dGt, dGe, dEq, dNe, dEq?, dIsN, dNotN, dIsi, isTy, dLen, dIx_lst, dIx_tup, dIx_scr, dList, dRev, dInt, dMax2, dMin2, decide_eq_true_eq, if_true, if_false, Bool.not_true, Bool.not_false, Bool.false_eq_true, reduceIte, Int.reduceLT, Int.reduceLE, Int.reduceEq, Int.reduceNeg, String.reduceEq, decide_true, decide_false, ci0, ci1, ci2, ci3, ci4, ci5, dAt_0, dAt_1, dAt_2, dAt_3, dv2, dv3, dv4, dv5, dv7, dv12, dv60, dv64, fz0, fz1, fz2, fz3, fz4, fz5, fz11, mulOk2, mulOk7, Int.reduceSub, Int.reduceAdd, dCut, repOk13, repOk54, Int.reduceToNat, List.flatten_cons, List.flatten_nil, List.append_nil, decide_true, decide_false, ih, hrm, hr, mo]
    | group ss =>
      unfold Good at g; unfold dpt at h
      rw [enc]; unfold wid
      have f := fits_le (n := (encs ss).length) (by rw [encs_len]; omega)
      refine seq_nx (by simp only [fnD, gNx, gSeq, gSet, gSetO, ownAt, gApp, gRev, gPut, frz, gFrz, gRet, gExpr, gIf, gExc, asL, eVar, eC, eOp, eUn, toB, tB, tAndB, tOrB, tNotB, eAnd, eOr, eNot, eChain, aNil, aCons, eTup, oLst, eO, eCall, oUn, oSl, rNone, rSome, toI, dCut, eLenO, eIxO, sBind_ok, sBind_exc, sBind_stk, Res.bind_ok, Res.bind_exc, Res.bind_stk, SRes.thn_nx, SRes.thn_rt, SRes.thn_exc, SRes.thn_stk, List.map_cons, List.map_nil, List.cons_append, List.nil_append, List.length_cons, List.length_nil, List.replicate_succ, List.replicate_zero, List.getElem?_cons_zero, List.getElem?_cons_succ, List.set_cons_zero, List.set_cons_succ, Nat.zero_add, Nat.reduceAdd, Nat.reduceSub, dAdd, dSub, dMul, dDiv, dMod, dNeg, dCmp, dLt, dLe, dGt, dGe, dEq, dNe, dEq?, dIsN, dNotN, dIsi, isTy, dLen, dIx_lst, dIx_tup, dIx_scr, dList, dRev, dInt, dMax2, dMin2, decide_eq_true_eq, if_true, if_false, Bool.not_true, Bool.not_false, Bool.false_eq_true, reduceIte, Int.reduceLT, Int.reduceLE, Int.reduceEq, Int.reduceNeg, String.reduceEq, decide_true, decide_false, ci0, ci1, ci2, ci3, ci4, ci5, dAt_0, dAt_1, dAt_2, dAt_3, dv2, dv3, dv4, dv5, dv7, dv12, dv60, dv64, fz0, fz1, fz2, fz3, fz4, fz5, fz11, mulOk2, mulOk7, Int.reduceSub, Int.reduceAdd, dCut, repOk13, repOk54, Int.reduceToNat, List.flatten_cons, List.flatten_nil, List.append_nil] <;> rfl) (seq_nx (by simp only [fnD, gNx, gSeq, gSet, gSetO, ownAt, gApp, gRev, gPut, frz, gFrz, gRet, gExpr, gIf, gExc, asL, eVar, eC, eOp, eUn, toB, tB, tAndB, tOrB, tNotB, eAnd, eOr, eNot, eChain, aNil, aCons, eTup, oLst, eO, eCall, oUn, oSl, rNone, rSome, toI, dCut, eLenO, eIxO, sBind_ok, sBind_exc, sBind_stk, Res.bind_ok, Res.bind_exc, Res.bind_stk, SRes.thn_nx, SRes.thn_rt, SRes.thn_exc, SRes.thn_stk, List.map_cons, List.map_nil, List.cons_append, List.nil_append, List.length_cons, List.length_nil, List.replicate_succ, List.replicate_zero, List.getElem?_cons_zero, List.getElem?_cons_succ, List.set_cons_zero, List.set_cons_succ, Nat.zero_add, Nat.reduceAdd, Nat.reduceSub, dAdd, dSub, dMul, dDiv, dMod, dNeg, dCmp, dLt, dLe, dGt, dGe, dEq, dNe, dEq?, dIsN, dNotN, dIsi, isTy, dLen, dIx_lst, dIx_tup, dIx_scr, dList, dRev, dInt, dMax2, dMin2, decide_eq_true_eq, if_true, if_false, Bool.not_true, Bool.not_false, Bool.false_eq_true, reduceIte, Int.reduceLT, Int.reduceLE, Int.reduceEq, Int.reduceNeg, String.reduceEq, decide_true, decide_false, ci0, ci1, ci2, ci3, ci4, ci5, dAt_0, dAt_1, dAt_2, dAt_3, dv2, dv3, dv4, dv5, dv7, dv12, dv60, dv64, fz0, fz1, fz2, fz3, fz4, fz5, fz11, mulOk2, mulOk7, Int.reduceSub, Int.reduceAdd, dCut, repOk13, repOk54, Int.reduceToNat, List.flatten_cons, List.flatten_nil, List.append_nil] <;> rfl) (seq_nx (by simp only [fnD, gNx, gSeq, gSet, gSetO, ownAt, gApp, gRev, gPut, frz, gFrz, gRet, gExpr, gIf, gExc, asL, eVar, eC, eOp, eUn, toB, tB, tAndB, tOrB, tNotB, eAnd, eOr, eNot, eChain, aNil, aCons, eTup, oLst, eO, eCall, oUn, oSl, rNone, rSome, toI, dCut, eLenO, eIxO, sBind_ok, sBind_exc, sBind_stk, Res.bind_ok, Res.bind_exc, Res.bind_stk, SRes.thn_nx, SRes.thn_rt, SRes.thn_exc, SRes.thn_stk, List.map_cons, List.map_nil, List.cons_append, List.nil_append, List.length_cons, List.length_nil, List.replicate_succ, List.replicate_zero, List.getElem?_cons_zero, List.getElem?_cons_succ, List.set_cons_zero, List.set_cons_succ, Nat.zero_add, Nat.reduceAdd, Nat.reduceSub, dAdd, dSub, dMul, dDiv, dMod, dNeg, dCmp, dLt, dLe, dGt, dGe, dEq, dNe, dEq?, dIsN, dNotN, dIsi, isTy, dLen, dIx_lst, dIx_tup, dIx_scr, dList, dRev, dInt, dMax2, dMin2, decide_eq_true_eq, if_true, if_false, Bool.not_true, Bool.not_false, Bool.false_eq_true, reduceIte, Int.reduceLT, Int.reduceLE, Int.reduceEq, Int.reduceNeg, String.reduceEq, decide_true, decide_false, ci0, ci1, ci2, ci3, ci4, ci5, dAt_0, dAt_1, dAt_2, dAt_3, dv2, dv3, dv4, dv5, dv7, dv12, dv60, dv64, fz0, fz1, fz2, fz3, fz4, fz5, fz11, mulOk2, mulOk7, Int.reduceSub, Int.reduceAdd, dCut, repOk13, repOk54, Int.reduceToNat, List.flatten_cons, List.flatten_nil, List.append_nil] <;> rfl) (seq_nx (ρ' := [.v (.tup [.str "group", .lst (encs ss)]), .v (.lst (dI (wids ss))), .un]) ?_ ?_)))
      · refine set_ok ?_
        have ml := mapR_encs (h := fun d => (eCall (wd (k + 1)) (aCons (eVar 2) aNil)) ((([.v (.tup [.str "group", .lst (encs ss)]), .un, .un] : Rho).set 2 .un).set 2 (.v d))) (ss := ss) fun s hs => by
          have ih := wide_eq n s (by have := dpts_mem hs; omega) (g.2.mem hs) k (by omega)
          simp only [fnD, gNx, gSeq, gSet, gSetO, ownAt, gApp, gRev, gPut, frz, gFrz, gRet, gExpr, gIf, gExc, asL, eVar, eC, eOp, eUn, toB, tB, tAndB, tOrB, tNotB, eAnd, eOr, eNot, eChain, aNil, aCons, eTup, oLst, eO, eCall, oUn, oSl, rNone, rSome, toI, dCut, eLenO, eIxO, sBind_ok, sBind_exc, sBind_stk, Res.bind_ok, Res.bind_exc, Res.bind_stk, SRes.thn_nx, SRes.thn_rt, SRes.thn_exc, SRes.thn_stk, List.map_cons, List.map_nil, List.cons_append, List.nil_append, List.length_cons, List.length_nil, List.replicate_succ, List.replicate_zero, List.getElem?_cons_zero, List.getElem?_cons_succ, List.set_cons_zero, List.set_cons_succ, Nat.zero_add, Nat.reduceAdd, Nat.reduceSub, dAdd, dSub, dMul, dDiv, dMod, dNeg, dCmp, dLt, dLe, dGt, dGe, dEq, dNe, dEq?, dIsN, dNotN, dIsi, isTy, dLen, dIx_lst, dIx_tup, dIx_scr, dList, dRev, dInt, dMax2, dMin2, decide_eq_true_eq, if_true, if_false, Bool.not_true, Bool.not_false, Bool.false_eq_true, reduceIte, Int.reduceLT, Int.reduceLE, Int.reduceEq, Int.reduceNeg, String.reduceEq, decide_true, decide_false, ci0, ci1, ci2, ci3, ci4, ci5, dAt_0, dAt_1, dAt_2, dAt_3, dv2, dv3, dv4, dv5, dv7, dv12, dv60, dv64, fz0, fz1, fz2, fz3, fz4, fz5, fz11, mulOk2, mulOk7, Int.reduceSub, Int.reduceAdd, dCut, repOk13, repOk54, Int.reduceToNat, List.flatten_cons, List.flatten_nil, List.append_nil, ih]
        unfold eO oLc
        simp only [fnD, gNx, gSeq, gSet, gSetO, ownAt, gApp, gRev, gPut, frz, gFrz, gRet, gExpr, gIf, gExc, asL, eVar, eC, eOp, eUn, toB, tB, tAndB, tOrB, tNotB, eAnd, eOr, eNot, eChain, aNil, aCons, eTup, oLst, eO, eCall, oUn, oSl, rNone, rSome, toI, dCut, eLenO, eIxO, sBind_ok, sBind_exc, sBind_stk, Res.bind_ok, Res.bind_exc, Res.bind_stk, SRes.thn_nx, SRes.thn_rt, SRes.thn_exc, SRes.thn_stk, List.map_cons, List.map_nil, List.cons_append, List.nil_append, List.length_cons, List.length_nil, List.replicate_succ, List.replicate_zero, List.getElem?_cons_zero, List.getElem?_cons_succ, List.set_cons_zero, List.set_cons_succ, Nat.zero_add, Nat.reduceAdd, Nat.reduceSub, dAdd, dSub, dMul, dDiv, dMod, dNeg, dCmp, dLt, dLe, dGt, dGe, dEq, dNe, dEq?, dIsN, dNotN, dIsi, isTy, dLen, dIx_lst, dIx_tup, dIx_scr, dList, dRev, dInt, dMax2, dMin2, decide_eq_true_eq, if_true, if_false, Bool.not_true, Bool.not_false, Bool.false_eq_true, reduceIte, Int.reduceLT, Int.reduceLE, Int.reduceEq, Int.reduceNeg, String.reduceEq, decide_true, decide_false, ci0, ci1, ci2, ci3, ci4, ci5, dAt_0, dAt_1, dAt_2, dAt_3, dv2, dv3, dv4, dv5, dv7, dv12, dv60, dv64, fz0, fz1, fz2, fz3, fz4, fz5, fz11, mulOk2, mulOk7, Int.reduceSub, Int.reduceAdd, dCut, repOk13, repOk54, Int.reduceToNat, List.flatten_cons, List.flatten_nil, List.append_nil, f] at ml ⊢
        simp only [fnD, gNx, gSeq, gSet, gSetO, ownAt, gApp, gRev, gPut, frz, gFrz, gRet, gExpr, gIf, gExc, asL, eVar, eC, eOp, eUn, toB, tB, tAndB, tOrB, tNotB, eAnd, eOr, eNot, eChain, aNil, aCons, eTup, oLst, eO, eCall, oUn, oSl, rNone, rSome, toI, dCut, eLenO, eIxO, sBind_ok, sBind_exc, sBind_stk, Res.bind_ok, Res.bind_exc, Res.bind_stk, SRes.thn_nx, SRes.thn_rt, SRes.thn_exc, SRes.thn_stk, List.map_cons, List.map_nil, List.cons_append, List.nil_append, List.length_cons, List.length_nil, List.replicate_succ, List.replicate_zero, List.getElem?_cons_zero, List.getElem?_cons_succ, List.set_cons_zero, List.set_cons_succ, Nat.zero_add, Nat.reduceAdd, Nat.reduceSub, dAdd, dSub, dMul, dDiv, dMod, dNeg, dCmp, dLt, dLe, dGt, dGe, dEq, dNe, dEq?, dIsN, dNotN, dIsi, isTy, dLen, dIx_lst, dIx_tup, dIx_scr, dList, dRev, dInt, dMax2, dMin2, decide_eq_true_eq, if_true, if_false, Bool.not_true, Bool.not_false, Bool.false_eq_true, reduceIte, Int.reduceLT, Int.reduceLE, Int.reduceEq, Int.reduceNeg, String.reduceEq, decide_true, decide_false, ci0, ci1, ci2, ci3, ci4, ci5, dAt_0, dAt_1, dAt_2, dAt_3, dv2, dv3, dv4, dv5, dv7, dv12, dv60, dv64, fz0, fz1, fz2, fz3, fz4, fz5, fz11, mulOk2, mulOk7, Int.reduceSub, Int.reduceAdd, dCut, repOk13, repOk54, Int.reduceToNat, List.flatten_cons, List.flatten_nil, List.append_nil, ml, f]
      · simp only [fnD, gNx, gSeq, gSet, gSetO, ownAt, gApp, gRev, gPut, frz, gFrz, gRet, gExpr, gIf, gExc, asL, eVar, eC, eOp, eUn, toB, tB, tAndB, tOrB, tNotB, eAnd, eOr, eNot, eChain, aNil, aCons, eTup, oLst, eO, eCall, oUn, oSl, rNone, rSome, toI, dCut, eLenO, eIxO, sBind_ok, sBind_exc, sBind_stk, Res.bind_ok, Res.bind_exc, Res.bind_stk, SRes.thn_nx, SRes.thn_rt, SRes.thn_exc, SRes.thn_stk, List.map_cons, List.map_nil, List.cons_append, List.nil_append, List.length_cons, List.length_nil, List.replicate_succ, List.replicate_zero, List.getElem?_cons_zero, List.getElem?_cons_succ, List.set_cons_zero, List.set_cons_succ, Nat.zero_add, Nat.reduceAdd, Nat.reduceSub, dAdd, dSub, dMul, dDiv, dMod, dNeg, dCmp, dLt, dLe, dGt, dGe, dEq, dNe, dEq?, dIsN, dNotN, dIsi, isTy, dLen, dIx_lst, dIx_tup, dIx_scr, dList, dRev, dInt, dMax2, dMin2, decide_eq_true_eq, if_true, if_false, Bool.not_true, Bool.not_false, Bool.false_eq_true, reduceIte, Int.reduceLT, Int.reduceLE, Int.reduceEq, Int.reduceNeg, String.reduceEq, decide_true, decide_false, ci0, ci1, ci2, ci3, ci4, ci5, dAt_0, dAt_1, dAt_2, dAt_3, dv2, dv3, dv4, dv5, dv7, dv12, dv60, dv64, fz0, fz1, fz2, fz3, fz4, fz5, fz11, mulOk2, mulOk7, Int.reduceSub, Int.reduceAdd, dCut, repOk13, repOk54, Int.reduceToNat, List.flatten_cons, List.flatten_nil, List.append_nil, dSum, dInts, intsOf_dI]
    | one w ss =>
      unfold Good at g; unfold dpt at h
      rw [enc]; unfold wid
      have f := fits_le (n := (encs ss).length) (by rw [encs_len]; omega)
      refine seq_nx (by simp only [fnD, gNx, gSeq, gSet, gSetO, ownAt, gApp, gRev, gPut, frz, gFrz, gRet, gExpr, gIf, gExc, asL, eVar, eC, eOp, eUn, toB, tB, tAndB, tOrB, tNotB, eAnd, eOr, eNot, eChain, aNil, aCons, eTup, oLst, eO, eCall, oUn, oSl, rNone, rSome, toI, dCut, eLenO, eIxO, sBind_ok, sBind_exc, sBind_stk, Res.bind_ok, Res.bind_exc, Res.bind_stk, SRes.thn_nx, SRes.thn_rt, SRes.thn_exc, SRes.thn_stk, List.map_cons, List.map_nil, List.cons_append, List.nil_append, List.length_cons, List.length_nil, List.replicate_succ, List.replicate_zero, List.getElem?_cons_zero, List.getElem?_cons_succ, List.set_cons_zero, List.set_cons_succ, Nat.zero_add, Nat.reduceAdd, Nat.reduceSub, dAdd, dSub, dMul, dDiv, dMod, dNeg, dCmp, dLt, dLe, dGt, dGe, dEq, dNe, dEq?, dIsN, dNotN, dIsi, isTy, dLen, dIx_lst, dIx_tup, dIx_scr, dList, dRev, dInt, dMax2, dMin2, decide_eq_true_eq, if_true, if_false, Bool.not_true, Bool.not_false, Bool.false_eq_true, reduceIte, Int.reduceLT, Int.reduceLE, Int.reduceEq, Int.reduceNeg, String.reduceEq, decide_true, decide_false, ci0, ci1, ci2, ci3, ci4, ci5, dAt_0, dAt_1, dAt_2, dAt_3, dv2, dv3, dv4, dv5, dv7, dv12, dv60, dv64, fz0, fz1, fz2, fz3, fz4, fz5, fz11, mulOk2, mulOk7, Int.reduceSub, Int.reduceAdd, dCut, repOk13, repOk54, Int.reduceToNat, List.flatten_cons, List.flatten_nil, List.append_nil] <;> rfl) (seq_nx (by simp only [fnD, gNx, gSeq, gSet, gSetO, ownAt, gApp, gRev, gPut, frz, gFrz, gRet, gExpr, gIf, gExc, asL, eVar, eC, eOp, eUn, toB, tB, tAndB, tOrB, tNotB, eAnd, eOr, eNot, eChain, aNil, aCons, eTup, oLst, eO, eCall, oUn, oSl, rNone, rSome, toI, dCut, eLenO, eIxO, sBind_ok, sBind_exc, sBind_stk, Res.bind_ok, Res.bind_exc, Res.bind_stk, SRes.thn_nx, SRes.thn_rt, SRes.thn_exc, SRes.thn_stk, List.map_cons, List.map_nil, List.cons_append, List.nil_append, List.length_cons, List.length_nil, List.replicate_succ, List.replicate_zero, List.getElem?_cons_zero, List.getElem?_cons_succ, List.set_cons_zero, List.set_cons_succ, Nat.zero_add, Nat.reduceAdd, Nat.reduceSub, dAdd, dSub, dMul, dDiv, dMod, dNeg, dCmp, dLt, dLe, dGt, dGe, dEq, dNe, dEq?, dIsN, dNotN, dIsi, isTy, dLen, dIx_lst, dIx_tup, dIx_scr, dList, dRev, dInt, dMax2, dMin2, decide_eq_true_eq, if_true, if_false, Bool.not_true, Bool.not_false, Bool.false_eq_true, reduceIte, Int.reduceLT, Int.reduceLE, Int.reduceEq, Int.reduceNeg, String.reduceEq, decide_true, decide_false, ci0, ci1, ci2, ci3, ci4, ci5, dAt_0, dAt_1, dAt_2, dAt_3, dv2, dv3, dv4, dv5, dv7, dv12, dv60, dv64, fz0, fz1, fz2, fz3, fz4, fz5, fz11, mulOk2, mulOk7, Int.reduceSub, Int.reduceAdd, dCut, repOk13, repOk54, Int.reduceToNat, List.flatten_cons, List.flatten_nil, List.append_nil] <;> rfl) (seq_nx (by simp only [fnD, gNx, gSeq, gSet, gSetO, ownAt, gApp, gRev, gPut, frz, gFrz, gRet, gExpr, gIf, gExc, asL, eVar, eC, eOp, eUn, toB, tB, tAndB, tOrB, tNotB, eAnd, eOr, eNot, eChain, aNil, aCons, eTup, oLst, eO, eCall, oUn, oSl, rNone, rSome, toI, dCut, eLenO, eIxO, sBind_ok, sBind_exc, sBind_stk, Res.bind_ok, Res.bind_exc, Res.bind_stk, SRes.thn_nx, SRes.thn_rt, SRes.thn_exc, SRes.thn_stk, List.map_cons, List.map_nil, List.cons_append, List.nil_append, List.length_cons, List.length_nil, List.replicate_succ, List.replicate_zero, List.getElem?_cons_zero, List.getElem?_cons_succ, List.set_cons_zero, List.set_cons_succ, Nat.zero_add, Nat.reduceAdd, Nat.reduceSub, dAdd, dSub, dMul, dDiv, dMod, dNeg, dCmp, dLt, dLe, dGt, dGe, dEq, dNe, dEq?, dIsN, dNotN, dIsi, isTy, dLen, dIx_lst, dIx_tup, dIx_scr, dList, dRev, dInt, dMax2, dMin2, decide_eq_true_eq, if_true, if_false, Bool.not_true, Bool.not_false, Bool.false_eq_true, reduceIte, Int.reduceLT, Int.reduceLE, Int.reduceEq, Int.reduceNeg, String.reduceEq, decide_true, decide_false, ci0, ci1, ci2, ci3, ci4, ci5, dAt_0, dAt_1, dAt_2, dAt_3, dv2, dv3, dv4, dv5, dv7, dv12, dv60, dv64, fz0, fz1, fz2, fz3, fz4, fz5, fz11, mulOk2, mulOk7, Int.reduceSub, Int.reduceAdd, dCut, repOk13, repOk54, Int.reduceToNat, List.flatten_cons, List.flatten_nil, List.append_nil] <;> rfl) (seq_nx (ρ' := [.v (.tup [.str "one", .int w, .lst (encs ss)]), .v (.lst (dI (wids ss))), .un]) ?_ ?_)))
      · refine set_ok ?_
        have ml := mapR_encs (h := fun d => (eCall (wd (k + 1)) (aCons (eVar 2) aNil)) ((([.v (.tup [.str "one", .int w, .lst (encs ss)]), .un, .un] : Rho).set 2 .un).set 2 (.v d))) (ss := ss) fun s hs => by
          have ih := wide_eq n s (by have := dpts_mem hs; omega) (g.2.2.2.2.mem hs) k (by omega)
          simp only [fnD, gNx, gSeq, gSet, gSetO, ownAt, gApp, gRev, gPut, frz, gFrz, gRet, gExpr, gIf, gExc, asL, eVar, eC, eOp, eUn, toB, tB, tAndB, tOrB, tNotB, eAnd, eOr, eNot, eChain, aNil, aCons, eTup, oLst, eO, eCall, oUn, oSl, rNone, rSome, toI, dCut, eLenO, eIxO, sBind_ok, sBind_exc, sBind_stk, Res.bind_ok, Res.bind_exc, Res.bind_stk, SRes.thn_nx, SRes.thn_rt, SRes.thn_exc, SRes.thn_stk, List.map_cons, List.map_nil, List.cons_append, List.nil_append, List.length_cons, List.length_nil, List.replicate_succ, List.replicate_zero, List.getElem?_cons_zero, List.getElem?_cons_succ, List.set_cons_zero, List.set_cons_succ, Nat.zero_add, Nat.reduceAdd, Nat.reduceSub, dAdd, dSub, dMul, dDiv, dMod, dNeg, dCmp, dLt, dLe, dGt, dGe, dEq, dNe, dEq?, dIsN, dNotN, dIsi, isTy, dLen, dIx_lst, dIx_tup, dIx_scr, dList, dRev, dInt, dMax2, dMin2, decide_eq_true_eq, if_true, if_false, Bool.not_true, Bool.not_false, Bool.false_eq_true, reduceIte, Int.reduceLT, Int.reduceLE, Int.reduceEq, Int.reduceNeg, String.reduceEq, decide_true, decide_false, ci0, ci1, ci2, ci3, ci4, ci5, dAt_0, dAt_1, dAt_2, dAt_3, dv2, dv3, dv4, dv5, dv7, dv12, dv60, dv64, fz0, fz1, fz2, fz3, fz4, fz5, fz11, mulOk2, mulOk7, Int.reduceSub, Int.reduceAdd, dCut, repOk13, repOk54, Int.reduceToNat, List.flatten_cons, List.flatten_nil, List.append_nil, ih]
        unfold eO oLc
        simp only [fnD, gNx, gSeq, gSet, gSetO, ownAt, gApp, gRev, gPut, frz, gFrz, gRet, gExpr, gIf, gExc, asL, eVar, eC, eOp, eUn, toB, tB, tAndB, tOrB, tNotB, eAnd, eOr, eNot, eChain, aNil, aCons, eTup, oLst, eO, eCall, oUn, oSl, rNone, rSome, toI, dCut, eLenO, eIxO, sBind_ok, sBind_exc, sBind_stk, Res.bind_ok, Res.bind_exc, Res.bind_stk, SRes.thn_nx, SRes.thn_rt, SRes.thn_exc, SRes.thn_stk, List.map_cons, List.map_nil, List.cons_append, List.nil_append, List.length_cons, List.length_nil, List.replicate_succ, List.replicate_zero, List.getElem?_cons_zero, List.getElem?_cons_succ, List.set_cons_zero, List.set_cons_succ, Nat.zero_add, Nat.reduceAdd, Nat.reduceSub, dAdd, dSub, dMul, dDiv, dMod, dNeg, dCmp, dLt, dLe, dGt, dGe, dEq, dNe, dEq?, dIsN, dNotN, dIsi, isTy, dLen, dIx_lst, dIx_tup, dIx_scr, dList, dRev, dInt, dMax2, dMin2, decide_eq_true_eq, if_true, if_false, Bool.not_true, Bool.not_false, Bool.false_eq_true, reduceIte, Int.reduceLT, Int.reduceLE, Int.reduceEq, Int.reduceNeg, String.reduceEq, decide_true, decide_false, ci0, ci1, ci2, ci3, ci4, ci5, dAt_0, dAt_1, dAt_2, dAt_3, dv2, dv3, dv4, dv5, dv7, dv12, dv60, dv64, fz0, fz1, fz2, fz3, fz4, fz5, fz11, mulOk2, mulOk7, Int.reduceSub, Int.reduceAdd, dCut, repOk13, repOk54, Int.reduceToNat, List.flatten_cons, List.flatten_nil, List.append_nil, f] at ml ⊢
        simp only [fnD, gNx, gSeq, gSet, gSetO, ownAt, gApp, gRev, gPut, frz, gFrz, gRet, gExpr, gIf, gExc, asL, eVar, eC, eOp, eUn, toB, tB, tAndB, tOrB, tNotB, eAnd, eOr, eNot, eChain, aNil, aCons, eTup, oLst, eO, eCall, oUn, oSl, rNone, rSome, toI, dCut, eLenO, eIxO, sBind_ok, sBind_exc, sBind_stk, Res.bind_ok, Res.bind_exc, Res.bind_stk, SRes.thn_nx, SRes.thn_rt, SRes.thn_exc, SRes.thn_stk, List.map_cons, List.map_nil, List.cons_append, List.nil_append, List.length_cons, List.length_nil, List.replicate_succ, List.replicate_zero, List.getElem?_cons_zero, List.getElem?_cons_succ, List.set_cons_zero, List.set_cons_succ, Nat.zero_add, Nat.reduceAdd, Nat.reduceSub, dAdd, dSub, dMul, dDiv, dMod, dNeg, dCmp, dLt, dLe, dGt, dGe, dEq, dNe, dEq?, dIsN, dNotN, dIsi, isTy, dLen, dIx_lst, dIx_tup, dIx_scr, dList, dRev, dInt, dMax2, dMin2, decide_eq_true_eq, if_true, if_false, Bool.not_true, Bool.not_false, Bool.false_eq_true, reduceIte, Int.reduceLT, Int.reduceLE, Int.reduceEq, Int.reduceNeg, String.reduceEq, decide_true, decide_false, ci0, ci1, ci2, ci3, ci4, ci5, dAt_0, dAt_1, dAt_2, dAt_3, dv2, dv3, dv4, dv5, dv7, dv12, dv60, dv64, fz0, fz1, fz2, fz3, fz4, fz5, fz11, mulOk2, mulOk7, Int.reduceSub, Int.reduceAdd, dCut, repOk13, repOk54, Int.reduceToNat, List.flatten_cons, List.flatten_nil, List.append_nil, ml, f]
      · have l0 : 0 < (wids ss).length := by rw [wids_len]; omega
        simp only [fnD, gNx, gSeq, gSet, gSetO, ownAt, gApp, gRev, gPut, frz, gFrz, gRet, gExpr, gIf, gExc, asL, eVar, eC, eOp, eUn, toB, tB, tAndB, tOrB, tNotB, eAnd, eOr, eNot, eChain, aNil, aCons, eTup, oLst, eO, eCall, oUn, oSl, rNone, rSome, toI, dCut, eLenO, eIxO, sBind_ok, sBind_exc, sBind_stk, Res.bind_ok, Res.bind_exc, Res.bind_stk, SRes.thn_nx, SRes.thn_rt, SRes.thn_exc, SRes.thn_stk, List.map_cons, List.map_nil, List.cons_append, List.nil_append, List.length_cons, List.length_nil, List.replicate_succ, List.replicate_zero, List.getElem?_cons_zero, List.getElem?_cons_succ, List.set_cons_zero, List.set_cons_succ, Nat.zero_add, Nat.reduceAdd, Nat.reduceSub, dAdd, dSub, dMul, dDiv, dMod, dNeg, dCmp, dLt, dLe, dGt, dGe, dEq, dNe, dEq?, dIsN, dNotN, dIsi, isTy, dLen, dIx_lst, dIx_tup, dIx_scr, dList, dRev, dInt, dMax2, dMin2, decide_eq_true_eq, if_true, if_false, Bool.not_true, Bool.not_false, Bool.false_eq_true, reduceIte, Int.reduceLT, Int.reduceLE, Int.reduceEq, Int.reduceNeg, String.reduceEq, decide_true, decide_false, ci0, ci1, ci2, ci3, ci4, ci5, dAt_0, dAt_1, dAt_2, dAt_3, dv2, dv3, dv4, dv5, dv7, dv12, dv60, dv64, fz0, fz1, fz2, fz3, fz4, fz5, fz11, mulOk2, mulOk7, Int.reduceSub, Int.reduceAdd, dCut, repOk13, repOk54, Int.reduceToNat, List.flatten_cons, List.flatten_nil, List.append_nil, decide_true, dMaxL, dInts, intsOf_dI, l0, if_true]
end
end Pu

namespace Pu
open PySem L2
theorem divOk_wid {n : Nat} {x : Int} (hn : n ≤ 800) (h1 : 1 ≤ x) (h2 : x ≤ 2 ^ (10 * n)) : divOk x = true := by
  refine divOk_lt (by omega) ?_
  have e : (2 ^ (10 * n) : Int) = ((2 ^ (10 * n) : Nat) : Int) := by simp
  have := Nat.pow_lt_pow_right (show 1 < 2 by omega) (show 10 * n < 9000 by omega)
  omega
/-- how many -/
def CntOk (s : Sh) (c : Nat) : Prop := match s with
  | .maybe _ => c ≤ 1
  | .rows w s => c < 2 ^ w ∧ (c ≤ 2 ∨ (c : Int) * wid s ≤ 520)
  | _ => False
section
variable {mn wd rm : Nat → List D → Res D} (hrm : ∀ k, rm (k + 1) = S_law_room) (hwd : ∀ k, wd (k + 1) = S_law_wide (wd k) (rm k)) (hmn : ∀ k, mn (k + 1) = S_law_many (rm k) (wd k))
include hmn in
theorem many_maybe (s : Sh) (a : Int) (k : Nat) : ∃ d, mn (k + 1) [enc (.maybe s), .int a] = .ok d ∧ ∃ c : Nat, d = .int c ∧ c ≤ 1 := by
  rw [hmn, enc]
  rcases (show a % 3 = 0 ∨ a % 3 = 1 ∨ a % 3 = 2 by omega) with z | z | z
  · exact fnD_RT (.sr (.ift (by simp only [fnD, gNx, gSeq, gSet, gSetO, ownAt, gApp, gRev, gPut, frz, gFrz, gRet, gExpr, gIf, gExc, asL, eVar, eC, eOp, eUn, toB, tB, tAndB, tOrB, tNotB, eAnd, eOr, eNot, eChain, aNil, aCons, eTup, oLst, eO, eCall, oUn, oSl, rNone, rSome, toI, dCut, eLenO, eIxO, sBind_ok, sBind_exc, sBind_stk, Res.bind_ok, Res.bind_exc, Res.bind_stk, SRes.thn_nx, SRes.thn_rt, SRes.thn_exc, SRes.thn_stk, List.map_cons, List.map_nil, List.cons_append, List.nil_append, List.length_cons, List.length_nil, List.replicate_succ, List.replicate_zero, List.getElem?_cons_zero, List.getElem?_cons_succ, List.set_cons_zero, List.set_cons_succ, Nat.zero_add, Nat.reduceAdd, Nat.reduceSub, dAdd, dSub, dMul, dDiv, dMod, dNeg, dCmp, dLt, dLe, dGt, dGe, dEq, dNe, dEq?, dIsN, dNotN, dIsi, isTy, dLen, dIx_lst, dIx_tup, dIx_scr, dList, dRev, dInt, dMax2, dMin2, decide_eq_true_eq, if_true, if_false, Bool.not_true, Bool.not_false, Bool.false_eq_true, reduceIte, Int.reduceLT, Int.reduceLE, Int.reduceEq, Int.reduceNeg, String.reduceEq, decide_true, decide_false, ci0, ci1, ci2, ci3, ci4, ci5, dAt_0, dAt_1, dAt_2, dAt_3, dv2, dv3, dv4, dv5, dv7, dv12, dv60, dv64, fz0, fz1, fz2, fz3, fz4, fz5, fz11, mulOk2, mulOk7, Int.reduceSub, Int.reduceAdd, dCut, repOk13, repOk54, Int.reduceToNat, List.flatten_cons, List.flatten_nil, List.append_nil, decide_true]) (.ret (by simp only [fnD, gNx, gSeq, gSet, gSetO, ownAt, gApp, gRev, gPut, frz, gFrz, gRet, gExpr, gIf, gExc, asL, eVar, eC, eOp, eUn, toB, tB, tAndB, tOrB, tNotB, eAnd, eOr, eNot, eChain, aNil, aCons, eTup, oLst, eO, eCall, oUn, oSl, rNone, rSome, toI, dCut, eLenO, eIxO, sBind_ok, sBind_exc, sBind_stk, Res.bind_ok, Res.bind_exc, Res.bind_stk, SRes.thn_nx, SRes.thn_rt, SRes.thn_exc, SRes.thn_stk, List.map_cons, List.map_nil, List.cons_append, List.nil_append, List.length_cons, List.length_nil, List.replicate_succ, List.replicate_zero, List.getElem?_cons_zero, List.getElem?_cons_succ, List.set_cons_zero, List.set_cons_succ, Nat.zero_add, Nat.reduceAdd, Nat.reduceSub, dAdd, dSub, dMul, dDiv, dMod, dNeg, dCmp, dLt, dLe, dGt, dGe, dEq, dNe, dEq?, dIsN, dNotN, dIsi, isTy, dLen, dIx_lst, dIx_tup, dIx_scr, dList, dRev, dInt, dMax2, dMin2, decide_eq_true_eq, if_true, if_false, Bool.not_true, Bool.not_false, Bool.false_eq_true, reduceIte, Int.reduceLT, Int.reduceLE, Int.reduceEq, Int.reduceNeg, String.reduceEq, decide_true, decide_false, ci0, ci1, ci2, ci3, ci4, ci5, dAt_0, dAt_1, dAt_2, dAt_3, dv2, dv3, dv4, dv5, dv7, dv12, dv60, dv64, fz0, fz1, fz2, fz3, fz4, fz5, fz11, mulOk2, mulOk7, Int.reduceSub, Int.reduceAdd, dCut, repOk13, repOk54, Int.reduceToNat, List.flatten_cons, List.flatten_nil, List.append_nil, z] <;> rfl) ⟨0, rfl, by omega⟩)))
  · exact fnD_RT (.sr (.ift (by simp only [fnD, gNx, gSeq, gSet, gSetO, ownAt, gApp, gRev, gPut, frz, gFrz, gRet, gExpr, gIf, gExc, asL, eVar, eC, eOp, eUn, toB, tB, tAndB, tOrB, tNotB, eAnd, eOr, eNot, eChain, aNil, aCons, eTup, oLst, eO, eCall, oUn, oSl, rNone, rSome, toI, dCut, eLenO, eIxO, sBind_ok, sBind_exc, sBind_stk, Res.bind_ok, Res.bind_exc, Res.bind_stk, SRes.thn_nx, SRes.thn_rt, SRes.thn_exc, SRes.thn_stk, List.map_cons, List.map_nil, List.cons_append, List.nil_append, List.length_cons, List.length_nil, List.replicate_succ, List.replicate_zero, List.getElem?_cons_zero, List.getElem?_cons_succ, List.set_cons_zero, List.set_cons_succ, Nat.zero_add, Nat.reduceAdd, Nat.reduceSub, dAdd, dSub, dMul, dDiv, dMod, dNeg, dCmp, dLt, dLe, dGt, dGe, dEq, dNe, dEq?, dIsN, dNotN, dIsi, isTy, dLen, dIx_lst, dIx_tup, dIx_scr, dList, dRev, dInt, dMax2, dMin2, decide_eq_true_eq, if_true, if_false, Bool.not_true, Bool.not_false, Bool.false_eq_true, reduceIte, Int.reduceLT, Int.reduceLE, Int.reduceEq, Int.reduceNeg, String.reduceEq, decide_true, decide_false, ci0, ci1, ci2, ci3, ci4, ci5, dAt_0, dAt_1, dAt_2, dAt_3, dv2, dv3, dv4, dv5, dv7, dv12, dv60, dv64, fz0, fz1, fz2, fz3, fz4, fz5, fz11, mulOk2, mulOk7, Int.reduceSub, Int.reduceAdd, dCut, repOk13, repOk54, Int.reduceToNat, List.flatten_cons, List.flatten_nil, List.append_nil, decide_true]) (.ret (by simp only [fnD, gNx, gSeq, gSet, gSetO, ownAt, gApp, gRev, gPut, frz, gFrz, gRet, gExpr, gIf, gExc, asL, eVar, eC, eOp, eUn, toB, tB, tAndB, tOrB, tNotB, eAnd, eOr, eNot, eChain, aNil, aCons, eTup, oLst, eO, eCall, oUn, oSl, rNone, rSome, toI, dCut, eLenO, eIxO, sBind_ok, sBind_exc, sBind_stk, Res.bind_ok, Res.bind_exc, Res.bind_stk, SRes.thn_nx, SRes.thn_rt, SRes.thn_exc, SRes.thn_stk, List.map_cons, List.map_nil, List.cons_append, List.nil_append, List.length_cons, List.length_nil, List.replicate_succ, List.replicate_zero, List.getElem?_cons_zero, List.getElem?_cons_succ, List.set_cons_zero, List.set_cons_succ, Nat.zero_add, Nat.reduceAdd, Nat.reduceSub, dAdd, dSub, dMul, dDiv, dMod, dNeg, dCmp, dLt, dLe, dGt, dGe, dEq, dNe, dEq?, dIsN, dNotN, dIsi, isTy, dLen, dIx_lst, dIx_tup, dIx_scr, dList, dRev, dInt, dMax2, dMin2, decide_eq_true_eq, if_true, if_false, Bool.not_true, Bool.not_false, Bool.false_eq_true, reduceIte, Int.reduceLT, Int.reduceLE, Int.reduceEq, Int.reduceNeg, String.reduceEq, decide_true, decide_false, ci0, ci1, ci2, ci3, ci4, ci5, dAt_0, dAt_1, dAt_2, dAt_3, dv2, dv3, dv4, dv5, dv7, dv12, dv60, dv64, fz0, fz1, fz2, fz3, fz4, fz5, fz11, mulOk2, mulOk7, Int.reduceSub, Int.reduceAdd, dCut, repOk13, repOk54, Int.reduceToNat, List.flatten_cons, List.flatten_nil, List.append_nil, z] <;> rfl) ⟨1, rfl, by omega⟩)))
  · exact fnD_RT (.sr (.ift (by simp only [fnD, gNx, gSeq, gSet, gSetO, ownAt, gApp, gRev, gPut, frz, gFrz, gRet, gExpr, gIf, gExc, asL, eVar, eC, eOp, eUn, toB, tB, tAndB, tOrB, tNotB, eAnd, eOr, eNot, eChain, aNil, aCons, eTup, oLst, eO, eCall, oUn, oSl, rNone, rSome, toI, dCut, eLenO, eIxO, sBind_ok, sBind_exc, sBind_stk, Res.bind_ok, Res.bind_exc, Res.bind_stk, SRes.thn_nx, SRes.thn_rt, SRes.thn_exc, SRes.thn_stk, List.map_cons, List.map_nil, List.cons_append, List.nil_append, List.length_cons, List.length_nil, List.replicate_succ, List.replicate_zero, List.getElem?_cons_zero, List.getElem?_cons_succ, List.set_cons_zero, List.set_cons_succ, Nat.zero_add, Nat.reduceAdd, Nat.reduceSub, dAdd, dSub, dMul, dDiv, dMod, dNeg, dCmp, dLt, dLe, dGt, dGe, dEq, dNe, dEq?, dIsN, dNotN, dIsi, isTy, dLen, dIx_lst, dIx_tup, dIx_scr, dList, dRev, dInt, dMax2, dMin2, decide_eq_true_eq, if_true, if_false, Bool.not_true, Bool.not_false, Bool.false_eq_true, reduceIte, Int.reduceLT, Int.reduceLE, Int.reduceEq, Int.reduceNeg, String.reduceEq, decide_true, decide_false, ci0, ci1, ci2, ci3, ci4, ci5, dAt_0, dAt_1, dAt_2, dAt_3, dv2, dv3, dv4, dv5, dv7, dv12, dv60, dv64, fz0, fz1, fz2, fz3, fz4, fz5, fz11, mulOk2, mulOk7, Int.reduceSub, Int.reduceAdd, dCut, repOk13, repOk54, Int.reduceToNat, List.flatten_cons, List.flatten_nil, List.append_nil, decide_true]) (.ret (by simp only [fnD, gNx, gSeq, gSet, gSetO, ownAt, gApp, gRev, gPut, frz, gFrz, gRet, gExpr, gIf, gExc, asL, eVar, eC, eOp, eUn, toB, tB, tAndB, tOrB, tNotB, eAnd, eOr, eNot, eChain, aNil, aCons, eTup, oLst, eO, eCall, oUn, oSl, rNone, rSome, toI, dCut, eLenO, eIxO, sBind_ok, sBind_exc, sBind_stk, Res.bind_ok, Res.bind_exc, Res.bind_stk, SRes.thn_nx, SRes.thn_rt, SRes.thn_exc, SRes.thn_stk, List.map_cons, List.map_nil, List.cons_append, List.nil_append, List.length_cons, List.length_nil, List.replicate_succ, List.replicate_zero, List.getElem?_cons_zero, List.getElem?_cons_succ, List.set_cons_zero, List.set_cons_succ, Nat.zero_add, Nat.reduceAdd, Nat.reduceSub, dAdd, dSub, dMul, dDiv, dMod, dNeg, dCmp, dLt, dLe, dGt, dGe, dEq, dNe, dEq?, dIsN, dNotN, dIsi, isTy, dLen, dIx_lst, dIx_tup, dIx_scr, dList, dRev, dInt, dMax2, dMin2, decide_eq_true_eq, if_true, if_false, Bool.not_true, Bool.not_false, Bool.false_eq_true, reduceIte, Int.reduceLT, Int.reduceLE, Int.reduceEq, Int.reduceNeg, String.reduceEq, decide_true, decide_false, ci0, ci1, ci2, ci3, ci4, ci5, dAt_0, dAt_1, dAt_2, dAt_3, dv2, dv3, dv4, dv5, dv7, dv12, dv60, dv64, fz0, fz1, fz2, fz3, fz4, fz5, fz11, mulOk2, mulOk7, Int.reduceSub, Int.reduceAdd, dCut, repOk13, repOk54, Int.reduceToNat, List.flatten_cons, List.flatten_nil, List.append_nil, z] <;> rfl) ⟨1, rfl, by omega⟩)))
include hmn hrm hwd in
theorem many_rows {n w : Nat} {s : Sh} (hd : dpt s ≤ n) (g : Good s) (hw : w ≤ 8) (hn : n ≤ 800) (a : Int) (k : Nat) (hk : n ≤ k) : ∃ d, mn (k + 2) [enc (.rows w s), .int a] = .ok d ∧ ∃ c : Nat, d = .int c ∧ CntOk (.rows w s) c := by
  rw [hmn, enc]
  have hr := law_room_eq w (by omega)
  have hwide := wide_eq hrm hwd n s hd g k hk
  have wb := wid_le n s hd g
  have hp := two_pos (10 * n)
  have e2 : (2 ^ w : Int) = ((2 ^ w : Nat) : Int) := by simp
  have a256 : (2 ^ w : Int) ≤ 256 := by
    have := Nat.pow_le_pow_right (show 0 < 2 by omega) hw
    omega
  have b := two_pos w
  obtain ⟨X, eX, X1, X2, X3⟩ : ∃ X : Int, (if wid s > 1 then wid s else 1) = X ∧ 1 ≤ X ∧ wid s ≤ X ∧ X ≤ 2 ^ (10 * n) := by
    refine ⟨_, rfl, ?_, ?_, ?_⟩ <;> (split <;> omega)
  have dX := divOk_wid hn X1 X3
  refine fnD_RT (.sq (if_n (by simp only [fnD, gNx, gSeq, gSet, gSetO, ownAt, gApp, gRev, gPut, frz, gFrz, gRet, gExpr, gIf, gExc, asL, eVar, eC, eOp, eUn, toB, tB, tAndB, tOrB, tNotB, eAnd, eOr, eNot, eChain, aNil, aCons, eTup, oLst, eO, eCall, oUn, oSl, rNone, rSome, toI, dCut, eLenO, eIxO, sBind_ok, sBind_exc, sBind_stk, Res.bind_ok, Res.bind_exc, Res.bind_stk, SRes.thn_nx, SRes.thn_rt, SRes.thn_exc, SRes.thn_stk, List.map_cons, List.map_nil, List.cons_append, List.nil_append, List.length_cons, List.length_nil, List.replicate_succ, List.replicate_zero, List.getElem?_cons_zero, List.getElem?_cons_succ, List.set_cons_zero, List.set_cons_succ, Nat.zero_add, Nat.reduceAdd, Nat.reduceSub, dAdd, dSub, dMul, dDiv, dMod, dNeg, dCmp, dLt, dLe, dGt, dGe, dEq, dNe, dEq?, dIsN, dNotN, dIsi, isTy, dLen, dIx_lst, dIx_tup, dIx_scr, dList, dRev, dInt, dMax2, dMin2, decide_eq_true_eq, if_true, if_false, Bool.not_true, Bool.not_false, Bool.false_eq_true, reduceIte, Int.reduceLT, Int.reduceLE, Int.reduceEq, Int.reduceNeg, String.reduceEq, decide_true, decide_false, ci0, ci1, ci2, ci3, ci4, ci5, dAt_0, dAt_1, dAt_2, dAt_3, dv2, dv3, dv4, dv5, dv7, dv12, dv60, dv64, fz0, fz1, fz2, fz3, fz4, fz5, fz11, mulOk2, mulOk7, Int.reduceSub, Int.reduceAdd, dCut, repOk13, repOk54, Int.reduceToNat, List.flatten_cons, List.flatten_nil, List.append_nil])) (.sq (by simp only [fnD, gNx, gSeq, gSet, gSetO, ownAt, gApp, gRev, gPut, frz, gFrz, gRet, gExpr, gIf, gExc, asL, eVar, eC, eOp, eUn, toB, tB, tAndB, tOrB, tNotB, eAnd, eOr, eNot, eChain, aNil, aCons, eTup, oLst, eO, eCall, oUn, oSl, rNone, rSome, toI, dCut, eLenO, eIxO, sBind_ok, sBind_exc, sBind_stk, Res.bind_ok, Res.bind_exc, Res.bind_stk, SRes.thn_nx, SRes.thn_rt, SRes.thn_exc, SRes.thn_stk, List.map_cons, List.map_nil, List.cons_append, List.nil_append, List.length_cons, List.length_nil, List.replicate_succ, List.replicate_zero, List.getElem?_cons_zero, List.getElem?_cons_succ, List.set_cons_zero, List.set_cons_succ, Nat.zero_add, Nat.reduceAdd, Nat.reduceSub, dAdd, dSub, dMul, dDiv, dMod, dNeg, dCmp, dLt, dLe, dGt, dGe, dEq, dNe, dEq?, dIsN, dNotN, dIsi, isTy, dLen, dIx_lst, dIx_tup, dIx_scr, dList, dRev, dInt, dMax2, dMin2, decide_eq_true_eq, if_true, if_false, Bool.not_true, Bool.not_false, Bool.false_eq_true, reduceIte, Int.reduceLT, Int.reduceLE, Int.reduceEq, Int.reduceNeg, String.reduceEq, decide_true, decide_false, ci0, ci1, ci2, ci3, ci4, ci5, dAt_0, dAt_1, dAt_2, dAt_3, dv2, dv3, dv4, dv5, dv7, dv12, dv60, dv64, fz0, fz1, fz2, fz3, fz4, fz5, fz11, mulOk2, mulOk7, Int.reduceSub, Int.reduceAdd, dCut, repOk13, repOk54, Int.reduceToNat, List.flatten_cons, List.flatten_nil, List.append_nil, hrm, hr] <;> rfl) (.sq (by simp only [fnD, gNx, gSeq, gSet, gSetO, ownAt, gApp, gRev, gPut, frz, gFrz, gRet, gExpr, gIf, gExc, asL, eVar, eC, eOp, eUn, toB, tB, tAndB, tOrB, tNotB, eAnd, eOr, eNot, eChain, aNil, aCons, eTup, oLst, eO, eCall, oUn, oSl, rNone, rSome, toI, dCut, eLenO, eIxO, sBind_ok, sBind_exc, sBind_stk, Res.bind_ok, Res.bind_exc, Res.bind_stk, SRes.thn_nx, SRes.thn_rt, SRes.thn_exc, SRes.thn_stk, List.map_cons, List.map_nil, List.cons_append, List.nil_append, List.length_cons, List.length_nil, List.replicate_succ, List.replicate_zero, List.getElem?_cons_zero, List.getElem?_cons_succ, List.set_cons_zero, List.set_cons_succ, Nat.zero_add, Nat.reduceAdd, Nat.reduceSub, dAdd, dSub, dMul, dDiv, dMod, dNeg, dCmp, dLt, dLe, dGt, dGe, dEq, dNe, dEq?, dIsN, dNotN, dIsi, isTy, dLen, dIx_lst, dIx_tup, dIx_scr, dList, dRev, dInt, dMax2, dMin2, decide_eq_true_eq, if_true, if_false, Bool.not_true, Bool.not_false, Bool.false_eq_true, reduceIte, Int.reduceLT, Int.reduceLE, Int.reduceEq, Int.reduceNeg, String.reduceEq, decide_true, decide_false, ci0, ci1, ci2, ci3, ci4, ci5, dAt_0, dAt_1, dAt_2, dAt_3, dv2, dv3, dv4, dv5, dv7, dv12, dv60, dv64, fz0, fz1, fz2, fz3, fz4, fz5, fz11, mulOk2, mulOk7, Int.reduceSub, Int.reduceAdd, dCut, repOk13, repOk54, Int.reduceToNat, List.flatten_cons, List.flatten_nil, List.append_nil, hwide, eX] <;> rfl) ?_)))
  have mo : mulOk X (2 ^ w - 1) = true := mulOk_r (by omega)
  -- the bound on the count
  obtain ⟨M, hM, M0, M1, M2⟩ : ∃ M : Int, gIf (tB (eOp dGt (eOp dMul (eVar 3) (eVar 2)) (eC (.int 300)))) (gSet 2 (eOp dMin2 (eVar 2) (eOp dMax2 (eC (.int 2)) (eOp dDiv (eOp dIx (eO (oLst (aCons (eC (.int 200)) (aCons (eC (.int 520)) aNil)))) (eUn dInt (eOp dEq (eOp dMod (eVar 1) (eC (.int 64))) (eC (.int 47))))) (eVar 3))))) gNx
      [.v (.tup [.str "rows", .int w, enc s]), .v (.int a), .v (.int (2 ^ w - 1)), .v (.int X)] = .nx [.v (.tup [.str "rows", .int w, enc s]), .v (.int a), .v (.int M), .v (.int X)] ∧ 0 ≤ M ∧ M ≤ 2 ^ w - 1 ∧ (M ≤ 2 ∨ M * X ≤ 520) := by
    by_cases z : (300 : Int) < X * (2 ^ w - 1)
    · obtain ⟨V, eV, V1, V2⟩ : ∃ V : Int, dAt [.int 200, .int 520] (if a % 64 = 47 then 1 else 0) = .ok (.int V) ∧ 0 ≤ V ∧ V ≤ 520 := by
        by_cases y : a % 64 = 47
        · rw [if_pos y]; exact ⟨520, rfl, by omega, by omega⟩
        · rw [if_neg y]; exact ⟨200, rfl, by omega, by omega⟩
      have q0 : 0 ≤ V / X := Int.ediv_nonneg V1 (by omega)
      have q1 : V / X * X ≤ V := Int.ediv_mul_le V (by omega)
      refine ⟨if (if V / X > 2 then V / X else 2) < 2 ^ w - 1 then (if V / X > 2 then V / X else 2) else 2 ^ w - 1, ?_, ?_, ?_, ?_⟩
      · rw [if_t (by simp only [fnD, gNx, gSeq, gSet, gSetO, ownAt, gApp, gRev, gPut, frz, gFrz, gRet, gExpr, gIf, gExc, asL, eVar, eC, eOp, eUn, toB, tB, tAndB, tOrB, tNotB, eAnd, eOr, eNot, eChain, aNil, aCons, eTup, oLst, eO, eCall, oUn, oSl, rNone, rSome, toI, dCut, eLenO, eIxO, sBind_ok, sBind_exc, sBind_stk, Res.bind_ok, Res.bind_exc, Res.bind_stk, SRes.thn_nx, SRes.thn_rt, SRes.thn_exc, SRes.thn_stk, List.map_cons, List.map_nil, List.cons_append, List.nil_append, List.length_cons, List.length_nil, List.replicate_succ, List.replicate_zero, List.getElem?_cons_zero, List.getElem?_cons_succ, List.set_cons_zero, List.set_cons_succ, Nat.zero_add, Nat.reduceAdd, Nat.reduceSub, dAdd, dSub, dMul, dDiv, dMod, dNeg, dCmp, dLt, dLe, dGt, dGe, dEq, dNe, dEq?, dIsN, dNotN, dIsi, isTy, dLen, dIx_lst, dIx_tup, dIx_scr, dList, dRev, dInt, dMax2, dMin2, decide_eq_true_eq, if_true, if_false, Bool.not_true, Bool.not_false, Bool.false_eq_true, reduceIte, Int.reduceLT, Int.reduceLE, Int.reduceEq, Int.reduceNeg, String.reduceEq, decide_true, decide_false, ci0, ci1, ci2, ci3, ci4, ci5, dAt_0, dAt_1, dAt_2, dAt_3, dv2, dv3, dv4, dv5, dv7, dv12, dv60, dv64, fz0, fz1, fz2, fz3, fz4, fz5, fz11, mulOk2, mulOk7, Int.reduceSub, Int.reduceAdd, dCut, repOk13, repOk54, Int.reduceToNat, List.flatten_cons, List.flatten_nil, List.append_nil, mo, z, decide_true])]
        simp only [fnD, gNx, gSeq, gSet, gSetO, ownAt, gApp, gRev, gPut, frz, gFrz, gRet, gExpr, gIf, gExc, asL, eVar, eC, eOp, eUn, toB, tB, tAndB, tOrB, tNotB, eAnd, eOr, eNot, eChain, aNil, aCons, eTup, oLst, eO, eCall, oUn, oSl, rNone, rSome, toI, dCut, eLenO, eIxO, sBind_ok, sBind_exc, sBind_stk, Res.bind_ok, Res.bind_exc, Res.bind_stk, SRes.thn_nx, SRes.thn_rt, SRes.thn_exc, SRes.thn_stk, List.map_cons, List.map_nil, List.cons_append, List.nil_append, List.length_cons, List.length_nil, List.replicate_succ, List.replicate_zero, List.getElem?_cons_zero, List.getElem?_cons_succ, List.set_cons_zero, List.set_cons_succ, Nat.zero_add, Nat.reduceAdd, Nat.reduceSub, dAdd, dSub, dMul, dDiv, dMod, dNeg, dCmp, dLt, dLe, dGt, dGe, dEq, dNe, dEq?, dIsN, dNotN, dIsi, isTy, dLen, dIx_lst, dIx_tup, dIx_scr, dList, dRev, dInt, dMax2, dMin2, decide_eq_true_eq, if_true, if_false, Bool.not_true, Bool.not_false, Bool.false_eq_true, reduceIte, Int.reduceLT, Int.reduceLE, Int.reduceEq, Int.reduceNeg, String.reduceEq, decide_true, decide_false, ci0, ci1, ci2, ci3, ci4, ci5, dAt_0, dAt_1, dAt_2, dAt_3, dv2, dv3, dv4, dv5, dv7, dv12, dv60, dv64, fz0, fz1, fz2, fz3, fz4, fz5, fz11, mulOk2, mulOk7, Int.reduceSub, Int.reduceAdd, dCut, repOk13, repOk54, Int.reduceToNat, List.flatten_cons, List.flatten_nil, List.append_nil, eV, dX]
      · split <;> (try split) <;> omega
      · split <;> (try split) <;> omega
      · by_cases y : V / X > 2
        · rw [if_pos y]
          right
          split
          · omega
          · have : (2 ^ w - 1) * X ≤ V / X * X := Int.mul_le_mul_of_nonneg_right (by omega) (by omega)
            omega
        · rw [if_neg y]; left; split <;> omega
    · exact ⟨2 ^ w - 1, if_n (by simp only [fnD, gNx, gSeq, gSet, gSetO, ownAt, gApp, gRev, gPut, frz, gFrz, gRet, gExpr, gIf, gExc, asL, eVar, eC, eOp, eUn, toB, tB, tAndB, tOrB, tNotB, eAnd, eOr, eNot, eChain, aNil, aCons, eTup, oLst, eO, eCall, oUn, oSl, rNone, rSome, toI, dCut, eLenO, eIxO, sBind_ok, sBind_exc, sBind_stk, Res.bind_ok, Res.bind_exc, Res.bind_stk, SRes.thn_nx, SRes.thn_rt, SRes.thn_exc, SRes.thn_stk, List.map_cons, List.map_nil, List.cons_append, List.nil_append, List.length_cons, List.length_nil, List.replicate_succ, List.replicate_zero, List.getElem?_cons_zero, List.getElem?_cons_succ, List.set_cons_zero, List.set_cons_succ, Nat.zero_add, Nat.reduceAdd, Nat.reduceSub, dAdd, dSub, dMul, dDiv, dMod, dNeg, dCmp, dLt, dLe, dGt, dGe, dEq, dNe, dEq?, dIsN, dNotN, dIsi, isTy, dLen, dIx_lst, dIx_tup, dIx_scr, dList, dRev, dInt, dMax2, dMin2, decide_eq_true_eq, if_true, if_false, Bool.not_true, Bool.not_false, Bool.false_eq_true, reduceIte, Int.reduceLT, Int.reduceLE, Int.reduceEq, Int.reduceNeg, String.reduceEq, decide_true, decide_false, ci0, ci1, ci2, ci3, ci4, ci5, dAt_0, dAt_1, dAt_2, dAt_3, dv2, dv3, dv4, dv5, dv7, dv12, dv60, dv64, fz0, fz1, fz2, fz3, fz4, fz5, fz11, mulOk2, mulOk7, Int.reduceSub, Int.reduceAdd, dCut, repOk13, repOk54, Int.reduceToNat, List.flatten_cons, List.flatten_nil, List.append_nil, mo, z, decide_false]), by omega, by omega, .inr (by rw [Int.mul_comm]; omega)⟩
  have ok : ∀ c : Nat, (c : Int) ≤ M → CntOk (.rows w s) c := fun c hc => by
    unfold CntOk
    refine ⟨by omega, ?_⟩
    rcases M2 with h | h
    · left; omega
    · right
      have h1 : (c : Int) * wid s ≤ c * X := Int.mul_le_mul_of_nonneg_left X2 (by omega)
      have h2 : (c : Int) * X ≤ M * X := Int.mul_le_mul_of_nonneg_right hc (by omega)
      omega
  refine .sq hM ?_
  by_cases y : a % 4 = 3
  · have pos : (0 : Int) < M + 1 := by omega
    have m0 := Int.emod_nonneg (a / 4) (show M + 1 ≠ 0 by omega)
    have m1 := Int.emod_lt_of_pos (a / 4) pos
    obtain ⟨c, ec⟩ : ∃ c : Nat, a / 4 % (M + 1) = (c : Int) := ⟨(a / 4 % (M + 1)).toNat, by omega⟩
    exact .sr (.ift (by simp only [fnD, gNx, gSeq, gSet, gSetO, ownAt, gApp, gRev, gPut, frz, gFrz, gRet, gExpr, gIf, gExc, asL, eVar, eC, eOp, eUn, toB, tB, tAndB, tOrB, tNotB, eAnd, eOr, eNot, eChain, aNil, aCons, eTup, oLst, eO, eCall, oUn, oSl, rNone, rSome, toI, dCut, eLenO, eIxO, sBind_ok, sBind_exc, sBind_stk, Res.bind_ok, Res.bind_exc, Res.bind_stk, SRes.thn_nx, SRes.thn_rt, SRes.thn_exc, SRes.thn_stk, List.map_cons, List.map_nil, List.cons_append, List.nil_append, List.length_cons, List.length_nil, List.replicate_succ, List.replicate_zero, List.getElem?_cons_zero, List.getElem?_cons_succ, List.set_cons_zero, List.set_cons_succ, Nat.zero_add, Nat.reduceAdd, Nat.reduceSub, dAdd, dSub, dMul, dDiv, dMod, dNeg, dCmp, dLt, dLe, dGt, dGe, dEq, dNe, dEq?, dIsN, dNotN, dIsi, isTy, dLen, dIx_lst, dIx_tup, dIx_scr, dList, dRev, dInt, dMax2, dMin2, decide_eq_true_eq, if_true, if_false, Bool.not_true, Bool.not_false, Bool.false_eq_true, reduceIte, Int.reduceLT, Int.reduceLE, Int.reduceEq, Int.reduceNeg, String.reduceEq, decide_true, decide_false, ci0, ci1, ci2, ci3, ci4, ci5, dAt_0, dAt_1, dAt_2, dAt_3, dv2, dv3, dv4, dv5, dv7, dv12, dv60, dv64, fz0, fz1, fz2, fz3, fz4, fz5, fz11, mulOk2, mulOk7, Int.reduceSub, Int.reduceAdd, dCut, repOk13, repOk54, Int.reduceToNat, List.flatten_cons, List.flatten_nil, List.append_nil, y, decide_true]) (.ret (by simp only [fnD, gNx, gSeq, gSet, gSetO, ownAt, gApp, gRev, gPut, frz, gFrz, gRet, gExpr, gIf, gExc, asL, eVar, eC, eOp, eUn, toB, tB, tAndB, tOrB, tNotB, eAnd, eOr, eNot, eChain, aNil, aCons, eTup, oLst, eO, eCall, oUn, oSl, rNone, rSome, toI, dCut, eLenO, eIxO, sBind_ok, sBind_exc, sBind_stk, Res.bind_ok, Res.bind_exc, Res.bind_stk, SRes.thn_nx, SRes.thn_rt, SRes.thn_exc, SRes.thn_stk, List.map_cons, List.map_nil, List.cons_append, List.nil_append, List.length_cons, List.length_nil, List.replicate_succ, List.replicate_zero, List.getElem?_cons_zero, List.getElem?_cons_succ, List.set_cons_zero, List.set_cons_succ, Nat.zero_add, Nat.reduceAdd, Nat.reduceSub, dAdd, dSub, dMul, dDiv, dMod, dNeg, dCmp, dLt, dLe, dGt, dGe, dEq, dNe, dEq?, dIsN, dNotN, dIsi, isTy, dLen, dIx_lst, dIx_tup, dIx_scr, dList, dRev, dInt, dMax2, dMin2, decide_eq_true_eq, if_true, if_false, Bool.not_true, Bool.not_false, Bool.false_eq_true, reduceIte, Int.reduceLT, Int.reduceLE, Int.reduceEq, Int.reduceNeg, String.reduceEq, decide_true, decide_false, ci0, ci1, ci2, ci3, ci4, ci5, dAt_0, dAt_1, dAt_2, dAt_3, dv2, dv3, dv4, dv5, dv7, dv12, dv60, dv64, fz0, fz1, fz2, fz3, fz4, fz5, fz11, mulOk2, mulOk7, Int.reduceSub, Int.reduceAdd, dCut, repOk13, repOk54, Int.reduceToNat, List.flatten_cons, List.flatten_nil, List.append_nil, pos, ec] <;> rfl) ⟨c, rfl, ok c (by omega)⟩))
  · obtain ⟨c, ec, hc⟩ : ∃ c : Nat, (if M < a % 4 then M else a % 4) = (c : Int) ∧ (c : Int) ≤ M := ⟨(if M < a % 4 then M else a % 4).toNat, by split <;> omega, by split <;> omega⟩
    exact .sq (if_n (by simp only [fnD, gNx, gSeq, gSet, gSetO, ownAt, gApp, gRev, gPut, frz, gFrz, gRet, gExpr, gIf, gExc, asL, eVar, eC, eOp, eUn, toB, tB, tAndB, tOrB, tNotB, eAnd, eOr, eNot, eChain, aNil, aCons, eTup, oLst, eO, eCall, oUn, oSl, rNone, rSome, toI, dCut, eLenO, eIxO, sBind_ok, sBind_exc, sBind_stk, Res.bind_ok, Res.bind_exc, Res.bind_stk, SRes.thn_nx, SRes.thn_rt, SRes.thn_exc, SRes.thn_stk, List.map_cons, List.map_nil, List.cons_append, List.nil_append, List.length_cons, List.length_nil, List.replicate_succ, List.replicate_zero, List.getElem?_cons_zero, List.getElem?_cons_succ, List.set_cons_zero, List.set_cons_succ, Nat.zero_add, Nat.reduceAdd, Nat.reduceSub, dAdd, dSub, dMul, dDiv, dMod, dNeg, dCmp, dLt, dLe, dGt, dGe, dEq, dNe, dEq?, dIsN, dNotN, dIsi, isTy, dLen, dIx_lst, dIx_tup, dIx_scr, dList, dRev, dInt, dMax2, dMin2, decide_eq_true_eq, if_true, if_false, Bool.not_true, Bool.not_false, Bool.false_eq_true, reduceIte, Int.reduceLT, Int.reduceLE, Int.reduceEq, Int.reduceNeg, String.reduceEq, decide_true, decide_false, ci0, ci1, ci2, ci3, ci4, ci5, dAt_0, dAt_1, dAt_2, dAt_3, dv2, dv3, dv4, dv5, dv7, dv12, dv60, dv64, fz0, fz1, fz2, fz3, fz4, fz5, fz11, mulOk2, mulOk7, Int.reduceSub, Int.reduceAdd, dCut, repOk13, repOk54, Int.reduceToNat, List.flatten_cons, List.flatten_nil, List.append_nil, y, decide_false])) (.ret (by simp only [fnD, gNx, gSeq, gSet, gSetO, ownAt, gApp, gRev, gPut, frz, gFrz, gRet, gExpr, gIf, gExc, asL, eVar, eC, eOp, eUn, toB, tB, tAndB, tOrB, tNotB, eAnd, eOr, eNot, eChain, aNil, aCons, eTup, oLst, eO, eCall, oUn, oSl, rNone, rSome, toI, dCut, eLenO, eIxO, sBind_ok, sBind_exc, sBind_stk, Res.bind_ok, Res.bind_exc, Res.bind_stk, SRes.thn_nx, SRes.thn_rt, SRes.thn_exc, SRes.thn_stk, List.map_cons, List.map_nil, List.cons_append, List.nil_append, List.length_cons, List.length_nil, List.replicate_succ, List.replicate_zero, List.getElem?_cons_zero, List.getElem?_cons_succ, List.set_cons_zero, List.set_cons_succ, Nat.zero_add, Nat.reduceAdd, Nat.reduceSub, dAdd, dSub, dMul, dDiv, dMod, dNeg, dCmp, dLt, dLe, dGt, dGe, dEq, dNe, dEq?, dIsN, dNotN, dIsi, isTy, dLen, dIx_lst, dIx_tup, dIx_scr, dList, dRev, dInt, dMax2, dMin2, decide_eq_true_eq, if_true, if_false, Bool.not_true, Bool.not_false, Bool.false_eq_true, reduceIte, Int.reduceLT, Int.reduceLE, Int.reduceEq, Int.reduceNeg, String.reduceEq, decide_true, decide_false, ci0, ci1, ci2, ci3, ci4, ci5, dAt_0, dAt_1, dAt_2, dAt_3, dv2, dv3, dv4, dv5, dv7, dv12, dv60, dv64, fz0, fz1, fz2, fz3, fz4, fz5, fz11, mulOk2, mulOk7, Int.reduceSub, Int.reduceAdd, dCut, repOk13, repOk54, Int.reduceToNat, List.flatten_cons, List.flatten_nil, List.append_nil, ec] <;> rfl) ⟨c, rfl, ok c hc⟩)
end
theorem FitsAt.mk {r : D} : ∀ {ss : List Sh} {p : Nat} {s : Sh}, ss[p]? = some s → Fits s r → FitsAt ss p r
  | [], p, s, h, _ => by simp at h
  | t :: ss, 0, s, h, f => by
    simp only [List.getElem?_cons_zero, Option.some.injEq] at h
    subst h
    unfold FitsAt; exact f
  | t :: ss, p + 1, s, h, f => by
    unfold FitsAt
    exact FitsAt.mk (by simpa using h) f
theorem bb_mem {s : Sh} : ∀ {ss : List Sh}, s ∈ ss → bb s ≤ bbs ss
  | [], h => by cases h
  | t :: ss, h => by
    unfold bbs
    rcases List.mem_cons.mp h with rfl | h
    · omega
    · have := bb_mem h
      omega
def Gen (s : Sh) (r : D) : Prop := Fits s r ∧ (bitsS s r).length ≤ bb s
def GenL : List Sh → List D → Prop
  | [], rs => rs = []
  | s :: ss, rs => ∃ r t, rs = r :: t ∧ Gen s r ∧ GenL ss t
theorem GenL.snoc {s : Sh} {r : D} : ∀ {ss : List Sh} {rs : List D}, GenL ss rs → Gen s r → GenL (ss ++ [s]) (rs ++ [r])
  | [], rs, h, g => by
    unfold GenL at h; subst h
    show GenL [s] [r]
    unfold GenL
    exact ⟨r, [], rfl, g, by unfold GenL; rfl⟩
  | s' :: ss, rs, h, g => by
    unfold GenL at h
    obtain ⟨r', t, rfl, h1, h2⟩ := h
    show GenL (s' :: (ss ++ [s])) (r' :: (t ++ [r]))
    unfold GenL
    exact ⟨r', _, rfl, h1, h2.snoc g⟩
theorem GenL.len : ∀ {ss : List Sh} {rs : List D}, GenL ss rs → rs.length = ss.length
  | [], rs, h => by unfold GenL at h; subst h; rfl
  | s :: ss, rs, h => by
    unfold GenL at h
    obtain ⟨r, t, rfl, _, h⟩ := h
    rw [List.length_cons, List.length_cons, h.len]
theorem GenL.fits : ∀ {ss : List Sh} {rs : List D}, GenL ss rs → FitsL ss rs ∧ (bitsL ss rs).length ≤ bbs ss
  | [], rs, h => by unfold GenL at h; subst h; unfold FitsL bitsL bbs; exact ⟨rfl, by simp⟩
  | s :: ss, rs, h => by
    unfold GenL at h
    obtain ⟨r, t, rfl, g, h⟩ := h
    obtain ⟨a, b⟩ := h.fits
    unfold FitsL bitsL bbs
    refine ⟨⟨r, t, rfl, g.1, a⟩, ?_⟩
    rw [List.length_append]
    have := g.2
    omega
theorem GenL.rep {s : Sh} : ∀ {n : Nat} {rs : List D}, GenL (List.replicate n s) rs → rs.length = n ∧ ∀ r ∈ rs, Gen s r
  | 0, rs, h => by
    rw [List.replicate_zero] at h
    unfold GenL at h; subst h
    exact ⟨rfl, fun r hr => by cases hr⟩
  | n + 1, rs, h => by
    rw [List.replicate_succ] at h
    unfold GenL at h
    obtain ⟨r, t, rfl, g, h⟩ := h
    obtain ⟨a, b⟩ := h.rep
    refine ⟨by rw [List.length_cons, a], fun x hx => ?_⟩
    rcases List.mem_cons.mp hx with rfl | hx
    · exact g
    · exact b x hx
theorem encs_rep (s : Sh) (n : Nat) : encs (List.replicate n s) = List.replicate n (enc s) := by rw [encs_map, List.map_replicate]
section
variable {nu rc mn wd rm : Nat → List D → Res D} (hnu : ∀ k, nu (k + 1) = S_law_number) (hrm : ∀ k, rm (k + 1) = S_law_room) (hwd : ∀ k, wd (k + 1) = S_law_wide (wd k) (rm k)) (hmn : ∀ k, mn (k + 1) = S_law_many (rm k) (wd k))
  (hrc : ∀ k, rc (k + 1) = S_law_record (nu k) (rc k) (mn k)) {ns : List Int} (hns : ns.length ≤ 63)
include hnu hrm hwd hmn hrc hns in
theorem record_eq : ∀ (n : Nat) (s : Sh), dpt s ≤ n → n ≤ 800 → Good s → ∀ k, n + 2 ≤ k → ∀ j : Int, ∃ d, rc (k + 1) [enc s, .scr ns, .int j] = .ok d ∧ ∃ r j', d = .tup [r, .int j'] ∧ Gen s r
  | 0, s, h, _, _, _, _, _ => by have := dpt_pos s; omega
  | n + 1, s, h, hn, g, k, hk, j => by
    obtain ⟨k, rfl⟩ : ∃ i, k = i + 3 := ⟨k - 3, by omega⟩
    obtain ⟨_, e0, N, rfl⟩ := number_eq hns j
    rw [hrc]
    -- the loop over parts
    have L : ∀ (e : D) (K : String) (x y : Slt) (ps : List Sh) (j : Int), ps.length ≤ 300 → (∀ s ∈ ps, dpt s ≤ n ∧ Good s) → RT (gSeq (gSetO 9 (oLst aNil))
        (gSeq (gFor 10 (eVar 8) (gSeq (gSet 7 (eCall (rc (k + 3)) (aCons (eVar 10) (aCons (eVar 1) (aCons (eVar 2) aNil))))) (gSeq (gApp 9 (eOp dIx (eVar 7) (eC (.int 0)))) (gSet 2 (eOp dIx (eVar 7) (eC (.int 1)))))))
        (gFrz 9 (gRet (eTup (aCons (eVar 9) (aCons (eVar 2) aNil)))))) [.v e, .v (.scr ns), .v (.int j), .v (.int N), .v (.str K), x, y, .un, .v (.lst (encs ps)), .un, .un])
        (fun d => ∃ rs j', d = .tup [.lst rs, .int j'] ∧ GenL ps rs) := by
      intro e K x y ps j hps hq
      refine .sq (by simp only [fnD, gNx, gSeq, gSet, gSetO, ownAt, gApp, gRev, gPut, frz, gFrz, gRet, gExpr, gIf, gExc, asL, eVar, eC, eOp, eUn, toB, tB, tAndB, tOrB, tNotB, eAnd, eOr, eNot, eChain, aNil, aCons, eTup, oLst, eO, eCall, oUn, oSl, rNone, rSome, toI, dCut, eLenO, eIxO, sBind_ok, sBind_exc, sBind_stk, Res.bind_ok, Res.bind_exc, Res.bind_stk, SRes.thn_nx, SRes.thn_rt, SRes.thn_exc, SRes.thn_stk, List.map_cons, List.map_nil, List.cons_append, List.nil_append, List.length_cons, List.length_nil, List.replicate_succ, List.replicate_zero, List.getElem?_cons_zero, List.getElem?_cons_succ, List.set_cons_zero, List.set_cons_succ, Nat.zero_add, Nat.reduceAdd, Nat.reduceSub, dAdd, dSub, dMul, dDiv, dMod, dNeg, dCmp, dLt, dLe, dGt, dGe, dEq, dNe, dEq?, dIsN, dNotN, dIsi, isTy, dLen, dIx_lst, dIx_tup, dIx_scr, dList, dRev, dInt, dMax2, dMin2, decide_eq_true_eq, if_true, if_false, Bool.not_true, Bool.not_false, Bool.false_eq_true, reduceIte, Int.reduceLT, Int.reduceLE, Int.reduceEq, Int.reduceNeg, String.reduceEq, decide_true, decide_false, ci0, ci1, ci2, ci3, ci4, ci5, dAt_0, dAt_1, dAt_2, dAt_3, dv2, dv3, dv4, dv5, dv7, dv12, dv60, dv64, fz0, fz1, fz2, fz3, fz4, fz5, fz11, mulOk2, mulOk7, Int.reduceSub, Int.reduceAdd, dCut, repOk13, repOk54, Int.reduceToNat, List.flatten_cons, List.flatten_nil, List.append_nil] <;> rfl) (.sx (for_inv (fun t ρ => ∃ done qs rs j a b, t = encs qs ∧ ps = done ++ qs ∧ GenL done rs ∧ ρ = [.v e, .v (.scr ns), .v (.int j), .v (.int N), .v (.str K), x, y, a, .v (.lst (encs ps)), .o rs, b]) (by simp only [fnD, gNx, gSeq, gSet, gSetO, ownAt, gApp, gRev, gPut, frz, gFrz, gRet, gExpr, gIf, gExc, asL, eVar, eC, eOp, eUn, toB, tB, tAndB, tOrB, tNotB, eAnd, eOr, eNot, eChain, aNil, aCons, eTup, oLst, eO, eCall, oUn, oSl, rNone, rSome, toI, dCut, eLenO, eIxO, sBind_ok, sBind_exc, sBind_stk, Res.bind_ok, Res.bind_exc, Res.bind_stk, SRes.thn_nx, SRes.thn_rt, SRes.thn_exc, SRes.thn_stk, List.map_cons, List.map_nil, List.cons_append, List.nil_append, List.length_cons, List.length_nil, List.replicate_succ, List.replicate_zero, List.getElem?_cons_zero, List.getElem?_cons_succ, List.set_cons_zero, List.set_cons_succ, Nat.zero_add, Nat.reduceAdd, Nat.reduceSub, dAdd, dSub, dMul, dDiv, dMod, dNeg, dCmp, dLt, dLe, dGt, dGe, dEq, dNe, dEq?, dIsN, dNotN, dIsi, isTy, dLen, dIx_lst, dIx_tup, dIx_scr, dList, dRev, dInt, dMax2, dMin2, decide_eq_true_eq, if_true, if_false, Bool.not_true, Bool.not_false, Bool.false_eq_true, reduceIte, Int.reduceLT, Int.reduceLE, Int.reduceEq, Int.reduceNeg, String.reduceEq, decide_true, decide_false, ci0, ci1, ci2, ci3, ci4, ci5, dAt_0, dAt_1, dAt_2, dAt_3, dv2, dv3, dv4, dv5, dv7, dv12, dv60, dv64, fz0, fz1, fz2, fz3, fz4, fz5, fz11, mulOk2, mulOk7, Int.reduceSub, Int.reduceAdd, dCut, repOk13, repOk54, Int.reduceToNat, List.flatten_cons, List.flatten_nil, List.append_nil] <;> rfl)
        ⟨[], ps, [], j, _, _, rfl, rfl, by unfold GenL; rfl, rfl⟩ ?_) ?_)
      · rintro d t ρ ⟨done, qs, rs, j, a, b, et, eps, gl, rfl⟩
        cases qs with
        | nil => unfold encs at et; cases et
        | cons q qs =>
          unfold encs at et
          injection et with e1 e2
          subst e1 e2
          have hm : q ∈ ps := by rw [eps]; exact List.mem_append_right _ List.mem_cons_self
          obtain ⟨_, er, r, j', rfl, gr⟩ := record_eq n q (hq q hm).1 (by omega) (hq q hm).2 (k + 2) (by omega) j
          have fl : fits (rs.length + 1) = true := fits_le (by have := gl.len; rw [eps] at hps; rw [List.length_append] at hps; omega)
          refine ⟨_, by simp only [fnD, gNx, gSeq, gSet, gSetO, ownAt, gApp, gRev, gPut, frz, gFrz, gRet, gExpr, gIf, gExc, asL, eVar, eC, eOp, eUn, toB, tB, tAndB, tOrB, tNotB, eAnd, eOr, eNot, eChain, aNil, aCons, eTup, oLst, eO, eCall, oUn, oSl, rNone, rSome, toI, dCut, eLenO, eIxO, sBind_ok, sBind_exc, sBind_stk, Res.bind_ok, Res.bind_exc, Res.bind_stk, SRes.thn_nx, SRes.thn_rt, SRes.thn_exc, SRes.thn_stk, List.map_cons, List.map_nil, List.cons_append, List.nil_append, List.length_cons, List.length_nil, List.replicate_succ, List.replicate_zero, List.getElem?_cons_zero, List.getElem?_cons_succ, List.set_cons_zero, List.set_cons_succ, Nat.zero_add, Nat.reduceAdd, Nat.reduceSub, dAdd, dSub, dMul, dDiv, dMod, dNeg, dCmp, dLt, dLe, dGt, dGe, dEq, dNe, dEq?, dIsN, dNotN, dIsi, isTy, dLen, dIx_lst, dIx_tup, dIx_scr, dList, dRev, dInt, dMax2, dMin2, decide_eq_true_eq, if_true, if_false, Bool.not_true, Bool.not_false, Bool.false_eq_true, reduceIte, Int.reduceLT, Int.reduceLE, Int.reduceEq, Int.reduceNeg, String.reduceEq, decide_true, decide_false, ci0, ci1, ci2, ci3, ci4, ci5, dAt_0, dAt_1, dAt_2, dAt_3, dv2, dv3, dv4, dv5, dv7, dv12, dv60, dv64, fz0, fz1, fz2, fz3, fz4, fz5, fz11, mulOk2, mulOk7, Int.reduceSub, Int.reduceAdd, dCut, repOk13, repOk54, Int.reduceToNat, List.flatten_cons, List.flatten_nil, List.append_nil, er, fl] <;> rfl, done ++ [q], qs, rs ++ [r], j', _, _, rfl, by rw [List.append_assoc]; exact eps, gl.snoc gr, rfl⟩
      · rintro ρ' ⟨done, qs, rs, j, a, b, et, eps, gl, rfl⟩
        cases qs with
        | cons q qs => unfold encs at et; cases et
        | nil =>
          rw [List.append_nil] at eps
          subst eps
          exact .ret (by simp only [fnD, gNx, gSeq, gSet, gSetO, ownAt, gApp, gRev, gPut, frz, gFrz, gRet, gExpr, gIf, gExc, asL, eVar, eC, eOp, eUn, toB, tB, tAndB, tOrB, tNotB, eAnd, eOr, eNot, eChain, aNil, aCons, eTup, oLst, eO, eCall, oUn, oSl, rNone, rSome, toI, dCut, eLenO, eIxO, sBind_ok, sBind_exc, sBind_stk, Res.bind_ok, Res.bind_exc, Res.bind_stk, SRes.thn_nx, SRes.thn_rt, SRes.thn_exc, SRes.thn_stk, List.map_cons, List.map_nil, List.cons_append, List.nil_append, List.length_cons, List.length_nil, List.replicate_succ, List.replicate_zero, List.getElem?_cons_zero, List.getElem?_cons_succ, List.set_cons_zero, List.set_cons_succ, Nat.zero_add, Nat.reduceAdd, Nat.reduceSub, dAdd, dSub, dMul, dDiv, dMod, dNeg, dCmp, dLt, dLe, dGt, dGe, dEq, dNe, dEq?, dIsN, dNotN, dIsi, isTy, dLen, dIx_lst, dIx_tup, dIx_scr, dList, dRev, dInt, dMax2, dMin2, decide_eq_true_eq, if_true, if_false, Bool.not_true, Bool.not_false, Bool.false_eq_true, reduceIte, Int.reduceLT, Int.reduceLE, Int.reduceEq, Int.reduceNeg, String.reduceEq, decide_true, decide_false, ci0, ci1, ci2, ci3, ci4, ci5, dAt_0, dAt_1, dAt_2, dAt_3, dv2, dv3, dv4, dv5, dv7, dv12, dv60, dv64, fz0, fz1, fz2, fz3, fz4, fz5, fz11, mulOk2, mulOk7, Int.reduceSub, Int.reduceAdd, dCut, repOk13, repOk54, Int.reduceToNat, List.flatten_cons, List.flatten_nil, List.append_nil] <;> rfl) ⟨rs, j, rfl, gl⟩
    cases s with
    | num w lo hi =>
      unfold Good at g
      rw [enc]
      refine fnD_RT (.sq (by simp only [fnD, gNx, gSeq, gSet, gSetO, ownAt, gApp, gRev, gPut, frz, gFrz, gRet, gExpr, gIf, gExc, asL, eVar, eC, eOp, eUn, toB, tB, tAndB, tOrB, tNotB, eAnd, eOr, eNot, eChain, aNil, aCons, eTup, oLst, eO, eCall, oUn, oSl, rNone, rSome, toI, dCut, eLenO, eIxO, sBind_ok, sBind_exc, sBind_stk, Res.bind_ok, Res.bind_exc, Res.bind_stk, SRes.thn_nx, SRes.thn_rt, SRes.thn_exc, SRes.thn_stk, List.map_cons, List.map_nil, List.cons_append, List.nil_append, List.length_cons, List.length_nil, List.replicate_succ, List.replicate_zero, List.getElem?_cons_zero, List.getElem?_cons_succ, List.set_cons_zero, List.set_cons_succ, Nat.zero_add, Nat.reduceAdd, Nat.reduceSub, dAdd, dSub, dMul, dDiv, dMod, dNeg, dCmp, dLt, dLe, dGt, dGe, dEq, dNe, dEq?, dIsN, dNotN, dIsi, isTy, dLen, dIx_lst, dIx_tup, dIx_scr, dList, dRev, dInt, dMax2, dMin2, decide_eq_true_eq, if_true, if_false, Bool.not_true, Bool.not_false, Bool.false_eq_true, reduceIte, Int.reduceLT, Int.reduceLE, Int.reduceEq, Int.reduceNeg, String.reduceEq, decide_true, decide_false, ci0, ci1, ci2, ci3, ci4, ci5, dAt_0, dAt_1, dAt_2, dAt_3, dv2, dv3, dv4, dv5, dv7, dv12, dv60, dv64, fz0, fz1, fz2, fz3, fz4, fz5, fz11, mulOk2, mulOk7, Int.reduceSub, Int.reduceAdd, dCut, repOk13, repOk54, Int.reduceToNat, List.flatten_cons, List.flatten_nil, List.append_nil, hnu, e0] <;> rfl) (.sq (by simp only [fnD, gNx, gSeq, gSet, gSetO, ownAt, gApp, gRev, gPut, frz, gFrz, gRet, gExpr, gIf, gExc, asL, eVar, eC, eOp, eUn, toB, tB, tAndB, tOrB, tNotB, eAnd, eOr, eNot, eChain, aNil, aCons, eTup, oLst, eO, eCall, oUn, oSl, rNone, rSome, toI, dCut, eLenO, eIxO, sBind_ok, sBind_exc, sBind_stk, Res.bind_ok, Res.bind_exc, Res.bind_stk, SRes.thn_nx, SRes.thn_rt, SRes.thn_exc, SRes.thn_stk, List.map_cons, List.map_nil, List.cons_append, List.nil_append, List.length_cons, List.length_nil, List.replicate_succ, List.replicate_zero, List.getElem?_cons_zero, List.getElem?_cons_succ, List.set_cons_zero, List.set_cons_succ, Nat.zero_add, Nat.reduceAdd, Nat.reduceSub, dAdd, dSub, dMul, dDiv, dMod, dNeg, dCmp, dLt, dLe, dGt, dGe, dEq, dNe, dEq?, dIsN, dNotN, dIsi, isTy, dLen, dIx_lst, dIx_tup, dIx_scr, dList, dRev, dInt, dMax2, dMin2, decide_eq_true_eq, if_true, if_false, Bool.not_true, Bool.not_false, Bool.false_eq_true, reduceIte, Int.reduceLT, Int.reduceLE, Int.reduceEq, Int.reduceNeg, String.reduceEq, decide_true, decide_false, ci0, ci1, ci2, ci3, ci4, ci5, dAt_0, dAt_1, dAt_2, dAt_3, dv2, dv3, dv4, dv5, dv7, dv12, dv60, dv64, fz0, fz1, fz2, fz3, fz4, fz5, fz11, mulOk2, mulOk7, Int.reduceSub, Int.reduceAdd, dCut, repOk13, repOk54, Int.reduceToNat, List.flatten_cons, List.flatten_nil, List.append_nil] <;> rfl) (.sr (.ift (by simp only [fnD, gNx, gSeq, gSet, gSetO, ownAt, gApp, gRev, gPut, frz, gFrz, gRet, gExpr, gIf, gExc, asL, eVar, eC, eOp, eUn, toB, tB, tAndB, tOrB, tNotB, eAnd, eOr, eNot, eChain, aNil, aCons, eTup, oLst, eO, eCall, oUn, oSl, rNone, rSome, toI, dCut, eLenO, eIxO, sBind_ok, sBind_exc, sBind_stk, Res.bind_ok, Res.bind_exc, Res.bind_stk, SRes.thn_nx, SRes.thn_rt, SRes.thn_exc, SRes.thn_stk, List.map_cons, List.map_nil, List.cons_append, List.nil_append, List.length_cons, List.length_nil, List.replicate_succ, List.replicate_zero, List.getElem?_cons_zero, List.getElem?_cons_succ, List.set_cons_zero, List.set_cons_succ, Nat.zero_add, Nat.reduceAdd, Nat.reduceSub, dAdd, dSub, dMul, dDiv, dMod, dNeg, dCmp, dLt, dLe, dGt, dGe, dEq, dNe, dEq?, dIsN, dNotN, dIsi, isTy, dLen, dIx_lst, dIx_tup, dIx_scr, dList, dRev, dInt, dMax2, dMin2, decide_eq_true_eq, if_true, if_false, Bool.not_true, Bool.not_false, Bool.false_eq_true, reduceIte, Int.reduceLT, Int.reduceLE, Int.reduceEq, Int.reduceNeg, String.reduceEq, decide_true, decide_false, ci0, ci1, ci2, ci3, ci4, ci5, dAt_0, dAt_1, dAt_2, dAt_3, dv2, dv3, dv4, dv5, dv7, dv12, dv60, dv64, fz0, fz1, fz2, fz3, fz4, fz5, fz11, mulOk2, mulOk7, Int.reduceSub, Int.reduceAdd, dCut, repOk13, repOk54, Int.reduceToNat, List.flatten_cons, List.flatten_nil, List.append_nil, decide_true]) (.sq (by simp only [fnD, gNx, gSeq, gSet, gSetO, ownAt, gApp, gRev, gPut, frz, gFrz, gRet, gExpr, gIf, gExc, asL, eVar, eC, eOp, eUn, toB, tB, tAndB, tOrB, tNotB, eAnd, eOr, eNot, eChain, aNil, aCons, eTup, oLst, eO, eCall, oUn, oSl, rNone, rSome, toI, dCut, eLenO, eIxO, sBind_ok, sBind_exc, sBind_stk, Res.bind_ok, Res.bind_exc, Res.bind_stk, SRes.thn_nx, SRes.thn_rt, SRes.thn_exc, SRes.thn_stk, List.map_cons, List.map_nil, List.cons_append, List.nil_append, List.length_cons, List.length_nil, List.replicate_succ, List.replicate_zero, List.getElem?_cons_zero, List.getElem?_cons_succ, List.set_cons_zero, List.set_cons_succ, Nat.zero_add, Nat.reduceAdd, Nat.reduceSub, dAdd, dSub, dMul, dDiv, dMod, dNeg, dCmp, dLt, dLe, dGt, dGe, dEq, dNe, dEq?, dIsN, dNotN, dIsi, isTy, dLen, dIx_lst, dIx_tup, dIx_scr, dList, dRev, dInt, dMax2, dMin2, decide_eq_true_eq, if_true, if_false, Bool.not_true, Bool.not_false, Bool.false_eq_true, reduceIte, Int.reduceLT, Int.reduceLE, Int.reduceEq, Int.reduceNeg, String.reduceEq, decide_true, decide_false, ci0, ci1, ci2, ci3, ci4, ci5, dAt_0, dAt_1, dAt_2, dAt_3, dv2, dv3, dv4, dv5, dv7, dv12, dv60, dv64, fz0, fz1, fz2, fz3, fz4, fz5, fz11, mulOk2, mulOk7, Int.reduceSub, Int.reduceAdd, dCut, repOk13, repOk54, Int.reduceToNat, List.flatten_cons, List.flatten_nil, List.append_nil] <;> rfl) ?_)))))
      have pos : (0 : Int) < hi - lo + 1 := by omega
      refine .sq (by simp only [fnD, gNx, gSeq, gSet, gSetO, ownAt, gApp, gRev, gPut, frz, gFrz, gRet, gExpr, gIf, gExc, asL, eVar, eC, eOp, eUn, toB, tB, tAndB, tOrB, tNotB, eAnd, eOr, eNot, eChain, aNil, aCons, eTup, oLst, eO, eCall, oUn, oSl, rNone, rSome, toI, dCut, eLenO, eIxO, sBind_ok, sBind_exc, sBind_stk, Res.bind_ok, Res.bind_exc, Res.bind_stk, SRes.thn_nx, SRes.thn_rt, SRes.thn_exc, SRes.thn_stk, List.map_cons, List.map_nil, List.cons_append, List.nil_append, List.length_cons, List.length_nil, List.replicate_succ, List.replicate_zero, List.getElem?_cons_zero, List.getElem?_cons_succ, List.set_cons_zero, List.set_cons_succ, Nat.zero_add, Nat.reduceAdd, Nat.reduceSub, dAdd, dSub, dMul, dDiv, dMod, dNeg, dCmp, dLt, dLe, dGt, dGe, dEq, dNe, dEq?, dIsN, dNotN, dIsi, isTy, dLen, dIx_lst, dIx_tup, dIx_scr, dList, dRev, dInt, dMax2, dMin2, decide_eq_true_eq, if_true, if_false, Bool.not_true, Bool.not_false, Bool.false_eq_true, reduceIte, Int.reduceLT, Int.reduceLE, Int.reduceEq, Int.reduceNeg, String.reduceEq, decide_true, decide_false, ci0, ci1, ci2, ci3, ci4, ci5, dAt_0, dAt_1, dAt_2, dAt_3, dv2, dv3, dv4, dv5, dv7, dv12, dv60, dv64, fz0, fz1, fz2, fz3, fz4, fz5, fz11, mulOk2, mulOk7, Int.reduceSub, Int.reduceAdd, dCut, repOk13, repOk54, Int.reduceToNat, List.flatten_cons, List.flatten_nil, List.append_nil, pos] <;> rfl) (.sq (ifset (b := decide (N % 5 = 1)) (x := hi - lo) (y := N / 5 % (hi - lo + 1)) (by simp only [fnD, gNx, gSeq, gSet, gSetO, ownAt, gApp, gRev, gPut, frz, gFrz, gRet, gExpr, gIf, gExc, asL, eVar, eC, eOp, eUn, toB, tB, tAndB, tOrB, tNotB, eAnd, eOr, eNot, eChain, aNil, aCons, eTup, oLst, eO, eCall, oUn, oSl, rNone, rSome, toI, dCut, eLenO, eIxO, sBind_ok, sBind_exc, sBind_stk, Res.bind_ok, Res.bind_exc, Res.bind_stk, SRes.thn_nx, SRes.thn_rt, SRes.thn_exc, SRes.thn_stk, List.map_cons, List.map_nil, List.cons_append, List.nil_append, List.length_cons, List.length_nil, List.replicate_succ, List.replicate_zero, List.getElem?_cons_zero, List.getElem?_cons_succ, List.set_cons_zero, List.set_cons_succ, Nat.zero_add, Nat.reduceAdd, Nat.reduceSub, dAdd, dSub, dMul, dDiv, dMod, dNeg, dCmp, dLt, dLe, dGt, dGe, dEq, dNe, dEq?, dIsN, dNotN, dIsi, isTy, dLen, dIx_lst, dIx_tup, dIx_scr, dList, dRev, dInt, dMax2, dMin2, decide_eq_true_eq, if_true, if_false, Bool.not_true, Bool.not_false, Bool.false_eq_true, reduceIte, Int.reduceLT, Int.reduceLE, Int.reduceEq, Int.reduceNeg, String.reduceEq, decide_true, decide_false, ci0, ci1, ci2, ci3, ci4, ci5, dAt_0, dAt_1, dAt_2, dAt_3, dv2, dv3, dv4, dv5, dv7, dv12, dv60, dv64, fz0, fz1, fz2, fz3, fz4, fz5, fz11, mulOk2, mulOk7, Int.reduceSub, Int.reduceAdd, dCut, repOk13, repOk54, Int.reduceToNat, List.flatten_cons, List.flatten_nil, List.append_nil] <;> rfl) (fun _ => ?_) rfl) ?_)
      · have e : hi - lo + 1 - 1 = hi - lo := by omega
        simp only [fnD, gNx, gSeq, gSet, gSetO, ownAt, gApp, gRev, gPut, frz, gFrz, gRet, gExpr, gIf, gExc, asL, eVar, eC, eOp, eUn, toB, tB, tAndB, tOrB, tNotB, eAnd, eOr, eNot, eChain, aNil, aCons, eTup, oLst, eO, eCall, oUn, oSl, rNone, rSome, toI, dCut, eLenO, eIxO, sBind_ok, sBind_exc, sBind_stk, Res.bind_ok, Res.bind_exc, Res.bind_stk, SRes.thn_nx, SRes.thn_rt, SRes.thn_exc, SRes.thn_stk, List.map_cons, List.map_nil, List.cons_append, List.nil_append, List.length_cons, List.length_nil, List.replicate_succ, List.replicate_zero, List.getElem?_cons_zero, List.getElem?_cons_succ, List.set_cons_zero, List.set_cons_succ, Nat.zero_add, Nat.reduceAdd, Nat.reduceSub, dAdd, dSub, dMul, dDiv, dMod, dNeg, dCmp, dLt, dLe, dGt, dGe, dEq, dNe, dEq?, dIsN, dNotN, dIsi, isTy, dLen, dIx_lst, dIx_tup, dIx_scr, dList, dRev, dInt, dMax2, dMin2, decide_eq_true_eq, if_true, if_false, Bool.not_true, Bool.not_false, Bool.false_eq_true, reduceIte, Int.reduceLT, Int.reduceLE, Int.reduceEq, Int.reduceNeg, String.reduceEq, decide_true, decide_false, ci0, ci1, ci2, ci3, ci4, ci5, dAt_0, dAt_1, dAt_2, dAt_3, dv2, dv3, dv4, dv5, dv7, dv12, dv60, dv64, fz0, fz1, fz2, fz3, fz4, fz5, fz11, mulOk2, mulOk7, Int.reduceSub, Int.reduceAdd, dCut, repOk13, repOk54, Int.reduceToNat, List.flatten_cons, List.flatten_nil, List.append_nil, e]
      have m0 := Int.emod_nonneg (N / 5) (show hi - lo + 1 ≠ 0 by omega)
      have m1 := Int.emod_lt_of_pos (N / 5) pos
      obtain ⟨P, eP, P0, P1⟩ : ∃ P : Int, (if decide (N % 5 = 1) = true then hi - lo else N / 5 % (hi - lo + 1)) = P ∧ 0 ≤ P ∧ P ≤ hi - lo := by
        refine ⟨_, rfl, ?_, ?_⟩ <;> (split <;> omega)
      rw [eP]
      refine .sq (ifset (b := decide (N % 5 = 2)) (x := 0) (y := P) (by simp only [fnD, gNx, gSeq, gSet, gSetO, ownAt, gApp, gRev, gPut, frz, gFrz, gRet, gExpr, gIf, gExc, asL, eVar, eC, eOp, eUn, toB, tB, tAndB, tOrB, tNotB, eAnd, eOr, eNot, eChain, aNil, aCons, eTup, oLst, eO, eCall, oUn, oSl, rNone, rSome, toI, dCut, eLenO, eIxO, sBind_ok, sBind_exc, sBind_stk, Res.bind_ok, Res.bind_exc, Res.bind_stk, SRes.thn_nx, SRes.thn_rt, SRes.thn_exc, SRes.thn_stk, List.map_cons, List.map_nil, List.cons_append, List.nil_append, List.length_cons, List.length_nil, List.replicate_succ, List.replicate_zero, List.getElem?_cons_zero, List.getElem?_cons_succ, List.set_cons_zero, List.set_cons_succ, Nat.zero_add, Nat.reduceAdd, Nat.reduceSub, dAdd, dSub, dMul, dDiv, dMod, dNeg, dCmp, dLt, dLe, dGt, dGe, dEq, dNe, dEq?, dIsN, dNotN, dIsi, isTy, dLen, dIx_lst, dIx_tup, dIx_scr, dList, dRev, dInt, dMax2, dMin2, decide_eq_true_eq, if_true, if_false, Bool.not_true, Bool.not_false, Bool.false_eq_true, reduceIte, Int.reduceLT, Int.reduceLE, Int.reduceEq, Int.reduceNeg, String.reduceEq, decide_true, decide_false, ci0, ci1, ci2, ci3, ci4, ci5, dAt_0, dAt_1, dAt_2, dAt_3, dv2, dv3, dv4, dv5, dv7, dv12, dv60, dv64, fz0, fz1, fz2, fz3, fz4, fz5, fz11, mulOk2, mulOk7, Int.reduceSub, Int.reduceAdd, dCut, repOk13, repOk54, Int.reduceToNat, List.flatten_cons, List.flatten_nil, List.append_nil] <;> rfl) (fun _ => by simp only [fnD, gNx, gSeq, gSet, gSetO, ownAt, gApp, gRev, gPut, frz, gFrz, gRet, gExpr, gIf, gExc, asL, eVar, eC, eOp, eUn, toB, tB, tAndB, tOrB, tNotB, eAnd, eOr, eNot, eChain, aNil, aCons, eTup, oLst, eO, eCall, oUn, oSl, rNone, rSome, toI, dCut, eLenO, eIxO, sBind_ok, sBind_exc, sBind_stk, Res.bind_ok, Res.bind_exc, Res.bind_stk, SRes.thn_nx, SRes.thn_rt, SRes.thn_exc, SRes.thn_stk, List.map_cons, List.map_nil, List.cons_append, List.nil_append, List.length_cons, List.length_nil, List.replicate_succ, List.replicate_zero, List.getElem?_cons_zero, List.getElem?_cons_succ, List.set_cons_zero, List.set_cons_succ, Nat.zero_add, Nat.reduceAdd, Nat.reduceSub, dAdd, dSub, dMul, dDiv, dMod, dNeg, dCmp, dLt, dLe, dGt, dGe, dEq, dNe, dEq?, dIsN, dNotN, dIsi, isTy, dLen, dIx_lst, dIx_tup, dIx_scr, dList, dRev, dInt, dMax2, dMin2, decide_eq_true_eq, if_true, if_false, Bool.not_true, Bool.not_false, Bool.false_eq_true, reduceIte, Int.reduceLT, Int.reduceLE, Int.reduceEq, Int.reduceNeg, String.reduceEq, decide_true, decide_false, ci0, ci1, ci2, ci3, ci4, ci5, dAt_0, dAt_1, dAt_2, dAt_3, dv2, dv3, dv4, dv5, dv7, dv12, dv60, dv64, fz0, fz1, fz2, fz3, fz4, fz5, fz11, mulOk2, mulOk7, Int.reduceSub, Int.reduceAdd, dCut, repOk13, repOk54, Int.reduceToNat, List.flatten_cons, List.flatten_nil, List.append_nil]) rfl) ?_
      obtain ⟨Q, eQ, Q0, Q1⟩ : ∃ Q : Int, (if decide (N % 5 = 2) = true then 0 else P) = Q ∧ 0 ≤ Q ∧ Q ≤ hi - lo := by
        refine ⟨_, rfl, ?_, ?_⟩ <;> (split <;> omega)
      rw [eQ]
      refine .ret (by simp only [fnD, gNx, gSeq, gSet, gSetO, ownAt, gApp, gRev, gPut, frz, gFrz, gRet, gExpr, gIf, gExc, asL, eVar, eC, eOp, eUn, toB, tB, tAndB, tOrB, tNotB, eAnd, eOr, eNot, eChain, aNil, aCons, eTup, oLst, eO, eCall, oUn, oSl, rNone, rSome, toI, dCut, eLenO, eIxO, sBind_ok, sBind_exc, sBind_stk, Res.bind_ok, Res.bind_exc, Res.bind_stk, SRes.thn_nx, SRes.thn_rt, SRes.thn_exc, SRes.thn_stk, List.map_cons, List.map_nil, List.cons_append, List.nil_append, List.length_cons, List.length_nil, List.replicate_succ, List.replicate_zero, List.getElem?_cons_zero, List.getElem?_cons_succ, List.set_cons_zero, List.set_cons_succ, Nat.zero_add, Nat.reduceAdd, Nat.reduceSub, dAdd, dSub, dMul, dDiv, dMod, dNeg, dCmp, dLt, dLe, dGt, dGe, dEq, dNe, dEq?, dIsN, dNotN, dIsi, isTy, dLen, dIx_lst, dIx_tup, dIx_scr, dList, dRev, dInt, dMax2, dMin2, decide_eq_true_eq, if_true, if_false, Bool.not_true, Bool.not_false, Bool.false_eq_true, reduceIte, Int.reduceLT, Int.reduceLE, Int.reduceEq, Int.reduceNeg, String.reduceEq, decide_true, decide_false, ci0, ci1, ci2, ci3, ci4, ci5, dAt_0, dAt_1, dAt_2, dAt_3, dv2, dv3, dv4, dv5, dv7, dv12, dv60, dv64, fz0, fz1, fz2, fz3, fz4, fz5, fz11, mulOk2, mulOk7, Int.reduceSub, Int.reduceAdd, dCut, repOk13, repOk54, Int.reduceToNat, List.flatten_cons, List.flatten_nil, List.append_nil] <;> rfl) ⟨.int (lo + Q), j + 1, rfl, ?_, ?_⟩
      · unfold Fits; exact ⟨_, rfl, by omega, by omega⟩
      · unfold bitsS bb; simp only [wr_len]; omega
    | pad w =>
      rw [enc]
      refine fnD_RT (.sq (by simp only [fnD, gNx, gSeq, gSet, gSetO, ownAt, gApp, gRev, gPut, frz, gFrz, gRet, gExpr, gIf, gExc, asL, eVar, eC, eOp, eUn, toB, tB, tAndB, tOrB, tNotB, eAnd, eOr, eNot, eChain, aNil, aCons, eTup, oLst, eO, eCall, oUn, oSl, rNone, rSome, toI, dCut, eLenO, eIxO, sBind_ok, sBind_exc, sBind_stk, Res.bind_ok, Res.bind_exc, Res.bind_stk, SRes.thn_nx, SRes.thn_rt, SRes.thn_exc, SRes.thn_stk, List.map_cons, List.map_nil, List.cons_append, List.nil_append, List.length_cons, List.length_nil, List.replicate_succ, List.replicate_zero, List.getElem?_cons_zero, List.getElem?_cons_succ, List.set_cons_zero, List.set_cons_succ, Nat.zero_add, Nat.reduceAdd, Nat.reduceSub, dAdd, dSub, dMul, dDiv, dMod, dNeg, dCmp, dLt, dLe, dGt, dGe, dEq, dNe, dEq?, dIsN, dNotN, dIsi, isTy, dLen, dIx_lst, dIx_tup, dIx_scr, dList, dRev, dInt, dMax2, dMin2, decide_eq_true_eq, if_true, if_false, Bool.not_true, Bool.not_false, Bool.false_eq_true, reduceIte, Int.reduceLT, Int.reduceLE, Int.reduceEq, Int.reduceNeg, String.reduceEq, decide_true, decide_false, ci0, ci1, ci2, ci3, ci4, ci5, dAt_0, dAt_1, dAt_2, dAt_3, dv2, dv3, dv4, dv5, dv7, dv12, dv60, dv64, fz0, fz1, fz2, fz3, fz4, fz5, fz11, mulOk2, mulOk7, Int.reduceSub, Int.reduceAdd, dCut, repOk13, repOk54, Int.reduceToNat, List.flatten_cons, List.flatten_nil, List.append_nil, hnu, e0] <;> rfl) (.sq (by simp only [fnD, gNx, gSeq, gSet, gSetO, ownAt, gApp, gRev, gPut, frz, gFrz, gRet, gExpr, gIf, gExc, asL, eVar, eC, eOp, eUn, toB, tB, tAndB, tOrB, tNotB, eAnd, eOr, eNot, eChain, aNil, aCons, eTup, oLst, eO, eCall, oUn, oSl, rNone, rSome, toI, dCut, eLenO, eIxO, sBind_ok, sBind_exc, sBind_stk, Res.bind_ok, Res.bind_exc, Res.bind_stk, SRes.thn_nx, SRes.thn_rt, SRes.thn_exc, SRes.thn_stk, List.map_cons, List.map_nil, List.cons_append, List.nil_append, List.length_cons, List.length_nil, List.replicate_succ, List.replicate_zero, List.getElem?_cons_zero, List.getElem?_cons_succ, List.set_cons_zero, List.set_cons_succ, Nat.zero_add, Nat.reduceAdd, Nat.reduceSub, dAdd, dSub, dMul, dDiv, dMod, dNeg, dCmp, dLt, dLe, dGt, dGe, dEq, dNe, dEq?, dIsN, dNotN, dIsi, isTy, dLen, dIx_lst, dIx_tup, dIx_scr, dList, dRev, dInt, dMax2, dMin2, decide_eq_true_eq, if_true, if_false, Bool.not_true, Bool.not_false, Bool.false_eq_true, reduceIte, Int.reduceLT, Int.reduceLE, Int.reduceEq, Int.reduceNeg, String.reduceEq, decide_true, decide_false, ci0, ci1, ci2, ci3, ci4, ci5, dAt_0, dAt_1, dAt_2, dAt_3, dv2, dv3, dv4, dv5, dv7, dv12, dv60, dv64, fz0, fz1, fz2, fz3, fz4, fz5, fz11, mulOk2, mulOk7, Int.reduceSub, Int.reduceAdd, dCut, repOk13, repOk54, Int.reduceToNat, List.flatten_cons, List.flatten_nil, List.append_nil] <;> rfl) (.sq (if_n (by simp only [fnD, gNx, gSeq, gSet, gSetO, ownAt, gApp, gRev, gPut, frz, gFrz, gRet, gExpr, gIf, gExc, asL, eVar, eC, eOp, eUn, toB, tB, tAndB, tOrB, tNotB, eAnd, eOr, eNot, eChain, aNil, aCons, eTup, oLst, eO, eCall, oUn, oSl, rNone, rSome, toI, dCut, eLenO, eIxO, sBind_ok, sBind_exc, sBind_stk, Res.bind_ok, Res.bind_exc, Res.bind_stk, SRes.thn_nx, SRes.thn_rt, SRes.thn_exc, SRes.thn_stk, List.map_cons, List.map_nil, List.cons_append, List.nil_append, List.length_cons, List.length_nil, List.replicate_succ, List.replicate_zero, List.getElem?_cons_zero, List.getElem?_cons_succ, List.set_cons_zero, List.set_cons_succ, Nat.zero_add, Nat.reduceAdd, Nat.reduceSub, dAdd, dSub, dMul, dDiv, dMod, dNeg, dCmp, dLt, dLe, dGt, dGe, dEq, dNe, dEq?, dIsN, dNotN, dIsi, isTy, dLen, dIx_lst, dIx_tup, dIx_scr, dList, dRev, dInt, dMax2, dMin2, decide_eq_true_eq, if_true, if_false, Bool.not_true, Bool.not_false, Bool.false_eq_true, reduceIte, Int.reduceLT, Int.reduceLE, Int.reduceEq, Int.reduceNeg, String.reduceEq, decide_true, decide_false, ci0, ci1, ci2, ci3, ci4, ci5, dAt_0, dAt_1, dAt_2, dAt_3, dv2, dv3, dv4, dv5, dv7, dv12, dv60, dv64, fz0, fz1, fz2, fz3, fz4, fz5, fz11, mulOk2, mulOk7, Int.reduceSub, Int.reduceAdd, dCut, repOk13, repOk54, Int.reduceToNat, List.flatten_cons, List.flatten_nil, List.append_nil, decide_false])) (.sr (.ift (by simp only [fnD, gNx, gSeq, gSet, gSetO, ownAt, gApp, gRev, gPut, frz, gFrz, gRet, gExpr, gIf, gExc, asL, eVar, eC, eOp, eUn, toB, tB, tAndB, tOrB, tNotB, eAnd, eOr, eNot, eChain, aNil, aCons, eTup, oLst, eO, eCall, oUn, oSl, rNone, rSome, toI, dCut, eLenO, eIxO, sBind_ok, sBind_exc, sBind_stk, Res.bind_ok, Res.bind_exc, Res.bind_stk, SRes.thn_nx, SRes.thn_rt, SRes.thn_exc, SRes.thn_stk, List.map_cons, List.map_nil, List.cons_append, List.nil_append, List.length_cons, List.length_nil, List.replicate_succ, List.replicate_zero, List.getElem?_cons_zero, List.getElem?_cons_succ, List.set_cons_zero, List.set_cons_succ, Nat.zero_add, Nat.reduceAdd, Nat.reduceSub, dAdd, dSub, dMul, dDiv, dMod, dNeg, dCmp, dLt, dLe, dGt, dGe, dEq, dNe, dEq?, dIsN, dNotN, dIsi, isTy, dLen, dIx_lst, dIx_tup, dIx_scr, dList, dRev, dInt, dMax2, dMin2, decide_eq_true_eq, if_true, if_false, Bool.not_true, Bool.not_false, Bool.false_eq_true, reduceIte, Int.reduceLT, Int.reduceLE, Int.reduceEq, Int.reduceNeg, String.reduceEq, decide_true, decide_false, ci0, ci1, ci2, ci3, ci4, ci5, dAt_0, dAt_1, dAt_2, dAt_3, dv2, dv3, dv4, dv5, dv7, dv12, dv60, dv64, fz0, fz1, fz2, fz3, fz4, fz5, fz11, mulOk2, mulOk7, Int.reduceSub, Int.reduceAdd, dCut, repOk13, repOk54, Int.reduceToNat, List.flatten_cons, List.flatten_nil, List.append_nil, decide_true]) (.ret (by simp only [fnD, gNx, gSeq, gSet, gSetO, ownAt, gApp, gRev, gPut, frz, gFrz, gRet, gExpr, gIf, gExc, asL, eVar, eC, eOp, eUn, toB, tB, tAndB, tOrB, tNotB, eAnd, eOr, eNot, eChain, aNil, aCons, eTup, oLst, eO, eCall, oUn, oSl, rNone, rSome, toI, dCut, eLenO, eIxO, sBind_ok, sBind_exc, sBind_stk, Res.bind_ok, Res.bind_exc, Res.bind_stk, SRes.thn_nx, SRes.thn_rt, SRes.thn_exc, SRes.thn_stk, List.map_cons, List.map_nil, List.cons_append, List.nil_append, List.length_cons, List.length_nil, List.replicate_succ, List.replicate_zero, List.getElem?_cons_zero, List.getElem?_cons_succ, List.set_cons_zero, List.set_cons_succ, Nat.zero_add, Nat.reduceAdd, Nat.reduceSub, dAdd, dSub, dMul, dDiv, dMod, dNeg, dCmp, dLt, dLe, dGt, dGe, dEq, dNe, dEq?, dIsN, dNotN, dIsi, isTy, dLen, dIx_lst, dIx_tup, dIx_scr, dList, dRev, dInt, dMax2, dMin2, decide_eq_true_eq, if_true, if_false, Bool.not_true, Bool.not_false, Bool.false_eq_true, reduceIte, Int.reduceLT, Int.reduceLE, Int.reduceEq, Int.reduceNeg, String.reduceEq, decide_true, decide_false, ci0, ci1, ci2, ci3, ci4, ci5, dAt_0, dAt_1, dAt_2, dAt_3, dv2, dv3, dv4, dv5, dv7, dv12, dv60, dv64, fz0, fz1, fz2, fz3, fz4, fz5, fz11, mulOk2, mulOk7, Int.reduceSub, Int.reduceAdd, dCut, repOk13, repOk54, Int.reduceToNat, List.flatten_cons, List.flatten_nil, List.append_nil] <;> rfl) ⟨.non, j, rfl, ?_, ?_⟩))))))
      · unfold Fits; rfl
      · unfold bitsS bb; simp only [wr_len]; omega
    | one w ss =>
      unfold Good at g; unfold dpt at h
      rw [enc]
      have pos : (0 : Int) < ss.length := by omega
      obtain ⟨p, ep, hp⟩ : ∃ p : Nat, N % ss.length = (p : Int) ∧ p < ss.length := by
        have m0 := Int.emod_nonneg N (show (ss.length : Int) ≠ 0 by omega)
        have m1 := Int.emod_lt_of_pos N pos
        exact ⟨(N % ss.length).toNat, by omega, by omega⟩
      have hs := List.getElem?_eq_getElem hp
      have hm := List.mem_of_getElem? hs
      have ed := dAt_get (encs_get hs)
      obtain ⟨_, er, r, j', rfl, gr⟩ := record_eq n ss[p] (by have := dpts_mem hm; omega) (by omega) (g.2.2.2.2.mem hm) (k + 2) (by omega) (j + 1)
      refine fnD_RT (.sq (by simp only [fnD, gNx, gSeq, gSet, gSetO, ownAt, gApp, gRev, gPut, frz, gFrz, gRet, gExpr, gIf, gExc, asL, eVar, eC, eOp, eUn, toB, tB, tAndB, tOrB, tNotB, eAnd, eOr, eNot, eChain, aNil, aCons, eTup, oLst, eO, eCall, oUn, oSl, rNone, rSome, toI, dCut, eLenO, eIxO, sBind_ok, sBind_exc, sBind_stk, Res.bind_ok, Res.bind_exc, Res.bind_stk, SRes.thn_nx, SRes.thn_rt, SRes.thn_exc, SRes.thn_stk, List.map_cons, List.map_nil, List.cons_append, List.nil_append, List.length_cons, List.length_nil, List.replicate_succ, List.replicate_zero, List.getElem?_cons_zero, List.getElem?_cons_succ, List.set_cons_zero, List.set_cons_succ, Nat.zero_add, Nat.reduceAdd, Nat.reduceSub, dAdd, dSub, dMul, dDiv, dMod, dNeg, dCmp, dLt, dLe, dGt, dGe, dEq, dNe, dEq?, dIsN, dNotN, dIsi, isTy, dLen, dIx_lst, dIx_tup, dIx_scr, dList, dRev, dInt, dMax2, dMin2, decide_eq_true_eq, if_true, if_false, Bool.not_true, Bool.not_false, Bool.false_eq_true, reduceIte, Int.reduceLT, Int.reduceLE, Int.reduceEq, Int.reduceNeg, String.reduceEq, decide_true, decide_false, ci0, ci1, ci2, ci3, ci4, ci5, dAt_0, dAt_1, dAt_2, dAt_3, dv2, dv3, dv4, dv5, dv7, dv12, dv60, dv64, fz0, fz1, fz2, fz3, fz4, fz5, fz11, mulOk2, mulOk7, Int.reduceSub, Int.reduceAdd, dCut, repOk13, repOk54, Int.reduceToNat, List.flatten_cons, List.flatten_nil, List.append_nil, hnu, e0] <;> rfl) (.sq (by simp only [fnD, gNx, gSeq, gSet, gSetO, ownAt, gApp, gRev, gPut, frz, gFrz, gRet, gExpr, gIf, gExc, asL, eVar, eC, eOp, eUn, toB, tB, tAndB, tOrB, tNotB, eAnd, eOr, eNot, eChain, aNil, aCons, eTup, oLst, eO, eCall, oUn, oSl, rNone, rSome, toI, dCut, eLenO, eIxO, sBind_ok, sBind_exc, sBind_stk, Res.bind_ok, Res.bind_exc, Res.bind_stk, SRes.thn_nx, SRes.thn_rt, SRes.thn_exc, SRes.thn_stk, List.map_cons, List.map_nil, List.cons_append, List.nil_append, List.length_cons, List.length_nil, List.replicate_succ, List.replicate_zero, List.getElem?_cons_zero, List.getElem?_cons_succ, List.set_cons_zero, List.set_cons_succ, Nat.zero_add, Nat.reduceAdd, Nat.reduceSub, dAdd, dSub, dMul, dDiv, dMod, dNeg, dCmp, dLt, dLe, dGt, dGe, dEq, dNe, dEq?, dIsN, dNotN, dIsi, isTy, dLen, dIx_lst, dIx_tup, dIx_scr, dList, dRev, dInt, dMax2, dMin2, decide_eq_true_eq, if_true, if_false, Bool.not_true, Bool.not_false, Bool.false_eq_true, reduceIte, Int.reduceLT, Int.reduceLE, Int.reduceEq, Int.reduceNeg, String.reduceEq, decide_true, decide_false, ci0, ci1, ci2, ci3, ci4, ci5, dAt_0, dAt_1, dAt_2, dAt_3, dv2, dv3, dv4, dv5, dv7, dv12, dv60, dv64, fz0, fz1, fz2, fz3, fz4, fz5, fz11, mulOk2, mulOk7, Int.reduceSub, Int.reduceAdd, dCut, repOk13, repOk54, Int.reduceToNat, List.flatten_cons, List.flatten_nil, List.append_nil] <;> rfl) (.sq (if_n (by simp only [fnD, gNx, gSeq, gSet, gSetO, ownAt, gApp, gRev, gPut, frz, gFrz, gRet, gExpr, gIf, gExc, asL, eVar, eC, eOp, eUn, toB, tB, tAndB, tOrB, tNotB, eAnd, eOr, eNot, eChain, aNil, aCons, eTup, oLst, eO, eCall, oUn, oSl, rNone, rSome, toI, dCut, eLenO, eIxO, sBind_ok, sBind_exc, sBind_stk, Res.bind_ok, Res.bind_exc, Res.bind_stk, SRes.thn_nx, SRes.thn_rt, SRes.thn_exc, SRes.thn_stk, List.map_cons, List.map_nil, List.cons_append, List.nil_append, List.length_cons, List.length_nil, List.replicate_succ, List.replicate_zero, List.getElem?_cons_zero, List.getElem?_cons_succ, List.set_cons_zero, List.set_cons_succ, Nat.zero_add, Nat.reduceAdd, Nat.reduceSub, dAdd, dSub, dMul, dDiv, dMod, dNeg, dCmp, dLt, dLe, dGt, dGe, dEq, dNe, dEq?, dIsN, dNotN, dIsi, isTy, dLen, dIx_lst, dIx_tup, dIx_scr, dList, dRev, dInt, dMax2, dMin2, decide_eq_true_eq, if_true, if_false, Bool.not_true, Bool.not_false, Bool.false_eq_true, reduceIte, Int.reduceLT, Int.reduceLE, Int.reduceEq, Int.reduceNeg, String.reduceEq, decide_true, decide_false, ci0, ci1, ci2, ci3, ci4, ci5, dAt_0, dAt_1, dAt_2, dAt_3, dv2, dv3, dv4, dv5, dv7, dv12, dv60, dv64, fz0, fz1, fz2, fz3, fz4, fz5, fz11, mulOk2, mulOk7, Int.reduceSub, Int.reduceAdd, dCut, repOk13, repOk54, Int.reduceToNat, List.flatten_cons, List.flatten_nil, List.append_nil])) (.sq (if_n (by simp only [fnD, gNx, gSeq, gSet, gSetO, ownAt, gApp, gRev, gPut, frz, gFrz, gRet, gExpr, gIf, gExc, asL, eVar, eC, eOp, eUn, toB, tB, tAndB, tOrB, tNotB, eAnd, eOr, eNot, eChain, aNil, aCons, eTup, oLst, eO, eCall, oUn, oSl, rNone, rSome, toI, dCut, eLenO, eIxO, sBind_ok, sBind_exc, sBind_stk, Res.bind_ok, Res.bind_exc, Res.bind_stk, SRes.thn_nx, SRes.thn_rt, SRes.thn_exc, SRes.thn_stk, List.map_cons, List.map_nil, List.cons_append, List.nil_append, List.length_cons, List.length_nil, List.replicate_succ, List.replicate_zero, List.getElem?_cons_zero, List.getElem?_cons_succ, List.set_cons_zero, List.set_cons_succ, Nat.zero_add, Nat.reduceAdd, Nat.reduceSub, dAdd, dSub, dMul, dDiv, dMod, dNeg, dCmp, dLt, dLe, dGt, dGe, dEq, dNe, dEq?, dIsN, dNotN, dIsi, isTy, dLen, dIx_lst, dIx_tup, dIx_scr, dList, dRev, dInt, dMax2, dMin2, decide_eq_true_eq, if_true, if_false, Bool.not_true, Bool.not_false, Bool.false_eq_true, reduceIte, Int.reduceLT, Int.reduceLE, Int.reduceEq, Int.reduceNeg, String.reduceEq, decide_true, decide_false, ci0, ci1, ci2, ci3, ci4, ci5, dAt_0, dAt_1, dAt_2, dAt_3, dv2, dv3, dv4, dv5, dv7, dv12, dv60, dv64, fz0, fz1, fz2, fz3, fz4, fz5, fz11, mulOk2, mulOk7, Int.reduceSub, Int.reduceAdd, dCut, repOk13, repOk54, Int.reduceToNat, List.flatten_cons, List.flatten_nil, List.append_nil])) (.sr (.ift (by simp only [fnD, gNx, gSeq, gSet, gSetO, ownAt, gApp, gRev, gPut, frz, gFrz, gRet, gExpr, gIf, gExc, asL, eVar, eC, eOp, eUn, toB, tB, tAndB, tOrB, tNotB, eAnd, eOr, eNot, eChain, aNil, aCons, eTup, oLst, eO, eCall, oUn, oSl, rNone, rSome, toI, dCut, eLenO, eIxO, sBind_ok, sBind_exc, sBind_stk, Res.bind_ok, Res.bind_exc, Res.bind_stk, SRes.thn_nx, SRes.thn_rt, SRes.thn_exc, SRes.thn_stk, List.map_cons, List.map_nil, List.cons_append, List.nil_append, List.length_cons, List.length_nil, List.replicate_succ, List.replicate_zero, List.getElem?_cons_zero, List.getElem?_cons_succ, List.set_cons_zero, List.set_cons_succ, Nat.zero_add, Nat.reduceAdd, Nat.reduceSub, dAdd, dSub, dMul, dDiv, dMod, dNeg, dCmp, dLt, dLe, dGt, dGe, dEq, dNe, dEq?, dIsN, dNotN, dIsi, isTy, dLen, dIx_lst, dIx_tup, dIx_scr, dList, dRev, dInt, dMax2, dMin2, decide_eq_true_eq, if_true, if_false, Bool.not_true, Bool.not_false, Bool.false_eq_true, reduceIte, Int.reduceLT, Int.reduceLE, Int.reduceEq, Int.reduceNeg, String.reduceEq, decide_true, decide_false, ci0, ci1, ci2, ci3, ci4, ci5, dAt_0, dAt_1, dAt_2, dAt_3, dv2, dv3, dv4, dv5, dv7, dv12, dv60, dv64, fz0, fz1, fz2, fz3, fz4, fz5, fz11, mulOk2, mulOk7, Int.reduceSub, Int.reduceAdd, dCut, repOk13, repOk54, Int.reduceToNat, List.flatten_cons, List.flatten_nil, List.append_nil, decide_true])
        (.sq (by simp only [fnD, gNx, gSeq, gSet, gSetO, ownAt, gApp, gRev, gPut, frz, gFrz, gRet, gExpr, gIf, gExc, asL, eVar, eC, eOp, eUn, toB, tB, tAndB, tOrB, tNotB, eAnd, eOr, eNot, eChain, aNil, aCons, eTup, oLst, eO, eCall, oUn, oSl, rNone, rSome, toI, dCut, eLenO, eIxO, sBind_ok, sBind_exc, sBind_stk, Res.bind_ok, Res.bind_exc, Res.bind_stk, SRes.thn_nx, SRes.thn_rt, SRes.thn_exc, SRes.thn_stk, List.map_cons, List.map_nil, List.cons_append, List.nil_append, List.length_cons, List.length_nil, List.replicate_succ, List.replicate_zero, List.getElem?_cons_zero, List.getElem?_cons_succ, List.set_cons_zero, List.set_cons_succ, Nat.zero_add, Nat.reduceAdd, Nat.reduceSub, dAdd, dSub, dMul, dDiv, dMod, dNeg, dCmp, dLt, dLe, dGt, dGe, dEq, dNe, dEq?, dIsN, dNotN, dIsi, isTy, dLen, dIx_lst, dIx_tup, dIx_scr, dList, dRev, dInt, dMax2, dMin2, decide_eq_true_eq, if_true, if_false, Bool.not_true, Bool.not_false, Bool.false_eq_true, reduceIte, Int.reduceLT, Int.reduceLE, Int.reduceEq, Int.reduceNeg, String.reduceEq, decide_true, decide_false, ci0, ci1, ci2, ci3, ci4, ci5, dAt_0, dAt_1, dAt_2, dAt_3, dv2, dv3, dv4, dv5, dv7, dv12, dv60, dv64, fz0, fz1, fz2, fz3, fz4, fz5, fz11, mulOk2, mulOk7, Int.reduceSub, Int.reduceAdd, dCut, repOk13, repOk54, Int.reduceToNat, List.flatten_cons, List.flatten_nil, List.append_nil, encs_len, pos, ep] <;> rfl) (.sq (by simp only [fnD, gNx, gSeq, gSet, gSetO, ownAt, gApp, gRev, gPut, frz, gFrz, gRet, gExpr, gIf, gExc, asL, eVar, eC, eOp, eUn, toB, tB, tAndB, tOrB, tNotB, eAnd, eOr, eNot, eChain, aNil, aCons, eTup, oLst, eO, eCall, oUn, oSl, rNone, rSome, toI, dCut, eLenO, eIxO, sBind_ok, sBind_exc, sBind_stk, Res.bind_ok, Res.bind_exc, Res.bind_stk, SRes.thn_nx, SRes.thn_rt, SRes.thn_exc, SRes.thn_stk, List.map_cons, List.map_nil, List.cons_append, List.nil_append, List.length_cons, List.length_nil, List.replicate_succ, List.replicate_zero, List.getElem?_cons_zero, List.getElem?_cons_succ, List.set_cons_zero, List.set_cons_succ, Nat.zero_add, Nat.reduceAdd, Nat.reduceSub, dAdd, dSub, dMul, dDiv, dMod, dNeg, dCmp, dLt, dLe, dGt, dGe, dEq, dNe, dEq?, dIsN, dNotN, dIsi, isTy, dLen, dIx_lst, dIx_tup, dIx_scr, dList, dRev, dInt, dMax2, dMin2, decide_eq_true_eq, if_true, if_false, Bool.not_true, Bool.not_false, Bool.false_eq_true, reduceIte, Int.reduceLT, Int.reduceLE, Int.reduceEq, Int.reduceNeg, String.reduceEq, decide_true, decide_false, ci0, ci1, ci2, ci3, ci4, ci5, dAt_0, dAt_1, dAt_2, dAt_3, dv2, dv3, dv4, dv5, dv7, dv12, dv60, dv64, fz0, fz1, fz2, fz3, fz4, fz5, fz11, mulOk2, mulOk7, Int.reduceSub, Int.reduceAdd, dCut, repOk13, repOk54, Int.reduceToNat, List.flatten_cons, List.flatten_nil, List.append_nil, ed, er] <;> rfl) (.ret (by simp only [fnD, gNx, gSeq, gSet, gSetO, ownAt, gApp, gRev, gPut, frz, gFrz, gRet, gExpr, gIf, gExc, asL, eVar, eC, eOp, eUn, toB, tB, tAndB, tOrB, tNotB, eAnd, eOr, eNot, eChain, aNil, aCons, eTup, oLst, eO, eCall, oUn, oSl, rNone, rSome, toI, dCut, eLenO, eIxO, sBind_ok, sBind_exc, sBind_stk, Res.bind_ok, Res.bind_exc, Res.bind_stk, SRes.thn_nx, SRes.thn_rt, SRes.thn_exc, SRes.thn_stk, List.map_cons, List.map_nil, List.cons_append, List.nil_append, List.length_cons, List.length_nil, List.replicate_succ, List.replicate_zero, List.getElem?_cons_zero, List.getElem?_cons_succ, List.set_cons_zero, List.set_cons_succ, Nat.zero_add, Nat.reduceAdd, Nat.reduceSub, dAdd, dSub, dMul, dDiv, dMod, dNeg, dCmp, dLt, dLe, dGt, dGe, dEq, dNe, dEq?, dIsN, dNotN, dIsi, isTy, dLen, dIx_lst, dIx_tup, dIx_scr, dList, dRev, dInt, dMax2, dMin2, decide_eq_true_eq, if_true, if_false, Bool.not_true, Bool.not_false, Bool.false_eq_true, reduceIte, Int.reduceLT, Int.reduceLE, Int.reduceEq, Int.reduceNeg, String.reduceEq, decide_true, decide_false, ci0, ci1, ci2, ci3, ci4, ci5, dAt_0, dAt_1, dAt_2, dAt_3, dv2, dv3, dv4, dv5, dv7, dv12, dv60, dv64, fz0, fz1, fz2, fz3, fz4, fz5, fz11, mulOk2, mulOk7, Int.reduceSub, Int.reduceAdd, dCut, repOk13, repOk54, Int.reduceToNat, List.flatten_cons, List.flatten_nil, List.append_nil] <;> rfl) ⟨.tup [.int p, r], j', rfl, ?_, ?_⟩)))))))))
      · unfold Fits
        refine ⟨p, r, rfl, ?_⟩
        exact FitsAt.mk hs gr.1
      · unfold bitsS bb
        have := bb_mem hm
        have := gr.2
        simp only [Int.toNat_natCast, bitsA_get r hs, List.length_append, wr_len]
        omega
    | group ss =>
      unfold Good at g; unfold dpt at h
      rw [enc]
      obtain ⟨d, ed, rs, j', rfl, gl⟩ := L (.tup [.str "group", .lst (encs ss)]) "group" .un .un ss j (by omega) fun s hs => ⟨by have := dpts_mem hs; omega, g.2.mem hs⟩
      refine fnD_RT (.sq (by simp only [fnD, gNx, gSeq, gSet, gSetO, ownAt, gApp, gRev, gPut, frz, gFrz, gRet, gExpr, gIf, gExc, asL, eVar, eC, eOp, eUn, toB, tB, tAndB, tOrB, tNotB, eAnd, eOr, eNot, eChain, aNil, aCons, eTup, oLst, eO, eCall, oUn, oSl, rNone, rSome, toI, dCut, eLenO, eIxO, sBind_ok, sBind_exc, sBind_stk, Res.bind_ok, Res.bind_exc, Res.bind_stk, SRes.thn_nx, SRes.thn_rt, SRes.thn_exc, SRes.thn_stk, List.map_cons, List.map_nil, List.cons_append, List.nil_append, List.length_cons, List.length_nil, List.replicate_succ, List.replicate_zero, List.getElem?_cons_zero, List.getElem?_cons_succ, List.set_cons_zero, List.set_cons_succ, Nat.zero_add, Nat.reduceAdd, Nat.reduceSub, dAdd, dSub, dMul, dDiv, dMod, dNeg, dCmp, dLt, dLe, dGt, dGe, dEq, dNe, dEq?, dIsN, dNotN, dIsi, isTy, dLen, dIx_lst, dIx_tup, dIx_scr, dList, dRev, dInt, dMax2, dMin2, decide_eq_true_eq, if_true, if_false, Bool.not_true, Bool.not_false, Bool.false_eq_true, reduceIte, Int.reduceLT, Int.reduceLE, Int.reduceEq, Int.reduceNeg, String.reduceEq, decide_true, decide_false, ci0, ci1, ci2, ci3, ci4, ci5, dAt_0, dAt_1, dAt_2, dAt_3, dv2, dv3, dv4, dv5, dv7, dv12, dv60, dv64, fz0, fz1, fz2, fz3, fz4, fz5, fz11, mulOk2, mulOk7, Int.reduceSub, Int.reduceAdd, dCut, repOk13, repOk54, Int.reduceToNat, List.flatten_cons, List.flatten_nil, List.append_nil, hnu, e0] <;> rfl) (.sq (by simp only [fnD, gNx, gSeq, gSet, gSetO, ownAt, gApp, gRev, gPut, frz, gFrz, gRet, gExpr, gIf, gExc, asL, eVar, eC, eOp, eUn, toB, tB, tAndB, tOrB, tNotB, eAnd, eOr, eNot, eChain, aNil, aCons, eTup, oLst, eO, eCall, oUn, oSl, rNone, rSome, toI, dCut, eLenO, eIxO, sBind_ok, sBind_exc, sBind_stk, Res.bind_ok, Res.bind_exc, Res.bind_stk, SRes.thn_nx, SRes.thn_rt, SRes.thn_exc, SRes.thn_stk, List.map_cons, List.map_nil, List.cons_append, List.nil_append, List.length_cons, List.length_nil, List.replicate_succ, List.replicate_zero, List.getElem?_cons_zero, List.getElem?_cons_succ, List.set_cons_zero, List.set_cons_succ, Nat.zero_add, Nat.reduceAdd, Nat.reduceSub, dAdd, dSub, dMul, dDiv, dMod, dNeg, dCmp, dLt, dLe, dGt, dGe, dEq, dNe, dEq?, dIsN, dNotN, dIsi, isTy, dLen, dIx_lst, dIx_tup, dIx_scr, dList, dRev, dInt, dMax2, dMin2, decide_eq_true_eq, if_true, if_false, Bool.not_true, Bool.not_false, Bool.false_eq_true, reduceIte, Int.reduceLT, Int.reduceLE, Int.reduceEq, Int.reduceNeg, String.reduceEq, decide_true, decide_false, ci0, ci1, ci2, ci3, ci4, ci5, dAt_0, dAt_1, dAt_2, dAt_3, dv2, dv3, dv4, dv5, dv7, dv12, dv60, dv64, fz0, fz1, fz2, fz3, fz4, fz5, fz11, mulOk2, mulOk7, Int.reduceSub, Int.reduceAdd, dCut, repOk13, repOk54, Int.reduceToNat, List.flatten_cons, List.flatten_nil, List.append_nil] <;> rfl) (.sq (if_n (by simp only [fnD, gNx, gSeq, gSet, gSetO, ownAt, gApp, gRev, gPut, frz, gFrz, gRet, gExpr, gIf, gExc, asL, eVar, eC, eOp, eUn, toB, tB, tAndB, tOrB, tNotB, eAnd, eOr, eNot, eChain, aNil, aCons, eTup, oLst, eO, eCall, oUn, oSl, rNone, rSome, toI, dCut, eLenO, eIxO, sBind_ok, sBind_exc, sBind_stk, Res.bind_ok, Res.bind_exc, Res.bind_stk, SRes.thn_nx, SRes.thn_rt, SRes.thn_exc, SRes.thn_stk, List.map_cons, List.map_nil, List.cons_append, List.nil_append, List.length_cons, List.length_nil, List.replicate_succ, List.replicate_zero, List.getElem?_cons_zero, List.getElem?_cons_succ, List.set_cons_zero, List.set_cons_succ, Nat.zero_add, Nat.reduceAdd, Nat.reduceSub, dAdd, dSub, dMul, dDiv, dMod, dNeg, dCmp, dLt, dLe, dGt, dGe, dEq, dNe, dEq?, dIsN, dNotN, dIsi, isTy, dLen, dIx_lst, dIx_tup, dIx_scr, dList, dRev, dInt, dMax2, dMin2, decide_eq_true_eq, if_true, if_false, Bool.not_true, Bool.not_false, Bool.false_eq_true, reduceIte, Int.reduceLT, Int.reduceLE, Int.reduceEq, Int.reduceNeg, String.reduceEq, decide_true, decide_false, ci0, ci1, ci2, ci3, ci4, ci5, dAt_0, dAt_1, dAt_2, dAt_3, dv2, dv3, dv4, dv5, dv7, dv12, dv60, dv64, fz0, fz1, fz2, fz3, fz4, fz5, fz11, mulOk2, mulOk7, Int.reduceSub, Int.reduceAdd, dCut, repOk13, repOk54, Int.reduceToNat, List.flatten_cons, List.flatten_nil, List.append_nil])) (.sq (if_n (by simp only [fnD, gNx, gSeq, gSet, gSetO, ownAt, gApp, gRev, gPut, frz, gFrz, gRet, gExpr, gIf, gExc, asL, eVar, eC, eOp, eUn, toB, tB, tAndB, tOrB, tNotB, eAnd, eOr, eNot, eChain, aNil, aCons, eTup, oLst, eO, eCall, oUn, oSl, rNone, rSome, toI, dCut, eLenO, eIxO, sBind_ok, sBind_exc, sBind_stk, Res.bind_ok, Res.bind_exc, Res.bind_stk, SRes.thn_nx, SRes.thn_rt, SRes.thn_exc, SRes.thn_stk, List.map_cons, List.map_nil, List.cons_append, List.nil_append, List.length_cons, List.length_nil, List.replicate_succ, List.replicate_zero, List.getElem?_cons_zero, List.getElem?_cons_succ, List.set_cons_zero, List.set_cons_succ, Nat.zero_add, Nat.reduceAdd, Nat.reduceSub, dAdd, dSub, dMul, dDiv, dMod, dNeg, dCmp, dLt, dLe, dGt, dGe, dEq, dNe, dEq?, dIsN, dNotN, dIsi, isTy, dLen, dIx_lst, dIx_tup, dIx_scr, dList, dRev, dInt, dMax2, dMin2, decide_eq_true_eq, if_true, if_false, Bool.not_true, Bool.not_false, Bool.false_eq_true, reduceIte, Int.reduceLT, Int.reduceLE, Int.reduceEq, Int.reduceNeg, String.reduceEq, decide_true, decide_false, ci0, ci1, ci2, ci3, ci4, ci5, dAt_0, dAt_1, dAt_2, dAt_3, dv2, dv3, dv4, dv5, dv7, dv12, dv60, dv64, fz0, fz1, fz2, fz3, fz4, fz5, fz11, mulOk2, mulOk7, Int.reduceSub, Int.reduceAdd, dCut, repOk13, repOk54, Int.reduceToNat, List.flatten_cons, List.flatten_nil, List.append_nil])) (.sq (if_n (by simp only [fnD, gNx, gSeq, gSet, gSetO, ownAt, gApp, gRev, gPut, frz, gFrz, gRet, gExpr, gIf, gExc, asL, eVar, eC, eOp, eUn, toB, tB, tAndB, tOrB, tNotB, eAnd, eOr, eNot, eChain, aNil, aCons, eTup, oLst, eO, eCall, oUn, oSl, rNone, rSome, toI, dCut, eLenO, eIxO, sBind_ok, sBind_exc, sBind_stk, Res.bind_ok, Res.bind_exc, Res.bind_stk, SRes.thn_nx, SRes.thn_rt, SRes.thn_exc, SRes.thn_stk, List.map_cons, List.map_nil, List.cons_append, List.nil_append, List.length_cons, List.length_nil, List.replicate_succ, List.replicate_zero, List.getElem?_cons_zero, List.getElem?_cons_succ, List.set_cons_zero, List.set_cons_succ, Nat.zero_add, Nat.reduceAdd, Nat.reduceSub, dAdd, dSub, dMul, dDiv, dMod, dNeg, dCmp, dLt, dLe, dGt, dGe, dEq, dNe, dEq?, dIsN, dNotN, dIsi, isTy, dLen, dIx_lst, dIx_tup, dIx_scr, dList, dRev, dInt, dMax2, dMin2, decide_eq_true_eq, if_true, if_false, Bool.not_true, Bool.not_false, Bool.false_eq_true, reduceIte, Int.reduceLT, Int.reduceLE, Int.reduceEq, Int.reduceNeg, String.reduceEq, decide_true, decide_false, ci0, ci1, ci2, ci3, ci4, ci5, dAt_0, dAt_1, dAt_2, dAt_3, dv2, dv3, dv4, dv5, dv7, dv12, dv60, dv64, fz0, fz1, fz2, fz3, fz4, fz5, fz11, mulOk2, mulOk7, Int.reduceSub, Int.reduceAdd, dCut, repOk13, repOk54, Int.reduceToNat, List.flatten_cons, List.flatten_nil, List.append_nil])) (.sq ((if_t (by simp only [fnD, gNx, gSeq, gSet, gSetO, ownAt, gApp, gRev, gPut, frz, gFrz, gRet, gExpr, gIf, gExc, asL, eVar, eC, eOp, eUn, toB, tB, tAndB, tOrB, tNotB, eAnd, eOr, eNot, eChain, aNil, aCons, eTup, oLst, eO, eCall, oUn, oSl, rNone, rSome, toI, dCut, eLenO, eIxO, sBind_ok, sBind_exc, sBind_stk, Res.bind_ok, Res.bind_exc, Res.bind_stk, SRes.thn_nx, SRes.thn_rt, SRes.thn_exc, SRes.thn_stk, List.map_cons, List.map_nil, List.cons_append, List.nil_append, List.length_cons, List.length_nil, List.replicate_succ, List.replicate_zero, List.getElem?_cons_zero, List.getElem?_cons_succ, List.set_cons_zero, List.set_cons_succ, Nat.zero_add, Nat.reduceAdd, Nat.reduceSub, dAdd, dSub, dMul, dDiv, dMod, dNeg, dCmp, dLt, dLe, dGt, dGe, dEq, dNe, dEq?, dIsN, dNotN, dIsi, isTy, dLen, dIx_lst, dIx_tup, dIx_scr, dList, dRev, dInt, dMax2, dMin2, decide_eq_true_eq, if_true, if_false, Bool.not_true, Bool.not_false, Bool.false_eq_true, reduceIte, Int.reduceLT, Int.reduceLE, Int.reduceEq, Int.reduceNeg, String.reduceEq, decide_true, decide_false, ci0, ci1, ci2, ci3, ci4, ci5, dAt_0, dAt_1, dAt_2, dAt_3, dv2, dv3, dv4, dv5, dv7, dv12, dv60, dv64, fz0, fz1, fz2, fz3, fz4, fz5, fz11, mulOk2, mulOk7, Int.reduceSub, Int.reduceAdd, dCut, repOk13, repOk54, Int.reduceToNat, List.flatten_cons, List.flatten_nil, List.append_nil, decide_true])).trans (by simp only [fnD, gNx, gSeq, gSet, gSetO, ownAt, gApp, gRev, gPut, frz, gFrz, gRet, gExpr, gIf, gExc, asL, eVar, eC, eOp, eUn, toB, tB, tAndB, tOrB, tNotB, eAnd, eOr, eNot, eChain, aNil, aCons, eTup, oLst, eO, eCall, oUn, oSl, rNone, rSome, toI, dCut, eLenO, eIxO, sBind_ok, sBind_exc, sBind_stk, Res.bind_ok, Res.bind_exc, Res.bind_stk, SRes.thn_nx, SRes.thn_rt, SRes.thn_exc, SRes.thn_stk, List.map_cons, List.map_nil, List.cons_append, List.nil_append, List.length_cons, List.length_nil, List.replicate_succ, List.replicate_zero, List.getElem?_cons_zero, List.getElem?_cons_succ, List.set_cons_zero, List.set_cons_succ, Nat.zero_add, Nat.reduceAdd, Nat.reduceSub, dAdd, dSub, dMul, dDiv, dMod, dNeg, dCmp, dLt, dLe, dGt, dGe, dEq, dNe, dEq?, dIsN, dNotN, dIsi, isTy, dLen, dIx_lst, dIx_tup, dIx_scr, dList, dRev, dInt, dMax2, dMin2, decide_eq_true_eq, if_true, if_false, Bool.not_true, Bool.not_false, Bool.false_eq_true, reduceIte, Int.reduceLT, Int.reduceLE, Int.reduceEq, Int.reduceNeg, String.reduceEq, decide_true, decide_false, ci0, ci1, ci2, ci3, ci4, ci5, dAt_0, dAt_1, dAt_2, dAt_3, dv2, dv3, dv4, dv5, dv7, dv12, dv60, dv64, fz0, fz1, fz2, fz3, fz4, fz5, fz11, mulOk2, mulOk7, Int.reduceSub, Int.reduceAdd, dCut, repOk13, repOk54, Int.reduceToNat, List.flatten_cons, List.flatten_nil, List.append_nil] <;> rfl)) ⟨_, ed, .lst rs, j', rfl, ?_, ?_⟩))))))
      · unfold Fits; exact ⟨rs, rfl, gl.fits.1⟩
      · unfold bitsS bb; exact gl.fits.2
    | maybe s =>
      unfold Good at g; unfold dpt at h
      obtain ⟨_, em, c, rfl, hc⟩ := many_maybe hmn s N (k + 2)
      rw [enc] at em ⊢
      obtain ⟨d, ed, rs, j', rfl, gl⟩ := L (.tup [.str "maybe", enc s]) "maybe" .un .un (List.replicate c s) (j + 1) (by simp; omega) fun s' hs => by rw [(List.mem_replicate.mp hs).2]; exact ⟨by omega, g⟩
      rw [encs_rep] at ed
      have er := mul_rep (d := enc s) (n := c) (by omega)
      refine fnD_RT (.sq (by simp only [fnD, gNx, gSeq, gSet, gSetO, ownAt, gApp, gRev, gPut, frz, gFrz, gRet, gExpr, gIf, gExc, asL, eVar, eC, eOp, eUn, toB, tB, tAndB, tOrB, tNotB, eAnd, eOr, eNot, eChain, aNil, aCons, eTup, oLst, eO, eCall, oUn, oSl, rNone, rSome, toI, dCut, eLenO, eIxO, sBind_ok, sBind_exc, sBind_stk, Res.bind_ok, Res.bind_exc, Res.bind_stk, SRes.thn_nx, SRes.thn_rt, SRes.thn_exc, SRes.thn_stk, List.map_cons, List.map_nil, List.cons_append, List.nil_append, List.length_cons, List.length_nil, List.replicate_succ, List.replicate_zero, List.getElem?_cons_zero, List.getElem?_cons_succ, List.set_cons_zero, List.set_cons_succ, Nat.zero_add, Nat.reduceAdd, Nat.reduceSub, dAdd, dSub, dMul, dDiv, dMod, dNeg, dCmp, dLt, dLe, dGt, dGe, dEq, dNe, dEq?, dIsN, dNotN, dIsi, isTy, dLen, dIx_lst, dIx_tup, dIx_scr, dList, dRev, dInt, dMax2, dMin2, decide_eq_true_eq, if_true, if_false, Bool.not_true, Bool.not_false, Bool.false_eq_true, reduceIte, Int.reduceLT, Int.reduceLE, Int.reduceEq, Int.reduceNeg, String.reduceEq, decide_true, decide_false, ci0, ci1, ci2, ci3, ci4, ci5, dAt_0, dAt_1, dAt_2, dAt_3, dv2, dv3, dv4, dv5, dv7, dv12, dv60, dv64, fz0, fz1, fz2, fz3, fz4, fz5, fz11, mulOk2, mulOk7, Int.reduceSub, Int.reduceAdd, dCut, repOk13, repOk54, Int.reduceToNat, List.flatten_cons, List.flatten_nil, List.append_nil, hnu, e0] <;> rfl) (.sq (by simp only [fnD, gNx, gSeq, gSet, gSetO, ownAt, gApp, gRev, gPut, frz, gFrz, gRet, gExpr, gIf, gExc, asL, eVar, eC, eOp, eUn, toB, tB, tAndB, tOrB, tNotB, eAnd, eOr, eNot, eChain, aNil, aCons, eTup, oLst, eO, eCall, oUn, oSl, rNone, rSome, toI, dCut, eLenO, eIxO, sBind_ok, sBind_exc, sBind_stk, Res.bind_ok, Res.bind_exc, Res.bind_stk, SRes.thn_nx, SRes.thn_rt, SRes.thn_exc, SRes.thn_stk, List.map_cons, List.map_nil, List.cons_append, List.nil_append, List.length_cons, List.length_nil, List.replicate_succ, List.replicate_zero, List.getElem?_cons_zero, List.getElem?_cons_succ, List.set_cons_zero, List.set_cons_succ, Nat.zero_add, Nat.reduceAdd, Nat.reduceSub, dAdd, dSub, dMul, dDiv, dMod, dNeg, dCmp, dLt, dLe, dGt, dGe, dEq, dNe, dEq?, dIsN, dNotN, dIsi, isTy, dLen, dIx_lst, dIx_tup, dIx_scr, dList, dRev, dInt, dMax2, dMin2, decide_eq_true_eq, if_true, if_false, Bool.not_true, Bool.not_false, Bool.false_eq_true, reduceIte, Int.reduceLT, Int.reduceLE, Int.reduceEq, Int.reduceNeg, String.reduceEq, decide_true, decide_false, ci0, ci1, ci2, ci3, ci4, ci5, dAt_0, dAt_1, dAt_2, dAt_3, dv2, dv3, dv4, dv5, dv7, dv12, dv60, dv64, fz0, fz1, fz2, fz3, fz4, fz5, fz11, mulOk2, mulOk7, Int.reduceSub, Int.reduceAdd, dCut, repOk13, repOk54, Int.reduceToNat, List.flatten_cons, List.flatten_nil, List.append_nil] <;> rfl) (.sq (if_n (by simp only [fnD, gNx, gSeq, gSet, gSetO, ownAt, gApp, gRev, gPut, frz, gFrz, gRet, gExpr, gIf, gExc, asL, eVar, eC, eOp, eUn, toB, tB, tAndB, tOrB, tNotB, eAnd, eOr, eNot, eChain, aNil, aCons, eTup, oLst, eO, eCall, oUn, oSl, rNone, rSome, toI, dCut, eLenO, eIxO, sBind_ok, sBind_exc, sBind_stk, Res.bind_ok, Res.bind_exc, Res.bind_stk, SRes.thn_nx, SRes.thn_rt, SRes.thn_exc, SRes.thn_stk, List.map_cons, List.map_nil, List.cons_append, List.nil_append, List.length_cons, List.length_nil, List.replicate_succ, List.replicate_zero, List.getElem?_cons_zero, List.getElem?_cons_succ, List.set_cons_zero, List.set_cons_succ, Nat.zero_add, Nat.reduceAdd, Nat.reduceSub, dAdd, dSub, dMul, dDiv, dMod, dNeg, dCmp, dLt, dLe, dGt, dGe, dEq, dNe, dEq?, dIsN, dNotN, dIsi, isTy, dLen, dIx_lst, dIx_tup, dIx_scr, dList, dRev, dInt, dMax2, dMin2, decide_eq_true_eq, if_true, if_false, Bool.not_true, Bool.not_false, Bool.false_eq_true, reduceIte, Int.reduceLT, Int.reduceLE, Int.reduceEq, Int.reduceNeg, String.reduceEq, decide_true, decide_false, ci0, ci1, ci2, ci3, ci4, ci5, dAt_0, dAt_1, dAt_2, dAt_3, dv2, dv3, dv4, dv5, dv7, dv12, dv60, dv64, fz0, fz1, fz2, fz3, fz4, fz5, fz11, mulOk2, mulOk7, Int.reduceSub, Int.reduceAdd, dCut, repOk13, repOk54, Int.reduceToNat, List.flatten_cons, List.flatten_nil, List.append_nil])) (.sq (if_n (by simp only [fnD, gNx, gSeq, gSet, gSetO, ownAt, gApp, gRev, gPut, frz, gFrz, gRet, gExpr, gIf, gExc, asL, eVar, eC, eOp, eUn, toB, tB, tAndB, tOrB, tNotB, eAnd, eOr, eNot, eChain, aNil, aCons, eTup, oLst, eO, eCall, oUn, oSl, rNone, rSome, toI, dCut, eLenO, eIxO, sBind_ok, sBind_exc, sBind_stk, Res.bind_ok, Res.bind_exc, Res.bind_stk, SRes.thn_nx, SRes.thn_rt, SRes.thn_exc, SRes.thn_stk, List.map_cons, List.map_nil, List.cons_append, List.nil_append, List.length_cons, List.length_nil, List.replicate_succ, List.replicate_zero, List.getElem?_cons_zero, List.getElem?_cons_succ, List.set_cons_zero, List.set_cons_succ, Nat.zero_add, Nat.reduceAdd, Nat.reduceSub, dAdd, dSub, dMul, dDiv, dMod, dNeg, dCmp, dLt, dLe, dGt, dGe, dEq, dNe, dEq?, dIsN, dNotN, dIsi, isTy, dLen, dIx_lst, dIx_tup, dIx_scr, dList, dRev, dInt, dMax2, dMin2, decide_eq_true_eq, if_true, if_false, Bool.not_true, Bool.not_false, Bool.false_eq_true, reduceIte, Int.reduceLT, Int.reduceLE, Int.reduceEq, Int.reduceNeg, String.reduceEq, decide_true, decide_false, ci0, ci1, ci2, ci3, ci4, ci5, dAt_0, dAt_1, dAt_2, dAt_3, dv2, dv3, dv4, dv5, dv7, dv12, dv60, dv64, fz0, fz1, fz2, fz3, fz4, fz5, fz11, mulOk2, mulOk7, Int.reduceSub, Int.reduceAdd, dCut, repOk13, repOk54, Int.reduceToNat, List.flatten_cons, List.flatten_nil, List.append_nil])) (.sq (if_n (by simp only [fnD, gNx, gSeq, gSet, gSetO, ownAt, gApp, gRev, gPut, frz, gFrz, gRet, gExpr, gIf, gExc, asL, eVar, eC, eOp, eUn, toB, tB, tAndB, tOrB, tNotB, eAnd, eOr, eNot, eChain, aNil, aCons, eTup, oLst, eO, eCall, oUn, oSl, rNone, rSome, toI, dCut, eLenO, eIxO, sBind_ok, sBind_exc, sBind_stk, Res.bind_ok, Res.bind_exc, Res.bind_stk, SRes.thn_nx, SRes.thn_rt, SRes.thn_exc, SRes.thn_stk, List.map_cons, List.map_nil, List.cons_append, List.nil_append, List.length_cons, List.length_nil, List.replicate_succ, List.replicate_zero, List.getElem?_cons_zero, List.getElem?_cons_succ, List.set_cons_zero, List.set_cons_succ, Nat.zero_add, Nat.reduceAdd, Nat.reduceSub, dAdd, dSub, dMul, dDiv, dMod, dNeg, dCmp, dLt, dLe, dGt, dGe, dEq, dNe, dEq?, dIsN, dNotN, dIsi, isTy, dLen, dIx_lst, dIx_tup, dIx_scr, dList, dRev, dInt, dMax2, dMin2, decide_eq_true_eq, if_true, if_false, Bool.not_true, Bool.not_false, Bool.false_eq_true, reduceIte, Int.reduceLT, Int.reduceLE, Int.reduceEq, Int.reduceNeg, String.reduceEq, decide_true, decide_false, ci0, ci1, ci2, ci3, ci4, ci5, dAt_0, dAt_1, dAt_2, dAt_3, dv2, dv3, dv4, dv5, dv7, dv12, dv60, dv64, fz0, fz1, fz2, fz3, fz4, fz5, fz11, mulOk2, mulOk7, Int.reduceSub, Int.reduceAdd, dCut, repOk13, repOk54, Int.reduceToNat, List.flatten_cons, List.flatten_nil, List.append_nil])) (.sq ((if_f (by simp only [fnD, gNx, gSeq, gSet, gSetO, ownAt, gApp, gRev, gPut, frz, gFrz, gRet, gExpr, gIf, gExc, asL, eVar, eC, eOp, eUn, toB, tB, tAndB, tOrB, tNotB, eAnd, eOr, eNot, eChain, aNil, aCons, eTup, oLst, eO, eCall, oUn, oSl, rNone, rSome, toI, dCut, eLenO, eIxO, sBind_ok, sBind_exc, sBind_stk, Res.bind_ok, Res.bind_exc, Res.bind_stk, SRes.thn_nx, SRes.thn_rt, SRes.thn_exc, SRes.thn_stk, List.map_cons, List.map_nil, List.cons_append, List.nil_append, List.length_cons, List.length_nil, List.replicate_succ, List.replicate_zero, List.getElem?_cons_zero, List.getElem?_cons_succ, List.set_cons_zero, List.set_cons_succ, Nat.zero_add, Nat.reduceAdd, Nat.reduceSub, dAdd, dSub, dMul, dDiv, dMod, dNeg, dCmp, dLt, dLe, dGt, dGe, dEq, dNe, dEq?, dIsN, dNotN, dIsi, isTy, dLen, dIx_lst, dIx_tup, dIx_scr, dList, dRev, dInt, dMax2, dMin2, decide_eq_true_eq, if_true, if_false, Bool.not_true, Bool.not_false, Bool.false_eq_true, reduceIte, Int.reduceLT, Int.reduceLE, Int.reduceEq, Int.reduceNeg, String.reduceEq, decide_true, decide_false, ci0, ci1, ci2, ci3, ci4, ci5, dAt_0, dAt_1, dAt_2, dAt_3, dv2, dv3, dv4, dv5, dv7, dv12, dv60, dv64, fz0, fz1, fz2, fz3, fz4, fz5, fz11, mulOk2, mulOk7, Int.reduceSub, Int.reduceAdd, dCut, repOk13, repOk54, Int.reduceToNat, List.flatten_cons, List.flatten_nil, List.append_nil])).trans (seq_nx (set_ok ?_) (by simp only [fnD, gNx, gSeq, gSet, gSetO, ownAt, gApp, gRev, gPut, frz, gFrz, gRet, gExpr, gIf, gExc, asL, eVar, eC, eOp, eUn, toB, tB, tAndB, tOrB, tNotB, eAnd, eOr, eNot, eChain, aNil, aCons, eTup, oLst, eO, eCall, oUn, oSl, rNone, rSome, toI, dCut, eLenO, eIxO, sBind_ok, sBind_exc, sBind_stk, Res.bind_ok, Res.bind_exc, Res.bind_stk, SRes.thn_nx, SRes.thn_rt, SRes.thn_exc, SRes.thn_stk, List.map_cons, List.map_nil, List.cons_append, List.nil_append, List.length_cons, List.length_nil, List.replicate_succ, List.replicate_zero, List.getElem?_cons_zero, List.getElem?_cons_succ, List.set_cons_zero, List.set_cons_succ, Nat.zero_add, Nat.reduceAdd, Nat.reduceSub, dAdd, dSub, dMul, dDiv, dMod, dNeg, dCmp, dLt, dLe, dGt, dGe, dEq, dNe, dEq?, dIsN, dNotN, dIsi, isTy, dLen, dIx_lst, dIx_tup, dIx_scr, dList, dRev, dInt, dMax2, dMin2, decide_eq_true_eq, if_true, if_false, Bool.not_true, Bool.not_false, Bool.false_eq_true, reduceIte, Int.reduceLT, Int.reduceLE, Int.reduceEq, Int.reduceNeg, String.reduceEq, decide_true, decide_false, ci0, ci1, ci2, ci3, ci4, ci5, dAt_0, dAt_1, dAt_2, dAt_3, dv2, dv3, dv4, dv5, dv7, dv12, dv60, dv64, fz0, fz1, fz2, fz3, fz4, fz5, fz11, mulOk2, mulOk7, Int.reduceSub, Int.reduceAdd, dCut, repOk13, repOk54, Int.reduceToNat, List.flatten_cons, List.flatten_nil, List.append_nil] <;> rfl))) ⟨_, ed, .lst rs, j', rfl, ?_, ?_⟩))))))
      · simp only [eOp, eO, oLst, aCons, aNil, eC, eUn, eCall, eVar, Res.bind_ok, List.getElem?_cons_zero, List.getElem?_cons_succ, List.length_cons, List.length_nil, Nat.zero_add, Nat.reduceAdd, fz1, fz2, ci2, if_true, dSub, Int.reduceSub, dIx_tup, dAt_1, dLen, em, er]
      · obtain ⟨a, b⟩ := gl.rep
        unfold Fits; exact ⟨rs, rfl, by omega, fun r hr => (b r hr).1⟩
      · obtain ⟨a, b⟩ := gl.rep
        unfold bitsS bb
        have f := flat_le (B := bitsS s) (x := bb s) (rs := rs) fun r hr => by have := (b r hr).2; omega
        have f2 : (rs.length : Int) * bb s ≤ 1 * bb s := Int.mul_le_mul_of_nonneg_right (by omega) (by omega)
        simp only [List.length_cons]
        omega
    | rows w s =>
      unfold Good at g; unfold dpt at h
      obtain ⟨_, em, c, rfl, hc⟩ := many_rows hrm hwd hmn (n := n) (w := w) (s := s) (by omega) g.2 g.1 (by omega) N (k + 1) (by omega)
      rw [enc] at em ⊢
      unfold CntOk at hc
      have h256 : c < 256 := Nat.lt_of_lt_of_le hc.1 (Nat.pow_le_pow_right (by omega) g.1)
      obtain ⟨d, ed, rs, j', rfl, gl⟩ := L (.tup [.str "rows", .int w, enc s]) "rows" .un .un (List.replicate c s) (j + 1) (by simp; omega) fun s' hs => by rw [(List.mem_replicate.mp hs).2]; exact ⟨by omega, g.2⟩
      rw [encs_rep] at ed
      have er := mul_rep (d := enc s) (n := c) (by omega)
      refine fnD_RT (.sq (by simp only [fnD, gNx, gSeq, gSet, gSetO, ownAt, gApp, gRev, gPut, frz, gFrz, gRet, gExpr, gIf, gExc, asL, eVar, eC, eOp, eUn, toB, tB, tAndB, tOrB, tNotB, eAnd, eOr, eNot, eChain, aNil, aCons, eTup, oLst, eO, eCall, oUn, oSl, rNone, rSome, toI, dCut, eLenO, eIxO, sBind_ok, sBind_exc, sBind_stk, Res.bind_ok, Res.bind_exc, Res.bind_stk, SRes.thn_nx, SRes.thn_rt, SRes.thn_exc, SRes.thn_stk, List.map_cons, List.map_nil, List.cons_append, List.nil_append, List.length_cons, List.length_nil, List.replicate_succ, List.replicate_zero, List.getElem?_cons_zero, List.getElem?_cons_succ, List.set_cons_zero, List.set_cons_succ, Nat.zero_add, Nat.reduceAdd, Nat.reduceSub, dAdd, dSub, dMul, dDiv, dMod, dNeg, dCmp, dLt, dLe, dGt, dGe, dEq, dNe, dEq?, dIsN, dNotN, dIsi, isTy, dLen, dIx_lst, dIx_tup, dIx_scr, dList, dRev, dInt, dMax2, dMin2, decide_eq_true_eq, if_true, if_false, Bool.not_true, Bool.not_false, Bool.false_eq_true, reduceIte, Int.reduceLT, Int.reduceLE, Int.reduceEq, Int.reduceNeg, String.reduceEq, decide_true, decide_false, ci0, ci1, ci2, ci3, ci4, ci5, dAt_0, dAt_1, dAt_2, dAt_3, dv2, dv3, dv4, dv5, dv7, dv12, dv60, dv64, fz0, fz1, fz2, fz3, fz4, fz5, fz11, mulOk2, mulOk7, Int.reduceSub, Int.reduceAdd, dCut, repOk13, repOk54, Int.reduceToNat, List.flatten_cons, List.flatten_nil, List.append_nil, hnu, e0] <;> rfl) (.sq (by simp only [fnD, gNx, gSeq, gSet, gSetO, ownAt, gApp, gRev, gPut, frz, gFrz, gRet, gExpr, gIf, gExc, asL, eVar, eC, eOp, eUn, toB, tB, tAndB, tOrB, tNotB, eAnd, eOr, eNot, eChain, aNil, aCons, eTup, oLst, eO, eCall, oUn, oSl, rNone, rSome, toI, dCut, eLenO, eIxO, sBind_ok, sBind_exc, sBind_stk, Res.bind_ok, Res.bind_exc, Res.bind_stk, SRes.thn_nx, SRes.thn_rt, SRes.thn_exc, SRes.thn_stk, List.map_cons, List.map_nil, List.cons_append, List.nil_append, List.length_cons, List.length_nil, List.replicate_succ, List.replicate_zero, List.getElem?_cons_zero, List.getElem?_cons_succ, List.set_cons_zero, List.set_cons_succ, Nat.zero_add, Nat.reduceAdd, Nat.reduceSub, dAdd, dSub, dMul, dDiv, dMod, dNeg, dCmp, dLt, dLe, dGt, dGe, dEq, dNe, dEq?, dIsN, dNotN, dIsi, isTy, dLen, dIx_lst, dIx_tup, dIx_scr, dList, dRev, dInt, dMax2, dMin2, decide_eq_true_eq, if_true, if_false, Bool.not_true, Bool.not_false, Bool.false_eq_true, reduceIte, Int.reduceLT, Int.reduceLE, Int.reduceEq, Int.reduceNeg, String.reduceEq, decide_true, decide_false, ci0, ci1, ci2, ci3, ci4, ci5, dAt_0, dAt_1, dAt_2, dAt_3, dv2, dv3, dv4, dv5, dv7, dv12, dv60, dv64, fz0, fz1, fz2, fz3, fz4, fz5, fz11, mulOk2, mulOk7, Int.reduceSub, Int.reduceAdd, dCut, repOk13, repOk54, Int.reduceToNat, List.flatten_cons, List.flatten_nil, List.append_nil] <;> rfl) (.sq (if_n (by simp only [fnD, gNx, gSeq, gSet, gSetO, ownAt, gApp, gRev, gPut, frz, gFrz, gRet, gExpr, gIf, gExc, asL, eVar, eC, eOp, eUn, toB, tB, tAndB, tOrB, tNotB, eAnd, eOr, eNot, eChain, aNil, aCons, eTup, oLst, eO, eCall, oUn, oSl, rNone, rSome, toI, dCut, eLenO, eIxO, sBind_ok, sBind_exc, sBind_stk, Res.bind_ok, Res.bind_exc, Res.bind_stk, SRes.thn_nx, SRes.thn_rt, SRes.thn_exc, SRes.thn_stk, List.map_cons, List.map_nil, List.cons_append, List.nil_append, List.length_cons, List.length_nil, List.replicate_succ, List.replicate_zero, List.getElem?_cons_zero, List.getElem?_cons_succ, List.set_cons_zero, List.set_cons_succ, Nat.zero_add, Nat.reduceAdd, Nat.reduceSub, dAdd, dSub, dMul, dDiv, dMod, dNeg, dCmp, dLt, dLe, dGt, dGe, dEq, dNe, dEq?, dIsN, dNotN, dIsi, isTy, dLen, dIx_lst, dIx_tup, dIx_scr, dList, dRev, dInt, dMax2, dMin2, decide_eq_true_eq, if_true, if_false, Bool.not_true, Bool.not_false, Bool.false_eq_true, reduceIte, Int.reduceLT, Int.reduceLE, Int.reduceEq, Int.reduceNeg, String.reduceEq, decide_true, decide_false, ci0, ci1, ci2, ci3, ci4, ci5, dAt_0, dAt_1, dAt_2, dAt_3, dv2, dv3, dv4, dv5, dv7, dv12, dv60, dv64, fz0, fz1, fz2, fz3, fz4, fz5, fz11, mulOk2, mulOk7, Int.reduceSub, Int.reduceAdd, dCut, repOk13, repOk54, Int.reduceToNat, List.flatten_cons, List.flatten_nil, List.append_nil])) (.sq (if_n (by simp only [fnD, gNx, gSeq, gSet, gSetO, ownAt, gApp, gRev, gPut, frz, gFrz, gRet, gExpr, gIf, gExc, asL, eVar, eC, eOp, eUn, toB, tB, tAndB, tOrB, tNotB, eAnd, eOr, eNot, eChain, aNil, aCons, eTup, oLst, eO, eCall, oUn, oSl, rNone, rSome, toI, dCut, eLenO, eIxO, sBind_ok, sBind_exc, sBind_stk, Res.bind_ok, Res.bind_exc, Res.bind_stk, SRes.thn_nx, SRes.thn_rt, SRes.thn_exc, SRes.thn_stk, List.map_cons, List.map_nil, List.cons_append, List.nil_append, List.length_cons, List.length_nil, List.replicate_succ, List.replicate_zero, List.getElem?_cons_zero, List.getElem?_cons_succ, List.set_cons_zero, List.set_cons_succ, Nat.zero_add, Nat.reduceAdd, Nat.reduceSub, dAdd, dSub, dMul, dDiv, dMod, dNeg, dCmp, dLt, dLe, dGt, dGe, dEq, dNe, dEq?, dIsN, dNotN, dIsi, isTy, dLen, dIx_lst, dIx_tup, dIx_scr, dList, dRev, dInt, dMax2, dMin2, decide_eq_true_eq, if_true, if_false, Bool.not_true, Bool.not_false, Bool.false_eq_true, reduceIte, Int.reduceLT, Int.reduceLE, Int.reduceEq, Int.reduceNeg, String.reduceEq, decide_true, decide_false, ci0, ci1, ci2, ci3, ci4, ci5, dAt_0, dAt_1, dAt_2, dAt_3, dv2, dv3, dv4, dv5, dv7, dv12, dv60, dv64, fz0, fz1, fz2, fz3, fz4, fz5, fz11, mulOk2, mulOk7, Int.reduceSub, Int.reduceAdd, dCut, repOk13, repOk54, Int.reduceToNat, List.flatten_cons, List.flatten_nil, List.append_nil])) (.sq (if_n (by simp only [fnD, gNx, gSeq, gSet, gSetO, ownAt, gApp, gRev, gPut, frz, gFrz, gRet, gExpr, gIf, gExc, asL, eVar, eC, eOp, eUn, toB, tB, tAndB, tOrB, tNotB, eAnd, eOr, eNot, eChain, aNil, aCons, eTup, oLst, eO, eCall, oUn, oSl, rNone, rSome, toI, dCut, eLenO, eIxO, sBind_ok, sBind_exc, sBind_stk, Res.bind_ok, Res.bind_exc, Res.bind_stk, SRes.thn_nx, SRes.thn_rt, SRes.thn_exc, SRes.thn_stk, List.map_cons, List.map_nil, List.cons_append, List.nil_append, List.length_cons, List.length_nil, List.replicate_succ, List.replicate_zero, List.getElem?_cons_zero, List.getElem?_cons_succ, List.set_cons_zero, List.set_cons_succ, Nat.zero_add, Nat.reduceAdd, Nat.reduceSub, dAdd, dSub, dMul, dDiv, dMod, dNeg, dCmp, dLt, dLe, dGt, dGe, dEq, dNe, dEq?, dIsN, dNotN, dIsi, isTy, dLen, dIx_lst, dIx_tup, dIx_scr, dList, dRev, dInt, dMax2, dMin2, decide_eq_true_eq, if_true, if_false, Bool.not_true, Bool.not_false, Bool.false_eq_true, reduceIte, Int.reduceLT, Int.reduceLE, Int.reduceEq, Int.reduceNeg, String.reduceEq, decide_true, decide_false, ci0, ci1, ci2, ci3, ci4, ci5, dAt_0, dAt_1, dAt_2, dAt_3, dv2, dv3, dv4, dv5, dv7, dv12, dv60, dv64, fz0, fz1, fz2, fz3, fz4, fz5, fz11, mulOk2, mulOk7, Int.reduceSub, Int.reduceAdd, dCut, repOk13, repOk54, Int.reduceToNat, List.flatten_cons, List.flatten_nil, List.append_nil])) (.sq ((if_f (by simp only [fnD, gNx, gSeq, gSet, gSetO, ownAt, gApp, gRev, gPut, frz, gFrz, gRet, gExpr, gIf, gExc, asL, eVar, eC, eOp, eUn, toB, tB, tAndB, tOrB, tNotB, eAnd, eOr, eNot, eChain, aNil, aCons, eTup, oLst, eO, eCall, oUn, oSl, rNone, rSome, toI, dCut, eLenO, eIxO, sBind_ok, sBind_exc, sBind_stk, Res.bind_ok, Res.bind_exc, Res.bind_stk, SRes.thn_nx, SRes.thn_rt, SRes.thn_exc, SRes.thn_stk, List.map_cons, List.map_nil, List.cons_append, List.nil_append, List.length_cons, List.length_nil, List.replicate_succ, List.replicate_zero, List.getElem?_cons_zero, List.getElem?_cons_succ, List.set_cons_zero, List.set_cons_succ, Nat.zero_add, Nat.reduceAdd, Nat.reduceSub, dAdd, dSub, dMul, dDiv, dMod, dNeg, dCmp, dLt, dLe, dGt, dGe, dEq, dNe, dEq?, dIsN, dNotN, dIsi, isTy, dLen, dIx_lst, dIx_tup, dIx_scr, dList, dRev, dInt, dMax2, dMin2, decide_eq_true_eq, if_true, if_false, Bool.not_true, Bool.not_false, Bool.false_eq_true, reduceIte, Int.reduceLT, Int.reduceLE, Int.reduceEq, Int.reduceNeg, String.reduceEq, decide_true, decide_false, ci0, ci1, ci2, ci3, ci4, ci5, dAt_0, dAt_1, dAt_2, dAt_3, dv2, dv3, dv4, dv5, dv7, dv12, dv60, dv64, fz0, fz1, fz2, fz3, fz4, fz5, fz11, mulOk2, mulOk7, Int.reduceSub, Int.reduceAdd, dCut, repOk13, repOk54, Int.reduceToNat, List.flatten_cons, List.flatten_nil, List.append_nil])).trans (seq_nx (set_ok ?_) (by simp only [fnD, gNx, gSeq, gSet, gSetO, ownAt, gApp, gRev, gPut, frz, gFrz, gRet, gExpr, gIf, gExc, asL, eVar, eC, eOp, eUn, toB, tB, tAndB, tOrB, tNotB, eAnd, eOr, eNot, eChain, aNil, aCons, eTup, oLst, eO, eCall, oUn, oSl, rNone, rSome, toI, dCut, eLenO, eIxO, sBind_ok, sBind_exc, sBind_stk, Res.bind_ok, Res.bind_exc, Res.bind_stk, SRes.thn_nx, SRes.thn_rt, SRes.thn_exc, SRes.thn_stk, List.map_cons, List.map_nil, List.cons_append, List.nil_append, List.length_cons, List.length_nil, List.replicate_succ, List.replicate_zero, List.getElem?_cons_zero, List.getElem?_cons_succ, List.set_cons_zero, List.set_cons_succ, Nat.zero_add, Nat.reduceAdd, Nat.reduceSub, dAdd, dSub, dMul, dDiv, dMod, dNeg, dCmp, dLt, dLe, dGt, dGe, dEq, dNe, dEq?, dIsN, dNotN, dIsi, isTy, dLen, dIx_lst, dIx_tup, dIx_scr, dList, dRev, dInt, dMax2, dMin2, decide_eq_true_eq, if_true, if_false, Bool.not_true, Bool.not_false, Bool.false_eq_true, reduceIte, Int.reduceLT, Int.reduceLE, Int.reduceEq, Int.reduceNeg, String.reduceEq, decide_true, decide_false, ci0, ci1, ci2, ci3, ci4, ci5, dAt_0, dAt_1, dAt_2, dAt_3, dv2, dv3, dv4, dv5, dv7, dv12, dv60, dv64, fz0, fz1, fz2, fz3, fz4, fz5, fz11, mulOk2, mulOk7, Int.reduceSub, Int.reduceAdd, dCut, repOk13, repOk54, Int.reduceToNat, List.flatten_cons, List.flatten_nil, List.append_nil] <;> rfl))) ⟨_, ed, .lst rs, j', rfl, ?_, ?_⟩))))))
      · simp only [eOp, eO, oLst, aCons, aNil, eC, eUn, eCall, eVar, Res.bind_ok, List.getElem?_cons_zero, List.getElem?_cons_succ, List.length_cons, List.length_nil, Nat.zero_add, Nat.reduceAdd, fz1, fz2, ci3, if_true, dSub, Int.reduceSub, dIx_tup, dAt_2, dLen, em, er]
      · obtain ⟨a, b⟩ := gl.rep
        unfold Fits; exact ⟨rs, rfl, by rw [a]; exact hc.1, fun r hr => (b r hr).1⟩
      · obtain ⟨a, b⟩ := gl.rep
        unfold bitsS bb
        simp only [List.length_append, wr_len]
        rcases hc.2 with z | z
        · have f := flat_le (B := bitsS s) (x := bb s) (rs := rs) fun r hr => by have := (b r hr).2; omega
          have f2 : (rs.length : Int) * bb s ≤ 2 * bb s := Int.mul_le_mul_of_nonneg_right (by omega) (by omega)
          omega
        · have f := flat_le (B := bitsS s) (x := wid s) (rs := rs) fun r hr => bits_le_wid n s r (by omega) g.2 (b r hr).1
          rw [a] at f
          omega
end
end Pu

namespace Pu
open PySem L2
theorem okDs_all : ∀ {ds : List D}, (∀ d ∈ ds, okD d = true) → okDs ds = true
  | [], _ => by unfold okDs; rfl
  | d :: ds, h => by
    unfold okDs
    rw [h d List.mem_cons_self, okDs_all fun d hd => h d (List.mem_cons_of_mem _ hd)]
    rfl
theorem deps_all {n : Nat} : ∀ {ds : List D}, (∀ d ∈ ds, dep d ≤ n) → deps ds ≤ n
  | [], _ => by unfold deps; omega
  | d :: ds, h => by
    have a := h d List.mem_cons_self
    have b := deps_all fun d hd => h d (List.mem_cons_of_mem _ hd)
    unfold deps; omega
theorem okD_lst {ds : List D} (hl : ds.length ≤ 16777216) (h : ∀ d ∈ ds, okD d = true) : okD (.lst ds) = true := by
  unfold okD
  rw [fits_le hl, okDs_all h]; rfl
theorem okD_tup {ds : List D} (hl : ds.length ≤ 16777216) (h : ∀ d ∈ ds, okD d = true) : okD (.tup ds) = true := by
  unfold okD
  rw [fits_le hl, okDs_all h]; rfl
theorem okD_tup2 {a b : D} (h1 : okD a = true) (h2 : okD b = true) : okD (.tup [a, b]) = true := okD_tup (by simp) fun d hd => by
  simp only [List.mem_cons, List.not_mem_nil, or_false] at hd
  rcases hd with rfl | rfl <;> assumption
theorem okD_tup3 {a b c : D} (h1 : okD a = true) (h2 : okD b = true) (h3 : okD c = true) : okD (.tup [a, b, c]) = true := okD_tup (by simp) fun d hd => by
  simp only [List.mem_cons, List.not_mem_nil, or_false] at hd
  rcases hd with rfl | rfl | rfl <;> assumption
theorem mem_encs {d : D} : ∀ {ss : List Sh}, d ∈ encs ss → ∃ s ∈ ss, d = enc s
  | [], h => by unfold encs at h; cases h
  | t :: ss, h => by
    unfold encs at h
    rcases List.mem_cons.mp h with rfl | h
    · exact ⟨t, List.mem_cons_self, rfl⟩
    · obtain ⟨s, a, b⟩ := mem_encs h
      exact ⟨s, List.mem_cons_of_mem _ a, b⟩
theorem okD_int (n : Int) : okD (.int n) = true := by unfold okD; rfl
theorem okD_str (n : String) : okD (.str n) = true := by unfold okD; rfl
/-- shapes as data -/
theorem enc_ok : ∀ (n : Nat) (s : Sh), dpt s ≤ n → Good s → okD (enc s) = true ∧ dep (enc s) ≤ 2 * n
  | 0, s, h, _ => by have := dpt_pos s; omega
  | n + 1, s, h, g => by
    cases s with
    | num w lo hi =>
      rw [enc]
      refine ⟨okD_tup (by simp) fun d hd => ?_, ?_⟩
      · simp only [List.mem_cons, List.not_mem_nil, or_false] at hd
        rcases hd with rfl | rfl | rfl | rfl <;> (unfold okD; rfl)
      · simp only [dep, deps]; omega
    | pad w =>
      rw [enc]
      exact ⟨okD_tup2 (okD_str _) (okD_int _), by simp only [dep, deps]; omega⟩
    | maybe s =>
      unfold Good at g; unfold dpt at h
      obtain ⟨a, b⟩ := enc_ok n s (by omega) g
      rw [enc]
      exact ⟨okD_tup2 (okD_str _) a, by simp only [dep, deps]; omega⟩
    | rows w s =>
      unfold Good at g; unfold dpt at h
      obtain ⟨a, b⟩ := enc_ok n s (by omega) g.2
      rw [enc]
      exact ⟨okD_tup3 (okD_str _) (okD_int _) a, by simp only [dep, deps]; omega⟩
    | group ss =>
      unfold Good at g; unfold dpt at h
      have a : ∀ d ∈ encs ss, okD d = true ∧ dep d ≤ 2 * n := fun d hd => by
        obtain ⟨s, hs, rfl⟩ := mem_encs hd
        exact enc_ok n s (by have := dpts_mem hs; omega) (g.2.mem hs)
      have b := deps_all fun d hd => (a d hd).2
      rw [enc]
      exact ⟨okD_tup2 (okD_str _) (okD_lst (by rw [encs_len]; omega) fun d hd => (a d hd).1), by simp only [dep, deps]; omega⟩
    | one w ss =>
      unfold Good at g; unfold dpt at h
      have a : ∀ d ∈ encs ss, okD d = true ∧ dep d ≤ 2 * n := fun d hd => by
        obtain ⟨s, hs, rfl⟩ := mem_encs hd
        exact enc_ok n s (by have := dpts_mem hs; omega) (g.2.2.2.2.mem hs)
      have b := deps_all fun d hd => (a d hd).2
      rw [enc]
      exact ⟨okD_tup3 (okD_str _) (okD_int _) (okD_lst (by rw [encs_len]; omega) fun d hd => (a d hd).1), by simp only [dep, deps]; omega⟩
theorem fitsL_mem : ∀ {ss : List Sh} {rs : List D} {r : D}, FitsL ss rs → r ∈ rs → ∃ s ∈ ss, Fits s r
  | [], rs, r, h, hr => by unfold FitsL at h; subst h; cases hr
  | s :: ss, rs, r, h, hr => by
    unfold FitsL at h
    obtain ⟨r', t, rfl, h1, h2⟩ := h
    rcases List.mem_cons.mp hr with rfl | hr
    · exact ⟨s, List.mem_cons_self, h1⟩
    · obtain ⟨s', a, b⟩ := fitsL_mem h2 hr
      exact ⟨s', List.mem_cons_of_mem _ a, b⟩
/-- records as data -/
theorem rec_ok : ∀ (n : Nat) (s : Sh) (r : D), dpt s ≤ n → Good s → Fits s r → okD r = true ∧ dep r ≤ 2 * n
  | 0, s, _, h, _, _ => by have := dpt_pos s; omega
  | n + 1, s, r, h, g, f => by
    cases s with
    | num w lo hi =>
      unfold Fits at f
      obtain ⟨m, rfl, h1, h2⟩ := f
      exact ⟨okD_int _, by simp only [dep]; omega⟩
    | pad w =>
      unfold Fits at f
      subst f
      exact ⟨by unfold okD; rfl, by simp only [dep]; omega⟩
    | maybe s =>
      unfold Fits at f
      obtain ⟨rs, rfl, h1, h2⟩ := f
      unfold Good at g; unfold dpt at h
      have a : ∀ d ∈ rs, okD d = true ∧ dep d ≤ 2 * n := fun d hd => rec_ok n s d (by omega) g (h2 d hd)
      have b := deps_all fun d hd => (a d hd).2
      exact ⟨okD_lst (by omega) fun d hd => (a d hd).1, by simp only [dep]; omega⟩
    | rows w s =>
      unfold Fits at f
      obtain ⟨rs, rfl, h1, h2⟩ := f
      unfold Good at g; unfold dpt at h
      have a : ∀ d ∈ rs, okD d = true ∧ dep d ≤ 2 * n := fun d hd => rec_ok n s d (by omega) g.2 (h2 d hd)
      have b := deps_all fun d hd => (a d hd).2
      have c : rs.length < 256 := Nat.lt_of_lt_of_le h1 (Nat.pow_le_pow_right (by omega) g.1)
      exact ⟨okD_lst (by omega) fun d hd => (a d hd).1, by simp only [dep]; omega⟩
    | group ss =>
      unfold Fits at f
      obtain ⟨rs, rfl, f⟩ := f
      unfold Good at g; unfold dpt at h
      have a : ∀ d ∈ rs, okD d = true ∧ dep d ≤ 2 * n := fun d hd => by
        obtain ⟨s, hs, hf⟩ := fitsL_mem f hd
        exact rec_ok n s d (by have := dpts_mem hs; omega) (g.2.mem hs) hf
      have b := deps_all fun d hd => (a d hd).2
      exact ⟨okD_lst (by rw [f.len]; omega) fun d hd => (a d hd).1, by simp only [dep]; omega⟩
    | one w ss =>
      unfold Fits at f
      obtain ⟨p, r, rfl, f⟩ := f
      obtain ⟨s, hs, f⟩ := f.get
      unfold Good at g; unfold dpt at h
      have hm := List.mem_of_getElem? hs
      obtain ⟨a, b⟩ := rec_ok n s r (by have := dpts_mem hm; omega) (g.2.2.2.2.mem hm) f
      exact ⟨okD_tup2 (okD_int _) a, by simp only [dep, deps]; omega⟩
theorem flat01 {B : D → List Int} : ∀ {rs : List D}, (∀ r ∈ rs, Bts01 (B r)) → Bts01 (rs.map B).flatten
  | [], _ => Bts01.nil
  | r :: rs, h => by
    rw [List.map_cons, List.flatten_cons]
    exact (h r List.mem_cons_self).app (flat01 fun r hr => h r (List.mem_cons_of_mem _ hr))
theorem bitsL01 : ∀ {ss : List Sh} {rs : List D}, FitsL ss rs → (∀ s ∈ ss, ∀ r, Fits s r → Bts01 (bitsS s r)) → Bts01 (bitsL ss rs)
  | [], rs, _, _ => by unfold bitsL; exact Bts01.nil
  | s :: ss, rs, h, q => by
    unfold FitsL at h
    obtain ⟨r, t, rfl, h1, h2⟩ := h
    unfold bitsL
    exact (q s List.mem_cons_self r h1).app (bitsL01 h2 fun s hs r hr => q s (List.mem_cons_of_mem _ hs) r hr)
theorem bits01 : ∀ (n : Nat) (s : Sh) (r : D), dpt s ≤ n → Fits s r → Bts01 (bitsS s r)
  | 0, s, _, h, _ => by have := dpt_pos s; omega
  | n + 1, s, r, h, f => by
    cases s with
    | num w lo hi =>
      unfold Fits at f
      obtain ⟨m, rfl, h1, h2⟩ := f
      unfold bitsS; exact wr_01 _ _
    | pad w => unfold bitsS; exact wr_01 _ _
    | maybe s =>
      unfold Fits at f
      obtain ⟨rs, rfl, h1, h2⟩ := f
      unfold dpt at h
      unfold bitsS
      intro b hb
      rcases List.mem_cons.mp hb with rfl | hb
      · omega
      · exact flat01 (fun r hr => bits01 n s r (by omega) (h2 r hr)) b hb
    | rows w s =>
      unfold Fits at f
      obtain ⟨rs, rfl, h1, h2⟩ := f
      unfold dpt at h
      unfold bitsS
      exact (wr_01 _ _).app (flat01 fun r hr => bits01 n s r (by omega) (h2 r hr))
    | group ss =>
      unfold Fits at f
      obtain ⟨rs, rfl, f⟩ := f
      unfold dpt at h
      unfold bitsS
      exact bitsL01 f fun s hs r hr => bits01 n s r (by have := dpts_mem hs; omega) hr
    | one w ss =>
      unfold Fits at f
      obtain ⟨p, r, rfl, f⟩ := f
      obtain ⟨s, hs, f⟩ := f.get
      unfold dpt at h
      have hm := List.mem_of_getElem? hs
      unfold bitsS
      simp only [Int.toNat_natCast, bitsA_get r hs]
      exact (wr_01 _ _).app (bits01 n s r (by have := dpts_mem hm; omega) f)
theorem packed_eq {pf pb : List D → Res D} {e r b : D} (h1 : pf [e, r] = .ok (.bl true)) (h2 : pb [e, r] = .ok b) : S_packed pf pb [e, r] = .ok b := by
  refine fnD_rt (seq_nx (if_n (by simp only [fnD, gNx, gSeq, gSet, gSetO, ownAt, gApp, gRev, gPut, frz, gFrz, gRet, gExpr, gIf, gExc, asL, eVar, eC, eOp, eUn, toB, tB, tAndB, tOrB, tNotB, eAnd, eOr, eNot, eChain, aNil, aCons, eTup, oLst, eO, eCall, oUn, oSl, rNone, rSome, toI, dCut, eLenO, eIxO, sBind_ok, sBind_exc, sBind_stk, Res.bind_ok, Res.bind_exc, Res.bind_stk, SRes.thn_nx, SRes.thn_rt, SRes.thn_exc, SRes.thn_stk, List.map_cons, List.map_nil, List.cons_append, List.nil_append, List.length_cons, List.length_nil, List.replicate_succ, List.replicate_zero, List.getElem?_cons_zero, List.getElem?_cons_succ, List.set_cons_zero, List.set_cons_succ, Nat.zero_add, Nat.reduceAdd, Nat.reduceSub, dAdd, dSub, dMul, dDiv, dMod, dNeg, dCmp, dLt, dLe, dGt, dGe, dEq, dNe, dEq?, dIsN, dNotN, dIsi, isTy, dLen, dIx_lst, dIx_tup, dIx_scr, dList, dRev, dInt, dMax2, dMin2, decide_eq_true_eq, if_true, if_false, Bool.not_true, Bool.not_false, Bool.false_eq_true, reduceIte, Int.reduceLT, Int.reduceLE, Int.reduceEq, Int.reduceNeg, String.reduceEq, decide_true, decide_false, ci0, ci1, ci2, ci3, ci4, ci5, dAt_0, dAt_1, dAt_2, dAt_3, dv2, dv3, dv4, dv5, dv7, dv12, dv60, dv64, fz0, fz1, fz2, fz3, fz4, fz5, fz11, mulOk2, mulOk7, Int.reduceSub, Int.reduceAdd, dCut, repOk13, repOk54, Int.reduceToNat, List.flatten_cons, List.flatten_nil, List.append_nil, h1])) ?_)
  simp only [fnD, gNx, gSeq, gSet, gSetO, ownAt, gApp, gRev, gPut, frz, gFrz, gRet, gExpr, gIf, gExc, asL, eVar, eC, eOp, eUn, toB, tB, tAndB, tOrB, tNotB, eAnd, eOr, eNot, eChain, aNil, aCons, eTup, oLst, eO, eCall, oUn, oSl, rNone, rSome, toI, dCut, eLenO, eIxO, sBind_ok, sBind_exc, sBind_stk, Res.bind_ok, Res.bind_exc, Res.bind_stk, SRes.thn_nx, SRes.thn_rt, SRes.thn_exc, SRes.thn_stk, List.map_cons, List.map_nil, List.cons_append, List.nil_append, List.length_cons, List.length_nil, List.replicate_succ, List.replicate_zero, List.getElem?_cons_zero, List.getElem?_cons_succ, List.set_cons_zero, List.set_cons_succ, Nat.zero_add, Nat.reduceAdd, Nat.reduceSub, dAdd, dSub, dMul, dDiv, dMod, dNeg, dCmp, dLt, dLe, dGt, dGe, dEq, dNe, dEq?, dIsN, dNotN, dIsi, isTy, dLen, dIx_lst, dIx_tup, dIx_scr, dList, dRev, dInt, dMax2, dMin2, decide_eq_true_eq, if_true, if_false, Bool.not_true, Bool.not_false, Bool.false_eq_true, reduceIte, Int.reduceLT, Int.reduceLE, Int.reduceEq, Int.reduceNeg, String.reduceEq, decide_true, decide_false, ci0, ci1, ci2, ci3, ci4, ci5, dAt_0, dAt_1, dAt_2, dAt_3, dv2, dv3, dv4, dv5, dv7, dv12, dv60, dv64, fz0, fz1, fz2, fz3, fz4, fz5, fz11, mulOk2, mulOk7, Int.reduceSub, Int.reduceAdd, dCut, repOk13, repOk54, Int.reduceToNat, List.flatten_cons, List.flatten_nil, List.append_nil, h2]
theorem made_eq {ca lf sh on gp rm de : Nat → List D → Res D} {ns : List Int}
    (hca : ∀ k, ca (k + 1) = S_law_cell_at) (hrm : ∀ k, rm (k + 1) = S_law_room) (hlf : ∀ k, lf (k + 1) = S_law_leaf (ca k) (rm k))
    (hon : ∀ k, on (k + 1) = S_law_one) (hgp : ∀ k, gp (k + 1) = S_law_group) (hsh : ∀ k, sh (k + 1) = S_law_shape (ca k) (lf k) (sh k) (on k) (gp k)) (hde : ∀ k, de (k + 1) = S_law_deeper (ca k)) (l : Nat) (hl : 10 ≤ l) :
    ∃ d0 s, sh (l + 1) [.scr ns, .int 0] = .ok d0 ∧ de (l + 1) [.scr ns, .int 30, d0] = .ok (enc s) ∧ shOk 8 512004 s := by
  obtain ⟨d0, e0, s0, rfl, o0⟩ := shape_eq (ns := ns) hca hrm hlf hon hgp hsh 3 0 (by decide) l (by omega)
  obtain ⟨l, rfl⟩ : ∃ j, l = j + 1 := ⟨l - 1, by omega⟩
  obtain ⟨d1, e1, s1, rfl, o1⟩ := deeper_eq (ca := ca (l + 1)) (ns := ns) (c := fun k => ns.getD k.toNat 0) (fun k hk => by rw [hca]; exact cell_eq ns k hk) o0 30 (by omega)
  exact ⟨_, s1, e0, by rw [hde]; exact e1, o1.mono (by omega) (by decide)⟩
end Pu

namespace Pu
open PySem L2
theorem eqv_self {d : D} (h : deepOk d = true) : PyData.eqv (toPy d) (toPy d) = true := SeqAt.eqv_refl _ (SeqAt.canLay_of_shaped h)
theorem ne_self_tup {ds : List D} (h : deepOk (.tup ds) = true) : dNe (.tup ds) (.tup ds) = .ok (.bl false) := by
  have e := eqv_self h
  simp only [dNe, dEq?, h, e, Bool.and_self, if_true, Bool.not_true]
theorem eq_self_lst {ds : List D} (h : deepOk (.lst ds) = true) : dEq (.lst ds) (.lst ds) = .ok (.bl true) := by
  have e := eqv_self h
  simp only [dEq, dEq?, h, e, Bool.and_self, if_true]
/-- strings that lie well -/
def okk : D → Prop := fun d => (toPy d).canLay0 = true
theorem layAll {n : Nat} : ∀ {ds : List D}, (∀ d ∈ ds, (toPy d).canLay0 = true ∧ (toPy d).depth ≤ n) → PyData.canLayAll0 (toPys ds) = true ∧ PyData.depthAll (toPys ds) ≤ n
  | [], _ => by unfold toPys PyData.canLayAll0 PyData.depthAll; exact ⟨rfl, by omega⟩
  | d :: ds, h => by
    obtain ⟨a, b⟩ := h d List.mem_cons_self
    obtain ⟨c, e⟩ := layAll fun d hd => h d (List.mem_cons_of_mem _ hd)
    unfold toPys PyData.canLayAll0 PyData.depthAll
    exact ⟨by rw [a, c]; rfl, by omega⟩
theorem lay_tup {n : Nat} {ds : List D} (h : ∀ d ∈ ds, (toPy d).canLay0 = true ∧ (toPy d).depth ≤ n) : (toPy (.tup ds)).canLay0 = true ∧ (toPy (.tup ds)).depth ≤ n + 1 := by
  obtain ⟨a, b⟩ := layAll h
  unfold toPy PyData.canLay0 PyData.depth
  exact ⟨a, by omega⟩
theorem lay_lst {n : Nat} {ds : List D} (h : ∀ d ∈ ds, (toPy d).canLay0 = true ∧ (toPy d).depth ≤ n) : (toPy (.lst ds)).canLay0 = true ∧ (toPy (.lst ds)).depth ≤ n + 1 := by
  obtain ⟨a, b⟩ := layAll h
  unfold toPy PyData.canLay0 PyData.depth
  exact ⟨a, by omega⟩
theorem lay_int (n : Nat) (i : Int) : (toPy (.int i)).canLay0 = true ∧ (toPy (.int i)).depth ≤ n := by
  unfold toPy PyData.canLay0 PyData.depth
  exact ⟨rfl, by omega⟩
theorem lay_str (n : Nat) {x : String} (h : PyData.strOk (Str.ofString x) = true) : (toPy (.str x)).canLay0 = true ∧ (toPy (.str x)).depth ≤ n := by
  unfold toPy PyData.canLay0 PyData.depth
  exact ⟨h, by omega⟩
theorem so_any (x : String) : PyData.strOk (Str.ofString x) = true := by
  rw [Str.ofString_eq_toList]
  unfold PyData.strOk
  rw [← Array.all_toList, List.all_eq_true]
  intro n hn
  rw [decide_eq_true_eq]
  obtain ⟨c, _, rfl⟩ := List.mem_map.mp hn
  have h := c.valid
  have e : c.toNat = c.val.toNat := rfl
  rcases h with h | h
  · have h : c.val.toNat < 0xd800 := h
    omega
  · have h : c.val.toNat < 0x110000 := h.2
    omega
theorem enc_lay : ∀ (n : Nat) (s : Sh), dpt s ≤ n → (toPy (enc s)).canLay0 = true ∧ (toPy (enc s)).depth ≤ 2 * n
  | 0, s, h => by have := dpt_pos s; omega
  | n + 1, s, h => by
    have up : ∀ {d : D}, ((toPy d).canLay0 = true ∧ (toPy d).depth ≤ 2 * n) → ((toPy d).canLay0 = true ∧ (toPy d).depth ≤ 2 * n + 1) := fun h => ⟨h.1, by omega⟩
    cases s with
    | num w lo hi =>
      rw [enc]
      refine lay_tup fun d hd => ?_
      simp only [List.mem_cons, List.not_mem_nil, or_false] at hd
      rcases hd with rfl | rfl | rfl | rfl
      · exact lay_str _ (so_any _)
      · exact lay_int _ _
      · exact lay_int _ _
      · exact lay_int _ _
    | pad w =>
      rw [enc]
      refine lay_tup fun d hd => ?_
      simp only [List.mem_cons, List.not_mem_nil, or_false] at hd
      rcases hd with rfl | rfl
      · exact lay_str _ (so_any _)
      · exact lay_int _ _
    | maybe s =>
      unfold dpt at h
      rw [enc]
      refine lay_tup fun d hd => ?_
      simp only [List.mem_cons, List.not_mem_nil, or_false] at hd
      rcases hd with rfl | rfl
      · exact lay_str _ (so_any _)
      · exact up (enc_lay n s (by omega))
    | rows w s =>
      unfold dpt at h
      rw [enc]
      refine lay_tup fun d hd => ?_
      simp only [List.mem_cons, List.not_mem_nil, or_false] at hd
      rcases hd with rfl | rfl | rfl
      · exact lay_str _ (so_any _)
      · exact lay_int _ _
      · exact up (enc_lay n s (by omega))
    | group ss =>
      unfold dpt at h
      rw [enc]
      refine lay_tup fun d hd => ?_
      simp only [List.mem_cons, List.not_mem_nil, or_false] at hd
      rcases hd with rfl | rfl
      · exact lay_str _ (so_any _)
      · refine lay_lst fun d hd => ?_
        obtain ⟨s, hs, rfl⟩ := mem_encs hd
        exact enc_lay n s (by have := dpts_mem hs; omega)
    | one w ss =>
      unfold dpt at h
      rw [enc]
      refine lay_tup fun d hd => ?_
      simp only [List.mem_cons, List.not_mem_nil, or_false] at hd
      rcases hd with rfl | rfl | rfl
      · exact lay_str _ (so_any _)
      · exact lay_int _ _
      · refine lay_lst fun d hd => ?_
        obtain ⟨s, hs, rfl⟩ := mem_encs hd
        exact enc_lay n s (by have := dpts_mem hs; omega)
theorem deep_of {d : D} {n : Nat} (h : (toPy d).canLay0 = true ∧ (toPy d).depth ≤ n) (hn : n ≤ 64) : deepOk d = true := by
  unfold deepOk SeqAt.shaped
  rw [Bool.and_eq_true, decide_eq_true_eq]
  exact ⟨h.1, by omega⟩
theorem enc_ne {n : Nat} {s : Sh} (h : dpt s ≤ n) (hn : n ≤ 30) : dNe (enc s) (enc s) = .ok (.bl false) := by
  have d := deep_of (enc_lay n s h) (by omega)
  obtain ⟨ds, e⟩ : ∃ ds, enc s = .tup ds := by cases s <;> (rw [enc]; exact ⟨_, rfl⟩)
  rw [e] at d ⊢
  exact ne_self_tup d
theorem deep_dI (l : List Int) : deepOk (.lst (dI l)) = true := deep_of (n := 1) (lay_lst fun d hd => by
  obtain ⟨i, _, rfl⟩ := List.mem_map.mp hd
  exact lay_int 0 i) (by omega)
theorem eq_dI (l : List Int) : dEq (.lst (dI l)) (.lst (dI l)) = .ok (.bl true) := eq_self_lst (deep_dI l)
theorem ne_pair (a b : Int) : dNe (.tup [.int a, .int b]) (.tup [.int a, .int b]) = .ok (.bl false) := ne_self_tup (deep_of (n := 1) (lay_tup fun d hd => by
  simp only [List.mem_cons, List.not_mem_nil, or_false] at hd
  rcases hd with rfl | rfl
  · exact lay_int 0 _
  · exact lay_int 0 _) (by omega))
theorem mapR_map {α : Type} {h : D → Res D} {G F : α → D} : ∀ {l : List α}, (∀ x ∈ l, h (G x) = .ok (F x)) → mapR h (l.map G) = .ok (l.map F)
  | [], _ => rfl
  | a :: l, q => by
    rw [List.map_cons, List.map_cons]
    unfold mapR
    rw [q a List.mem_cons_self]
    simp only
    rw [mapR_map fun x hx => q x (List.mem_cons_of_mem _ hx)]
theorem intsOf_map {α : Type} (f : α → Int) : ∀ l : List α, intsOf (l.map fun x => .int (f x)) = some (l.map f)
  | [] => rfl
  | a :: l => by
    rw [List.map_cons]
    unfold intsOf
    rw [intsOf_map f l]
    rfl
end Pu

namespace Pu
open PySem L2
mutual
def lo : Sh → Int
  | .num w _ _ => w
  | .pad w => w
  | .maybe _ => 1
  | .rows w _ => w
  | .group ss => (los ss).sum
  | .one w ss => w + minL (los ss)
def los : List Sh → List Int
  | [] => []
  | s :: ss => lo s :: los ss
end
mutual
def hi : Sh → Int
  | .num w _ _ => w
  | .pad w => w
  | .maybe s => 1 + hi s
  | .rows w s => w + (2 ^ w - 1) * hi s
  | .group ss => (his ss).sum
  | .one w ss => w + maxL (his ss)
def his : List Sh → List Int
  | [] => []
  | s :: ss => hi s :: his ss
end
theorem los_map : ∀ ss : List Sh, los ss = ss.map lo
  | [] => by unfold los; rfl
  | s :: ss => by unfold los; rw [List.map_cons, los_map ss]
theorem his_map : ∀ ss : List Sh, his ss = ss.map hi
  | [] => by unfold his; rfl
  | s :: ss => by unfold his; rw [List.map_cons, his_map ss]
section
variable {ls ms ll rm lr : Nat → List D → Res D} (hrm : ∀ k, rm (k + 1) = S_room) (hlr : ∀ k, lr (k + 1) = S_law_room) (hls : ∀ k, ls (k + 1) = S_least_bits (ls k)) (hms : ∀ k, ms (k + 1) = S_most_bits (ms k) (rm k)) (hll : ∀ k, ll (k + 1) = S_law_lengths (ll k) (lr k))
theorem two_le {w : Nat} (h : w ≤ 8) : (1 : Int) ≤ 2 ^ w ∧ (2 ^ w : Int) ≤ 256 := by
  have e : (2 ^ w : Int) = ((2 ^ w : Nat) : Int) := by simp
  have := Nat.pow_le_pow_right (show 0 < 2 by omega) h
  have := two_pos w
  omega
include hls in
theorem least_eq : ∀ (n : Nat) (s : Sh), dpt s ≤ n → Good s → ∀ k, n ≤ k → ls (k + 1) [enc s] = .ok (.int (lo s))
  | 0, s, h, _, _, _ => by have := dpt_pos s; omega
  | n + 1, s, h, g, k, hk => by
    obtain ⟨k, rfl⟩ : ∃ j, k = j + 1 := ⟨k - 1, by omega⟩
    rw [hls]
    refine fnD_rt ?_
    cases s with
    | num w l u => rw [enc]; unfold lo; simp only [fnD, gNx, gSeq, gSet, gSetO, ownAt, gApp, gRev, gPut, frz, gFrz, gRet, gExpr, gIf, gExc, asL, eVar, eC, eOp, eUn, toB, tB, tAndB, tOrB, tNotB, eAnd, eOr, eNot, eChain, aNil, aCons, eTup, oLst, eO, eCall, oUn, oSl, rNone, rSome, toI, dCut, eLenO, eIxO, sBind_ok, sBind_exc, sBind_stk, Res.bind_ok, Res.bind_exc, Res.bind_stk, SRes.thn_nx, SRes.thn_rt, SRes.thn_exc, SRes.thn_stk, List.map_cons, List.map_nil, List.cons_append, List.nil_append, List.length_cons, List.length_nil, List.replicate_succ, List.replicate_zero, List.getElem?_cons_zero, List.getElem?_cons_succ, List.set_cons_zero, List.set_cons_succ, Nat.zero_add, Nat.reduceAdd, Nat.reduceSub, dAdd, dSub, dMul, dDiv, dMod, dNeg, dCmp, dLt, dLe, dGt, dGe, dEq, dNe, dEq?, dIsN, dNotN, dIsi, isTy, dLen, dIx_lst, dIx_tup, dIx_scr, dList, dRev, dInt, dMax2, dMin2, decide_eq_true_eq, if_true, if_false, Bool.not_true, Bool.not_false, Bool.false_eq_true, reduceIte, Int.reduceLT, Int.reduceLE, Int.reduceEq, Int.reduceNeg, String.reduceEq, decide_true, decide_false, ci0, ci1, ci2, ci3, ci4, ci5, dAt_0, dAt_1, dAt_2, dAt_3, dv2, dv3, dv4, dv5, dv7, dv12, dv60, dv64, fz0, fz1, fz2, fz3, fz4, fz5, fz11, mulOk2, mulOk7, Int.reduceSub, Int.reduceAdd, dCut, repOk13, repOk54, Int.reduceToNat, List.flatten_cons, List.flatten_nil, List.append_nil, decide_true]
    | pad w => rw [enc]; unfold lo; simp only [fnD, gNx, gSeq, gSet, gSetO, ownAt, gApp, gRev, gPut, frz, gFrz, gRet, gExpr, gIf, gExc, asL, eVar, eC, eOp, eUn, toB, tB, tAndB, tOrB, tNotB, eAnd, eOr, eNot, eChain, aNil, aCons, eTup, oLst, eO, eCall, oUn, oSl, rNone, rSome, toI, dCut, eLenO, eIxO, sBind_ok, sBind_exc, sBind_stk, Res.bind_ok, Res.bind_exc, Res.bind_stk, SRes.thn_nx, SRes.thn_rt, SRes.thn_exc, SRes.thn_stk, List.map_cons, List.map_nil, List.cons_append, List.nil_append, List.length_cons, List.length_nil, List.replicate_succ, List.replicate_zero, List.getElem?_cons_zero, List.getElem?_cons_succ, List.set_cons_zero, List.set_cons_succ, Nat.zero_add, Nat.reduceAdd, Nat.reduceSub, dAdd, dSub, dMul, dDiv, dMod, dNeg, dCmp, dLt, dLe, dGt, dGe, dEq, dNe, dEq?, dIsN, dNotN, dIsi, isTy, dLen, dIx_lst, dIx_tup, dIx_scr, dList, dRev, dInt, dMax2, dMin2, decide_eq_true_eq, if_true, if_false, Bool.not_true, Bool.not_false, Bool.false_eq_true, reduceIte, Int.reduceLT, Int.reduceLE, Int.reduceEq, Int.reduceNeg, String.reduceEq, decide_true, decide_false, ci0, ci1, ci2, ci3, ci4, ci5, dAt_0, dAt_1, dAt_2, dAt_3, dv2, dv3, dv4, dv5, dv7, dv12, dv60, dv64, fz0, fz1, fz2, fz3, fz4, fz5, fz11, mulOk2, mulOk7, Int.reduceSub, Int.reduceAdd, dCut, repOk13, repOk54, Int.reduceToNat, List.flatten_cons, List.flatten_nil, List.append_nil, decide_true, decide_false]
    | maybe s => rw [enc]; unfold lo; simp only [fnD, gNx, gSeq, gSet, gSetO, ownAt, gApp, gRev, gPut, frz, gFrz, gRet, gExpr, gIf, gExc, asL, eVar, eC, eOp, eUn, toB, tB, tAndB, tOrB, tNotB, eAnd, eOr, eNot, eChain, aNil, aCons, eTup, oLst, eO, eCall, oUn, oSl, rNone, rSome, toI, dCut, eLenO, eIxO, sBind_ok, sBind_exc, sBind_stk, Res.bind_ok, Res.bind_exc, Res.bind_stk, SRes.thn_nx, SRes.thn_rt, SRes.thn_exc, SRes.thn_stk, List.map_cons, List.map_nil, List.cons_append, List.nil_append, List.length_cons, List.length_nil, List.replicate_succ, List.replicate_zero, List.getElem?_cons_zero, List.getElem?_cons_succ, List.set_cons_zero, List.set_cons_succ, Nat.zero_add, Nat.reduceAdd, Nat.reduceSub, dAdd, dSub, dMul, dDiv, dMod, dNeg, dCmp, dLt, dLe, dGt, dGe, dEq, dNe, dEq?, dIsN, dNotN, dIsi, isTy, dLen, dIx_lst, dIx_tup, dIx_scr, dList, dRev, dInt, dMax2, dMin2, decide_eq_true_eq, if_true, if_false, Bool.not_true, Bool.not_false, Bool.false_eq_true, reduceIte, Int.reduceLT, Int.reduceLE, Int.reduceEq, Int.reduceNeg, String.reduceEq, decide_true, decide_false, ci0, ci1, ci2, ci3, ci4, ci5, dAt_0, dAt_1, dAt_2, dAt_3, dv2, dv3, dv4, dv5, dv7, dv12, dv60, dv64, fz0, fz1, fz2, fz3, fz4, fz5, fz11, mulOk2, mulOk7, Int.reduceSub, Int.reduceAdd, dCut, repOk13, repOk54, Int.reduceToNat, List.flatten_cons, List.flatten_nil, List.append_nil, decide_true, decide_false]
    | rows w s => rw [enc]; unfold lo; simp only [fnD, gNx, gSeq, gSet, gSetO, ownAt, gApp, gRev, gPut, frz, gFrz, gRet, gExpr, gIf, gExc, asL, eVar, eC, eOp, eUn, toB, tB, tAndB, tOrB, tNotB, eAnd, eOr, eNot, eChain, aNil, aCons, eTup, oLst, eO, eCall, oUn, oSl, rNone, rSome, toI, dCut, eLenO, eIxO, sBind_ok, sBind_exc, sBind_stk, Res.bind_ok, Res.bind_exc, Res.bind_stk, SRes.thn_nx, SRes.thn_rt, SRes.thn_exc, SRes.thn_stk, List.map_cons, List.map_nil, List.cons_append, List.nil_append, List.length_cons, List.length_nil, List.replicate_succ, List.replicate_zero, List.getElem?_cons_zero, List.getElem?_cons_succ, List.set_cons_zero, List.set_cons_succ, Nat.zero_add, Nat.reduceAdd, Nat.reduceSub, dAdd, dSub, dMul, dDiv, dMod, dNeg, dCmp, dLt, dLe, dGt, dGe, dEq, dNe, dEq?, dIsN, dNotN, dIsi, isTy, dLen, dIx_lst, dIx_tup, dIx_scr, dList, dRev, dInt, dMax2, dMin2, decide_eq_true_eq, if_true, if_false, Bool.not_true, Bool.not_false, Bool.false_eq_true, reduceIte, Int.reduceLT, Int.reduceLE, Int.reduceEq, Int.reduceNeg, String.reduceEq, decide_true, decide_false, ci0, ci1, ci2, ci3, ci4, ci5, dAt_0, dAt_1, dAt_2, dAt_3, dv2, dv3, dv4, dv5, dv7, dv12, dv60, dv64, fz0, fz1, fz2, fz3, fz4, fz5, fz11, mulOk2, mulOk7, Int.reduceSub, Int.reduceAdd, dCut, repOk13, repOk54, Int.reduceToNat, List.flatten_cons, List.flatten_nil, List.append_nil, decide_true, decide_false]
    | group ss =>
      unfold Good at g; unfold dpt at h
      rw [enc]; unfold lo
      have f := fits_le (n := (ss.map enc).length) (by rw [List.length_map]; omega)
      have ml := mapR_map (l := ss) (G := enc) (F := fun s => .int (lo s)) (h := fun d => ls (k + 1) [d]) fun s hs => least_eq n s (by have := dpts_mem hs; omega) (g.2.mem hs) k (by omega)
      rw [encs_map, los_map]
      simp only [fnD, gNx, gSeq, gSet, gSetO, ownAt, gApp, gRev, gPut, frz, gFrz, gRet, gExpr, gIf, gExc, asL, eVar, eC, eOp, eUn, toB, tB, tAndB, tOrB, tNotB, eAnd, eOr, eNot, eChain, aNil, aCons, eTup, oLst, eO, eCall, oUn, oSl, rNone, rSome, toI, dCut, eLenO, eIxO, sBind_ok, sBind_exc, sBind_stk, Res.bind_ok, Res.bind_exc, Res.bind_stk, SRes.thn_nx, SRes.thn_rt, SRes.thn_exc, SRes.thn_stk, List.map_cons, List.map_nil, List.cons_append, List.nil_append, List.length_cons, List.length_nil, List.replicate_succ, List.replicate_zero, List.getElem?_cons_zero, List.getElem?_cons_succ, List.set_cons_zero, List.set_cons_succ, Nat.zero_add, Nat.reduceAdd, Nat.reduceSub, dAdd, dSub, dMul, dDiv, dMod, dNeg, dCmp, dLt, dLe, dGt, dGe, dEq, dNe, dEq?, dIsN, dNotN, dIsi, isTy, dLen, dIx_lst, dIx_tup, dIx_scr, dList, dRev, dInt, dMax2, dMin2, decide_eq_true_eq, if_true, if_false, Bool.not_true, Bool.not_false, Bool.false_eq_true, reduceIte, Int.reduceLT, Int.reduceLE, Int.reduceEq, Int.reduceNeg, String.reduceEq, decide_true, decide_false, ci0, ci1, ci2, ci3, ci4, ci5, dAt_0, dAt_1, dAt_2, dAt_3, dv2, dv3, dv4, dv5, dv7, dv12, dv60, dv64, fz0, fz1, fz2, fz3, fz4, fz5, fz11, mulOk2, mulOk7, Int.reduceSub, Int.reduceAdd, dCut, repOk13, repOk54, Int.reduceToNat, List.flatten_cons, List.flatten_nil, List.append_nil, oLc, f, ml, dSum, dInts, intsOf_map]
    | one w ss =>
      unfold Good at g; unfold dpt at h
      rw [enc]; unfold lo
      have f := fits_le (n := (ss.map enc).length) (by rw [List.length_map]; omega)
      have ml := mapR_map (l := ss) (G := enc) (F := fun s => .int (lo s)) (h := fun d => ls (k + 1) [d]) fun s hs => least_eq n s (by have := dpts_mem hs; omega) (g.2.2.2.2.mem hs) k (by omega)
      have l0 : 0 < (ss.map lo).length := by rw [List.length_map]; omega
      rw [encs_map, los_map]
      simp only [fnD, gNx, gSeq, gSet, gSetO, ownAt, gApp, gRev, gPut, frz, gFrz, gRet, gExpr, gIf, gExc, asL, eVar, eC, eOp, eUn, toB, tB, tAndB, tOrB, tNotB, eAnd, eOr, eNot, eChain, aNil, aCons, eTup, oLst, eO, eCall, oUn, oSl, rNone, rSome, toI, dCut, eLenO, eIxO, sBind_ok, sBind_exc, sBind_stk, Res.bind_ok, Res.bind_exc, Res.bind_stk, SRes.thn_nx, SRes.thn_rt, SRes.thn_exc, SRes.thn_stk, List.map_cons, List.map_nil, List.cons_append, List.nil_append, List.length_cons, List.length_nil, List.replicate_succ, List.replicate_zero, List.getElem?_cons_zero, List.getElem?_cons_succ, List.set_cons_zero, List.set_cons_succ, Nat.zero_add, Nat.reduceAdd, Nat.reduceSub, dAdd, dSub, dMul, dDiv, dMod, dNeg, dCmp, dLt, dLe, dGt, dGe, dEq, dNe, dEq?, dIsN, dNotN, dIsi, isTy, dLen, dIx_lst, dIx_tup, dIx_scr, dList, dRev, dInt, dMax2, dMin2, decide_eq_true_eq, if_true, if_false, Bool.not_true, Bool.not_false, Bool.false_eq_true, reduceIte, Int.reduceLT, Int.reduceLE, Int.reduceEq, Int.reduceNeg, String.reduceEq, decide_true, decide_false, ci0, ci1, ci2, ci3, ci4, ci5, dAt_0, dAt_1, dAt_2, dAt_3, dv2, dv3, dv4, dv5, dv7, dv12, dv60, dv64, fz0, fz1, fz2, fz3, fz4, fz5, fz11, mulOk2, mulOk7, Int.reduceSub, Int.reduceAdd, dCut, repOk13, repOk54, Int.reduceToNat, List.flatten_cons, List.flatten_nil, List.append_nil, oLc, f, ml, dMinL, dInts, intsOf_map, l0, if_true]
include hms hrm in
theorem most_eq : ∀ (n : Nat) (s : Sh), dpt s ≤ n → Good s → ∀ k, n ≤ k → ms (k + 1) [enc s] = .ok (.int (hi s))
  | 0, s, h, _, _, _ => by have := dpt_pos s; omega
  | n + 1, s, h, g, k, hk => by
    obtain ⟨k, rfl⟩ : ∃ j, k = j + 1 := ⟨k - 1, by omega⟩
    rw [hms]
    refine fnD_rt ?_
    cases s with
    | num w l u => rw [enc]; unfold hi; simp only [fnD, gNx, gSeq, gSet, gSetO, ownAt, gApp, gRev, gPut, frz, gFrz, gRet, gExpr, gIf, gExc, asL, eVar, eC, eOp, eUn, toB, tB, tAndB, tOrB, tNotB, eAnd, eOr, eNot, eChain, aNil, aCons, eTup, oLst, eO, eCall, oUn, oSl, rNone, rSome, toI, dCut, eLenO, eIxO, sBind_ok, sBind_exc, sBind_stk, Res.bind_ok, Res.bind_exc, Res.bind_stk, SRes.thn_nx, SRes.thn_rt, SRes.thn_exc, SRes.thn_stk, List.map_cons, List.map_nil, List.cons_append, List.nil_append, List.length_cons, List.length_nil, List.replicate_succ, List.replicate_zero, List.getElem?_cons_zero, List.getElem?_cons_succ, List.set_cons_zero, List.set_cons_succ, Nat.zero_add, Nat.reduceAdd, Nat.reduceSub, dAdd, dSub, dMul, dDiv, dMod, dNeg, dCmp, dLt, dLe, dGt, dGe, dEq, dNe, dEq?, dIsN, dNotN, dIsi, isTy, dLen, dIx_lst, dIx_tup, dIx_scr, dList, dRev, dInt, dMax2, dMin2, decide_eq_true_eq, if_true, if_false, Bool.not_true, Bool.not_false, Bool.false_eq_true, reduceIte, Int.reduceLT, Int.reduceLE, Int.reduceEq, Int.reduceNeg, String.reduceEq, decide_true, decide_false, ci0, ci1, ci2, ci3, ci4, ci5, dAt_0, dAt_1, dAt_2, dAt_3, dv2, dv3, dv4, dv5, dv7, dv12, dv60, dv64, fz0, fz1, fz2, fz3, fz4, fz5, fz11, mulOk2, mulOk7, Int.reduceSub, Int.reduceAdd, dCut, repOk13, repOk54, Int.reduceToNat, List.flatten_cons, List.flatten_nil, List.append_nil, decide_true]
    | pad w => rw [enc]; unfold hi; simp only [fnD, gNx, gSeq, gSet, gSetO, ownAt, gApp, gRev, gPut, frz, gFrz, gRet, gExpr, gIf, gExc, asL, eVar, eC, eOp, eUn, toB, tB, tAndB, tOrB, tNotB, eAnd, eOr, eNot, eChain, aNil, aCons, eTup, oLst, eO, eCall, oUn, oSl, rNone, rSome, toI, dCut, eLenO, eIxO, sBind_ok, sBind_exc, sBind_stk, Res.bind_ok, Res.bind_exc, Res.bind_stk, SRes.thn_nx, SRes.thn_rt, SRes.thn_exc, SRes.thn_stk, List.map_cons, List.map_nil, List.cons_append, List.nil_append, List.length_cons, List.length_nil, List.replicate_succ, List.replicate_zero, List.getElem?_cons_zero, List.getElem?_cons_succ, List.set_cons_zero, List.set_cons_succ, Nat.zero_add, Nat.reduceAdd, Nat.reduceSub, dAdd, dSub, dMul, dDiv, dMod, dNeg, dCmp, dLt, dLe, dGt, dGe, dEq, dNe, dEq?, dIsN, dNotN, dIsi, isTy, dLen, dIx_lst, dIx_tup, dIx_scr, dList, dRev, dInt, dMax2, dMin2, decide_eq_true_eq, if_true, if_false, Bool.not_true, Bool.not_false, Bool.false_eq_true, reduceIte, Int.reduceLT, Int.reduceLE, Int.reduceEq, Int.reduceNeg, String.reduceEq, decide_true, decide_false, ci0, ci1, ci2, ci3, ci4, ci5, dAt_0, dAt_1, dAt_2, dAt_3, dv2, dv3, dv4, dv5, dv7, dv12, dv60, dv64, fz0, fz1, fz2, fz3, fz4, fz5, fz11, mulOk2, mulOk7, Int.reduceSub, Int.reduceAdd, dCut, repOk13, repOk54, Int.reduceToNat, List.flatten_cons, List.flatten_nil, List.append_nil, decide_true, decide_false]
    | maybe s =>
      unfold Good at g; unfold dpt at h
      have ih := most_eq n s (by omega) g k (by omega)
      rw [enc]; unfold hi; simp only [fnD, gNx, gSeq, gSet, gSetO, ownAt, gApp, gRev, gPut, frz, gFrz, gRet, gExpr, gIf, gExc, asL, eVar, eC, eOp, eUn, toB, tB, tAndB, tOrB, tNotB, eAnd, eOr, eNot, eChain, aNil, aCons, eTup, oLst, eO, eCall, oUn, oSl, rNone, rSome, toI, dCut, eLenO, eIxO, sBind_ok, sBind_exc, sBind_stk, Res.bind_ok, Res.bind_exc, Res.bind_stk, SRes.thn_nx, SRes.thn_rt, SRes.thn_exc, SRes.thn_stk, List.map_cons, List.map_nil, List.cons_append, List.nil_append, List.length_cons, List.length_nil, List.replicate_succ, List.replicate_zero, List.getElem?_cons_zero, List.getElem?_cons_succ, List.set_cons_zero, List.set_cons_succ, Nat.zero_add, Nat.reduceAdd, Nat.reduceSub, dAdd, dSub, dMul, dDiv, dMod, dNeg, dCmp, dLt, dLe, dGt, dGe, dEq, dNe, dEq?, dIsN, dNotN, dIsi, isTy, dLen, dIx_lst, dIx_tup, dIx_scr, dList, dRev, dInt, dMax2, dMin2, decide_eq_true_eq, if_true, if_false, Bool.not_true, Bool.not_false, Bool.false_eq_true, reduceIte, Int.reduceLT, Int.reduceLE, Int.reduceEq, Int.reduceNeg, String.reduceEq, decide_true, decide_false, ci0, ci1, ci2, ci3, ci4, ci5, dAt_0, dAt_1, dAt_2, dAt_3, dv2, dv3, dv4, dv5, dv7, dv12, dv60, dv64, fz0, fz1, fz2, fz3, fz4, fz5, fz11, mulOk2, mulOk7, Int.reduceSub, Int.reduceAdd, dCut, repOk13, repOk54, Int.reduceToNat, List.flatten_cons, List.flatten_nil, List.append_nil, decide_true, decide_false, ih]
    | rows w s =>
      unfold Good at g; unfold dpt at h
      have ih := most_eq n s (by omega) g.2 k (by omega)
      have hr := room_eq w (by omega)
      have b := two_le g.1
      have mo : ∀ x : Int, mulOk (2 ^ w - 1) x = true := fun x => mulOk_l (by omega)
      rw [enc]; unfold hi; simp only [fnD, gNx, gSeq, gSet, gSetO, ownAt, gApp, gRev, gPut, frz, gFrz, gRet, gExpr, gIf, gExc, asL, eVar, eC, eOp, eUn, toB, tB, tAndB, tOrB, tNotB, eAnd, eOr, eNot, eChain, aNil, aCons, eTup, oLst, eO, eCall, oUn, oSl, rNone, rSome, toI, dCut, eLenO, eIxO, sBind_ok, sBind_exc, sBind_stk, Res.bind_ok, Res.bind_exc, Res.bind_stk, SRes.thn_nx, SRes.thn_rt, SRes.thn_exc, SRes.thn_stk, List.map_cons, List.map_nil, List.cons_append, List.nil_append, List.length_cons, List.length_nil, List.replicate_succ, List.replicate_zero, List.getElem?_cons_zero, List.getElem?_cons_succ, List.set_cons_zero, List.set_cons_succ, Nat.zero_add, Nat.reduceAdd, Nat.reduceSub, dAdd, dSub, dMul, dDiv, dMod, dNeg, dCmp, dLt, dLe, dGt, dGe, dEq, dNe, dEq?, dIsN, dNotN, dIsi, isTy, dLen, dIx_lst, dIx_tup, dIx_scr, dList, dRev, dInt, dMax2, dMin2, decide_eq_true_eq, if_true, if_false, Bool.not_true, Bool.not_false, Bool.false_eq_true, reduceIte, Int.reduceLT, Int.reduceLE, Int.reduceEq, Int.reduceNeg, String.reduceEq, decide_true, decide_false, ci0, ci1, ci2, ci3, ci4, ci5, dAt_0, dAt_1, dAt_2, dAt_3, dv2, dv3, dv4, dv5, dv7, dv12, dv60, dv64, fz0, fz1, fz2, fz3, fz4, fz5, fz11, mulOk2, mulOk7, Int.reduceSub, Int.reduceAdd, dCut, repOk13, repOk54, Int.reduceToNat, List.flatten_cons, List.flatten_nil, List.append_nil, decide_true, decide_false, ih, hrm, hr, mo]
    | group ss =>
      unfold Good at g; unfold dpt at h
      rw [enc]; unfold hi
      have f := fits_le (n := (ss.map enc).length) (by rw [List.length_map]; omega)
      have ml := mapR_map (l := ss) (G := enc) (F := fun s => .int (hi s)) (h := fun d => ms (k + 1) [d]) fun s hs => most_eq n s (by have := dpts_mem hs; omega) (g.2.mem hs) k (by omega)
      rw [encs_map, his_map]
      simp only [fnD, gNx, gSeq, gSet, gSetO, ownAt, gApp, gRev, gPut, frz, gFrz, gRet, gExpr, gIf, gExc, asL, eVar, eC, eOp, eUn, toB, tB, tAndB, tOrB, tNotB, eAnd, eOr, eNot, eChain, aNil, aCons, eTup, oLst, eO, eCall, oUn, oSl, rNone, rSome, toI, dCut, eLenO, eIxO, sBind_ok, sBind_exc, sBind_stk, Res.bind_ok, Res.bind_exc, Res.bind_stk, SRes.thn_nx, SRes.thn_rt, SRes.thn_exc, SRes.thn_stk, List.map_cons, List.map_nil, List.cons_append, List.nil_append, List.length_cons, List.length_nil, List.replicate_succ, List.replicate_zero, List.getElem?_cons_zero, List.getElem?_cons_succ, List.set_cons_zero, List.set_cons_succ, Nat.zero_add, Nat.reduceAdd, Nat.reduceSub, dAdd, dSub, dMul, dDiv, dMod, dNeg, dCmp, dLt, dLe, dGt, dGe, dEq, dNe, dEq?, dIsN, dNotN, dIsi, isTy, dLen, dIx_lst, dIx_tup, dIx_scr, dList, dRev, dInt, dMax2, dMin2, decide_eq_true_eq, if_true, if_false, Bool.not_true, Bool.not_false, Bool.false_eq_true, reduceIte, Int.reduceLT, Int.reduceLE, Int.reduceEq, Int.reduceNeg, String.reduceEq, decide_true, decide_false, ci0, ci1, ci2, ci3, ci4, ci5, dAt_0, dAt_1, dAt_2, dAt_3, dv2, dv3, dv4, dv5, dv7, dv12, dv60, dv64, fz0, fz1, fz2, fz3, fz4, fz5, fz11, mulOk2, mulOk7, Int.reduceSub, Int.reduceAdd, dCut, repOk13, repOk54, Int.reduceToNat, List.flatten_cons, List.flatten_nil, List.append_nil, oLc, f, ml, dSum, dInts, intsOf_map]
    | one w ss =>
      unfold Good at g; unfold dpt at h
      rw [enc]; unfold hi
      have f := fits_le (n := (ss.map enc).length) (by rw [List.length_map]; omega)
      have ml := mapR_map (l := ss) (G := enc) (F := fun s => .int (hi s)) (h := fun d => ms (k + 1) [d]) fun s hs => most_eq n s (by have := dpts_mem hs; omega) (g.2.2.2.2.mem hs) k (by omega)
      have l0 : 0 < (ss.map hi).length := by rw [List.length_map]; omega
      rw [encs_map, his_map]
      simp only [fnD, gNx, gSeq, gSet, gSetO, ownAt, gApp, gRev, gPut, frz, gFrz, gRet, gExpr, gIf, gExc, asL, eVar, eC, eOp, eUn, toB, tB, tAndB, tOrB, tNotB, eAnd, eOr, eNot, eChain, aNil, aCons, eTup, oLst, eO, eCall, oUn, oSl, rNone, rSome, toI, dCut, eLenO, eIxO, sBind_ok, sBind_exc, sBind_stk, Res.bind_ok, Res.bind_exc, Res.bind_stk, SRes.thn_nx, SRes.thn_rt, SRes.thn_exc, SRes.thn_stk, List.map_cons, List.map_nil, List.cons_append, List.nil_append, List.length_cons, List.length_nil, List.replicate_succ, List.replicate_zero, List.getElem?_cons_zero, List.getElem?_cons_succ, List.set_cons_zero, List.set_cons_succ, Nat.zero_add, Nat.reduceAdd, Nat.reduceSub, dAdd, dSub, dMul, dDiv, dMod, dNeg, dCmp, dLt, dLe, dGt, dGe, dEq, dNe, dEq?, dIsN, dNotN, dIsi, isTy, dLen, dIx_lst, dIx_tup, dIx_scr, dList, dRev, dInt, dMax2, dMin2, decide_eq_true_eq, if_true, if_false, Bool.not_true, Bool.not_false, Bool.false_eq_true, reduceIte, Int.reduceLT, Int.reduceLE, Int.reduceEq, Int.reduceNeg, String.reduceEq, decide_true, decide_false, ci0, ci1, ci2, ci3, ci4, ci5, dAt_0, dAt_1, dAt_2, dAt_3, dv2, dv3, dv4, dv5, dv7, dv12, dv60, dv64, fz0, fz1, fz2, fz3, fz4, fz5, fz11, mulOk2, mulOk7, Int.reduceSub, Int.reduceAdd, dCut, repOk13, repOk54, Int.reduceToNat, List.flatten_cons, List.flatten_nil, List.append_nil, oLc, f, ml, dMaxL, dInts, intsOf_map, l0, if_true]
def lh (s : Sh) : D := .tup [.int (lo s), .int (hi s)]
include hll hlr in
theorem lengths_eq : ∀ (n : Nat) (s : Sh), dpt s ≤ n → Good s → ∀ k, n ≤ k → ll (k + 1) [enc s] = .ok (lh s)
  | 0, s, h, _, _, _ => by have := dpt_pos s; omega
  | n + 1, s, h, g, k, hk => by
    obtain ⟨k, rfl⟩ : ∃ j, k = j + 1 := ⟨k - 1, by omega⟩
    rw [hll]
    refine fnD_rt ?_
    unfold lh
    cases s with
    | num w l u => rw [enc]; unfold lo hi; simp only [fnD, gNx, gSeq, gSet, gSetO, ownAt, gApp, gRev, gPut, frz, gFrz, gRet, gExpr, gIf, gExc, asL, eVar, eC, eOp, eUn, toB, tB, tAndB, tOrB, tNotB, eAnd, eOr, eNot, eChain, aNil, aCons, eTup, oLst, eO, eCall, oUn, oSl, rNone, rSome, toI, dCut, eLenO, eIxO, sBind_ok, sBind_exc, sBind_stk, Res.bind_ok, Res.bind_exc, Res.bind_stk, SRes.thn_nx, SRes.thn_rt, SRes.thn_exc, SRes.thn_stk, List.map_cons, List.map_nil, List.cons_append, List.nil_append, List.length_cons, List.length_nil, List.replicate_succ, List.replicate_zero, List.getElem?_cons_zero, List.getElem?_cons_succ, List.set_cons_zero, List.set_cons_succ, Nat.zero_add, Nat.reduceAdd, Nat.reduceSub, dAdd, dSub, dMul, dDiv, dMod, dNeg, dCmp, dLt, dLe, dGt, dGe, dEq, dNe, dEq?, dIsN, dNotN, dIsi, isTy, dLen, dIx_lst, dIx_tup, dIx_scr, dList, dRev, dInt, dMax2, dMin2, decide_eq_true_eq, if_true, if_false, Bool.not_true, Bool.not_false, Bool.false_eq_true, reduceIte, Int.reduceLT, Int.reduceLE, Int.reduceEq, Int.reduceNeg, String.reduceEq, decide_true, decide_false, ci0, ci1, ci2, ci3, ci4, ci5, dAt_0, dAt_1, dAt_2, dAt_3, dv2, dv3, dv4, dv5, dv7, dv12, dv60, dv64, fz0, fz1, fz2, fz3, fz4, fz5, fz11, mulOk2, mulOk7, Int.reduceSub, Int.reduceAdd, dCut, repOk13, repOk54, Int.reduceToNat, List.flatten_cons, List.flatten_nil, List.append_nil, decide_true]
    | pad w => rw [enc]; unfold lo hi; simp only [fnD, gNx, gSeq, gSet, gSetO, ownAt, gApp, gRev, gPut, frz, gFrz, gRet, gExpr, gIf, gExc, asL, eVar, eC, eOp, eUn, toB, tB, tAndB, tOrB, tNotB, eAnd, eOr, eNot, eChain, aNil, aCons, eTup, oLst, eO, eCall, oUn, oSl, rNone, rSome, toI, dCut, eLenO, eIxO, sBind_ok, sBind_exc, sBind_stk, Res.bind_ok, Res.bind_exc, Res.bind_stk, SRes.thn_nx, SRes.thn_rt, SRes.thn_exc, SRes.thn_stk, List.map_cons, List.map_nil, List.cons_append, List.nil_append, List.length_cons, List.length_nil, List.replicate_succ, List.replicate_zero, List.getElem?_cons_zero, List.getElem?_cons_succ, List.set_cons_zero, List.set_cons_succ, Nat.zero_add, Nat.reduceAdd, Nat.reduceSub, dAdd, dSub, dMul, dDiv, dMod, dNeg, dCmp, dLt, dLe, dGt, dGe, dEq, dNe, dEq?, dIsN, dNotN, dIsi, isTy, dLen, dIx_lst, dIx_tup, dIx_scr, dList, dRev, dInt, dMax2, dMin2, decide_eq_true_eq, if_true, if_false, Bool.not_true, Bool.not_false, Bool.false_eq_true, reduceIte, Int.reduceLT, Int.reduceLE, Int.reduceEq, Int.reduceNeg, String.reduceEq, decide_true, decide_false, ci0, ci1, ci2, ci3, ci4, ci5, dAt_0, dAt_1, dAt_2, dAt_3, dv2, dv3, dv4, dv5, dv7, dv12, dv60, dv64, fz0, fz1, fz2, fz3, fz4, fz5, fz11, mulOk2, mulOk7, Int.reduceSub, Int.reduceAdd, dCut, repOk13, repOk54, Int.reduceToNat, List.flatten_cons, List.flatten_nil, List.append_nil, decide_true, decide_false]
    | maybe s =>
      unfold Good at g; unfold dpt at h
      have ih := lengths_eq n s (by omega) g k (by omega)
      unfold lh at ih
      rw [enc]; unfold lo; rw [hi]; simp only [fnD, gNx, gSeq, gSet, gSetO, ownAt, gApp, gRev, gPut, frz, gFrz, gRet, gExpr, gIf, gExc, asL, eVar, eC, eOp, eUn, toB, tB, tAndB, tOrB, tNotB, eAnd, eOr, eNot, eChain, aNil, aCons, eTup, oLst, eO, eCall, oUn, oSl, rNone, rSome, toI, dCut, eLenO, eIxO, sBind_ok, sBind_exc, sBind_stk, Res.bind_ok, Res.bind_exc, Res.bind_stk, SRes.thn_nx, SRes.thn_rt, SRes.thn_exc, SRes.thn_stk, List.map_cons, List.map_nil, List.cons_append, List.nil_append, List.length_cons, List.length_nil, List.replicate_succ, List.replicate_zero, List.getElem?_cons_zero, List.getElem?_cons_succ, List.set_cons_zero, List.set_cons_succ, Nat.zero_add, Nat.reduceAdd, Nat.reduceSub, dAdd, dSub, dMul, dDiv, dMod, dNeg, dCmp, dLt, dLe, dGt, dGe, dEq, dNe, dEq?, dIsN, dNotN, dIsi, isTy, dLen, dIx_lst, dIx_tup, dIx_scr, dList, dRev, dInt, dMax2, dMin2, decide_eq_true_eq, if_true, if_false, Bool.not_true, Bool.not_false, Bool.false_eq_true, reduceIte, Int.reduceLT, Int.reduceLE, Int.reduceEq, Int.reduceNeg, String.reduceEq, decide_true, decide_false, ci0, ci1, ci2, ci3, ci4, ci5, dAt_0, dAt_1, dAt_2, dAt_3, dv2, dv3, dv4, dv5, dv7, dv12, dv60, dv64, fz0, fz1, fz2, fz3, fz4, fz5, fz11, mulOk2, mulOk7, Int.reduceSub, Int.reduceAdd, dCut, repOk13, repOk54, Int.reduceToNat, List.flatten_cons, List.flatten_nil, List.append_nil, decide_true, decide_false, ih]
    | rows w s =>
      unfold Good at g; unfold dpt at h
      have ih := lengths_eq n s (by omega) g.2 k (by omega)
      have hr := law_room_eq w (by omega)
      have b := two_le g.1
      have mo : ∀ x : Int, mulOk (2 ^ w - 1) x = true := fun x => mulOk_l (by omega)
      unfold lh at ih
      rw [enc]; unfold lo; rw [hi]; simp only [fnD, gNx, gSeq, gSet, gSetO, ownAt, gApp, gRev, gPut, frz, gFrz, gRet, gExpr, gIf, gExc, asL, eVar, eC, eOp, eUn, toB, tB, tAndB, tOrB, tNotB, eAnd, eOr, eNot, eChain, aNil, aCons, eTup, oLst, eO, eCall, oUn, oSl, rNone, rSome, toI, dCut, eLenO, eIxO, sBind_ok, sBind_exc, sBind_stk, Res.bind_ok, Res.bind_exc, Res.bind_stk, SRes.thn_nx, SRes.thn_rt, SRes.thn_exc, SRes.thn_stk, List.map_cons, List.map_nil, List.cons_append, List.nil_append, List.length_cons, List.length_nil, List.replicate_succ, List.replicate_zero, List.getElem?_cons_zero, List.getElem?_cons_succ, List.set_cons_zero, List.set_cons_succ, Nat.zero_add, Nat.reduceAdd, Nat.reduceSub, dAdd, dSub, dMul, dDiv, dMod, dNeg, dCmp, dLt, dLe, dGt, dGe, dEq, dNe, dEq?, dIsN, dNotN, dIsi, isTy, dLen, dIx_lst, dIx_tup, dIx_scr, dList, dRev, dInt, dMax2, dMin2, decide_eq_true_eq, if_true, if_false, Bool.not_true, Bool.not_false, Bool.false_eq_true, reduceIte, Int.reduceLT, Int.reduceLE, Int.reduceEq, Int.reduceNeg, String.reduceEq, decide_true, decide_false, ci0, ci1, ci2, ci3, ci4, ci5, dAt_0, dAt_1, dAt_2, dAt_3, dv2, dv3, dv4, dv5, dv7, dv12, dv60, dv64, fz0, fz1, fz2, fz3, fz4, fz5, fz11, mulOk2, mulOk7, Int.reduceSub, Int.reduceAdd, dCut, repOk13, repOk54, Int.reduceToNat, List.flatten_cons, List.flatten_nil, List.append_nil, decide_true, decide_false, ih, hlr, hr, mo]
    | group ss =>
      unfold Good at g; unfold dpt at h
      rw [enc]; unfold lo hi
      have f := fits_le (n := (ss.map enc).length) (by rw [List.length_map]; omega)
      have f2 := fits_le (n := (ss.map lh).length) (by rw [List.length_map]; omega)
      have ml := mapR_map (l := ss) (G := enc) (F := lh) (h := fun d => ll (k + 1) [d]) fun s hs => lengths_eq n s (by have := dpts_mem hs; omega) (g.2.mem hs) k (by omega)
      have m0 := mapR_map (l := ss) (G := lh) (F := fun s => .int (lo s)) (h := fun d => dIx d (.int 0)) fun s _ => by unfold lh; rw [dIx_tup, dAt_0]
      have m1 := mapR_map (l := ss) (G := lh) (F := fun s => .int (hi s)) (h := fun d => dIx d (.int 1)) fun s _ => by unfold lh; rw [dIx_tup, dAt_1]
      rw [encs_map, los_map, his_map]
      simp only [fnD, gNx, gSeq, gSet, gSetO, ownAt, gApp, gRev, gPut, frz, gFrz, gRet, gExpr, gIf, gExc, asL, eVar, eC, eOp, eUn, toB, tB, tAndB, tOrB, tNotB, eAnd, eOr, eNot, eChain, aNil, aCons, eTup, oLst, eO, eCall, oUn, oSl, rNone, rSome, toI, dCut, eLenO, eIxO, sBind_ok, sBind_exc, sBind_stk, Res.bind_ok, Res.bind_exc, Res.bind_stk, SRes.thn_nx, SRes.thn_rt, SRes.thn_exc, SRes.thn_stk, List.map_cons, List.map_nil, List.cons_append, List.nil_append, List.length_cons, List.length_nil, List.replicate_succ, List.replicate_zero, List.getElem?_cons_zero, List.getElem?_cons_succ, List.set_cons_zero, List.set_cons_succ, Nat.zero_add, Nat.reduceAdd, Nat.reduceSub, dAdd, dSub, dMul, dDiv, dMod, dNeg, dCmp, dLt, dLe, dGt, dGe, dEq, dNe, dEq?, dIsN, dNotN, dIsi, isTy, dLen, dIx_lst, dIx_tup, dIx_scr, dList, dRev, dInt, dMax2, dMin2, decide_eq_true_eq, if_true, if_false, Bool.not_true, Bool.not_false, Bool.false_eq_true, reduceIte, Int.reduceLT, Int.reduceLE, Int.reduceEq, Int.reduceNeg, String.reduceEq, decide_true, decide_false, ci0, ci1, ci2, ci3, ci4, ci5, dAt_0, dAt_1, dAt_2, dAt_3, dv2, dv3, dv4, dv5, dv7, dv12, dv60, dv64, fz0, fz1, fz2, fz3, fz4, fz5, fz11, mulOk2, mulOk7, Int.reduceSub, Int.reduceAdd, dCut, repOk13, repOk54, Int.reduceToNat, List.flatten_cons, List.flatten_nil, List.append_nil, oLc, f, f2, ml, m0, m1, dSum, dInts, intsOf_map]
    | one w ss =>
      unfold Good at g; unfold dpt at h
      rw [enc]; unfold lo hi
      have f := fits_le (n := (ss.map enc).length) (by rw [List.length_map]; omega)
      have f2 := fits_le (n := (ss.map lh).length) (by rw [List.length_map]; omega)
      have ml := mapR_map (l := ss) (G := enc) (F := lh) (h := fun d => ll (k + 1) [d]) fun s hs => lengths_eq n s (by have := dpts_mem hs; omega) (g.2.2.2.2.mem hs) k (by omega)
      have m0 := mapR_map (l := ss) (G := lh) (F := fun s => .int (lo s)) (h := fun d => dIx d (.int 0)) fun s _ => by unfold lh; rw [dIx_tup, dAt_0]
      have m1 := mapR_map (l := ss) (G := lh) (F := fun s => .int (hi s)) (h := fun d => dIx d (.int 1)) fun s _ => by unfold lh; rw [dIx_tup, dAt_1]
      have l0 : 0 < (ss.map lo).length := by rw [List.length_map]; omega
      have l1 : 0 < (ss.map hi).length := by rw [List.length_map]; omega
      rw [encs_map, los_map, his_map]
      simp only [fnD, gNx, gSeq, gSet, gSetO, ownAt, gApp, gRev, gPut, frz, gFrz, gRet, gExpr, gIf, gExc, asL, eVar, eC, eOp, eUn, toB, tB, tAndB, tOrB, tNotB, eAnd, eOr, eNot, eChain, aNil, aCons, eTup, oLst, eO, eCall, oUn, oSl, rNone, rSome, toI, dCut, eLenO, eIxO, sBind_ok, sBind_exc, sBind_stk, Res.bind_ok, Res.bind_exc, Res.bind_stk, SRes.thn_nx, SRes.thn_rt, SRes.thn_exc, SRes.thn_stk, List.map_cons, List.map_nil, List.cons_append, List.nil_append, List.length_cons, List.length_nil, List.replicate_succ, List.replicate_zero, List.getElem?_cons_zero, List.getElem?_cons_succ, List.set_cons_zero, List.set_cons_succ, Nat.zero_add, Nat.reduceAdd, Nat.reduceSub, dAdd, dSub, dMul, dDiv, dMod, dNeg, dCmp, dLt, dLe, dGt, dGe, dEq, dNe, dEq?, dIsN, dNotN, dIsi, isTy, dLen, dIx_lst, dIx_tup, dIx_scr, dList, dRev, dInt, dMax2, dMin2, decide_eq_true_eq, if_true, if_false, Bool.not_true, Bool.not_false, Bool.false_eq_true, reduceIte, Int.reduceLT, Int.reduceLE, Int.reduceEq, Int.reduceNeg, String.reduceEq, decide_true, decide_false, ci0, ci1, ci2, ci3, ci4, ci5, dAt_0, dAt_1, dAt_2, dAt_3, dv2, dv3, dv4, dv5, dv7, dv12, dv60, dv64, fz0, fz1, fz2, fz3, fz4, fz5, fz11, mulOk2, mulOk7, Int.reduceSub, Int.reduceAdd, dCut, repOk13, repOk54, Int.reduceToNat, List.flatten_cons, List.flatten_nil, List.append_nil, oLc, f, f2, ml, m0, m1, dMinL, dMaxL, dInts, intsOf_map, l0, l1, if_true]
end
theorem hi_nn : ∀ (n : Nat) (s : Sh), dpt s ≤ n → Good s → 0 ≤ hi s
  | 0, s, h, _ => by have := dpt_pos s; omega
  | n + 1, s, h, g => by
    cases s with
    | num w l u => unfold hi; omega
    | pad w => unfold hi; omega
    | maybe s => unfold Good at g; unfold dpt at h; unfold hi; have := hi_nn n s (by omega) g; omega
    | rows w s =>
      unfold Good at g; unfold dpt at h; unfold hi
      have a := hi_nn n s (by omega) g.2
      have b := two_le g.1
      have : 0 ≤ (2 ^ w - 1 : Int) * hi s := Int.mul_nonneg (by omega) a
      omega
    | group ss =>
      unfold Good at g; unfold dpt at h; unfold hi
      rw [his_map]
      have : ∀ l : List Int, (∀ x ∈ l, 0 ≤ x) → 0 ≤ l.sum := by
        intro l
        induction l with
        | nil => intro _; simp
        | cons a l ih => intro q; rw [List.sum_cons]; have := q a List.mem_cons_self; have := ih fun x hx => q x (List.mem_cons_of_mem _ hx); omega
      refine this _ fun x hx => ?_
      obtain ⟨s, hs, rfl⟩ := List.mem_map.mp hx
      exact hi_nn n s (by have := dpts_mem hs; omega) (g.2.mem hs)
    | one w ss =>
      unfold Good at g; unfold dpt at h; unfold hi
      obtain ⟨s, hs⟩ : ∃ s, s ∈ ss := by
        cases ss with
        | nil => have := g.2.1; simp at this
        | cons a t => exact ⟨a, List.mem_cons_self⟩
      have a := maxL_up (l := his ss) (x := hi s) (by rw [his_map]; exact List.mem_map_of_mem hs)
      have b := hi_nn n s (by have := dpts_mem hs; omega) (g.2.2.2.2.mem hs)
      omega
theorem bitsL_btw : ∀ {ss : List Sh} {rs : List D}, FitsL ss rs → (∀ s ∈ ss, ∀ r, Fits s r → lo s ≤ ((bitsS s r).length : Int) ∧ ((bitsS s r).length : Int) ≤ hi s) → (los ss).sum ≤ ((bitsL ss rs).length : Int) ∧ ((bitsL ss rs).length : Int) ≤ (his ss).sum
  | [], rs, _, _ => by unfold bitsL los his; simp
  | s :: ss, rs, h, q => by
    unfold FitsL at h
    obtain ⟨r, t, rfl, h1, h2⟩ := h
    have a := q s List.mem_cons_self r h1
    have b := bitsL_btw h2 fun s hs r hr => q s (List.mem_cons_of_mem _ hs) r hr
    unfold bitsL los his
    rw [List.sum_cons, List.sum_cons, List.length_append]
    omega
theorem bits_btw : ∀ (n : Nat) (s : Sh) (r : D), dpt s ≤ n → Good s → Fits s r → lo s ≤ ((bitsS s r).length : Int) ∧ ((bitsS s r).length : Int) ≤ hi s
  | 0, s, _, h, _, _ => by have := dpt_pos s; omega
  | n + 1, s, r, h, g, f => by
    cases s with
    | num w l u =>
      unfold Fits at f
      obtain ⟨m, rfl, h1, h2⟩ := f
      unfold bitsS lo hi
      simp only [wr_len]
      omega
    | pad w => unfold bitsS lo hi; simp only [wr_len]; omega
    | maybe s =>
      unfold Fits at f
      obtain ⟨rs, rfl, h1, h2⟩ := f
      unfold Good at g; unfold dpt at h
      have w0 := hi_nn n s (by omega) g
      have a := flat_le (B := bitsS s) (x := hi s) fun r hr => (bits_btw n s r (by omega) g (h2 r hr)).2
      have b : (rs.length : Int) * hi s ≤ 1 * hi s := Int.mul_le_mul_of_nonneg_right (by omega) (by omega)
      unfold bitsS
      rw [lo, hi]
      simp only [List.length_cons]
      omega
    | rows w s =>
      unfold Fits at f
      obtain ⟨rs, rfl, h1, h2⟩ := f
      unfold Good at g; unfold dpt at h
      have w0 := hi_nn n s (by omega) g.2
      have a := flat_le (B := bitsS s) (x := hi s) fun r hr => (bits_btw n s r (by omega) g.2 (h2 r hr)).2
      have e : (2 ^ w : Int) = ((2 ^ w : Nat) : Int) := by simp
      have b : (rs.length : Int) * hi s ≤ (2 ^ w - 1) * hi s := Int.mul_le_mul_of_nonneg_right (by omega) (by omega)
      unfold bitsS
      rw [lo, hi]
      simp only [List.length_append, wr_len]
      omega
    | group ss =>
      unfold Fits at f
      obtain ⟨rs, rfl, f⟩ := f
      unfold Good at g; unfold dpt at h
      unfold bitsS lo hi
      exact bitsL_btw f fun s hs r hr => bits_btw n s r (by have := dpts_mem hs; omega) (g.2.mem hs) hr
    | one w ss =>
      unfold Fits at f
      obtain ⟨p, r, rfl, f⟩ := f
      obtain ⟨s, hs, f⟩ := f.get
      unfold Good at g; unfold dpt at h
      have hm := List.mem_of_getElem? hs
      have a := bits_btw n s r (by have := dpts_mem hm; omega) (g.2.2.2.2.mem hm) f
      have b := maxL_up (l := his ss) (x := hi s) (by rw [his_map]; exact List.mem_map_of_mem hm)
      have hl : lo s ∈ los ss := by rw [los_map]; exact List.mem_map_of_mem hm
      have c := (minL_mem (l := los ss) (fun e => by rw [e] at hl; cases hl)).2 _ hl
      unfold bitsS lo hi
      simp only [Int.toNat_natCast, bitsA_get r hs, List.length_append, wr_len]
      omega
def S_law (p__law_deeper p__law_shape p__law_lengths p_least_bits p_most_bits p__law_whole p_packed p__law_record : List D → Res D) : List D → Res D := fnD 6 (gSeq (gSet 1 (eCall p__law_deeper (aCons (eVar 0) (aCons (eC (.int 30)) (aCons (eCall p__law_shape (aCons (eVar 0) (aCons (eC (.int 0)) aNil))) aNil)))))
  (gSeq (gSet 2 (eCall p__law_lengths (aCons (eVar 1) aNil)))
  (gSeq (gSet 3 (eCall p_least_bits (aCons (eVar 1) aNil)))
  (gSeq (gSet 4 (eCall p_most_bits (aCons (eVar 1) aNil)))
  (gSeq (gIf (tOrB (tNotB (tB (eCall p__law_whole (aCons (eVar 3) aNil)))) (tOrB (tNotB (tB (eCall p__law_whole (aCons (eVar 4) aNil)))) (tB (eOp dNe (eTup (aCons (eVar 3) (aCons (eVar 4) aNil))) (eVar 2))))) (gRet (eC (.bl false))) gNx)
  (gSeq (gIf (tB (eOp dNe (eVar 1) (eCall p__law_deeper (aCons (eVar 0) (aCons (eC (.int 30)) (aCons (eCall p__law_shape (aCons (eVar 0) (aCons (eC (.int 0)) aNil))) aNil)))))) (gRet (eC (.bl false))) gNx)
  (gSeq (gSet 5 (eCall p_packed (aCons (eVar 1) (aCons (eOp dIx (eCall p__law_record (aCons (eVar 1) (aCons (eVar 0) (aCons (eC (.int 0)) aNil)))) (eC (.int 0))) aNil))))
  (gRet (eAnd (eUn (dIsi .list) (eVar 5)) (eChain dLe dLe (eVar 3) (eUn dLen (eVar 5)) (eVar 4)))))))))))

theorem k06_law {pd psh pll pls pms pwh pp prec : List D → Res D} {ns : List Int} {d0 r : D} {b : List Int} {s : Sh} {j : Int} (h1 : psh [.scr ns, .int 0] = .ok d0) (h2 : pd [.scr ns, .int 30, d0] = .ok (enc s)) (h3 : prec [enc s, .scr ns, .int 0] = .ok (.tup [r, .int j]))
    (h4 : pp [enc s, r] = .ok (.lst (dI b))) (q1 : pll [enc s] = .ok (lh s)) (q2 : pls [enc s] = .ok (.int (lo s))) (q3 : pms [enc s] = .ok (.int (hi s))) (hw : ∀ n, pwh [.int n] = .ok (.bl true)) (hn : dNe (enc s) (enc s) = .ok (.bl false))
    (hb : lo s ≤ (b.length : Int) ∧ (b.length : Int) ≤ hi s) : S_law pd psh pll pls pms pwh pp prec [.scr ns] = .ok (.bl true) := by
  unfold lh at q1
  refine fnD_rt (seq_nx (by simp only [fnD, gNx, gSeq, gSet, gSetO, ownAt, gApp, gRev, gPut, frz, gFrz, gRet, gExpr, gIf, gExc, asL, eVar, eC, eOp, eUn, toB, tB, tAndB, tOrB, tNotB, eAnd, eOr, eNot, eChain, aNil, aCons, eTup, oLst, eO, eCall, oUn, oSl, rNone, rSome, toI, dCut, eLenO, eIxO, sBind_ok, sBind_exc, sBind_stk, Res.bind_ok, Res.bind_exc, Res.bind_stk, SRes.thn_nx, SRes.thn_rt, SRes.thn_exc, SRes.thn_stk, List.map_cons, List.map_nil, List.cons_append, List.nil_append, List.length_cons, List.length_nil, List.replicate_succ, List.replicate_zero, List.getElem?_cons_zero, List.getElem?_cons_succ, List.set_cons_zero, List.set_cons_succ, Nat.zero_add, Nat.reduceAdd, Nat.reduceSub, dAdd, dSub, dMul, dDiv, dMod, dNeg, dCmp, dLt, dLe, dGt, dGe, dEq, dNe, dEq?, dIsN, dNotN, dIsi, isTy, dLen, dIx_lst, dIx_tup, dIx_scr, dList, dRev, dInt, dMax2, dMin2, decide_eq_true_eq, if_true, if_false, Bool.not_true, Bool.not_false, Bool.false_eq_true, reduceIte, Int.reduceLT, Int.reduceLE, Int.reduceEq, Int.reduceNeg, String.reduceEq, decide_true, decide_false, ci0, ci1, ci2, ci3, ci4, ci5, dAt_0, dAt_1, dAt_2, dAt_3, dv2, dv3, dv4, dv5, dv7, dv12, dv60, dv64, fz0, fz1, fz2, fz3, fz4, fz5, fz11, mulOk2, mulOk7, Int.reduceSub, Int.reduceAdd, dCut, repOk13, repOk54, Int.reduceToNat, List.flatten_cons, List.flatten_nil, List.append_nil, h1, h2] <;> rfl) (seq_nx (by simp only [fnD, gNx, gSeq, gSet, gSetO, ownAt, gApp, gRev, gPut, frz, gFrz, gRet, gExpr, gIf, gExc, asL, eVar, eC, eOp, eUn, toB, tB, tAndB, tOrB, tNotB, eAnd, eOr, eNot, eChain, aNil, aCons, eTup, oLst, eO, eCall, oUn, oSl, rNone, rSome, toI, dCut, eLenO, eIxO, sBind_ok, sBind_exc, sBind_stk, Res.bind_ok, Res.bind_exc, Res.bind_stk, SRes.thn_nx, SRes.thn_rt, SRes.thn_exc, SRes.thn_stk, List.map_cons, List.map_nil, List.cons_append, List.nil_append, List.length_cons, List.length_nil, List.replicate_succ, List.replicate_zero, List.getElem?_cons_zero, List.getElem?_cons_succ, List.set_cons_zero, List.set_cons_succ, Nat.zero_add, Nat.reduceAdd, Nat.reduceSub, dAdd, dSub, dMul, dDiv, dMod, dNeg, dCmp, dLt, dLe, dGt, dGe, dEq, dNe, dEq?, dIsN, dNotN, dIsi, isTy, dLen, dIx_lst, dIx_tup, dIx_scr, dList, dRev, dInt, dMax2, dMin2, decide_eq_true_eq, if_true, if_false, Bool.not_true, Bool.not_false, Bool.false_eq_true, reduceIte, Int.reduceLT, Int.reduceLE, Int.reduceEq, Int.reduceNeg, String.reduceEq, decide_true, decide_false, ci0, ci1, ci2, ci3, ci4, ci5, dAt_0, dAt_1, dAt_2, dAt_3, dv2, dv3, dv4, dv5, dv7, dv12, dv60, dv64, fz0, fz1, fz2, fz3, fz4, fz5, fz11, mulOk2, mulOk7, Int.reduceSub, Int.reduceAdd, dCut, repOk13, repOk54, Int.reduceToNat, List.flatten_cons, List.flatten_nil, List.append_nil, q1] <;> rfl) (seq_nx (by simp only [fnD, gNx, gSeq, gSet, gSetO, ownAt, gApp, gRev, gPut, frz, gFrz, gRet, gExpr, gIf, gExc, asL, eVar, eC, eOp, eUn, toB, tB, tAndB, tOrB, tNotB, eAnd, eOr, eNot, eChain, aNil, aCons, eTup, oLst, eO, eCall, oUn, oSl, rNone, rSome, toI, dCut, eLenO, eIxO, sBind_ok, sBind_exc, sBind_stk, Res.bind_ok, Res.bind_exc, Res.bind_stk, SRes.thn_nx, SRes.thn_rt, SRes.thn_exc, SRes.thn_stk, List.map_cons, List.map_nil, List.cons_append, List.nil_append, List.length_cons, List.length_nil, List.replicate_succ, List.replicate_zero, List.getElem?_cons_zero, List.getElem?_cons_succ, List.set_cons_zero, List.set_cons_succ, Nat.zero_add, Nat.reduceAdd, Nat.reduceSub, dAdd, dSub, dMul, dDiv, dMod, dNeg, dCmp, dLt, dLe, dGt, dGe, dEq, dNe, dEq?, dIsN, dNotN, dIsi, isTy, dLen, dIx_lst, dIx_tup, dIx_scr, dList, dRev, dInt, dMax2, dMin2, decide_eq_true_eq, if_true, if_false, Bool.not_true, Bool.not_false, Bool.false_eq_true, reduceIte, Int.reduceLT, Int.reduceLE, Int.reduceEq, Int.reduceNeg, String.reduceEq, decide_true, decide_false, ci0, ci1, ci2, ci3, ci4, ci5, dAt_0, dAt_1, dAt_2, dAt_3, dv2, dv3, dv4, dv5, dv7, dv12, dv60, dv64, fz0, fz1, fz2, fz3, fz4, fz5, fz11, mulOk2, mulOk7, Int.reduceSub, Int.reduceAdd, dCut, repOk13, repOk54, Int.reduceToNat, List.flatten_cons, List.flatten_nil, List.append_nil, q2] <;> rfl) (seq_nx (by simp only [fnD, gNx, gSeq, gSet, gSetO, ownAt, gApp, gRev, gPut, frz, gFrz, gRet, gExpr, gIf, gExc, asL, eVar, eC, eOp, eUn, toB, tB, tAndB, tOrB, tNotB, eAnd, eOr, eNot, eChain, aNil, aCons, eTup, oLst, eO, eCall, oUn, oSl, rNone, rSome, toI, dCut, eLenO, eIxO, sBind_ok, sBind_exc, sBind_stk, Res.bind_ok, Res.bind_exc, Res.bind_stk, SRes.thn_nx, SRes.thn_rt, SRes.thn_exc, SRes.thn_stk, List.map_cons, List.map_nil, List.cons_append, List.nil_append, List.length_cons, List.length_nil, List.replicate_succ, List.replicate_zero, List.getElem?_cons_zero, List.getElem?_cons_succ, List.set_cons_zero, List.set_cons_succ, Nat.zero_add, Nat.reduceAdd, Nat.reduceSub, dAdd, dSub, dMul, dDiv, dMod, dNeg, dCmp, dLt, dLe, dGt, dGe, dEq, dNe, dEq?, dIsN, dNotN, dIsi, isTy, dLen, dIx_lst, dIx_tup, dIx_scr, dList, dRev, dInt, dMax2, dMin2, decide_eq_true_eq, if_true, if_false, Bool.not_true, Bool.not_false, Bool.false_eq_true, reduceIte, Int.reduceLT, Int.reduceLE, Int.reduceEq, Int.reduceNeg, String.reduceEq, decide_true, decide_false, ci0, ci1, ci2, ci3, ci4, ci5, dAt_0, dAt_1, dAt_2, dAt_3, dv2, dv3, dv4, dv5, dv7, dv12, dv60, dv64, fz0, fz1, fz2, fz3, fz4, fz5, fz11, mulOk2, mulOk7, Int.reduceSub, Int.reduceAdd, dCut, repOk13, repOk54, Int.reduceToNat, List.flatten_cons, List.flatten_nil, List.append_nil, q3] <;> rfl) (seq_nx (if_n ?_) (seq_nx (if_n ?_) (seq_nx (by simp only [fnD, gNx, gSeq, gSet, gSetO, ownAt, gApp, gRev, gPut, frz, gFrz, gRet, gExpr, gIf, gExc, asL, eVar, eC, eOp, eUn, toB, tB, tAndB, tOrB, tNotB, eAnd, eOr, eNot, eChain, aNil, aCons, eTup, oLst, eO, eCall, oUn, oSl, rNone, rSome, toI, dCut, eLenO, eIxO, sBind_ok, sBind_exc, sBind_stk, Res.bind_ok, Res.bind_exc, Res.bind_stk, SRes.thn_nx, SRes.thn_rt, SRes.thn_exc, SRes.thn_stk, List.map_cons, List.map_nil, List.cons_append, List.nil_append, List.length_cons, List.length_nil, List.replicate_succ, List.replicate_zero, List.getElem?_cons_zero, List.getElem?_cons_succ, List.set_cons_zero, List.set_cons_succ, Nat.zero_add, Nat.reduceAdd, Nat.reduceSub, dAdd, dSub, dMul, dDiv, dMod, dNeg, dCmp, dLt, dLe, dGt, dGe, dEq, dNe, dEq?, dIsN, dNotN, dIsi, isTy, dLen, dIx_lst, dIx_tup, dIx_scr, dList, dRev, dInt, dMax2, dMin2, decide_eq_true_eq, if_true, if_false, Bool.not_true, Bool.not_false, Bool.false_eq_true, reduceIte, Int.reduceLT, Int.reduceLE, Int.reduceEq, Int.reduceNeg, String.reduceEq, decide_true, decide_false, ci0, ci1, ci2, ci3, ci4, ci5, dAt_0, dAt_1, dAt_2, dAt_3, dv2, dv3, dv4, dv5, dv7, dv12, dv60, dv64, fz0, fz1, fz2, fz3, fz4, fz5, fz11, mulOk2, mulOk7, Int.reduceSub, Int.reduceAdd, dCut, repOk13, repOk54, Int.reduceToNat, List.flatten_cons, List.flatten_nil, List.append_nil, h3, h4] <;> rfl) ?_)))))))
  · have e := ne_pair (lo s) (hi s)
    simp only [tOrB, tNotB, tB, eCall, aCons, aNil, eVar, eOp, eTup, List.getElem?_cons_zero, List.getElem?_cons_succ, Res.bind_ok, List.length_cons, List.length_nil, Nat.zero_add, Nat.reduceAdd, fz2, if_true, hw, toB, Bool.not_true, Bool.false_eq_true, if_false, e, List.set_cons_zero, List.set_cons_succ, List.map_cons, List.map_nil, List.replicate_succ, List.replicate_zero, List.cons_append, List.nil_append, Nat.reduceSub]
  · simp only [tOrB, tNotB, tB, eCall, aCons, aNil, eVar, eOp, eTup, eC, List.getElem?_cons_zero, List.getElem?_cons_succ, Res.bind_ok, List.length_cons, List.length_nil, Nat.zero_add, Nat.reduceAdd, toB, List.set_cons_zero, List.set_cons_succ, List.map_cons, List.map_nil, List.replicate_succ, List.replicate_zero, List.cons_append, List.nil_append, Nat.reduceSub, h1, h2, hn]
  · simp only [fnD, gNx, gSeq, gSet, gSetO, ownAt, gApp, gRev, gPut, frz, gFrz, gRet, gExpr, gIf, gExc, asL, eVar, eC, eOp, eUn, toB, tB, tAndB, tOrB, tNotB, eAnd, eOr, eNot, eChain, aNil, aCons, eTup, oLst, eO, eCall, oUn, oSl, rNone, rSome, toI, dCut, eLenO, eIxO, sBind_ok, sBind_exc, sBind_stk, Res.bind_ok, Res.bind_exc, Res.bind_stk, SRes.thn_nx, SRes.thn_rt, SRes.thn_exc, SRes.thn_stk, List.map_cons, List.map_nil, List.cons_append, List.nil_append, List.length_cons, List.length_nil, List.replicate_succ, List.replicate_zero, List.getElem?_cons_zero, List.getElem?_cons_succ, List.set_cons_zero, List.set_cons_succ, Nat.zero_add, Nat.reduceAdd, Nat.reduceSub, dAdd, dSub, dMul, dDiv, dMod, dNeg, dCmp, dLt, dLe, dGt, dGe, dEq, dNe, dEq?, dIsN, dNotN, dIsi, isTy, dLen, dIx_lst, dIx_tup, dIx_scr, dList, dRev, dInt, dMax2, dMin2, decide_eq_true_eq, if_true, if_false, Bool.not_true, Bool.not_false, Bool.false_eq_true, reduceIte, Int.reduceLT, Int.reduceLE, Int.reduceEq, Int.reduceNeg, String.reduceEq, decide_true, decide_false, ci0, ci1, ci2, ci3, ci4, ci5, dAt_0, dAt_1, dAt_2, dAt_3, dv2, dv3, dv4, dv5, dv7, dv12, dv60, dv64, fz0, fz1, fz2, fz3, fz4, fz5, fz11, mulOk2, mulOk7, Int.reduceSub, Int.reduceAdd, dCut, repOk13, repOk54, Int.reduceToNat, List.flatten_cons, List.flatten_nil, List.append_nil, eChain, dI_len, hb.1, hb.2, decide_true]
end Pu

namespace Pw
open PySem PySem.Spec PyProof.Rows L2 Pu
def topS (i : Nat) : Stmt := PySem.Challenge.pw_bitpack_k06_lengths.main.body.getD i (.Pass ⟨0, 0, 0, 0⟩)
section
variable {P : Program} {w : World} {K : Fr} {mg : Str → Option Value} {base : Heap} {k : Nat}
abbrev s_room : Stmt := topS 5
theorem sc_room : FnScope ["width", "size", "step"] ["width"] (defScope s_room) := ⟨rfl, rfl, rfl, by decide +kernel, rfl, by decide +kernel, by decide +kernel⟩
theorem ok_room {f : Addr} {fd : FuncData} (F : Fun K "room" "room" s_room f fd) (m_range : mg "range" = none) : FnOk P w K mg base (L2.CX P w) (k + 1) f fd ["width"] (spP K mg 1 (S_room)) :=
  have sc := sc_room
  fn_pure F sc fun cdv A outer s H E hr tk hp => (pss_consP (ps_setP 1 pp_int sc.nd)
    (pss_consP (ps_forRP 2 hp rfl m_range (pp_var 0) (pss_oneP (ps_setP 1 (pp_op o2_mul (pp_var 1) pp_int) sc.nd)) sc.nd)
    (pss_oneP (ps_retP (pp_var 1)))))

abbrev s_bits_of : Stmt := topS 6
theorem sc_bits_of : FnScope ["number", "width", "bits", "step"] ["number", "width"] (defScope s_bits_of) := ⟨rfl, rfl, rfl, by decide +kernel, rfl, by decide +kernel, by decide +kernel⟩
theorem ok_bits_of {f : Addr} {fd : FuncData} {p_room : List D → Res D} (F : Fun K "bits_of" "bits_of" s_bits_of f fd) (c_room : Cal P w K mg base k "room" 1 p_room) (m_range : mg "range" = none) (x_TooWide : ExcT K mg "TooWide") : FnOk P w K mg base (L2.CX P w) (k + 1) f fd ["number", "width"] (spP K mg 2 (S_bits_of p_room)) :=
  have sc := sc_bits_of
  fn_pure F sc fun cdv A outer s H E hr tk hp => (pss_consP (ps_ifP (pw_orP (pt_cmpP o2_lt (pp_var 0) pp_int) (pw_or1P (pt_cmpP o2_ge (pp_var 0) (pp_call c_room hr tk (pa_consP (pp_var 1) pa_nilP) (al_cons al_nil))))).pt' (pss_oneP (ps_raiseP (c := "TooWide") x_TooWide tk)) pss_nilP)
    (pss_consP (ps_setOP 2 (po_lst pa_nilP) sc.nd)
    (pss_consP (ps_forRP 3 hp rfl m_range (pp_var 1) (pss_consP (ps_appP 2 (pp_op o2_mod (pp_var 0) pp_int))
    (pss_oneP (ps_setP 0 (pp_op o2_div (pp_var 0) pp_int) sc.nd))) sc.nd)
    (pss_consP (ps_revP 2)
    ((pss_oneP (ps_retP (pp_var 2))).frz 2)))))

abbrev s_between : Stmt := topS 8
theorem sc_between : FnScope ["thing", "least", "most"] ["thing", "least", "most"] (defScope s_between) := ⟨rfl, rfl, rfl, by decide +kernel, rfl, by decide +kernel, by decide +kernel⟩
theorem ok_between {f : Addr} {fd : FuncData} (F : Fun K "between" "between" s_between f fd) (m_isinstance : mg "isinstance" = none) (m_bool : mg "bool" = none) (m_int : mg "int" = none) : FnOk P w K mg base (L2.CX P w) (k + 1) f fd ["thing", "least", "most"] (spP K mg 3 (S_between)) :=
  have sc := sc_between
  fn_pure F sc fun cdv A outer s H E hr tk hp => (pss_oneP (ps_retP (pp_and (pp_isi .int m_isinstance m_int (pp_var 0)) (pp_and (pp_not (pp_isi .bool m_isinstance m_bool (pp_var 0))) (pp_one (pe_chainP o2_le o2_le (pp_var 1) (pp_var 0) (pp_var 2)))))))

abbrev s_least_bits : Stmt := topS 9
theorem sc_least_bits : FnScope ["shape", "part"] ["shape"] (defScope s_least_bits) := ⟨rfl, rfl, rfl, by decide +kernel, rfl, by decide +kernel, by decide +kernel⟩
theorem ok_least_bits {f : Addr} {fd : FuncData} {p_least_bits : List D → Res D} (F : Fun K "least_bits" "least_bits" s_least_bits f fd) (c_least_bits : Cal P w K mg base k "least_bits" 1 p_least_bits) (m_sum : mg "sum" = none) (m_min : mg "min" = none) : FnOk P w K mg base (L2.CX P w) (k + 1) f fd ["shape"] (spP K mg 1 (S_least_bits p_least_bits)) :=
  have sc := sc_least_bits
  fn_pure F sc fun cdv A outer s H E hr tk hp => (pss_consP (ps_ifP (pt_cmpP (o2_eq hr.units) (pp_ix (pp_var 0) pp_int) pp_str) (pss_oneP (ps_retP pp_int)) pss_nilP)
    (pss_consP (ps_ifP (pt_cmpP (o2_eq hr.units) (pp_ix (pp_var 0) pp_int) pp_str) (pss_oneP (ps_retP (pp_b1 (c1_sum rfl) m_sum ((po_lc 1 rfl sc.nd (blkOk_by (N := ["shape", "part"]) (sc := defScope s_least_bits) (by decide +kernel)) (pp_ix (pp_var 0) pp_int) (fun _ _ _ _ _ => pg_name (i := 1) sc.nd rfl (Or.inl rfl)) (fun _ _ _ _ _ => (pp_call c_least_bits hr takes0 (pa_consP (pp_var 1) pa_nilP) (al_cons al_nil))))).fz))) pss_nilP)
    (pss_consP (ps_ifP (pt_cmpP (o2_eq hr.units) (pp_ix (pp_var 0) pp_int) pp_str) (pss_oneP (ps_retP (pp_op o2_add (pp_ix (pp_var 0) pp_int) (pp_b1 (c1_minL rfl) m_min ((po_lc 1 rfl sc.nd (blkOk_by (N := ["shape", "part"]) (sc := defScope s_least_bits) (by decide +kernel)) (pp_ix (pp_var 0) pp_int) (fun _ _ _ _ _ => pg_name (i := 1) sc.nd rfl (Or.inl rfl)) (fun _ _ _ _ _ => (pp_call c_least_bits hr takes0 (pa_consP (pp_var 1) pa_nilP) (al_cons al_nil))))).fz)))) pss_nilP)
    (pss_oneP (ps_retP (pp_ix (pp_var 0) pp_int))))))

abbrev s_most_bits : Stmt := topS 10
theorem sc_most_bits : FnScope ["shape", "part"] ["shape"] (defScope s_most_bits) := ⟨rfl, rfl, rfl, by decide +kernel, rfl, by decide +kernel, by decide +kernel⟩
theorem ok_most_bits {f : Addr} {fd : FuncData} {p_most_bits p_room : List D → Res D} (F : Fun K "most_bits" "most_bits" s_most_bits f fd) (c_most_bits : Cal P w K mg base k "most_bits" 1 p_most_bits) (c_room : Cal P w K mg base k "room" 1 p_room) (m_sum : mg "sum" = none) (m_max : mg "max" = none) : FnOk P w K mg base (L2.CX P w) (k + 1) f fd ["shape"] (spP K mg 1 (S_most_bits p_most_bits p_room)) :=
  have sc := sc_most_bits
  fn_pure F sc fun cdv A outer s H E hr tk hp => (pss_consP (ps_ifP (pt_cmpP (o2_eq hr.units) (pp_ix (pp_var 0) pp_int) pp_str) (pss_oneP (ps_retP (pp_op o2_add pp_int (pp_call c_most_bits hr tk (pa_consP (pp_ix (pp_var 0) pp_int) pa_nilP) (al_cons al_nil))))) pss_nilP)
    (pss_consP (ps_ifP (pt_cmpP (o2_eq hr.units) (pp_ix (pp_var 0) pp_int) pp_str) (pss_oneP (ps_retP (pp_op o2_add (pp_ix (pp_var 0) pp_int) (pp_op o2_mul (pp_op o2_sub (pp_call c_room hr tk (pa_consP (pp_ix (pp_var 0) pp_int) pa_nilP) (al_cons al_nil)) pp_int) (pp_call c_most_bits hr tk (pa_consP (pp_ix (pp_var 0) pp_int) pa_nilP) (al_cons al_nil)))))) pss_nilP)
    (pss_consP (ps_ifP (pt_cmpP (o2_eq hr.units) (pp_ix (pp_var 0) pp_int) pp_str) (pss_oneP (ps_retP (pp_b1 (c1_sum rfl) m_sum ((po_lc 1 rfl sc.nd (blkOk_by (N := ["shape", "part"]) (sc := defScope s_most_bits) (by decide +kernel)) (pp_ix (pp_var 0) pp_int) (fun _ _ _ _ _ => pg_name (i := 1) sc.nd rfl (Or.inl rfl)) (fun _ _ _ _ _ => (pp_call c_most_bits hr takes0 (pa_consP (pp_var 1) pa_nilP) (al_cons al_nil))))).fz))) pss_nilP)
    (pss_consP (ps_ifP (pt_cmpP (o2_eq hr.units) (pp_ix (pp_var 0) pp_int) pp_str) (pss_oneP (ps_retP (pp_op o2_add (pp_ix (pp_var 0) pp_int) (pp_b1 (c1_maxL rfl) m_max ((po_lc 1 rfl sc.nd (blkOk_by (N := ["shape", "part"]) (sc := defScope s_most_bits) (by decide +kernel)) (pp_ix (pp_var 0) pp_int) (fun _ _ _ _ _ => pg_name (i := 1) sc.nd rfl (Or.inl rfl)) (fun _ _ _ _ _ => (pp_call c_most_bits hr takes0 (pa_consP (pp_var 1) pa_nilP) (al_cons al_nil))))).fz)))) pss_nilP)
    (pss_oneP (ps_retP (pp_ix (pp_var 0) pp_int)))))))

abbrev s_all_fit : Stmt := topS 12
theorem sc_all_fit : FnScope ["shape", "things", "thing"] ["shape", "things"] (defScope s_all_fit) := ⟨rfl, rfl, rfl, by decide +kernel, rfl, by decide +kernel, by decide +kernel⟩
theorem ok_all_fit {f : Addr} {fd : FuncData} {p_fits : List D → Res D} (F : Fun K "all_fit" "all_fit" s_all_fit f fd) (c_fits : Cal P w K mg base k "fits" 2 p_fits) : FnOk P w K mg base (L2.CX P w) (k + 1) f fd ["shape", "things"] (spP K mg 2 (S_all_fit p_fits)) :=
  have sc := sc_all_fit
  fn_pure F sc fun cdv A outer s H E hr tk hp => (pss_consP (ps_forP 2 hp rfl (pp_var 1) (pss_oneP (ps_ifP (pt_notP (pt_valP (pp_call c_fits hr tk (pa_consP (pp_var 0) (pa_consP (pp_var 2) pa_nilP)) (al_cons (al_cons al_nil))))) (pss_oneP (ps_retP pp_bl)) pss_nilP)) sc.nd)
    (pss_oneP (ps_retP pp_bl)))

abbrev s_group_fits : Stmt := topS 13
theorem sc_group_fits : FnScope ["shapes", "things", "part", "thing"] ["shapes", "things"] (defScope s_group_fits) := ⟨rfl, rfl, rfl, by decide +kernel, rfl, by decide +kernel, by decide +kernel⟩
theorem ok_group_fits {f : Addr} {fd : FuncData} {p_fits : List D → Res D} (F : Fun K "group_fits" "group_fits" s_group_fits f fd) (c_fits : Cal P w K mg base k "fits" 2 p_fits) (m_len : mg "len" = none) (m_zip : mg "zip" = none) : FnOk P w K mg base (L2.CX P w) (k + 1) f fd ["shapes", "things"] (spP K mg 2 (S_group_fits p_fits)) :=
  have sc := sc_group_fits
  fn_pure F sc fun cdv A outer s H E hr tk hp => (pss_consP (ps_ifP (pt_cmpP (o2_ne hr.units) (pp_b1 c1_len m_len (pp_var 1)) (pp_b1 c1_len m_len (pp_var 0))) (pss_oneP (ps_retP pp_bl)) pss_nilP)
    (pss_consP (ps_forZP 2 3 hp rfl m_zip (pp_var 0) (pp_var 1) (pss_oneP (ps_ifP (pt_notP (pt_valP (pp_call c_fits hr tk (pa_consP (pp_var 2) (pa_consP (pp_var 3) pa_nilP)) (al_cons (al_cons al_nil))))) (pss_oneP (ps_retP pp_bl)) pss_nilP)) sc.nd)
    (pss_oneP (ps_retP pp_bl))))

abbrev s_fits : Stmt := topS 14
theorem sc_fits : FnScope ["shape", "record", "kind"] ["shape", "record"] (defScope s_fits) := ⟨rfl, rfl, rfl, by decide +kernel, rfl, by decide +kernel, by decide +kernel⟩
theorem ok_fits {f : Addr} {fd : FuncData} {p_between p_fits p_group_fits p_all_fit p_room : List D → Res D} (F : Fun K "fits" "fits" s_fits f fd) (c_between : Cal P w K mg base k "between" 3 p_between) (c_fits : Cal P w K mg base k "fits" 2 p_fits) (c_group_fits : Cal P w K mg base k "group_fits" 2 p_group_fits) (c_all_fit : Cal P w K mg base k "all_fit" 2 p_all_fit) (c_room : Cal P w K mg base k "room" 1 p_room) (m_len : mg "len" = none) (m_isinstance : mg "isinstance" = none) (m_tuple : mg "tuple" = none) (m_list : mg "list" = none) : FnOk P w K mg base (L2.CX P w) (k + 1) f fd ["shape", "record"] (spP K mg 2 (S_fits p_between p_fits p_group_fits p_all_fit p_room)) :=
  have sc := sc_fits
  fn_pure F sc fun cdv A outer s H E hr tk hp => (pss_consP (ps_setP 2 (pp_ix (pp_var 0) pp_int) sc.nd)
    (pss_consP (ps_ifP (pt_cmpP (o2_eq hr.units) (pp_var 2) pp_str) (pss_oneP (ps_retP (pp_call c_between hr tk (pa_consP (pp_var 1) (pa_consP (pp_ix (pp_var 0) pp_int) (pa_consP (pp_ix (pp_var 0) pp_int) pa_nilP))) (al_cons (al_cons (al_cons al_nil)))))) pss_nilP)
    (pss_consP (ps_ifP (pt_cmpP (o2_eq hr.units) (pp_var 2) pp_str) (pss_oneP (ps_retP (pp_isN (pp_var 1)))) pss_nilP)
    (pss_consP (ps_ifP (pt_cmpP (o2_eq hr.units) (pp_var 2) pp_str) (pss_consP (ps_ifP (pw_orP (pt_notP (pt_valP (pp_isi .tuple m_isinstance m_tuple (pp_var 1)))) (pw_or1P (pt_cmpP (o2_ne hr.units) (pp_b1 c1_len m_len (pp_var 1)) pp_int))).pt' (pss_oneP (ps_retP pp_bl)) pss_nilP)
    (pss_oneP (ps_retP (pp_and (pp_call c_between hr tk (pa_consP (pp_ix (pp_var 1) pp_int) (pa_consP pp_int (pa_consP (pp_op o2_sub (pp_b1 c1_len m_len (pp_ix (pp_var 0) pp_int)) pp_int) pa_nilP))) (al_cons (al_cons (al_cons al_nil)))) (pp_one (pp_call c_fits hr tk (pa_consP (pp_ix (pp_ix (pp_var 0) pp_int) (pp_ix (pp_var 1) pp_int)) (pa_consP (pp_ix (pp_var 1) pp_int) pa_nilP)) (al_cons (al_cons al_nil)))))))) pss_nilP)
    (pss_consP (ps_ifP (pt_notP (pt_valP (pp_isi .list m_isinstance m_list (pp_var 1)))) (pss_oneP (ps_retP pp_bl)) pss_nilP)
    (pss_consP (ps_ifP (pt_cmpP (o2_eq hr.units) (pp_var 2) pp_str) (pss_oneP (ps_retP (pp_call c_group_fits hr tk (pa_consP (pp_ix (pp_var 0) pp_int) (pa_consP (pp_var 1) pa_nilP)) (al_cons (al_cons al_nil))))) pss_nilP)
    (pss_consP (ps_ifP (pt_cmpP (o2_eq hr.units) (pp_var 2) pp_str) (pss_oneP (ps_retP (pp_and (pp_cmp o2_le (pp_b1 c1_len m_len (pp_var 1)) pp_int) (pp_one (pp_call c_all_fit hr tk (pa_consP (pp_ix (pp_var 0) pp_int) (pa_consP (pp_var 1) pa_nilP)) (al_cons (al_cons al_nil))))))) pss_nilP)
    (pss_oneP (ps_retP (pp_and (pp_cmp o2_lt (pp_b1 c1_len m_len (pp_var 1)) (pp_call c_room hr tk (pa_consP (pp_ix (pp_var 0) pp_int) pa_nilP) (al_cons al_nil))) (pp_one (pp_call c_all_fit hr tk (pa_consP (pp_ix (pp_var 0) pp_int) (pa_consP (pp_var 1) pa_nilP)) (al_cons (al_cons al_nil))))))))))))))

abbrev s_joined : Stmt := topS 15
theorem sc_joined : FnScope ["shape", "things", "bits", "thing"] ["shape", "things"] (defScope s_joined) := ⟨rfl, rfl, rfl, by decide +kernel, rfl, by decide +kernel, by decide +kernel⟩
theorem ok_joined {f : Addr} {fd : FuncData} {p_bits_by : List D → Res D} (F : Fun K "joined" "joined" s_joined f fd) (c_bits_by : Cal P w K mg base k "bits_by" 2 p_bits_by) : FnOk P w K mg base (L2.CX P w) (k + 1) f fd ["shape", "things"] (spP K mg 2 (S_joined p_bits_by)) :=
  have sc := sc_joined
  fn_pure F sc fun cdv A outer s H E hr tk hp => (pss_consP (ps_setP 2 ((po_lst pa_nilP)).fz sc.nd)
    (pss_consP (ps_forP 3 hp rfl (pp_var 1) (pss_oneP (ps_setP 2 (pp_op o2_add (pp_var 2) (pp_call c_bits_by hr tk (pa_consP (pp_var 0) (pa_consP (pp_var 3) pa_nilP)) (al_cons (al_cons al_nil)))) sc.nd)) sc.nd)
    (pss_oneP (ps_retP (pp_var 2)))))

abbrev s_bits_by : Stmt := topS 16
theorem sc_bits_by : FnScope ["shape", "record", "kind", "bits", "part", "thing"] ["shape", "record"] (defScope s_bits_by) := ⟨rfl, rfl, rfl, by decide +kernel, rfl, by decide +kernel, by decide +kernel⟩
theorem ok_bits_by {f : Addr} {fd : FuncData} {p_bits_of p_joined p_bits_by : List D → Res D} (F : Fun K "bits_by" "bits_by" s_bits_by f fd) (c_bits_of : Cal P w K mg base k "bits_of" 2 p_bits_of) (c_joined : Cal P w K mg base k "joined" 2 p_joined) (c_bits_by : Cal P w K mg base k "bits_by" 2 p_bits_by) (m_len : mg "len" = none) (m_zip : mg "zip" = none) : FnOk P w K mg base (L2.CX P w) (k + 1) f fd ["shape", "record"] (spP K mg 2 (S_bits_by p_bits_of p_joined p_bits_by)) :=
  have sc := sc_bits_by
  fn_pure F sc fun cdv A outer s H E hr tk hp => (pss_consP (ps_setP 2 (pp_ix (pp_var 0) pp_int) sc.nd)
    (pss_consP (ps_ifP (pt_cmpP (o2_eq hr.units) (pp_var 2) pp_str) (pss_oneP (ps_retP (pp_call c_bits_of hr tk (pa_consP (pp_op o2_sub (pp_var 1) (pp_ix (pp_var 0) pp_int)) (pa_consP (pp_ix (pp_var 0) pp_int) pa_nilP)) (al_cons (al_cons al_nil))))) pss_nilP)
    (pss_consP (ps_ifP (pt_cmpP (o2_eq hr.units) (pp_var 2) pp_str) (pss_oneP (ps_retP (pp_call c_bits_of hr tk (pa_consP pp_int (pa_consP (pp_ix (pp_var 0) pp_int) pa_nilP)) (al_cons (al_cons al_nil))))) pss_nilP)
    (pss_consP (ps_ifP (pt_cmpP (o2_eq hr.units) (pp_var 2) pp_str) (pss_oneP (ps_retP (pp_op o2_add ((po_lst (pa_consP (pp_b1 c1_len m_len (pp_var 1)) pa_nilP))).fz (pp_call c_joined hr tk (pa_consP (pp_ix (pp_var 0) pp_int) (pa_consP (pp_var 1) pa_nilP)) (al_cons (al_cons al_nil)))))) pss_nilP)
    (pss_consP (ps_ifP (pt_cmpP (o2_eq hr.units) (pp_var 2) pp_str) (pss_oneP (ps_retP (pp_op o2_add (pp_call c_bits_of hr tk (pa_consP (pp_b1 c1_len m_len (pp_var 1)) (pa_consP (pp_ix (pp_var 0) pp_int) pa_nilP)) (al_cons (al_cons al_nil))) (pp_call c_joined hr tk (pa_consP (pp_ix (pp_var 0) pp_int) (pa_consP (pp_var 1) pa_nilP)) (al_cons (al_cons al_nil)))))) pss_nilP)
    (pss_consP (ps_ifP (pt_cmpP (o2_eq hr.units) (pp_var 2) pp_str) (pss_oneP (ps_retP (pp_op o2_add (pp_call c_bits_of hr tk (pa_consP (pp_ix (pp_var 1) pp_int) (pa_consP (pp_ix (pp_var 0) pp_int) pa_nilP)) (al_cons (al_cons al_nil))) (pp_call c_bits_by hr tk (pa_consP (pp_ix (pp_ix (pp_var 0) pp_int) (pp_ix (pp_var 1) pp_int)) (pa_consP (pp_ix (pp_var 1) pp_int) pa_nilP)) (al_cons (al_cons al_nil)))))) pss_nilP)
    (pss_consP (ps_setP 3 ((po_lst pa_nilP)).fz sc.nd)
    (pss_consP (ps_forZP 4 5 hp rfl m_zip (pp_ix (pp_var 0) pp_int) (pp_var 1) (pss_oneP (ps_setP 3 (pp_op o2_add (pp_var 3) (pp_call c_bits_by hr tk (pa_consP (pp_var 4) (pa_consP (pp_var 5) pa_nilP)) (al_cons (al_cons al_nil)))) sc.nd)) sc.nd)
    (pss_oneP (ps_retP (pp_var 3)))))))))))

abbrev s_packed : Stmt := topS 17
theorem sc_packed : FnScope ["shape", "record"] ["shape", "record"] (defScope s_packed) := ⟨rfl, rfl, rfl, by decide +kernel, rfl, by decide +kernel, by decide +kernel⟩
theorem ok_packed {f : Addr} {fd : FuncData} {p_fits p_bits_by : List D → Res D} (F : Fun K "packed" "packed" s_packed f fd) (c_fits : Cal P w K mg base k "fits" 2 p_fits) (c_bits_by : Cal P w K mg base k "bits_by" 2 p_bits_by) (x_BadRecord : ExcT K mg "BadRecord") : FnOk P w K mg base (L2.CX P w) (k + 1) f fd ["shape", "record"] (spP K mg 2 (S_packed p_fits p_bits_by)) :=
  have sc := sc_packed
  fn_pure F sc fun cdv A outer s H E hr tk hp => (pss_consP (ps_ifP (pt_notP (pt_valP (pp_call c_fits hr tk (pa_consP (pp_var 0) (pa_consP (pp_var 1) pa_nilP)) (al_cons (al_cons al_nil))))) (pss_oneP (ps_raiseP (c := "BadRecord") x_BadRecord tk)) pss_nilP)
    (pss_oneP (ps_retP (pp_call c_bits_by hr tk (pa_consP (pp_var 0) (pa_consP (pp_var 1) pa_nilP)) (al_cons (al_cons al_nil))))))

abbrev s__law_cell_at : Stmt := topS 19
theorem sc__law_cell_at : FnScope ["_law_script", "_law_k"] ["_law_script", "_law_k"] (defScope s__law_cell_at) := ⟨rfl, rfl, rfl, by decide +kernel, rfl, by decide +kernel, by decide +kernel⟩
theorem ok__law_cell_at {f : Addr} {fd : FuncData} (F : Fun K "_law_cell_at" "_law_cell_at" s__law_cell_at f fd) (m_len : mg "len" = none) : FnOk P w K mg base (L2.CX P w) (k + 1) f fd ["_law_script", "_law_k"] (spP K mg 2 (S_law_cell_at)) :=
  have sc := sc__law_cell_at
  fn_pure F sc fun cdv A outer s H E hr tk hp => (pss_consP (ps_ifP (pt_cmpP o2_lt (pp_var 1) (pp_b1 c1_len m_len (pp_var 0))) (pss_oneP (ps_retP (pp_ix (pp_var 0) (pp_var 1)))) pss_nilP)
    (pss_oneP (ps_retP pp_int)))

abbrev s__law_whole : Stmt := topS 20
theorem sc__law_whole : FnScope ["_law_found"] ["_law_found"] (defScope s__law_whole) := ⟨rfl, rfl, rfl, by decide +kernel, rfl, by decide +kernel, by decide +kernel⟩
theorem ok__law_whole {f : Addr} {fd : FuncData} (F : Fun K "_law_whole" "_law_whole" s__law_whole f fd) (m_isinstance : mg "isinstance" = none) (m_bool : mg "bool" = none) (m_int : mg "int" = none) : FnOk P w K mg base (L2.CX P w) (k + 1) f fd ["_law_found"] (spP K mg 1 (S_law_whole)) :=
  have sc := sc__law_whole
  fn_pure F sc fun cdv A outer s H E hr tk hp => (pss_oneP (ps_retP (pp_and (pp_isi .int m_isinstance m_int (pp_var 0)) (pp_one (pp_not (pp_isi .bool m_isinstance m_bool (pp_var 0)))))))

abbrev s__law_room : Stmt := topS 21
theorem sc__law_room : FnScope ["_law_width", "_law_size", "_law_step"] ["_law_width"] (defScope s__law_room) := ⟨rfl, rfl, rfl, by decide +kernel, rfl, by decide +kernel, by decide +kernel⟩
theorem ok__law_room {f : Addr} {fd : FuncData} (F : Fun K "_law_room" "_law_room" s__law_room f fd) (m_range : mg "range" = none) : FnOk P w K mg base (L2.CX P w) (k + 1) f fd ["_law_width"] (spP K mg 1 (S_law_room)) :=
  have sc := sc__law_room
  fn_pure F sc fun cdv A outer s H E hr tk hp => (pss_consP (ps_setP 1 pp_int sc.nd)
    (pss_consP (ps_forRP 2 hp rfl m_range (pp_var 0) (pss_oneP (ps_setP 1 (pp_op o2_mul (pp_var 1) pp_int) sc.nd)) sc.nd)
    (pss_oneP (ps_retP (pp_var 1)))))

abbrev s__law_leaf : Stmt := topS 22
theorem sc__law_leaf : FnScope ["_law_script", "_law_k", "_law_cell", "_law_bound", "_law_width", "_law_span", "_law_least"] ["_law_script", "_law_k"] (defScope s__law_leaf) := ⟨rfl, rfl, rfl, by decide +kernel, rfl, by decide +kernel, by decide +kernel⟩
theorem ok__law_leaf {f : Addr} {fd : FuncData} {p__law_cell_at p__law_room : List D → Res D} (F : Fun K "_law_leaf" "_law_leaf" s__law_leaf f fd) (c__law_cell_at : Cal P w K mg base k "_law_cell_at" 2 p__law_cell_at) (c__law_room : Cal P w K mg base k "_law_room" 1 p__law_room) (m_min : mg "min" = none) : FnOk P w K mg base (L2.CX P w) (k + 1) f fd ["_law_script", "_law_k"] (spP K mg 2 (S_law_leaf p__law_cell_at p__law_room)) :=
  have sc := sc__law_leaf
  fn_pure F sc fun cdv A outer s H E hr tk hp => (pss_consP (ps_setP 2 (pp_op o2_div (pp_call c__law_cell_at hr tk (pa_consP (pp_var 0) (pa_consP (pp_op o2_mul pp_int (pp_var 1)) pa_nilP)) (al_cons (al_cons al_nil))) pp_int) sc.nd)
    (pss_consP (ps_setP 3 (pp_call c__law_cell_at hr tk (pa_consP (pp_var 0) (pa_consP (pp_op o2_add (pp_op o2_mul pp_int (pp_var 1)) pp_int) pa_nilP)) (al_cons (al_cons al_nil))) sc.nd)
    (pss_consP (ps_setP 4 (pp_op o2_mod (pp_op o2_div (pp_var 2) pp_int) pp_int) sc.nd)
    (pss_consP (ps_ifP (pt_cmpP (o2_eq hr.units) (pp_op o2_mod (pp_var 3) pp_int) pp_int) (pss_oneP (ps_setP 4 (pp_op o2_mod (pp_op o2_add (pp_var 2) (pp_op o2_mul pp_int (pp_var 3))) pp_int) sc.nd)) pss_nilP)
    (pss_consP (ps_ifP (pt_cmpP (o2_eq hr.units) (pp_op o2_mod (pp_var 2) pp_int) pp_int) (pss_oneP (ps_retP (pp_tup (pa_consP pp_str (pa_consP (pp_var 4) pa_nilP))))) pss_nilP)
    (pss_consP (ps_setP 5 (pp_op o2_sub (pp_call c__law_room hr tk (pa_consP (pp_var 4) pa_nilP) (al_cons al_nil)) pp_int) sc.nd)
    (pss_consP (ps_ifP (pt_cmpP (o2_eq hr.units) (pp_op o2_mod (pp_var 3) pp_int) pp_int) (pss_oneP (ps_setP 5 (pp_op o2_mod (pp_op o2_div (pp_var 3) pp_int) (pp_op o2_add (pp_var 5) pp_int)) sc.nd)) pss_nilP)
    (pss_consP (ps_ifP (pt_cmpP (o2_eq hr.units) (pp_op o2_mod (pp_var 3) pp_int) pp_int) (pss_oneP (ps_setP 5 (pp_op o2_add (pp_op o2_div (pp_var 5) pp_int) (pp_b2 (c2_min rfl) m_min pp_int (pp_op o2_div (pp_var 5) pp_int))) sc.nd)) pss_nilP)
    (pss_consP (ps_setP 6 (pp_op o2_sub (pp_op o2_mod (pp_op o2_div (pp_var 3) pp_int) pp_int) pp_int) sc.nd)
    (pss_consP (ps_ifP (pt_cmpP (o2_eq hr.units) (pp_op o2_mod (pp_op o2_div (pp_var 3) pp_int) pp_int) pp_int) (pss_oneP (ps_setP 6 (pp_op o2_sub (pp_op o2_mod (pp_op o2_div (pp_var 3) pp_int) (pp_op o2_add (pp_op o2_sub (pp_op o2_mul pp_int (pp_op o2_pow pp_int pp_int)) (pp_var 5)) pp_int)) (pp_op o2_pow pp_int pp_int)) sc.nd)) pss_nilP)
    (pss_consP (ps_ifP (pt_cmpP (o2_eq hr.units) (pp_op o2_mod (pp_op o2_div (pp_var 3) pp_int) pp_int) pp_int) (pss_oneP (ps_setP 6 (pp_ix ((po_lst (pa_consP (pp_neg (pp_op o2_pow pp_int pp_int)) (pa_consP (pp_op o2_sub (pp_op o2_pow pp_int pp_int) (pp_var 5)) pa_nilP)))).fz (pp_op o2_mod (pp_op o2_div (pp_var 3) pp_int) pp_int)) sc.nd)) pss_nilP)
    (pss_oneP (ps_retP (pp_tup (pa_consP pp_str (pa_consP (pp_var 4) (pa_consP (pp_var 6) (pa_consP (pp_op o2_add (pp_var 6) (pp_var 5)) pa_nilP))))))))))))))))))

abbrev s__law_one : Stmt := topS 23
theorem sc__law_one : FnScope ["_law_parts", "_law_more", "_law_count", "_law_width"] ["_law_parts", "_law_more"] (defScope s__law_one) := ⟨rfl, rfl, rfl, by decide +kernel, rfl, by decide +kernel, by decide +kernel⟩
theorem ok__law_one {f : Addr} {fd : FuncData} (F : Fun K "_law_one" "_law_one" s__law_one f fd) (m_int : mg "int" = none) : FnOk P w K mg base (L2.CX P w) (k + 1) f fd ["_law_parts", "_law_more"] (spP K mg 2 (S_law_one)) :=
  have sc := sc__law_one
  fn_pure F sc fun cdv A outer s H E hr tk hp => (pss_consP (ps_ifP (pt_cmpP (o2_eq hr.units) (pp_op o2_mod (pp_var 1) pp_int) pp_int) (pss_consP (ps_setP 2 (pp_op o2_add pp_int (pp_op o2_mod (pp_op o2_div (pp_var 1) pp_int) pp_int)) sc.nd)
    (pss_consP (ps_setP 3 (pp_op o2_add (pp_op o2_add pp_int (pp_t1 c1_int m_int (pp_cmp o2_gt (pp_var 2) pp_int))) (pp_op o2_mod (pp_op o2_div (pp_var 1) pp_int) pp_int)) sc.nd)
    (pss_oneP (ps_retP (pp_tup (pa_consP pp_str (pa_consP (pp_var 3) (pa_consP ((po_slice (pp_op o2_mul ((po_lst (pa_consP (pp_ix (pp_var 0) pp_int) (pa_consP (pp_ix (pp_var 0) pp_int) (pa_consP (pp_ix (pp_var 0) pp_int) (pa_consP (pp_ix (pp_var 0) pp_int) (pa_consP (pp_ix (pp_var 0) pp_int) pa_nilP))))))).fz pp_int) pn_none (pn_some (pp_var 2)))).fz pa_nilP)))))))) pss_nilP)
    (pss_consP (ps_setP 2 (pp_op o2_add pp_int (pp_op o2_mod (pp_op o2_mod (pp_var 1) pp_int) pp_int)) sc.nd)
    (pss_oneP (ps_retP (pp_tup (pa_consP pp_str (pa_consP (pp_op o2_add (pp_ix ((po_lst (pa_consP pp_int (pa_consP pp_int (pa_consP pp_int (pa_consP pp_int pa_nilP)))))).fz (pp_op o2_sub (pp_var 2) pp_int)) (pp_op o2_mod (pp_op o2_div (pp_var 1) pp_int) pp_int)) (pa_consP ((po_slice (pp_var 0) pn_none (pn_some (pp_var 2)))).fz pa_nilP))))))))

abbrev s__law_group : Stmt := topS 24
theorem sc__law_group : FnScope ["_law_parts", "_law_more"] ["_law_parts", "_law_more"] (defScope s__law_group) := ⟨rfl, rfl, rfl, by decide +kernel, rfl, by decide +kernel, by decide +kernel⟩
theorem ok__law_group {f : Addr} {fd : FuncData} (F : Fun K "_law_group" "_law_group" s__law_group f fd) : FnOk P w K mg base (L2.CX P w) (k + 1) f fd ["_law_parts", "_law_more"] (spP K mg 2 (S_law_group)) :=
  have sc := sc__law_group
  fn_pure F sc fun cdv A outer s H E hr tk hp => (pss_consP (ps_ifP (pw_andP (pt_cmpP (o2_eq hr.units) (pp_op o2_mod (pp_var 1) pp_int) pp_int) (pw_andP (pt_cmpP o2_in (pp_ix (pp_ix (pp_var 0) pp_int) pp_int) (pp_tup (pa_consP pp_str (pa_consP pp_str pa_nilP)))) (pw_and1P (pt_cmpP o2_in (pp_ix (pp_ix (pp_var 0) pp_int) pp_int) (pp_tup (pa_consP pp_str (pa_consP pp_str pa_nilP))))))).pt' (pss_oneP (ps_retP (pp_tup (pa_consP pp_str (pa_consP ((po_slice (pp_op o2_mul ((po_lst (pa_consP (pp_ix (pp_var 0) pp_int) (pa_consP (pp_ix (pp_var 0) pp_int) (pa_consP (pp_ix (pp_var 0) pp_int) (pa_consP (pp_ix (pp_var 0) pp_int) (pa_consP (pp_ix (pp_var 0) pp_int) pa_nilP))))))).fz pp_int) pn_none (pn_some (pp_op o2_add pp_int (pp_op o2_mod (pp_op o2_div (pp_var 1) pp_int) pp_int))))).fz pa_nilP))))) pss_nilP)
    (pss_consP (ps_ifP (pt_cmpP (o2_eq hr.units) (pp_op o2_mod (pp_var 1) pp_int) pp_int) (pss_oneP (ps_retP (pp_tup (pa_consP pp_str (pa_consP ((po_slice ((po_lst (pa_consP (pp_ix (pp_var 0) pp_int) (pa_consP (pp_ix (pp_var 0) pp_int) (pa_consP (pp_ix (pp_var 0) pp_int) (pa_consP (pp_ix (pp_var 0) pp_int) (pa_consP (pp_ix (pp_var 0) pp_int) pa_nilP))))))).fz pn_none (pn_some (pp_op o2_add pp_int (pp_op o2_mod (pp_op o2_div (pp_var 1) pp_int) pp_int))))).fz pa_nilP))))) pss_nilP)
    (pss_oneP (ps_retP (pp_tup (pa_consP pp_str (pa_consP (pp_ix ((po_lst (pa_consP ((po_lst pa_nilP)).fz (pa_consP (pp_op o2_mul ((po_lst (pa_consP (pp_ix (pp_var 0) pp_int) pa_nilP))).fz pp_int) (pa_consP ((po_lst (pa_consP (pp_ix (pp_var 0) pp_int) (pa_consP (pp_ix (pp_var 0) pp_int) (pa_consP (pp_ix (pp_var 0) pp_int) pa_nilP))))).fz (pa_consP ((po_lst (pa_consP (pp_ix (pp_var 0) pp_int) (pa_consP (pp_ix (pp_var 0) pp_int) pa_nilP)))).fz pa_nilP)))))).fz (pp_op o2_mod (pp_var 1) pp_int)) pa_nilP)))))))

abbrev s__law_shape : Stmt := topS 25
theorem sc__law_shape : FnScope ["_law_script", "_law_k", "_law_cell", "_law_more", "_law_left", "_law_right", "_law_parts"] ["_law_script", "_law_k"] (defScope s__law_shape) := ⟨rfl, rfl, rfl, by decide +kernel, rfl, by decide +kernel, by decide +kernel⟩
theorem ok__law_shape {f : Addr} {fd : FuncData} {p__law_cell_at p__law_leaf p__law_shape p__law_one p__law_group : List D → Res D} (F : Fun K "_law_shape" "_law_shape" s__law_shape f fd) (c__law_cell_at : Cal P w K mg base k "_law_cell_at" 2 p__law_cell_at) (c__law_leaf : Cal P w K mg base k "_law_leaf" 2 p__law_leaf) (c__law_shape : Cal P w K mg base k "_law_shape" 2 p__law_shape) (c__law_one : Cal P w K mg base k "_law_one" 2 p__law_one) (c__law_group : Cal P w K mg base k "_law_group" 2 p__law_group) : FnOk P w K mg base (L2.CX P w) (k + 1) f fd ["_law_script", "_law_k"] (spP K mg 2 (S_law_shape p__law_cell_at p__law_leaf p__law_shape p__law_one p__law_group)) :=
  have sc := sc__law_shape
  fn_pure F sc fun cdv A outer s H E hr tk hp => (pss_consP (ps_setP 2 (pp_call c__law_cell_at hr tk (pa_consP (pp_var 0) (pa_consP (pp_op o2_mul pp_int (pp_var 1)) pa_nilP)) (al_cons (al_cons al_nil))) sc.nd)
    (pss_consP (ps_setP 3 (pp_op o2_div (pp_var 2) pp_int) sc.nd)
    (pss_consP (ps_ifP (pw_orP (pt_cmpP o2_gt (pp_var 1) pp_int) (pw_or1P (pt_cmpP o2_lt (pp_op o2_mod (pp_var 2) pp_int) pp_int))).pt' (pss_oneP (ps_retP (pp_call c__law_leaf hr tk (pa_consP (pp_var 0) (pa_consP (pp_var 1) pa_nilP)) (al_cons (al_cons al_nil))))) pss_nilP)
    (pss_consP (ps_setP 4 (pp_call c__law_shape hr tk (pa_consP (pp_var 0) (pa_consP (pp_op o2_add (pp_op o2_mul pp_int (pp_var 1)) pp_int) pa_nilP)) (al_cons (al_cons al_nil))) sc.nd)
    (pss_consP (ps_setP 5 (pp_call c__law_shape hr tk (pa_consP (pp_var 0) (pa_consP (pp_op o2_add (pp_op o2_mul pp_int (pp_var 1)) pp_int) pa_nilP)) (al_cons (al_cons al_nil))) sc.nd)
    (pss_consP (ps_ifP (pt_cmpP (o2_eq hr.units) (pp_op o2_mod (pp_var 2) pp_int) pp_int) (pss_oneP (ps_retP (pp_tup (pa_consP pp_str (pa_consP (pp_var 4) pa_nilP))))) pss_nilP)
    (pss_consP (ps_ifP (pt_cmpP (o2_eq hr.units) (pp_op o2_mod (pp_var 2) pp_int) pp_int) (pss_oneP (ps_retP (pp_tup (pa_consP pp_str (pa_consP (pp_ix ((po_lst (pa_consP pp_int (pa_consP pp_int (pa_consP pp_int (pa_consP pp_int (pa_consP pp_int (pa_consP pp_int (pa_consP pp_int (pa_consP pp_int (pa_consP pp_int (pa_consP pp_int (pa_consP pp_int pa_nilP))))))))))))).fz (pp_op o2_mod (pp_var 3) pp_int)) (pa_consP (pp_var 4) pa_nilP)))))) pss_nilP)
    (pss_consP (ps_ifP (pt_cmpP (o2_eq hr.units) (pp_op o2_mod (pp_var 2) pp_int) pp_int) (pss_oneP (ps_retP (pp_tup (pa_consP pp_str (pa_consP ((po_lst (pa_consP (pp_var 4) (pa_consP (pp_var 5) pa_nilP)))).fz pa_nilP))))) pss_nilP)
    (pss_consP (ps_setP 6 ((po_lst (pa_consP (pp_var 4) (pa_consP (pp_var 5) (pa_consP (pp_call c__law_leaf hr tk (pa_consP (pp_var 0) (pa_consP (pp_op o2_add pp_int (pp_var 1)) pa_nilP)) (al_cons (al_cons al_nil))) (pa_consP (pp_call c__law_leaf hr tk (pa_consP (pp_var 0) (pa_consP (pp_op o2_add pp_int (pp_var 1)) pa_nilP)) (al_cons (al_cons al_nil))) pa_nilP)))))).fz sc.nd)
    (pss_consP (ps_ifP (pt_cmpP (o2_eq hr.units) (pp_op o2_mod (pp_var 2) pp_int) pp_int) (pss_oneP (ps_retP (pp_call c__law_one hr tk (pa_consP (pp_var 6) (pa_consP (pp_var 3) pa_nilP)) (al_cons (al_cons al_nil))))) pss_nilP)
    (pss_oneP (ps_retP (pp_call c__law_group hr tk (pa_consP (pp_var 6) (pa_consP (pp_var 3) pa_nilP)) (al_cons (al_cons al_nil)))))))))))))))

abbrev s__law_deeper : Stmt := topS 26
theorem sc__law_deeper : FnScope ["_law_script", "_law_k", "_law_shape_here", "_law_cell", "_law_step"] ["_law_script", "_law_k", "_law_shape_here"] (defScope s__law_deeper) := ⟨rfl, rfl, rfl, by decide +kernel, rfl, by decide +kernel, by decide +kernel⟩
theorem ok__law_deeper {f : Addr} {fd : FuncData} {p__law_cell_at : List D → Res D} (F : Fun K "_law_deeper" "_law_deeper" s__law_deeper f fd) (c__law_cell_at : Cal P w K mg base k "_law_cell_at" 2 p__law_cell_at) (m_range : mg "range" = none) : FnOk P w K mg base (L2.CX P w) (k + 1) f fd ["_law_script", "_law_k", "_law_shape_here"] (spP K mg 3 (S_law_deeper p__law_cell_at)) :=
  have sc := sc__law_deeper
  fn_pure F sc fun cdv A outer s H E hr tk hp => (pss_consP (ps_setP 3 (pp_call c__law_cell_at hr tk (pa_consP (pp_var 0) (pa_consP (pp_var 1) pa_nilP)) (al_cons (al_cons al_nil))) sc.nd)
    (pss_consP (ps_forRP 4 hp rfl m_range (pp_op o2_mod (pp_var 3) pp_int) (pss_oneP (ps_setP 2 (pp_ix ((po_lst (pa_consP (pp_tup (pa_consP pp_str (pa_consP ((po_lst (pa_consP (pp_var 2) pa_nilP))).fz pa_nilP))) (pa_consP (pp_tup (pa_consP pp_str (pa_consP (pp_var 2) pa_nilP))) (pa_consP (pp_tup (pa_consP pp_str (pa_consP pp_int (pa_consP ((po_lst (pa_consP (pp_var 2) pa_nilP))).fz pa_nilP)))) pa_nilP))))).fz (pp_op o2_mod (pp_op o2_div (pp_op o2_div (pp_var 3) pp_int) (pp_op o2_add (pp_var 4) pp_int)) pp_int)) sc.nd)) sc.nd)
    (pss_oneP (ps_retP (pp_var 2)))))

abbrev s__law_number : Stmt := topS 27
theorem sc__law_number : FnScope ["_law_script", "_law_j"] ["_law_script", "_law_j"] (defScope s__law_number) := ⟨rfl, rfl, rfl, by decide +kernel, rfl, by decide +kernel, by decide +kernel⟩
theorem ok__law_number {f : Addr} {fd : FuncData} (F : Fun K "_law_number" "_law_number" s__law_number f fd) (m_len : mg "len" = none) : FnOk P w K mg base (L2.CX P w) (k + 1) f fd ["_law_script", "_law_j"] (spP K mg 2 (S_law_number)) :=
  have sc := sc__law_number
  fn_pure F sc fun cdv A outer s H E hr tk hp => (pss_consP (ps_ifP (pt_cmpP (o2_eq hr.units) (pp_b1 c1_len m_len (pp_var 0)) pp_int) (pss_oneP (ps_retP (pp_var 1))) pss_nilP)
    (pss_oneP (ps_retP (pp_op o2_add (pp_ix (pp_var 0) (pp_op o2_sub (pp_op o2_sub (pp_b1 c1_len m_len (pp_var 0)) pp_int) (pp_op o2_mod (pp_var 1) (pp_b1 c1_len m_len (pp_var 0))))) (pp_op o2_div (pp_var 1) (pp_b1 c1_len m_len (pp_var 0)))))))

abbrev s__law_wide : Stmt := topS 28
theorem sc__law_wide : FnScope ["_law_shape_here", "_law_rows", "_law_part"] ["_law_shape_here"] (defScope s__law_wide) := ⟨rfl, rfl, rfl, by decide +kernel, rfl, by decide +kernel, by decide +kernel⟩
theorem ok__law_wide {f : Addr} {fd : FuncData} {p__law_wide p__law_room : List D → Res D} (F : Fun K "_law_wide" "_law_wide" s__law_wide f fd) (c__law_wide : Cal P w K mg base k "_law_wide" 1 p__law_wide) (c__law_room : Cal P w K mg base k "_law_room" 1 p__law_room) (m_max : mg "max" = none) (m_len : mg "len" = none) (m_sum : mg "sum" = none) : FnOk P w K mg base (L2.CX P w) (k + 1) f fd ["_law_shape_here"] (spP K mg 1 (S_law_wide p__law_wide p__law_room)) :=
  have sc := sc__law_wide
  fn_pure F sc fun cdv A outer s H E hr tk hp => (pss_consP (ps_ifP (pw_orP (pt_cmpP (o2_eq hr.units) (pp_ix (pp_var 0) pp_int) pp_str) (pw_or1P (pt_cmpP (o2_eq hr.units) (pp_ix (pp_var 0) pp_int) pp_str))).pt' (pss_oneP (ps_retP (pp_b2 (c2_max rfl) m_max pp_int (pp_ix (pp_var 0) pp_int)))) pss_nilP)
    (pss_consP (ps_ifP (pt_cmpP (o2_eq hr.units) (pp_ix (pp_var 0) pp_int) pp_str) (pss_oneP (ps_retP (pp_op o2_add pp_int (pp_call c__law_wide hr tk (pa_consP (pp_ix (pp_var 0) pp_int) pa_nilP) (al_cons al_nil))))) pss_nilP)
    (pss_consP (ps_ifP (pt_cmpP (o2_eq hr.units) (pp_ix (pp_var 0) pp_int) pp_str) (pss_oneP (ps_retP (pp_op o2_add (pp_ix (pp_var 0) pp_int) (pp_op o2_mul (pp_op o2_sub (pp_call c__law_room hr tk (pa_consP (pp_ix (pp_var 0) pp_int) pa_nilP) (al_cons al_nil)) pp_int) (pp_b2 (c2_max rfl) m_max pp_int (pp_call c__law_wide hr tk (pa_consP (pp_ix (pp_var 0) pp_int) pa_nilP) (al_cons al_nil))))))) pss_nilP)
    (pss_consP (ps_setLcP 1 2 rfl sc.nd (blkOk_by (N := ["_law_shape_here", "_law_rows", "_law_part"]) (sc := defScope s__law_wide) (by decide +kernel)) (pp_ix (pp_var 0) (pp_op o2_sub (pp_b1 c1_len m_len (pp_var 0)) pp_int)) (fun _ _ _ _ _ => pg_name (i := 2) sc.nd rfl (Or.inl rfl)) (fun _ _ _ _ _ => (pp_call c__law_wide hr takes0 (pa_consP (pp_var 2) pa_nilP) (al_cons al_nil))))
    (pss_consP (ps_ifP (pt_cmpP (o2_eq hr.units) (pp_ix (pp_var 0) pp_int) pp_str) (pss_oneP (ps_retP (pp_op o2_add (pp_ix (pp_var 0) pp_int) (pp_b1 (c1_maxL rfl) m_max (pp_var 1))))) pss_nilP)
    (pss_oneP (ps_retP (pp_b1 (c1_sum rfl) m_sum (pp_var 1)))))))))

abbrev s__law_many : Stmt := topS 29
theorem sc__law_many : FnScope ["_law_shape_here", "_law_number_here", "_law_most", "_law_wide_here"] ["_law_shape_here", "_law_number_here"] (defScope s__law_many) := ⟨rfl, rfl, rfl, by decide +kernel, rfl, by decide +kernel, by decide +kernel⟩
theorem ok__law_many {f : Addr} {fd : FuncData} {p__law_room p__law_wide : List D → Res D} (F : Fun K "_law_many" "_law_many" s__law_many f fd) (c__law_room : Cal P w K mg base k "_law_room" 1 p__law_room) (c__law_wide : Cal P w K mg base k "_law_wide" 1 p__law_wide) (m_min : mg "min" = none) (m_max : mg "max" = none) (m_int : mg "int" = none) : FnOk P w K mg base (L2.CX P w) (k + 1) f fd ["_law_shape_here", "_law_number_here"] (spP K mg 2 (S_law_many p__law_room p__law_wide)) :=
  have sc := sc__law_many
  fn_pure F sc fun cdv A outer s H E hr tk hp => (pss_consP (ps_ifP (pt_cmpP (o2_eq hr.units) (pp_ix (pp_var 0) pp_int) pp_str) (pss_oneP (ps_retP (pp_b2 (c2_min rfl) m_min pp_int (pp_op o2_mod (pp_var 1) pp_int)))) pss_nilP)
    (pss_consP (ps_setP 2 (pp_op o2_sub (pp_call c__law_room hr tk (pa_consP (pp_ix (pp_var 0) pp_int) pa_nilP) (al_cons al_nil)) pp_int) sc.nd)
    (pss_consP (ps_setP 3 (pp_b2 (c2_max rfl) m_max pp_int (pp_call c__law_wide hr tk (pa_consP (pp_ix (pp_var 0) pp_int) pa_nilP) (al_cons al_nil))) sc.nd)
    (pss_consP (ps_ifP (pt_cmpP o2_gt (pp_op o2_mul (pp_var 3) (pp_var 2)) pp_int) (pss_oneP (ps_setP 2 (pp_b2 (c2_min rfl) m_min (pp_var 2) (pp_b2 (c2_max rfl) m_max pp_int (pp_op o2_div (pp_ix ((po_lst (pa_consP pp_int (pa_consP pp_int pa_nilP)))).fz (pp_t1 c1_int m_int (pp_cmp (o2_eq hr.units) (pp_op o2_mod (pp_var 1) pp_int) pp_int))) (pp_var 3)))) sc.nd)) pss_nilP)
    (pss_consP (ps_ifP (pt_cmpP (o2_eq hr.units) (pp_op o2_mod (pp_var 1) pp_int) pp_int) (pss_oneP (ps_retP (pp_op o2_mod (pp_op o2_div (pp_var 1) pp_int) (pp_op o2_add (pp_var 2) pp_int)))) pss_nilP)
    (pss_oneP (ps_retP (pp_b2 (c2_min rfl) m_min (pp_op o2_mod (pp_var 1) pp_int) (pp_var 2)))))))))

abbrev s__law_record : Stmt := topS 30
theorem sc__law_record : FnScope ["_law_shape_here", "_law_script", "_law_j", "_law_number_here", "_law_kind", "_law_size", "_law_place", "_law_found", "_law_parts", "_law_record_here", "_law_part"] ["_law_shape_here", "_law_script", "_law_j"] (defScope s__law_record) := ⟨rfl, rfl, rfl, by decide +kernel, rfl, by decide +kernel, by decide +kernel⟩
theorem ok__law_record {f : Addr} {fd : FuncData} {p__law_number p__law_record p__law_many : List D → Res D} (F : Fun K "_law_record" "_law_record" s__law_record f fd) (c__law_number : Cal P w K mg base k "_law_number" 2 p__law_number) (c__law_record : Cal P w K mg base k "_law_record" 3 p__law_record) (c__law_many : Cal P w K mg base k "_law_many" 2 p__law_many) (m_len : mg "len" = none) : FnOk P w K mg base (L2.CX P w) (k + 1) f fd ["_law_shape_here", "_law_script", "_law_j"] (spP K mg 3 (S_law_record p__law_number p__law_record p__law_many)) :=
  have sc := sc__law_record
  fn_pure F sc fun cdv A outer s H E hr tk hp => (pss_consP (ps_setP 3 (pp_call c__law_number hr tk (pa_consP (pp_var 1) (pa_consP (pp_var 2) pa_nilP)) (al_cons (al_cons al_nil))) sc.nd)
    (pss_consP (ps_setP 4 (pp_ix (pp_var 0) pp_int) sc.nd)
    (pss_consP (ps_ifP (pt_cmpP (o2_eq hr.units) (pp_var 4) pp_str) (pss_consP (ps_setP 5 (pp_op o2_add (pp_op o2_sub (pp_ix (pp_var 0) pp_int) (pp_ix (pp_var 0) pp_int)) pp_int) sc.nd)
    (pss_consP (ps_setP 6 (pp_op o2_mod (pp_op o2_div (pp_var 3) pp_int) (pp_var 5)) sc.nd)
    (pss_consP (ps_ifP (pt_cmpP (o2_eq hr.units) (pp_op o2_mod (pp_var 3) pp_int) pp_int) (pss_oneP (ps_setP 6 (pp_op o2_sub (pp_var 5) pp_int) sc.nd)) pss_nilP)
    (pss_consP (ps_ifP (pt_cmpP (o2_eq hr.units) (pp_op o2_mod (pp_var 3) pp_int) pp_int) (pss_oneP (ps_setP 6 pp_int sc.nd)) pss_nilP)
    (pss_oneP (ps_retP (pp_tup (pa_consP (pp_op o2_add (pp_ix (pp_var 0) pp_int) (pp_var 6)) (pa_consP (pp_op o2_add (pp_var 2) pp_int) pa_nilP))))))))) pss_nilP)
    (pss_consP (ps_ifP (pt_cmpP (o2_eq hr.units) (pp_var 4) pp_str) (pss_oneP (ps_retP (pp_tup (pa_consP pp_non (pa_consP (pp_var 2) pa_nilP))))) pss_nilP)
    (pss_consP (ps_ifP (pt_cmpP (o2_eq hr.units) (pp_var 4) pp_str) (pss_consP (ps_setP 6 (pp_op o2_mod (pp_var 3) (pp_b1 c1_len m_len (pp_ix (pp_var 0) pp_int))) sc.nd)
    (pss_consP (ps_setP 7 (pp_call c__law_record hr tk (pa_consP (pp_ix (pp_ix (pp_var 0) pp_int) (pp_var 6)) (pa_consP (pp_var 1) (pa_consP (pp_op o2_add (pp_var 2) pp_int) pa_nilP))) (al_cons (al_cons (al_cons al_nil)))) sc.nd)
    (pss_oneP (ps_retP (pp_tup (pa_consP (pp_tup (pa_consP (pp_var 6) (pa_consP (pp_ix (pp_var 7) pp_int) pa_nilP))) (pa_consP (pp_ix (pp_var 7) pp_int) pa_nilP))))))) pss_nilP)
    (pss_consP (ps_ifP (pt_cmpP (o2_eq hr.units) (pp_var 4) pp_str) (pss_oneP (ps_setP 8 (pp_ix (pp_var 0) pp_int) sc.nd)) (pss_consP (ps_setP 8 (pp_op o2_mul ((po_lst (pa_consP (pp_ix (pp_var 0) (pp_op o2_sub (pp_b1 c1_len m_len (pp_var 0)) pp_int)) pa_nilP))).fz (pp_call c__law_many hr tk (pa_consP (pp_var 0) (pa_consP (pp_var 3) pa_nilP)) (al_cons (al_cons al_nil)))) sc.nd)
    (pss_oneP (ps_setP 2 (pp_op o2_add (pp_var 2) pp_int) sc.nd))))
    (pss_consP (ps_setOP 9 (po_lst pa_nilP) sc.nd)
    (pss_consP (ps_forP 10 hp rfl (pp_var 8) (pss_consP (ps_setP 7 (pp_call c__law_record hr tk (pa_consP (pp_var 10) (pa_consP (pp_var 1) (pa_consP (pp_var 2) pa_nilP))) (al_cons (al_cons (al_cons al_nil)))) sc.nd)
    (pss_consP (ps_appP 9 (pp_ix (pp_var 7) pp_int))
    (pss_oneP (ps_setP 2 (pp_ix (pp_var 7) pp_int) sc.nd)))) sc.nd)
    ((pss_oneP (ps_retP (pp_tup (pa_consP (pp_var 9) (pa_consP (pp_var 2) pa_nilP))))).frz 9)))))))))

abbrev s__law_lengths : Stmt := topS 31
theorem sc__law_lengths : FnScope ["_law_shape_here", "_law_rows", "_law_part", "_law_row"] ["_law_shape_here"] (defScope s__law_lengths) := ⟨rfl, rfl, rfl, by decide +kernel, rfl, by decide +kernel, by decide +kernel⟩
theorem ok__law_lengths {f : Addr} {fd : FuncData} {p__law_lengths p__law_room : List D → Res D} (F : Fun K "_law_lengths" "_law_lengths" s__law_lengths f fd) (c__law_lengths : Cal P w K mg base k "_law_lengths" 1 p__law_lengths) (c__law_room : Cal P w K mg base k "_law_room" 1 p__law_room) (m_len : mg "len" = none) (m_max : mg "max" = none) (m_min : mg "min" = none) (m_sum : mg "sum" = none) : FnOk P w K mg base (L2.CX P w) (k + 1) f fd ["_law_shape_here"] (spP K mg 1 (S_law_lengths p__law_lengths p__law_room)) :=
  have sc := sc__law_lengths
  fn_pure F sc fun cdv A outer s H E hr tk hp => (pss_consP (ps_ifP (pw_orP (pt_cmpP (o2_eq hr.units) (pp_ix (pp_var 0) pp_int) pp_str) (pw_or1P (pt_cmpP (o2_eq hr.units) (pp_ix (pp_var 0) pp_int) pp_str))).pt' (pss_oneP (ps_retP (pp_tup (pa_consP (pp_ix (pp_var 0) pp_int) (pa_consP (pp_ix (pp_var 0) pp_int) pa_nilP))))) pss_nilP)
    (pss_consP (ps_ifP (pt_cmpP (o2_eq hr.units) (pp_ix (pp_var 0) pp_int) pp_str) (pss_oneP (ps_retP (pp_tup (pa_consP pp_int (pa_consP (pp_op o2_add pp_int (pp_ix (pp_call c__law_lengths hr tk (pa_consP (pp_ix (pp_var 0) pp_int) pa_nilP) (al_cons al_nil)) pp_int)) pa_nilP))))) pss_nilP)
    (pss_consP (ps_ifP (pt_cmpP (o2_eq hr.units) (pp_ix (pp_var 0) pp_int) pp_str) (pss_oneP (ps_retP (pp_tup (pa_consP (pp_ix (pp_var 0) pp_int) (pa_consP (pp_op o2_add (pp_ix (pp_var 0) pp_int) (pp_op o2_mul (pp_op o2_sub (pp_call c__law_room hr tk (pa_consP (pp_ix (pp_var 0) pp_int) pa_nilP) (al_cons al_nil)) pp_int) (pp_ix (pp_call c__law_lengths hr tk (pa_consP (pp_ix (pp_var 0) pp_int) pa_nilP) (al_cons al_nil)) pp_int))) pa_nilP))))) pss_nilP)
    (pss_consP (ps_setLcP 1 2 rfl sc.nd (blkOk_by (N := ["_law_shape_here", "_law_rows", "_law_part", "_law_row"]) (sc := defScope s__law_lengths) (by decide +kernel)) (pp_ix (pp_var 0) (pp_op o2_sub (pp_b1 c1_len m_len (pp_var 0)) pp_int)) (fun _ _ _ _ _ => pg_name (i := 2) sc.nd rfl (Or.inl rfl)) (fun _ _ _ _ _ => (pp_call c__law_lengths hr takes0 (pa_consP (pp_var 2) pa_nilP) (al_cons al_nil))))
    (pss_consP (ps_ifP (pt_cmpP (o2_eq hr.units) (pp_ix (pp_var 0) pp_int) pp_str) (pss_oneP (ps_retP (pp_tup (pa_consP (pp_op o2_add (pp_ix (pp_var 0) pp_int) (pp_b1 (c1_minL rfl) m_min ((po_lc 3 rfl sc.nd (blkOk_by (N := ["_law_shape_here", "_law_rows", "_law_part", "_law_row"]) (sc := defScope s__law_lengths) (by decide +kernel)) (pp_var 1) (fun _ _ _ _ _ => pg_name (i := 3) sc.nd rfl (Or.inl rfl)) (fun _ _ _ _ _ => (pp_ix (pp_var 3) pp_int)))).fz)) (pa_consP (pp_op o2_add (pp_ix (pp_var 0) pp_int) (pp_b1 (c1_maxL rfl) m_max ((po_lc 3 rfl sc.nd (blkOk_by (N := ["_law_shape_here", "_law_rows", "_law_part", "_law_row"]) (sc := defScope s__law_lengths) (by decide +kernel)) (pp_var 1) (fun _ _ _ _ _ => pg_name (i := 3) sc.nd rfl (Or.inl rfl)) (fun _ _ _ _ _ => (pp_ix (pp_var 3) pp_int)))).fz)) pa_nilP))))) pss_nilP)
    (pss_oneP (ps_retP (pp_tup (pa_consP (pp_b1 (c1_sum rfl) m_sum ((po_lc 3 rfl sc.nd (blkOk_by (N := ["_law_shape_here", "_law_rows", "_law_part", "_law_row"]) (sc := defScope s__law_lengths) (by decide +kernel)) (pp_var 1) (fun _ _ _ _ _ => pg_name (i := 3) sc.nd rfl (Or.inl rfl)) (fun _ _ _ _ _ => (pp_ix (pp_var 3) pp_int)))).fz) (pa_consP (pp_b1 (c1_sum rfl) m_sum ((po_lc 3 rfl sc.nd (blkOk_by (N := ["_law_shape_here", "_law_rows", "_law_part", "_law_row"]) (sc := defScope s__law_lengths) (by decide +kernel)) (pp_var 1) (fun _ _ _ _ _ => pg_name (i := 3) sc.nd rfl (Or.inl rfl)) (fun _ _ _ _ _ => (pp_ix (pp_var 3) pp_int)))).fz) pa_nilP))))))))))

abbrev s_law : Stmt := topS 32
theorem sc_law : FnScope ["_law_script", "_law_shape_here", "_law_due", "_law_low", "_law_high", "_law_found"] ["_law_script"] (defScope s_law) := ⟨rfl, rfl, rfl, by decide +kernel, rfl, by decide +kernel, by decide +kernel⟩
theorem ok_law {f : Addr} {fd : FuncData} {p__law_deeper p__law_shape p__law_lengths p_least_bits p_most_bits p__law_whole p_packed p__law_record : List D → Res D} (F : Fun K "law" "law" s_law f fd) (c__law_deeper : Cal P w K mg base k "_law_deeper" 3 p__law_deeper) (c__law_shape : Cal P w K mg base k "_law_shape" 2 p__law_shape) (c__law_lengths : Cal P w K mg base k "_law_lengths" 1 p__law_lengths) (c_least_bits : Cal P w K mg base k "least_bits" 1 p_least_bits) (c_most_bits : Cal P w K mg base k "most_bits" 1 p_most_bits) (c__law_whole : Cal P w K mg base k "_law_whole" 1 p__law_whole) (c_packed : Cal P w K mg base k "packed" 2 p_packed) (c__law_record : Cal P w K mg base k "_law_record" 3 p__law_record) (m_len : mg "len" = none) (m_isinstance : mg "isinstance" = none) (m_list : mg "list" = none) : FnOk P w K mg base (L2.CX P w) (k + 1) f fd ["_law_script"] (spP K mg 1 (S_law p__law_deeper p__law_shape p__law_lengths p_least_bits p_most_bits p__law_whole p_packed p__law_record)) :=
  have sc := sc_law
  fn_pure F sc fun cdv A outer s H E hr tk hp => (pss_consP (ps_setP 1 (pp_call c__law_deeper hr tk (pa_consP (pp_var 0) (pa_consP pp_int (pa_consP (pp_call c__law_shape hr tk (pa_consP (pp_var 0) (pa_consP pp_int pa_nilP)) (al_cons (al_cons al_nil))) pa_nilP))) (al_cons (al_cons (al_cons al_nil)))) sc.nd)
    (pss_consP (ps_setP 2 (pp_call c__law_lengths hr tk (pa_consP (pp_var 1) pa_nilP) (al_cons al_nil)) sc.nd)
    (pss_consP (ps_setP 3 (pp_call c_least_bits hr tk (pa_consP (pp_var 1) pa_nilP) (al_cons al_nil)) sc.nd)
    (pss_consP (ps_setP 4 (pp_call c_most_bits hr tk (pa_consP (pp_var 1) pa_nilP) (al_cons al_nil)) sc.nd)
    (pss_consP (ps_ifP (pw_orP (pt_notP (pt_valP (pp_call c__law_whole hr tk (pa_consP (pp_var 3) pa_nilP) (al_cons al_nil)))) (pw_orP (pt_notP (pt_valP (pp_call c__law_whole hr tk (pa_consP (pp_var 4) pa_nilP) (al_cons al_nil)))) (pw_or1P (pt_cmpP (o2_ne hr.units) (pp_tup (pa_consP (pp_var 3) (pa_consP (pp_var 4) pa_nilP))) (pp_var 2))))).pt' (pss_oneP (ps_retP pp_bl)) pss_nilP)
    (pss_consP (ps_ifP (pt_cmpP (o2_ne hr.units) (pp_var 1) (pp_call c__law_deeper hr tk (pa_consP (pp_var 0) (pa_consP pp_int (pa_consP (pp_call c__law_shape hr tk (pa_consP (pp_var 0) (pa_consP pp_int pa_nilP)) (al_cons (al_cons al_nil))) pa_nilP))) (al_cons (al_cons (al_cons al_nil))))) (pss_oneP (ps_retP pp_bl)) pss_nilP)
    (pss_consP (ps_setP 5 (pp_call c_packed hr tk (pa_consP (pp_var 1) (pa_consP (pp_ix (pp_call c__law_record hr tk (pa_consP (pp_var 1) (pa_consP (pp_var 0) (pa_consP pp_int pa_nilP))) (al_cons (al_cons (al_cons al_nil)))) pp_int) pa_nilP)) (al_cons (al_cons al_nil))) sc.nd)
    (pss_oneP (ps_retP (pp_and (pp_isi .list m_isinstance m_list (pp_var 5)) (pp_one (pe_chainP o2_le o2_le (pp_var 3) (pp_b1 c1_len m_len (pp_var 5)) (pp_var 4)))))))))))))

end
inductive Fn where
  | f_room | f_bits_of | f_between | f_least_bits | f_most_bits | f_all_fit | f_group_fits | f_fits | f_joined | f_bits_by | f_packed | f__law_cell_at | f__law_whole | f__law_room | f__law_leaf | f__law_one | f__law_group | f__law_shape | f__law_deeper | f__law_number | f__law_wide | f__law_many | f__law_record | f__law_lengths | f_law
def M : Nat → Fn → List D → Res D
  | 0, _ => fun _ => .stk
  | k + 1, .f_room => S_room
  | k + 1, .f_bits_of => S_bits_of (M k .f_room)
  | k + 1, .f_between => S_between
  | k + 1, .f_least_bits => S_least_bits (M k .f_least_bits)
  | k + 1, .f_most_bits => S_most_bits (M k .f_most_bits) (M k .f_room)
  | k + 1, .f_all_fit => S_all_fit (M k .f_fits)
  | k + 1, .f_group_fits => S_group_fits (M k .f_fits)
  | k + 1, .f_fits => S_fits (M k .f_between) (M k .f_fits) (M k .f_group_fits) (M k .f_all_fit) (M k .f_room)
  | k + 1, .f_joined => S_joined (M k .f_bits_by)
  | k + 1, .f_bits_by => S_bits_by (M k .f_bits_of) (M k .f_joined) (M k .f_bits_by)
  | k + 1, .f_packed => S_packed (M k .f_fits) (M k .f_bits_by)
  | k + 1, .f__law_cell_at => S_law_cell_at
  | k + 1, .f__law_whole => S_law_whole
  | k + 1, .f__law_room => S_law_room
  | k + 1, .f__law_leaf => S_law_leaf (M k .f__law_cell_at) (M k .f__law_room)
  | k + 1, .f__law_one => S_law_one
  | k + 1, .f__law_group => S_law_group
  | k + 1, .f__law_shape => S_law_shape (M k .f__law_cell_at) (M k .f__law_leaf) (M k .f__law_shape) (M k .f__law_one) (M k .f__law_group)
  | k + 1, .f__law_deeper => S_law_deeper (M k .f__law_cell_at)
  | k + 1, .f__law_number => S_law_number
  | k + 1, .f__law_wide => S_law_wide (M k .f__law_wide) (M k .f__law_room)
  | k + 1, .f__law_many => S_law_many (M k .f__law_room) (M k .f__law_wide)
  | k + 1, .f__law_record => S_law_record (M k .f__law_number) (M k .f__law_record) (M k .f__law_many)
  | k + 1, .f__law_lengths => S_law_lengths (M k .f__law_lengths) (M k .f__law_room)
  | k + 1, .f_law => S_law (M k .f__law_deeper) (M k .f__law_shape) (M k .f__law_lengths) (M k .f_least_bits) (M k .f_most_bits) (M k .f__law_whole) (M k .f_packed) (M k .f__law_record)
structure Txt (K : Fr) (mg : Str → Option Value) : Prop where
  m_bool : mg "bool" = none
  m_int : mg "int" = none
  m_isinstance : mg "isinstance" = none
  m_len : mg "len" = none
  m_list : mg "list" = none
  m_max : mg "max" = none
  m_min : mg "min" = none
  m_range : mg "range" = none
  m_sum : mg "sum" = none
  m_tuple : mg "tuple" = none
  m_zip : mg "zip" = none
  d_room : DefT K mg "room" s_room ["width"]
  d_bits_of : DefT K mg "bits_of" s_bits_of ["number", "width"]
  d_between : DefT K mg "between" s_between ["thing", "least", "most"]
  d_least_bits : DefT K mg "least_bits" s_least_bits ["shape"]
  d_most_bits : DefT K mg "most_bits" s_most_bits ["shape"]
  d_all_fit : DefT K mg "all_fit" s_all_fit ["shape", "things"]
  d_group_fits : DefT K mg "group_fits" s_group_fits ["shapes", "things"]
  d_fits : DefT K mg "fits" s_fits ["shape", "record"]
  d_joined : DefT K mg "joined" s_joined ["shape", "things"]
  d_bits_by : DefT K mg "bits_by" s_bits_by ["shape", "record"]
  d_packed : DefT K mg "packed" s_packed ["shape", "record"]
  d__law_cell_at : DefT K mg "_law_cell_at" s__law_cell_at ["_law_script", "_law_k"]
  d__law_whole : DefT K mg "_law_whole" s__law_whole ["_law_found"]
  d__law_room : DefT K mg "_law_room" s__law_room ["_law_width"]
  d__law_leaf : DefT K mg "_law_leaf" s__law_leaf ["_law_script", "_law_k"]
  d__law_one : DefT K mg "_law_one" s__law_one ["_law_parts", "_law_more"]
  d__law_group : DefT K mg "_law_group" s__law_group ["_law_parts", "_law_more"]
  d__law_shape : DefT K mg "_law_shape" s__law_shape ["_law_script", "_law_k"]
  d__law_deeper : DefT K mg "_law_deeper" s__law_deeper ["_law_script", "_law_k", "_law_shape_here"]
  d__law_number : DefT K mg "_law_number" s__law_number ["_law_script", "_law_j"]
  d__law_wide : DefT K mg "_law_wide" s__law_wide ["_law_shape_here"]
  d__law_many : DefT K mg "_law_many" s__law_many ["_law_shape_here", "_law_number_here"]
  d__law_record : DefT K mg "_law_record" s__law_record ["_law_shape_here", "_law_script", "_law_j"]
  d__law_lengths : DefT K mg "_law_lengths" s__law_lengths ["_law_shape_here"]
  d_law : DefT K mg "law" s_law ["_law_script"]
  x_TooWide : ExcT K mg "TooWide"
  x_BadRecord : ExcT K mg "BadRecord"
theorem txt_of {K : Fr} {h : Heap} {mg : Str → Option Value} (_ : K.In h) (X : Txt K mg) : Txt K mg := X
structure AllC (P : Program) (w : World) (K : Fr) (mg : Str → Option Value) (base : Heap) (k : Nat) : Prop where
  c_room : Cal P w K mg base k "room" 1 (M k .f_room)
  c_bits_of : Cal P w K mg base k "bits_of" 2 (M k .f_bits_of)
  c_between : Cal P w K mg base k "between" 3 (M k .f_between)
  c_least_bits : Cal P w K mg base k "least_bits" 1 (M k .f_least_bits)
  c_most_bits : Cal P w K mg base k "most_bits" 1 (M k .f_most_bits)
  c_all_fit : Cal P w K mg base k "all_fit" 2 (M k .f_all_fit)
  c_group_fits : Cal P w K mg base k "group_fits" 2 (M k .f_group_fits)
  c_fits : Cal P w K mg base k "fits" 2 (M k .f_fits)
  c_joined : Cal P w K mg base k "joined" 2 (M k .f_joined)
  c_bits_by : Cal P w K mg base k "bits_by" 2 (M k .f_bits_by)
  c_packed : Cal P w K mg base k "packed" 2 (M k .f_packed)
  c__law_cell_at : Cal P w K mg base k "_law_cell_at" 2 (M k .f__law_cell_at)
  c__law_whole : Cal P w K mg base k "_law_whole" 1 (M k .f__law_whole)
  c__law_room : Cal P w K mg base k "_law_room" 1 (M k .f__law_room)
  c__law_leaf : Cal P w K mg base k "_law_leaf" 2 (M k .f__law_leaf)
  c__law_one : Cal P w K mg base k "_law_one" 2 (M k .f__law_one)
  c__law_group : Cal P w K mg base k "_law_group" 2 (M k .f__law_group)
  c__law_shape : Cal P w K mg base k "_law_shape" 2 (M k .f__law_shape)
  c__law_deeper : Cal P w K mg base k "_law_deeper" 3 (M k .f__law_deeper)
  c__law_number : Cal P w K mg base k "_law_number" 2 (M k .f__law_number)
  c__law_wide : Cal P w K mg base k "_law_wide" 1 (M k .f__law_wide)
  c__law_many : Cal P w K mg base k "_law_many" 2 (M k .f__law_many)
  c__law_record : Cal P w K mg base k "_law_record" 3 (M k .f__law_record)
  c__law_lengths : Cal P w K mg base k "_law_lengths" 1 (M k .f__law_lengths)
  c_law : Cal P w K mg base k "law" 1 (M k .f_law)
theorem all_ok {P : Program} {w : World} {K : Fr} {mg : Str → Option Value} {base : Heap} (X : Txt K mg) : ∀ k, AllC P w K mg base k
  | 0 => ⟨X.d_room.zero, X.d_bits_of.zero, X.d_between.zero, X.d_least_bits.zero, X.d_most_bits.zero, X.d_all_fit.zero, X.d_group_fits.zero, X.d_fits.zero, X.d_joined.zero, X.d_bits_by.zero, X.d_packed.zero, X.d__law_cell_at.zero, X.d__law_whole.zero, X.d__law_room.zero, X.d__law_leaf.zero, X.d__law_one.zero, X.d__law_group.zero, X.d__law_shape.zero, X.d__law_deeper.zero, X.d__law_number.zero, X.d__law_wide.zero, X.d__law_many.zero, X.d__law_record.zero, X.d__law_lengths.zero, X.d_law.zero⟩
  | k + 1 => by
    have I := all_ok (P := P) (w := w) (base := base) X k
    have h_room : Cal P w K mg base (k + 1) "room" 1 (M (k + 1) .f_room) := by exact X.d_room.step fun F => ok_room F X.m_range
    have h_bits_of : Cal P w K mg base (k + 1) "bits_of" 2 (M (k + 1) .f_bits_of) := by exact X.d_bits_of.step fun F => ok_bits_of F I.c_room X.m_range X.x_TooWide
    have h_between : Cal P w K mg base (k + 1) "between" 3 (M (k + 1) .f_between) := by exact X.d_between.step fun F => ok_between F X.m_isinstance X.m_bool X.m_int
    have h_least_bits : Cal P w K mg base (k + 1) "least_bits" 1 (M (k + 1) .f_least_bits) := by exact X.d_least_bits.step fun F => ok_least_bits F I.c_least_bits X.m_sum X.m_min
    have h_most_bits : Cal P w K mg base (k + 1) "most_bits" 1 (M (k + 1) .f_most_bits) := by exact X.d_most_bits.step fun F => ok_most_bits F I.c_most_bits I.c_room X.m_sum X.m_max
    have h_all_fit : Cal P w K mg base (k + 1) "all_fit" 2 (M (k + 1) .f_all_fit) := by exact X.d_all_fit.step fun F => ok_all_fit F I.c_fits
    have h_group_fits : Cal P w K mg base (k + 1) "group_fits" 2 (M (k + 1) .f_group_fits) := by exact X.d_group_fits.step fun F => ok_group_fits F I.c_fits X.m_len X.m_zip
    have h_fits : Cal P w K mg base (k + 1) "fits" 2 (M (k + 1) .f_fits) := by exact X.d_fits.step fun F => ok_fits F I.c_between I.c_fits I.c_group_fits I.c_all_fit I.c_room X.m_len X.m_isinstance X.m_tuple X.m_list
    have h_joined : Cal P w K mg base (k + 1) "joined" 2 (M (k + 1) .f_joined) := by exact X.d_joined.step fun F => ok_joined F I.c_bits_by
    have h_bits_by : Cal P w K mg base (k + 1) "bits_by" 2 (M (k + 1) .f_bits_by) := by exact X.d_bits_by.step fun F => ok_bits_by F I.c_bits_of I.c_joined I.c_bits_by X.m_len X.m_zip
    have h_packed : Cal P w K mg base (k + 1) "packed" 2 (M (k + 1) .f_packed) := by exact X.d_packed.step fun F => ok_packed F I.c_fits I.c_bits_by X.x_BadRecord
    have h__law_cell_at : Cal P w K mg base (k + 1) "_law_cell_at" 2 (M (k + 1) .f__law_cell_at) := by exact X.d__law_cell_at.step fun F => ok__law_cell_at F X.m_len
    have h__law_whole : Cal P w K mg base (k + 1) "_law_whole" 1 (M (k + 1) .f__law_whole) := by exact X.d__law_whole.step fun F => ok__law_whole F X.m_isinstance X.m_bool X.m_int
    have h__law_room : Cal P w K mg base (k + 1) "_law_room" 1 (M (k + 1) .f__law_room) := by exact X.d__law_room.step fun F => ok__law_room F X.m_range
    have h__law_leaf : Cal P w K mg base (k + 1) "_law_leaf" 2 (M (k + 1) .f__law_leaf) := by exact X.d__law_leaf.step fun F => ok__law_leaf F I.c__law_cell_at I.c__law_room X.m_min
    have h__law_one : Cal P w K mg base (k + 1) "_law_one" 2 (M (k + 1) .f__law_one) := by exact X.d__law_one.step fun F => ok__law_one F X.m_int
    have h__law_group : Cal P w K mg base (k + 1) "_law_group" 2 (M (k + 1) .f__law_group) := by exact X.d__law_group.step fun F => ok__law_group F
    have h__law_shape : Cal P w K mg base (k + 1) "_law_shape" 2 (M (k + 1) .f__law_shape) := by exact X.d__law_shape.step fun F => ok__law_shape F I.c__law_cell_at I.c__law_leaf I.c__law_shape I.c__law_one I.c__law_group
    have h__law_deeper : Cal P w K mg base (k + 1) "_law_deeper" 3 (M (k + 1) .f__law_deeper) := by exact X.d__law_deeper.step fun F => ok__law_deeper F I.c__law_cell_at X.m_range
    have h__law_number : Cal P w K mg base (k + 1) "_law_number" 2 (M (k + 1) .f__law_number) := by exact X.d__law_number.step fun F => ok__law_number F X.m_len
    have h__law_wide : Cal P w K mg base (k + 1) "_law_wide" 1 (M (k + 1) .f__law_wide) := by exact X.d__law_wide.step fun F => ok__law_wide F I.c__law_wide I.c__law_room X.m_max X.m_len X.m_sum
    have h__law_many : Cal P w K mg base (k + 1) "_law_many" 2 (M (k + 1) .f__law_many) := by exact X.d__law_many.step fun F => ok__law_many F I.c__law_room I.c__law_wide X.m_min X.m_max X.m_int
    have h__law_record : Cal P w K mg base (k + 1) "_law_record" 3 (M (k + 1) .f__law_record) := by exact X.d__law_record.step fun F => ok__law_record F I.c__law_number I.c__law_record I.c__law_many X.m_len
    have h__law_lengths : Cal P w K mg base (k + 1) "_law_lengths" 1 (M (k + 1) .f__law_lengths) := by exact X.d__law_lengths.step fun F => ok__law_lengths F I.c__law_lengths I.c__law_room X.m_len X.m_max X.m_min X.m_sum
    have h_law : Cal P w K mg base (k + 1) "law" 1 (M (k + 1) .f_law) := by exact X.d_law.step fun F => ok_law F I.c__law_deeper I.c__law_shape I.c__law_lengths I.c_least_bits I.c_most_bits I.c__law_whole I.c_packed I.c__law_record X.m_len X.m_isinstance X.m_list
    exact ⟨h_room, h_bits_of, h_between, h_least_bits, h_most_bits, h_all_fit, h_group_fits, h_fits, h_joined, h_bits_by, h_packed, h__law_cell_at, h__law_whole, h__law_room, h__law_leaf, h__law_one, h__law_group, h__law_shape, h__law_deeper, h__law_number, h__law_wide, h__law_many, h__law_record, h__law_lengths, h_law⟩
end Pw
namespace Pw
open PySem Pu
def KJ : Nat := 60
theorem t_made (ns : List Int) : ∃ d0 s, M 60 .f__law_shape [.scr ns, .int 0] = .ok d0 ∧ M 60 .f__law_deeper [.scr ns, .int 30, d0] = .ok (enc s) ∧ shOk 8 512004 s :=
  made_eq (ca := fun k => M k .f__law_cell_at) (rm := fun k => M k .f__law_room) (lf := fun k => M k .f__law_leaf) (on := fun k => M k .f__law_one) (gp := fun k => M k .f__law_group) (sh := fun k => M k .f__law_shape) (de := fun k => M k .f__law_deeper)
    (fun _ => rfl) (fun _ => rfl) (fun _ => rfl) (fun _ => rfl) (fun _ => rfl) (fun _ => rfl) (fun _ => rfl) 59 (by omega)
theorem t_rec {ns : List Int} (h : ns.length ≤ 63) {n : Nat} {s : Sh} (o : shOk 8 n s) (j : Int) : ∃ d, M 60 .f__law_record [enc s, .scr ns, .int j] = .ok d ∧ ∃ r j', d = .tup [r, .int j'] ∧ Gen s r :=
  record_eq (nu := fun k => M k .f__law_number) (rc := fun k => M k .f__law_record) (mn := fun k => M k .f__law_many) (wd := fun k => M k .f__law_wide) (rm := fun k => M k .f__law_room)
    (fun _ => rfl) (fun _ => rfl) (fun _ => rfl) (fun _ => rfl) (fun _ => rfl) h 8 s o.2.1 (by omega) o.1 59 (by omega) j
theorem t_packed {n : Nat} {s : Sh} {r : D} (o : shOk 8 n s) (f : Fits s r) (hl : (bitsS s r).length ≤ 16777216) : M 60 .f_packed [enc s, r] = .ok (.lst (dI (bitsS s r))) :=
  packed_eq (pf := M 59 .f_fits) (pb := M 59 .f_bits_by)
    (fits_eq (fi := fun k => M k .f_fits) (gf := fun k => M k .f_group_fits) (af := fun k => M k .f_all_fit) (bt := fun k => M k .f_between) (rm := fun k => M k .f_room) (fun _ => rfl) (fun _ => rfl) (fun _ => rfl) (fun _ => rfl) (fun _ => rfl) 8 s r o.2.1 o.1 f 58 (by omega))
    (bits_by_eq (bo := fun k => M k .f_bits_of) (jn := fun k => M k .f_joined) (bb := fun k => M k .f_bits_by) (rm := fun k => M k .f_room) (fun _ => rfl) (fun _ => rfl) (fun _ => rfl) (fun _ => rfl) 8 s r o.2.1 o.1 f hl 58 (by omega))
theorem law_true (ns : List Int) (h : ns.length ≤ 63) : M (KJ + 1) .f_law [.scr ns] = .ok (.bl true) := by
  obtain ⟨d0, s, h1, h2, o⟩ := t_made ns
  obtain ⟨_, h3, r, j, rfl, g⟩ := t_rec h o 0
  have hl : (bitsS s r).length ≤ 16777216 := by have := g.2; have := o.2.2; omega
  exact k06_law (pd := M 60 .f__law_deeper) (psh := M 60 .f__law_shape) (prec := M 60 .f__law_record) (pp := M 60 .f_packed) (pwh := M 60 .f__law_whole) (pll := M 60 .f__law_lengths) (pls := M 60 .f_least_bits) (pms := M 60 .f_most_bits) h1 h2 h3 (t_packed o g.1 hl)
    (lengths_eq (ll := fun k => M k .f__law_lengths) (lr := fun k => M k .f__law_room) (fun _ => rfl) (fun _ => rfl) 8 s o.2.1 o.1 59 (by omega))
    (least_eq (ls := fun k => M k .f_least_bits) (fun _ => rfl) 8 s o.2.1 o.1 59 (by omega))
    (most_eq (ms := fun k => M k .f_most_bits) (rm := fun k => M k .f_room) (fun _ => rfl) (fun _ => rfl) 8 s o.2.1 o.1 59 (by omega))
    (fun n => whole_int n) (enc_ne o.2.1 (by omega)) (bits_btw 8 s r o.2.1 o.1 g.1)
end Pw
open PySem PySem.W PyProof.Rows
set_option maxRecDepth 100000 in
set_option maxHeartbeats 0 in
theorem PySem.Challenge.cw_bitpack_k06_lengths_holds : PySem.Challenge.rw_bitpack_k06_lengths.Holds := by
  w_on; o_law; k_head; (case hw => w_witness2)
  k_fill
  refine L2.walk_of (l := PySem.Challenge.rw_bitpack_k06_lengths) (n := 63) (k := Pw.KJ + 1) (x := "_law_script") (CX := fun w => L2.CX PySem.Challenge.rw_bitpack_k06_lengths.prog w) (sp := fun w => Pu.spLaw _) rfl (by decide) rfl ⟨rfl, by decide, by decide⟩ (fun w h Y => PySem.W.kIn_of Y) ?F (fun w H a ns hl hO hS => ⟨a, ns, rfl, hS, hl, fun _ => rfl⟩) (fun _ _ _ _ _ h => Pu.cx_false h)
  case F =>
    intro w mg fa h KX G hmg
    have X := Pw.txt_of (mg := mg) KX (by
      clear hmg
      refine' ⟨?b0, ?b1, ?b2, ?b3, ?b4, ?b5, ?b6, ?b7, ?b8, ?b9, ?b10, ?d11, ?d12, ?d13, ?d14, ?d15, ?d16, ?d17, ?d18, ?d19, ?d20, ?d21, ?d22, ?d23, ?d24, ?d25, ?d26, ?d27, ?d28, ?d29, ?d30, ?d31, ?d32, ?d33, ?d34, ?d35, ?x36, ?x37⟩
      (case b0 => exact PySem.W.mg_none_of KX G (by k_is))
      (case b1 => exact PySem.W.mg_none_of KX G (by k_is))
      (case b2 => exact PySem.W.mg_none_of KX G (by k_is))
      (case b3 => exact PySem.W.mg_none_of KX G (by k_is))
      (case b4 => exact PySem.W.mg_none_of KX G (by k_is))
      (case b5 => exact PySem.W.mg_none_of KX G (by k_is))
      (case b6 => exact PySem.W.mg_none_of KX G (by k_is))
      (case b7 => exact PySem.W.mg_none_of KX G (by k_is))
      (case b8 => exact PySem.W.mg_none_of KX G (by k_is))
      (case b9 => exact PySem.W.mg_none_of KX G (by k_is))
      (case b10 => exact PySem.W.mg_none_of KX G (by k_is))
      (case d11 => refine' Pu.def_mk KX G ?xa ?xl ?xc ?xk ?xb; (case xa => k_is); (case xl => k_is); (case xc => k_is); (case xk => k_is); (case xb => exact fun _ _ _ _ _ _ us hl => match us, hl with | [_], _ => rfl))
      (case d12 => refine' Pu.def_mk KX G ?xa ?xl ?xc ?xk ?xb; (case xa => k_is); (case xl => k_is); (case xc => k_is); (case xk => k_is); (case xb => exact fun _ _ _ _ _ _ us hl => match us, hl with | [_, _], _ => rfl))
      (case d13 => refine' Pu.def_mk KX G ?xa ?xl ?xc ?xk ?xb; (case xa => k_is); (case xl => k_is); (case xc => k_is); (case xk => k_is); (case xb => exact fun _ _ _ _ _ _ us hl => match us, hl with | [_, _, _], _ => rfl))
      (case d14 => refine' Pu.def_mk KX G ?xa ?xl ?xc ?xk ?xb; (case xa => k_is); (case xl => k_is); (case xc => k_is); (case xk => k_is); (case xb => exact fun _ _ _ _ _ _ us hl => match us, hl with | [_], _ => rfl))
      (case d15 => refine' Pu.def_mk KX G ?xa ?xl ?xc ?xk ?xb; (case xa => k_is); (case xl => k_is); (case xc => k_is); (case xk => k_is); (case xb => exact fun _ _ _ _ _ _ us hl => match us, hl with | [_], _ => rfl))
      (case d16 => refine' Pu.def_mk KX G ?xa ?xl ?xc ?xk ?xb; (case xa => k_is); (case xl => k_is); (case xc => k_is); (case xk => k_is); (case xb => exact fun _ _ _ _ _ _ us hl => match us, hl with | [_, _], _ => rfl))
      (case d17 => refine' Pu.def_mk KX G ?xa ?xl ?xc ?xk ?xb; (case xa => k_is); (case xl => k_is); (case xc => k_is); (case xk => k_is); (case xb => exact fun _ _ _ _ _ _ us hl => match us, hl with | [_, _], _ => rfl))
      (case d18 => refine' Pu.def_mk KX G ?xa ?xl ?xc ?xk ?xb; (case xa => k_is); (case xl => k_is); (case xc => k_is); (case xk => k_is); (case xb => exact fun _ _ _ _ _ _ us hl => match us, hl with | [_, _], _ => rfl))
      (case d19 => refine' Pu.def_mk KX G ?xa ?xl ?xc ?xk ?xb; (case xa => k_is); (case xl => k_is); (case xc => k_is); (case xk => k_is); (case xb => exact fun _ _ _ _ _ _ us hl => match us, hl with | [_, _], _ => rfl))
      (case d20 => refine' Pu.def_mk KX G ?xa ?xl ?xc ?xk ?xb; (case xa => k_is); (case xl => k_is); (case xc => k_is); (case xk => k_is); (case xb => exact fun _ _ _ _ _ _ us hl => match us, hl with | [_, _], _ => rfl))
      (case d21 => refine' Pu.def_mk KX G ?xa ?xl ?xc ?xk ?xb; (case xa => k_is); (case xl => k_is); (case xc => k_is); (case xk => k_is); (case xb => exact fun _ _ _ _ _ _ us hl => match us, hl with | [_, _], _ => rfl))
      (case d22 => refine' Pu.def_mk KX G ?xa ?xl ?xc ?xk ?xb; (case xa => k_is); (case xl => k_is); (case xc => k_is); (case xk => k_is); (case xb => exact fun _ _ _ _ _ _ us hl => match us, hl with | [_, _], _ => rfl))
      (case d23 => refine' Pu.def_mk KX G ?xa ?xl ?xc ?xk ?xb; (case xa => k_is); (case xl => k_is); (case xc => k_is); (case xk => k_is); (case xb => exact fun _ _ _ _ _ _ us hl => match us, hl with | [_], _ => rfl))
      (case d24 => refine' Pu.def_mk KX G ?xa ?xl ?xc ?xk ?xb; (case xa => k_is); (case xl => k_is); (case xc => k_is); (case xk => k_is); (case xb => exact fun _ _ _ _ _ _ us hl => match us, hl with | [_], _ => rfl))
      (case d25 => refine' Pu.def_mk KX G ?xa ?xl ?xc ?xk ?xb; (case xa => k_is); (case xl => k_is); (case xc => k_is); (case xk => k_is); (case xb => exact fun _ _ _ _ _ _ us hl => match us, hl with | [_, _], _ => rfl))
      (case d26 => refine' Pu.def_mk KX G ?xa ?xl ?xc ?xk ?xb; (case xa => k_is); (case xl => k_is); (case xc => k_is); (case xk => k_is); (case xb => exact fun _ _ _ _ _ _ us hl => match us, hl with | [_, _], _ => rfl))
      (case d27 => refine' Pu.def_mk KX G ?xa ?xl ?xc ?xk ?xb; (case xa => k_is); (case xl => k_is); (case xc => k_is); (case xk => k_is); (case xb => exact fun _ _ _ _ _ _ us hl => match us, hl with | [_, _], _ => rfl))
      (case d28 => refine' Pu.def_mk KX G ?xa ?xl ?xc ?xk ?xb; (case xa => k_is); (case xl => k_is); (case xc => k_is); (case xk => k_is); (case xb => exact fun _ _ _ _ _ _ us hl => match us, hl with | [_, _], _ => rfl))
      (case d29 => refine' Pu.def_mk KX G ?xa ?xl ?xc ?xk ?xb; (case xa => k_is); (case xl => k_is); (case xc => k_is); (case xk => k_is); (case xb => exact fun _ _ _ _ _ _ us hl => match us, hl with | [_, _, _], _ => rfl))
      (case d30 => refine' Pu.def_mk KX G ?xa ?xl ?xc ?xk ?xb; (case xa => k_is); (case xl => k_is); (case xc => k_is); (case xk => k_is); (case xb => exact fun _ _ _ _ _ _ us hl => match us, hl with | [_, _], _ => rfl))
      (case d31 => refine' Pu.def_mk KX G ?xa ?xl ?xc ?xk ?xb; (case xa => k_is); (case xl => k_is); (case xc => k_is); (case xk => k_is); (case xb => exact fun _ _ _ _ _ _ us hl => match us, hl with | [_], _ => rfl))
      (case d32 => refine' Pu.def_mk KX G ?xa ?xl ?xc ?xk ?xb; (case xa => k_is); (case xl => k_is); (case xc => k_is); (case xk => k_is); (case xb => exact fun _ _ _ _ _ _ us hl => match us, hl with | [_, _], _ => rfl))
      (case d33 => refine' Pu.def_mk KX G ?xa ?xl ?xc ?xk ?xb; (case xa => k_is); (case xl => k_is); (case xc => k_is); (case xk => k_is); (case xb => exact fun _ _ _ _ _ _ us hl => match us, hl with | [_, _, _], _ => rfl))
      (case d34 => refine' Pu.def_mk KX G ?xa ?xl ?xc ?xk ?xb; (case xa => k_is); (case xl => k_is); (case xc => k_is); (case xk => k_is); (case xb => exact fun _ _ _ _ _ _ us hl => match us, hl with | [_], _ => rfl))
      (case d35 => refine' Pu.def_mk KX G ?xa ?xl ?xc ?xk ?xb; (case xa => k_is); (case xl => k_is); (case xc => k_is); (case xk => k_is); (case xb => exact fun _ _ _ _ _ _ us hl => match us, hl with | [_], _ => rfl))
      (case x36 => refine' Pu.exc_mk KX G ?xa ?xq ?xk ?xb ?xt; (case xa => k_is); (case xq => first | k_exc | k_is); (case xk => k_is); (case xb => k_is); (case xt => k_is))
      (case x37 => refine' Pu.exc_mk KX G ?xa ?xq ?xk ?xb ?xt; (case xa => k_is); (case xq => first | k_exc | k_is); (case xk => k_is); (case xb => k_is); (case xt => k_is)))
    exact Pu.law_end X.d_law hmg (fun base _ _ _ _ F => Pw.ok_law F (Pw.all_ok (base := base) X Pw.KJ).c__law_deeper (Pw.all_ok (base := base) X Pw.KJ).c__law_shape (Pw.all_ok (base := base) X Pw.KJ).c__law_lengths (Pw.all_ok (base := base) X Pw.KJ).c_least_bits (Pw.all_ok (base := base) X Pw.KJ).c_most_bits (Pw.all_ok (base := base) X Pw.KJ).c__law_whole (Pw.all_ok (base := base) X Pw.KJ).c_packed (Pw.all_ok (base := base) X Pw.KJ).c__law_record X.m_len X.m_isinstance X.m_list) Pw.law_true
