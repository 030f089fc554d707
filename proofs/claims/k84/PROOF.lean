import PyProof.Rows.All
import Wide.All
import OpenK.AllK
import Wide.FinOn
import KE.KStateDown
import HandS.Base
import HandS.Call
import HandS.Ends
import HandS.More
import HandS.Words
import HandS.WordsExc
import HandS.Defaults
import HandS.Head0
import HandS.Head1
import HandS.Head2
import HandS.HeadEnd
import HandS.HeadHook1
import HandS.HeadHook2
import HandS.ForMost
import HandS.Wide
import HandS.Flow
import HandS.Style
import HandS.Zip
import HandS.TupAny
import HandS.Star
import HandS.Conv
import KE.KDictDisplayH
import KE.KDictPairs
import KE.GoesEnum
import KE.GoesMore
import KE.GoesEnumKw
import HandS.IsInst
import PySem.Challenge.RW_ridgewatch_k84_whole_higher_sees_more
set_option Elab.async false
set_option linter.all false
section
set_option maxRecDepth 100000
set_option maxHeartbeats 1000000
namespace DL
open PySem PySem.Spec PyProof.Rows L2
abbrev D := PyData
inductive TV where
  | fr (d : D) | rd (ds : List D) | own (ds : List D) | dct (ls : List (List Int))
def TV.asD : TV → D
  | .fr d => d
  | .rd ds => .list ds
  | .own ds => .list ds
  | .dct _ => .none
def TV.isOwn : TV → Bool
  | .own _ => true
  | .dct _ => true
  | _ => false
abbrev DEnv := List (Option TV)
abbrev Vo := Option (Addr × Addr)
def Vol (S : Vo) (a : Addr) : Prop := ∃ sd sc, S = some (sd, sc) ∧ (a = sd ∨ a = sc)
def SrcAt (S : Vo) (b : Bool) (a : Addr) : Prop := ∃ sd sc, S = some (sd, sc) ∧ a = if b then sd else sc
def SrcOk (S : Vo) (H : Hp) : Prop := ∀ sd sc, S = some (sd, sc) → ∃ (cells : List Int) (left mixed turn : Int),
  H sd = some (.dK [(.inr "cells", .ref sc), (.inr "left", .int left), (.inr "mixed", .int mixed), (.inr "turn", .int turn)]) ∧ H sc = some (.lst (cells.map V.int)) ∧ cells.length ≤ 1000 ∧ sd ≠ sc
mutual
def FR (S : Vo) (F : Addr → Prop) (H : Hp) : D → V → Prop
  | .none, v => v = .non
  | .bool b, v => v = .bl b
  | .int i, v => v = .int i
  | .str x, v => v = .str x
  | .list ds, v => ∃ a vs, v = .ref a ∧ F a ∧ H a = some (.lst vs) ∧ FRs S F H ds vs
  | .tuple ds, v => ∃ a vs, v = .ref a ∧ H a = some (.tup vs) ∧ FRs S F H ds vs
  | .dict x, v => ∃ a, v = .ref a ∧ SrcAt S x.isEmpty a
def FRs (S : Vo) (F : Addr → Prop) (H : Hp) : List D → List V → Prop
  | [], vs => vs = []
  | d :: ds, vs => ∃ v r, vs = v :: r ∧ FR S F H d v ∧ FRs S F H ds r
end
structure WF (S : Vo) (F : Addr → Prop) (H : Hp) : Prop where
  src : SrcOk S H
  fin : ∀ a, F a → H a ≠ none
  nv : ∀ a, F a → ¬ Vol S a
structure Ext (S : Vo) (F : Addr → Prop) (H : Hp) (F' : Addr → Prop) (H' : Hp) : Prop where
  same : ∀ a o, ¬ Vol S a → H a = some o → H' a = some o
  sub : ∀ a, F a → F' a
  new : ∀ a, F' a → F a ∨ H a = none
  wf : WF S F H → WF S F' H'
section
variable {S : Vo} {F F1 F2 F' : Addr → Prop} {H H1 H2 H' Hs : Hp}
theorem Ext.refl : Ext S F H F H := ⟨fun _ _ _ e => e, fun _ e => e, fun _ e => .inl e, fun w => w⟩
theorem Ext.none_of (e : Ext S F H F1 H1) (w : WF S F H) {a : Addr} (h : H1 a = none) : H a = none := by
  cases q : H a with
  | none => rfl
  | some o =>
    by_cases v : Vol S a
    · obtain ⟨sd, sc, rfl, v⟩ := v
      obtain ⟨_, _, _, _, h1, h2, _⟩ := (e.wf w).src _ _ rfl
      rcases v with v | v <;> subst v
      · rw [h] at h1; cases h1
      · rw [h] at h2; cases h2
    · rw [e.same a o v q] at h; cases h
theorem Ext.trans (e : Ext S F H F1 H1) (e' : Ext S F1 H1 F2 H2) (w : WF S F H) : Ext S F H F2 H2 :=
  ⟨fun a o v q => e'.same a o v (e.same a o v q), fun a q => e'.sub a (e.sub a q), fun a q => by
    rcases e'.new a q with q | q
    · exact e.new a q
    · exact .inr (e.none_of w q), fun w' => e'.wf (e.wf w')⟩
theorem WF.tup (w : WF S F H) {a : Addr} {vs : List V} (h : H a = some (.tup vs)) : ¬ Vol S a := by
  rintro ⟨sd, sc, rfl, v⟩
  obtain ⟨_, _, _, _, h1, h2, _⟩ := w.src _ _ rfl
  rcases v with v | v <;> subst v
  · rw [h] at h1; cases h1
  · rw [h] at h2; cases h2
theorem WF.vol (w : WF S F H) {a : Addr} (h : H a = none) : ¬ Vol S a := by
  rintro ⟨sd, sc, rfl, v⟩
  obtain ⟨_, _, _, _, h1, h2, _⟩ := w.src _ _ rfl
  rcases v with v | v <;> subst v
  · rw [h] at h1; cases h1
  · rw [h] at h2; cases h2
mutual
theorem FR.ext (e : Ext S F H F' H') (w : WF S F H) : ∀ (d : D) (v : V), FR S F H d v → FR S F' H' d v
  | .none, _, h => h
  | .bool _, _, h => h
  | .int _, _, h => h
  | .str _, _, h => h
  | .list ds, _, h => by
    obtain ⟨a, vs, rfl, f, q, r⟩ := h
    exact ⟨a, vs, rfl, e.sub a f, e.same a _ (w.nv a f) q, FRs.ext e w ds vs r⟩
  | .tuple ds, _, h => by
    obtain ⟨a, vs, rfl, q, r⟩ := h
    exact ⟨a, vs, rfl, e.same a _ (w.tup q) q, FRs.ext e w ds vs r⟩
  | .dict _, _, h => h
theorem FRs.ext (e : Ext S F H F' H') (w : WF S F H) : ∀ (ds : List D) (vs : List V), FRs S F H ds vs → FRs S F' H' ds vs
  | [], _, h => h
  | d :: ds, _, h => by
    obtain ⟨v, r, rfl, h1, h2⟩ := h
    exact ⟨v, r, rfl, FR.ext e w d v h1, FRs.ext e w ds r h2⟩
end
theorem FRs.length : ∀ {ds : List D} {vs : List V}, FRs S F H ds vs → vs.length = ds.length
  | [], _, h => by cases h; rfl
  | d :: ds, _, h => by
    obtain ⟨v, r, rfl, _, h2⟩ := h
    simp [h2.length]
theorem FRs.append : ∀ {ds es : List D} {vs ws : List V}, FRs S F H ds vs → FRs S F H es ws → FRs S F H (ds ++ es) (vs ++ ws)
  | [], _, _, _, h, h' => by cases h; exact h'
  | d :: ds, _, _, _, h, h' => by
    obtain ⟨v, r, rfl, h1, h2⟩ := h
    exact ⟨v, _, rfl, h1, h2.append h'⟩
theorem FRs.get : ∀ {ds : List D} {vs : List V} {i : Nat} {d : D}, FRs S F H ds vs → ds[i]? = some d → ∃ v, vs[i]? = some v ∧ FR S F H d v
  | [], _, _, _, _, e => by simp at e
  | d :: ds, _, 0, _, h, e => by
    obtain ⟨v, r, rfl, h1, h2⟩ := h
    simp at e; subst e
    exact ⟨v, rfl, h1⟩
  | d :: ds, _, i + 1, _, h, e => by
    obtain ⟨v, r, rfl, h1, h2⟩ := h
    obtain ⟨u, q1, q2⟩ := h2.get (i := i) (by simpa using e)
    exact ⟨u, by simpa using q1, q2⟩
theorem FRs.getV : ∀ {ds : List D} {vs : List V} {i : Nat} {v : V}, FRs S F H ds vs → vs[i]? = some v → ∃ d, ds[i]? = some d ∧ FR S F H d v
  | [], _, _, _, h, e => by cases h; simp at e
  | d :: ds, _, 0, _, h, e => by
    obtain ⟨v, r, rfl, h1, h2⟩ := h
    simp at e; subst e
    exact ⟨d, rfl, h1⟩
  | d :: ds, _, i + 1, _, h, e => by
    obtain ⟨v, r, rfl, h1, h2⟩ := h
    obtain ⟨u, q1, q2⟩ := h2.getV (i := i) (by simpa using e)
    exact ⟨u, by simpa using q1, q2⟩
theorem FRs.take : ∀ {ds : List D} {vs : List V} (n : Nat), FRs S F H ds vs → FRs S F H (ds.take n) (vs.take n)
  | _, _, 0, _ => by simp [FRs]
  | [], _, n + 1, h => by cases h; simp [FRs]
  | d :: ds, _, n + 1, h => by
    obtain ⟨v, r, rfl, h1, h2⟩ := h
    exact ⟨v, _, rfl, h1, h2.take n⟩
theorem FRs.drop : ∀ {ds : List D} {vs : List V} (n : Nat), FRs S F H ds vs → FRs S F H (ds.drop n) (vs.drop n)
  | _, _, 0, h => h
  | [], _, n + 1, h => by cases h; simp [FRs]
  | d :: ds, _, n + 1, h => by
    obtain ⟨v, r, rfl, h1, h2⟩ := h
    exact h2.drop n
theorem FRs.reverse : ∀ {ds : List D} {vs : List V}, FRs S F H ds vs → FRs S F H ds.reverse vs.reverse
  | [], _, h => by cases h; simp [FRs]
  | d :: ds, _, h => by
    obtain ⟨v, r, rfl, h1, h2⟩ := h
    rw [List.reverse_cons, List.reverse_cons]
    exact h2.reverse.append ⟨v, [], rfl, h1, rfl⟩
theorem FRs.set : ∀ {ds : List D} {vs : List V} {d : D} {v : V} (i : Nat), FRs S F H ds vs → FR S F H d v → FRs S F H (ds.set i d) (vs.set i v)
  | [], _, _, _, _, h, _ => by cases h; simp [FRs]
  | e :: ds, _, d, v, 0, h, h' => by
    obtain ⟨u, r, rfl, h1, h2⟩ := h
    exact ⟨v, r, rfl, h', h2⟩
  | e :: ds, _, d, v, i + 1, h, h' => by
    obtain ⟨u, r, rfl, h1, h2⟩ := h
    exact ⟨u, _, rfl, h1, h2.set i h'⟩
theorem FRs.eraseIdx : ∀ {ds : List D} {vs : List V} (i : Nat), FRs S F H ds vs → FRs S F H (ds.eraseIdx i) (vs.eraseIdx i)
  | [], _, _, h => by cases h; simp [FRs]
  | e :: ds, _, 0, h => by
    obtain ⟨u, r, rfl, h1, h2⟩ := h
    exact h2
  | e :: ds, _, i + 1, h => by
    obtain ⟨u, r, rfl, h1, h2⟩ := h
    exact ⟨u, _, rfl, h1, h2.eraseIdx i⟩
theorem FRs.dropLast {ds : List D} {vs : List V} (h : FRs S F H ds vs) : FRs S F H ds.dropLast vs.dropLast := by
  rw [List.dropLast_eq_take, List.dropLast_eq_take, h.length]
  exact h.take _
def lf : D → Bool
  | .list _ => false
  | .tuple ds => lfs ds
  | _ => true
where lfs : List D → Bool
  | [] => true
  | d :: ds => lf d && lfs ds
mutual
theorem FR.lf : ∀ (d : D) (v : V), lf d = true → FR S F H d v → FR S F' H d v
  | .none, _, _, h => h
  | .bool _, _, _, h => h
  | .int _, _, _, h => h
  | .str _, _, _, h => h
  | .list _, _, l, _ => by simp [DL.lf] at l
  | .tuple ds, _, l, h => by
    obtain ⟨a, vs, rfl, q, r⟩ := h
    exact ⟨a, vs, rfl, q, FRs.lf ds vs l r⟩
  | .dict _, _, _, h => h
theorem FRs.lf : ∀ (ds : List D) (vs : List V), lf.lfs ds = true → FRs S F H ds vs → FRs S F' H ds vs
  | [], _, _, h => h
  | d :: ds, _, l, h => by
    obtain ⟨v, r, rfl, h1, h2⟩ := h
    have l : (DL.lf d && DL.lf.lfs ds) = true := l
    rw [Bool.and_eq_true] at l
    exact ⟨v, r, rfl, FR.lf d v l.1 h1, FRs.lf ds r l.2 h2⟩
end
def RV (S : Vo) (Hs : Hp) (F : Addr → Prop) (H : Hp) : TV → V → Prop
  | .fr d, v => FR S F H d v
  | .rd ds, v => ∃ a vs, v = .ref a ∧ H a = some (.lst vs) ∧ ¬ Vol S a ∧ FRs S F H ds vs
  | .own ds, v => ∃ a vs, v = .ref a ∧ H a = some (.lst vs) ∧ ¬ Vol S a ∧ Hs a = none ∧ ¬ F a ∧ FRs S F H ds vs
  | .dct _, _ => False
theorem RV.ext {t : TV} {v : V} (r : RV S Hs F H t v) (e : Ext S F H F' H') (w : WF S F H) : RV S Hs F' H' t v := by
  cases t with
  | fr d => exact FR.ext e w d v r
  | rd ds =>
    obtain ⟨a, vs, rfl, q, nv, r⟩ := r
    exact ⟨a, vs, rfl, e.same a _ nv q, nv, FRs.ext e w ds vs r⟩
  | own ds =>
    obtain ⟨a, vs, rfl, q, nv, n, f, r⟩ := r
    refine ⟨a, vs, rfl, e.same a _ nv q, nv, n, fun f' => ?_, FRs.ext e w ds vs r⟩
    rcases e.new a f' with z | z
    · exact f z
    · rw [q] at z; cases z
  | dct ls => exact r.elim
theorem RV.back {t : TV} {v : V} (r : RV S H1 F H t v) (n : ∀ a, H1 a = none → Hs a = none) : RV S Hs F H t v := by
  cases t with
  | fr d => exact r
  | rd ds => exact r
  | own ds =>
    obtain ⟨a, vs, rfl, q, nv, m, f, r⟩ := r
    exact ⟨a, vs, rfl, q, nv, n a m, f, r⟩
  | dct ls => exact r.elim
theorem RV.list {t : TV} {v : V} {ds : List D} (r : RV S Hs F H t v) (w : WF S F H) (e : t.asD = .list ds) : ∃ a vs, v = .ref a ∧ H a = some (.lst vs) ∧ ¬ Vol S a ∧ FRs S F H ds vs := by
  cases t with
  | fr d =>
    have e : d = .list ds := e
    subst e
    obtain ⟨a, vs, rfl, f, q, r⟩ := r
    exact ⟨a, vs, rfl, q, w.nv a f, r⟩
  | rd es =>
    have e : PyData.list es = .list ds := e
    cases e
    obtain ⟨a, vs, rfl, q, nv, r⟩ := r
    exact ⟨a, vs, rfl, q, nv, r⟩
  | own es =>
    have e : PyData.list es = .list ds := e
    cases e
    obtain ⟨a, vs, rfl, q, nv, m, f, r⟩ := r
    exact ⟨a, vs, rfl, q, nv, r⟩
  | dct ls => exact r.elim
theorem RV.tup {t : TV} {v : V} {ds : List D} (r : RV S Hs F H t v) (e : t.asD = .tuple ds) : ∃ a vs, v = .ref a ∧ H a = some (.tup vs) ∧ FRs S F H ds vs := by
  cases t with
  | fr d =>
    have e : d = .tuple ds := e
    subst e
    exact r
  | rd es => cases e
  | own es => cases e
  | dct ls => exact r.elim
theorem RV.int {t : TV} {v : V} {i : Int} (r : RV S Hs F H t v) (e : t.asD = .int i) : v = .int i := by
  cases t with
  | fr d =>
    have e : d = .int i := e
    subst e
    exact r
  | rd es => cases e
  | own es => cases e
  | dct ls => exact r.elim
theorem RV.bl {t : TV} {v : V} {i : Bool} (r : RV S Hs F H t v) (e : t.asD = .bool i) : v = .bl i := by
  cases t with
  | fr d =>
    have e : d = .bool i := e
    subst e
    exact r
  | rd es => cases e
  | own es => cases e
  | dct ls => exact r.elim
def SlotR (S : Vo) (H0 : Hp) (F : Addr → Prop) (H : Hp) : TV → V → Prop
  | .fr d, v => FR S F H d v
  | .own ds, v => ∃ a vs, v = .ref a ∧ H a = some (.lst vs) ∧ H0 a = none ∧ ¬ F a ∧ FRs S F H ds vs
  | .rd _, _ => False
  | .dct ls, v => ∃ a kvs, v = .ref a ∧ H a = some (.dT kvs) ∧ H0 a = none ∧ ¬ F a ∧ kvs.map (·.1) = ls.map (·.map Sum.inl)
structure SR (S : Vo) (F0 : Addr → Prop) (H0 : Hp) (F : Addr → Prop) (env : DEnv) (σ : L2.St) (H : Hp) : Prop where
  len : env.length = σ.length
  slot : ∀ (i : Nat) (t : TV), env[i]? = some (some t) → ∃ v, σ[i]? = some (some v) ∧ SlotR S H0 F H t v
  dist : ∀ (i j : Nat) (t u : TV) (a : Addr), i ≠ j → env[i]? = some (some t) → env[j]? = some (some u) → t.isOwn = true → u.isOwn = true → σ[i]? = some (some (.ref a)) → σ[j]? ≠ some (some (.ref a))
  ext : Ext S F0 H0 F H
  wf0 : WF S F0 H0
theorem SR.wf {F0 : Addr → Prop} {H0 : Hp} {env : DEnv} {σ : L2.St} (r : SR S F0 H0 F env σ H) : WF S F H := r.ext.wf r.wf0
theorem SlotR.ext {H0 : Hp} {t : TV} {v : V} (r : SlotR S H0 F H t v) (e : Ext S F H F' H') (w : WF S F H) (w0 : ∀ a, H0 a = none → ¬ Vol S a) : SlotR S H0 F' H' t v := by
  cases t with
  | fr d => exact FR.ext e w d v r
  | rd ds => exact r
  | own ds =>
    obtain ⟨a, vs, rfl, q, n, f, r⟩ := r
    refine ⟨a, vs, rfl, e.same a _ (w0 a n) q, n, fun f' => ?_, FRs.ext e w ds vs r⟩
    rcases e.new a f' with z | z
    · exact f z
    · rw [q] at z; cases z
  | dct ls =>
    obtain ⟨a, kvs, rfl, q, n, f, r⟩ := r
    refine ⟨a, kvs, rfl, e.same a _ (w0 a n) q, n, fun f' => ?_, r⟩
    rcases e.new a f' with z | z
    · exact f z
    · rw [q] at z; cases z
theorem SR.step {F0 : Addr → Prop} {H0 : Hp} {env : DEnv} {σ : L2.St} (r : SR S F0 H0 F env σ H) (e : Ext S F H F' H') : SR S F0 H0 F' env σ H' :=
  ⟨r.len, fun i t h => let ⟨v, h1, h2⟩ := r.slot i t h; ⟨v, h1, h2.ext e r.wf fun a n => r.wf0.vol n⟩, r.dist, r.ext.trans e r.wf0, r.wf0⟩
end
end DL
end
section
set_option maxRecDepth 100000
set_option maxHeartbeats 1000000
namespace DL
open PySem PySem.Spec PyProof.Rows L2
abbrev DEx := DEnv → (TV → Prop) → Prop
abbrev DTx := DEnv → (Bool → Prop) → Prop
abbrev DAx := DEnv → (List TV → Prop) → Prop
def owns : List TV → List V → List Addr
  | .own _ :: ts, .ref a :: vs => a :: owns ts vs
  | _ :: ts, _ :: vs => owns ts vs
  | _, _ => []
def RVs (S : Vo) (Hs : Hp) (F : Addr → Prop) (H : Hp) : List TV → List V → Prop
  | [], vs => vs = []
  | t :: ts, vs => ∃ v r, vs = v :: r ∧ RV S Hs F H t v ∧ RVs S Hs F H ts r
def liftE (d : DEx) : TE := fun σ H Q => ∃ S F0 H0 F env P, SR S F0 H0 F env σ H ∧ d env P ∧ ∀ t v F' H', P t → Ext S F H F' H' → RV S H F' H' t v → Q v H'
def liftT (d : DTx) : TT := fun σ H Q => ∃ S F0 H0 F env P, SR S F0 H0 F env σ H ∧ d env P ∧ ∀ b F' H', P b → Ext S F H F' H' → Q b H'
def liftA (d : DAx) : TA := fun σ H Q => ∃ S F0 H0 F env P, SR S F0 H0 F env σ H ∧ d env P ∧ ∀ ts vs F' H', P ts → Ext S F H F' H' → RVs S H F' H' ts vs → (owns ts vs).Nodup → Q vs H'
structure DE (X : Cx) (e : Expr) (d : DEx) : Prop where
  run : PE X e (liftE d)
structure DT (X : Cx) (e : Expr) (d : DTx) : Prop where
  run : PT X e (liftT d)
structure DW (X : Cx) (e : Expr) (d : DTx) : Prop where
  run : PW X e (liftT d)
structure DA (X : Cx) (es : List Expr) (d : DAx) : Prop where
  run : PA X es (liftA d)
theorem PE.weaken {X : Cx} {e : Expr} {t t' : TE} (h : PE X e t) (i : ∀ σ H Q, t' σ H Q → t σ H Q) : PE X e t' := ⟨fun pins s σ H Q I q => h.run pins s σ H Q I (i _ _ _ q)⟩
theorem PT.weaken {X : Cx} {e : Expr} {t t' : TT} (h : PT X e t) (i : ∀ σ H Q, t' σ H Q → t σ H Q) : PT X e t' := ⟨fun pins s σ H Q I q => h.run pins s σ H Q I (i _ _ _ q)⟩
theorem PW.weaken {X : Cx} {e : Expr} {t t' : TT} (h : PW X e t) (i : ∀ σ H Q, t' σ H Q → t σ H Q) : PW X e t' := ⟨fun wh pins s σ H Q I q => h.run wh pins s σ H Q I (i _ _ _ q)⟩
theorem PA.weaken {X : Cx} {e : List Expr} {t t' : TA} (h : PA X e t) (i : ∀ σ H Q, t' σ H Q → t σ H Q) : PA X e t' := ⟨fun pos pins s σ H Q I q => h.run pos pins s σ H Q I (i _ _ _ q)⟩
section
variable {S : Vo} {F F1 F2 F' F0 : Addr → Prop} {H H1 H2 H' Hs H0 : Hp} {env : DEnv} {σ : L2.St} {P : TV → Prop} {Q : VK}
theorem RVs.ext (e : Ext S F H F' H') (w : WF S F H) : ∀ {ts : List TV} {vs : List V}, RVs S Hs F H ts vs → RVs S Hs F' H' ts vs
  | [], _, h => h
  | t :: ts, _, h => by
    obtain ⟨v, r, rfl, h1, h2⟩ := h
    exact ⟨v, r, rfl, h1.ext e w, h2.ext e w⟩
theorem RVs.back (n : ∀ a, H1 a = none → Hs a = none) : ∀ {ts : List TV} {vs : List V}, RVs S H1 F H ts vs → RVs S Hs F H ts vs
  | [], _, h => h
  | t :: ts, _, h => by
    obtain ⟨v, r, rfl, h1, h2⟩ := h
    exact ⟨v, r, rfl, h1.back n, h2.back n⟩
theorem RVs.owns : ∀ {ts : List TV} {vs : List V}, RVs S Hs F H ts vs → ∀ a ∈ DL.owns ts vs, Hs a = none ∧ (∃ us, H a = some (.lst us)) ∧ ¬ Vol S a
  | [], _, h => by
    cases h
    intro a ha
    simp [DL.owns] at ha
  | t :: ts, _, h => by
    obtain ⟨v, r, rfl, h1, h2⟩ := h
    intro a ha
    have ih := h2.owns
    cases t with
    | fr d => exact ih a (by simpa [DL.owns] using ha)
    | rd d => exact ih a (by simpa [DL.owns] using ha)
    | own d =>
      obtain ⟨b, us, rfl, q, nv, m, f, _⟩ := h1
      have ha : a ∈ b :: DL.owns ts r := ha
      rcases List.mem_cons.mp ha with e | ha
      · subst e; exact ⟨m, ⟨us, q⟩, nv⟩
      · exact ih a ha
    | dct d => exact h1.elim
theorem Ext.nn (e : Ext S F H F1 H1) (w : WF S F H) : ∀ a, H1 a = .none → H a = .none := fun _ h => e.none_of w h
def TV.view : TV → Option TV
  | .own ds => some (.rd ds)
  | .dct _ => none
  | .fr d => some (.fr d)
  | .rd ds => some (.rd ds)
def dVar (i : Nat) : DEx := fun env P => match env[i]? with
  | some (some t) => match t.view with
    | some u => P u
    | none => False
  | _ => False
def dC (d : D) : DEx := fun _ P => P (.fr d)
variable {X : Cx}
theorem de_var (i : Nat) {x : Str} {pos : Pos} (hN : X.N[i]? = some x := by rfl) (hv : Vis X.env.scope x := by first | exact Or.inl rfl | exact Or.inr (Or.inl rfl) | exact Or.inr (Or.inr rfl)) (hd : (x == ("__debug__" : Str)) = false := by decide)
    (hcd : (x == ("__classdict__" : Str)) = false := by decide) : DE X (.Name x pos) (dVar i) := by
  refine ⟨PE.weaken (pe_var hN hv hd hcd) fun σ H Q h => ?_⟩
  obtain ⟨S, F0, H0, F, env, P, sr, p, k⟩ := h
  unfold dVar at p
  split at p
  · rename_i t et
    obtain ⟨v, ev, r⟩ := sr.slot i t et
    cases t with
    | fr d => exact ⟨v, ev, k _ v F H p .refl r⟩
    | rd ds => exact r.elim
    | own ds =>
      obtain ⟨a, vs, rfl, q, n, f, r⟩ := r
      exact ⟨_, ev, k _ _ F H p .refl ⟨a, vs, rfl, q, sr.wf0.vol n, r⟩⟩
    | dct ls => exact p.elim
  · exact p.elim
theorem de_c {e : Expr} {v : V} {d : D} (h : PE X e (tC v)) (r : ∀ S F H, FR S F H d v) : DE X e (dC d) :=
  ⟨PE.weaken h fun σ H Q ⟨S, F0, H0, F, env, P, sr, p, k⟩ => k _ v F H p .refl (r S F H)⟩
theorem de_int {i : Int} {j pos} : DE X (.Constant (.int i) j pos) (dC (.int i)) := de_c pe_int fun _ _ _ => rfl
theorem de_bl {i : Bool} {j pos} : DE X (.Constant (.bool i) j pos) (dC (.bool i)) := de_c pe_bl fun _ _ _ => rfl
theorem de_non {j pos} : DE X (.Constant .none j pos) (dC .none) := de_c pe_non fun _ _ _ => rfl
theorem de_str {i : Str} {j pos} : DE X (.Constant (.str i) j pos) (dC (.str i)) := de_c pe_str fun _ _ _ => rfl
abbrev O2 := TV → TV → (TV → Prop) → Prop
abbrev O1 := TV → (TV → Prop) → Prop
def OpD (o : O2) (r : R2) : Prop := ∀ (S : Vo) (Hs : Hp) (F : Addr → Prop) (H : Hp) (x y : TV) (vx vy : V) (P : TV → Prop) (Q : VK), WF S F H → RV S Hs F H x vx → RV S Hs F H y vy → o x y P →
  (∀ t v F' H', P t → Ext S F H F' H' → RV S H F' H' t v → Q v H') → r vx vy H Q
def UnD (o : O1) (r : V → Hp → VK → Prop) : Prop := ∀ (S : Vo) (Hs : Hp) (F : Addr → Prop) (H : Hp) (x : TV) (vx : V) (P : TV → Prop) (Q : VK), WF S F H → RV S Hs F H x vx → o x P →
  (∀ t v F' H', P t → Ext S F H F' H' → RV S H F' H' t v → Q v H') → r vx H Q
def dBin (o : O2) (da db : DEx) : DEx := fun env P => da env fun x => db env fun y => o x y P
def dUn (o : O1) (da : DEx) : DEx := fun env P => da env fun x => o x P
theorem bin_go {o : O2} {r : R2} {da db : DEx} (hr : OpD o r) {σ : L2.St} {H : Hp} {Q : VK} (h : liftE (dBin o da db) σ H Q) : tOp r (liftE da) (liftE db) σ H Q := by
  obtain ⟨S, F0, H0, F, env, P, sr, p, k⟩ := h
  refine ⟨S, F0, H0, F, env, _, sr, p, fun x vx F1 H1 px e1 r1 => ?_⟩
  have w1 := e1.wf sr.wf
  refine ⟨S, F0, H0, F1, env, _, sr.step e1, px, fun y vy F2 H2 py e2 r2 => ?_⟩
  have w2 := e2.wf w1
  exact hr S H F2 H2 x y vx vy P Q w2 (r1.ext e2 w1) (r2.back (e1.nn sr.wf)) py fun t v F3 H3 pt e3 r3 =>
    k t v F3 H3 pt (e1.trans (e2.trans e3 w1) sr.wf) (r3.back fun a n => e1.nn sr.wf a (e2.nn w1 a n))
theorem un_go {o : O1} {r : V → Hp → VK → Prop} {da : DEx} (hr : UnD o r) {σ : L2.St} {H : Hp} {Q : VK} (h : liftE (dUn o da) σ H Q) : tUn r (liftE da) σ H Q := by
  obtain ⟨S, F0, H0, F, env, P, sr, p, k⟩ := h
  refine ⟨S, F0, H0, F, env, _, sr, p, fun x vx F1 H1 px e1 r1 => ?_⟩
  have w1 := e1.wf sr.wf
  exact hr S H F1 H1 x vx P Q w1 r1 px fun t v F3 H3 pt e3 r3 =>
    k t v F3 H3 pt (e1.trans e3 sr.wf) (r3.back fun a n => e1.nn sr.wf a n)
variable {a b c : Expr} {da db dc : DEx} {pos : Pos}
theorem de_op {op : Operator} {o : O2} {r : R2} (hr : OpD o r) (ho : OpR X (binaryOp op) r) (ha : DE X a da) (hb : DE X b db) : DE X (.BinOp a op b pos) (dBin o da db) :=
  ⟨PE.weaken (pe_op ho ha.run hb.run) fun _ _ _ h => bin_go hr h⟩
theorem de_cmp {op : CmpOp} {o : O2} {r : R2} (hr : OpD o r) (ho : OpR X (compareOp op) r) (ha : DE X a da) (hb : DE X b db) (hm : behindInMarks op b = false) : DE X (.Compare a [op] [b] pos) (dBin o da db) :=
  ⟨PE.weaken (pe_cmpR ho ha.run hb.run hm) fun _ _ _ h => bin_go hr h⟩
theorem de_un {op : UnaryOp} {o : O1} {r : V → Hp → VK → Prop} (hr : UnD o r) (ho : UnR X (unaryOp op) r) (ha : DE X a da) : DE X (.UnaryOp op a pos) (dUn o da) :=
  ⟨PE.weaken (pe_un ho ha.run) fun _ _ _ h => un_go hr h⟩
theorem de_ix {o : O2} {r : R2} (hr : OpD o r) (ho : IxR X r) (ha : DE X a da) (hb : DE X b db) (hs : PlainIx b) : DE X (.Subscript a b pos) (dBin o da db) :=
  ⟨PE.weaken (pe_ix ho ha.run hb.run hs) fun _ _ _ h => bin_go hr h⟩
def dTest (d : DEx) : DTx := fun env P => d env fun t => ∃ b, t = .fr (.bool b) ∧ P b
theorem test_go {t : TE} {d : DEx} (i : ∀ σ H Q, liftE d σ H Q → t σ H Q) {σ : L2.St} {H : Hp} {Q : Bool → Hp → Prop} (h : liftT (dTest d) σ H Q) : tTest t σ H Q := by
  obtain ⟨S, F0, H0, F, env, P, sr, p, k⟩ := h
  refine i _ _ _ ⟨S, F0, H0, F, env, _, sr, p, fun x vx F1 H1 px e1 r1 => ?_⟩
  obtain ⟨b, rfl, pb⟩ := px
  exact ⟨b, r1, k b F1 H1 pb e1⟩
theorem dt_cmp {op : CmpOp} {o : O2} {r : R2} (hr : OpD o r) (ho : OpR X (compareOp op) r) (ha : DE X a da) (hb : DE X b db) (hm : behindInMarks op b = false) : DT X (.Compare a [op] [b] pos) (dTest (dBin o da db)) :=
  ⟨PT.weaken (pt_cmpR ho ha.run hb.run hm) fun _ _ _ h => test_go (fun _ _ _ h => bin_go hr h) h⟩
theorem dt_val {e : Expr} {d : DEx} (h : DE X e d) (he : ∀ whole, isTrue e X.env whole = (do let v ← whole; standAt e.pos; holding [v] (truthy v)) := by intro _; rfl) : DT X e (dTest d) :=
  ⟨PT.weaken (pt_val h.run he) fun _ _ _ h => test_go (fun _ _ _ h => h) h⟩
def dChain (o o' : O2) (da db dc : DEx) : DEx := fun env P => da env fun x => db env fun y => o x y fun z => ∃ k, z = .fr (.bool k) ∧ if k = true then dc env fun w => o' y w P else P (.fr (.bool false))
theorem chain_go {o o' : O2} {r r' : R2} (hr : OpD o r) (hr' : OpD o' r') {σ : L2.St} {H : Hp} {Q : VK} (h : liftE (dChain o o' da db dc) σ H Q) : tChain r r' (liftE da) (liftE db) (liftE dc) σ H Q := by
  obtain ⟨S, F0, H0, F, env, P, sr, p, k⟩ := h
  refine ⟨S, F0, H0, F, env, _, sr, p, fun x vx F1 H1 px e1 r1 => ?_⟩
  have w1 := e1.wf sr.wf
  refine ⟨S, F0, H0, F1, env, _, sr.step e1, px, fun y vy F2 H2 py e2 r2 => ?_⟩
  have w2 := e2.wf w1
  refine hr S H F2 H2 x y vx vy _ _ w2 (r1.ext e2 w1) (r2.back (e1.nn sr.wf)) py fun t v F3 H3 pt e3 r3 => ?_
  obtain ⟨b, rfl, pb⟩ := pt
  refine ⟨b, r3, ?_⟩
  have w3 := e3.wf w2
  have e13 := e1.trans (e2.trans e3 w1) sr.wf
  cases b with
  | false => exact k _ _ F3 H3 pb e13 rfl
  | true =>
    refine ⟨S, F0, H0, F3, env, _, sr.step e13, pb, fun u vu F4 H4 pu e4 r4 => ?_⟩
    have w4 := e4.wf w3
    exact hr' S H F4 H4 y u vy vu P Q w4 ((r2.back (e1.nn sr.wf)).ext (e3.trans e4 w2) w2) (r4.back fun a n => e13.nn sr.wf a n) pu fun t v F5 H5 pt e5 r5 =>
      k t v F5 H5 pt (e13.trans (e4.trans e5 w3) sr.wf) (r5.back fun a n => e13.nn sr.wf a (e4.nn w3 a n))
theorem de_chain {op op' : CmpOp} {o o' : O2} {r r' : R2} (hr : OpD o r) (hr' : OpD o' r') (ho : OpR X (compareOp op) r) (ho' : OpR X (compareOp op') r') (ha : DE X a da) (hb : DE X b db) (hc : DE X c dc)
    (hm : lastMarks [op, op'] [b, c] = false := by with_unfolding_all rfl) : DE X (.Compare a [op, op'] [b, c] pos) (dChain o o' da db dc) :=
  ⟨PE.weaken (pe_chain ho ho' ha.run hb.run hc.run hm) fun _ _ _ h => chain_go hr hr' h⟩
theorem dt_chain {op op' : CmpOp} {o o' : O2} {r r' : R2} (hr : OpD o r) (hr' : OpD o' r') (ho : OpR X (compareOp op) r) (ho' : OpR X (compareOp op') r') (ha : DE X a da) (hb : DE X b db) (hc : DE X c dc)
    (hm : lastMarks [op, op'] [b, c] = false := by with_unfolding_all rfl) : DT X (.Compare a [op, op'] [b, c] pos) (dTest (dChain o o' da db dc)) :=
  ⟨PT.weaken (pt_chain ho ho' ha.run hb.run hc.run hm) fun _ _ _ h => test_go (fun _ _ _ h => chain_go hr hr' h) h⟩
variable {tA tB : DTx} {rest : List Expr}
def dAnd (t u : DTx) : DTx := fun env P => t env fun c => if c = true then u env P else P false
def dOr (t u : DTx) : DTx := fun env P => t env fun c => if c = true then P true else u env P
def dNot (t : DTx) : DTx := fun env P => t env fun c => P (!c)
theorem and_go {σ : L2.St} {H : Hp} {Q : Bool → Hp → Prop} (h : liftT (dAnd tA tB) σ H Q) : tAnd (liftT tA) (liftT tB) σ H Q := by
  obtain ⟨S, F0, H0, F, env, P, sr, p, k⟩ := h
  refine ⟨S, F0, H0, F, env, _, sr, p, fun b F1 H1 pb e1 => ?_⟩
  cases b with
  | false => exact k false F1 H1 pb e1
  | true => exact ⟨S, F0, H0, F1, env, _, sr.step e1, pb, fun c F2 H2 pc e2 => k c F2 H2 pc (e1.trans e2 sr.wf)⟩
theorem or_go {σ : L2.St} {H : Hp} {Q : Bool → Hp → Prop} (h : liftT (dOr tA tB) σ H Q) : tOr (liftT tA) (liftT tB) σ H Q := by
  obtain ⟨S, F0, H0, F, env, P, sr, p, k⟩ := h
  refine ⟨S, F0, H0, F, env, _, sr, p, fun b F1 H1 pb e1 => ?_⟩
  cases b with
  | true => exact k true F1 H1 pb e1
  | false => exact ⟨S, F0, H0, F1, env, _, sr.step e1, pb, fun c F2 H2 pc e2 => k c F2 H2 pc (e1.trans e2 sr.wf)⟩
theorem dw_and1 (ha : DT X a tA) : DW X (.BoolOp .And [a] pos) tA := ⟨pw_and1 ha.run⟩
theorem dw_or1 (ha : DT X a tA) : DW X (.BoolOp .Or [a] pos) tA := ⟨pw_or1 ha.run⟩
theorem dw_and (ha : DT X a tA) (hb : DW X (.BoolOp .And (b :: rest) pos) tB) : DW X (.BoolOp .And (a :: b :: rest) pos) (dAnd tA tB) := ⟨PW.weaken (pw_and ha.run hb.run) fun _ _ _ h => and_go h⟩
theorem dw_or (ha : DT X a tA) (hb : DW X (.BoolOp .Or (b :: rest) pos) tB) : DW X (.BoolOp .Or (a :: b :: rest) pos) (dOr tA tB) := ⟨PW.weaken (pw_or ha.run hb.run) fun _ _ _ h => or_go h⟩
theorem DW.dt {e : Expr} {t : DTx} (h : DW X e t) : DT X e t := ⟨h.run.pt⟩
theorem dt_not (ha : DT X a tA) : DT X (.UnaryOp .Not a pos) (dNot tA) :=
  ⟨PT.weaken (pt_not ha.run) fun _ _ _ ⟨S, F0, H0, F, env, P, sr, p, k⟩ => ⟨S, F0, H0, F, env, _, sr, p, fun b F1 H1 pb e1 => k (!b) F1 H1 pb e1⟩⟩
def dAndV (da db : DEx) : DEx := fun env P => da env fun x => ∃ c, x = .fr (.bool c) ∧ if c = true then db env P else P (.fr (.bool false))
def dOrV (da db : DEx) : DEx := fun env P => da env fun x => ∃ c, x = .fr (.bool c) ∧ if c = true then P (.fr (.bool true)) else db env P
def dNotV (da : DEx) : DEx := fun env P => da env fun x => ∃ c, x = .fr (.bool c) ∧ P (.fr (.bool (!c)))
theorem de_one {op} (h : DE X a da) : DE X (.BoolOp op [a] pos) da := ⟨pe_one h.run⟩
theorem de_and (ha : DE X a da) (hb : DE X (.BoolOp .And (b :: rest) pos) db) : DE X (.BoolOp .And (a :: b :: rest) pos) (dAndV da db) := by
  refine ⟨PE.weaken (pe_and ha.run hb.run) fun σ H Q h => ?_⟩
  obtain ⟨S, F0, H0, F, env, P, sr, p, k⟩ := h
  refine ⟨S, F0, H0, F, env, _, sr, p, fun x vx F1 H1 px e1 r1 => ?_⟩
  obtain ⟨c, rfl, px⟩ := px
  refine ⟨c, r1, ?_⟩
  cases c with
  | false => exact k _ _ F1 H1 px e1 rfl
  | true => exact ⟨S, F0, H0, F1, env, _, sr.step e1, px, fun t v F2 H2 pt e2 r2 => k t v F2 H2 pt (e1.trans e2 sr.wf) (r2.back (e1.nn sr.wf))⟩
theorem de_or (ha : DE X a da) (hb : DE X (.BoolOp .Or (b :: rest) pos) db) : DE X (.BoolOp .Or (a :: b :: rest) pos) (dOrV da db) := by
  refine ⟨PE.weaken (pe_or ha.run hb.run) fun σ H Q h => ?_⟩
  obtain ⟨S, F0, H0, F, env, P, sr, p, k⟩ := h
  refine ⟨S, F0, H0, F, env, _, sr, p, fun x vx F1 H1 px e1 r1 => ?_⟩
  obtain ⟨c, rfl, px⟩ := px
  refine ⟨c, r1, ?_⟩
  cases c with
  | true => exact k _ _ F1 H1 px e1 rfl
  | false => exact ⟨S, F0, H0, F1, env, _, sr.step e1, px, fun t v F2 H2 pt e2 r2 => k t v F2 H2 pt (e1.trans e2 sr.wf) (r2.back (e1.nn sr.wf))⟩
theorem de_not (ha : DE X a da) : DE X (.UnaryOp .Not a pos) (dNotV da) := by
  refine ⟨PE.weaken (pe_not ha.run) fun σ H Q h => ?_⟩
  obtain ⟨S, F0, H0, F, env, P, sr, p, k⟩ := h
  refine ⟨S, F0, H0, F, env, _, sr, p, fun x vx F1 H1 px e1 r1 => ?_⟩
  obtain ⟨c, rfl, px⟩ := px
  exact ⟨c, r1, k _ _ F1 H1 px e1 rfl⟩
def dIf (t : DTx) (da db : DEx) : DEx := fun env P => t env fun c => if c = true then da env P else db env P
theorem de_if {c : Expr} (hc : DT X c tA) (ha : DE X a da) (hb : DE X b db) : DE X (.IfExp c a b pos) (dIf tA da db) := by
  refine ⟨PE.weaken (pe_ifExp hc.run ha.run hb.run) fun σ H Q h => ?_⟩
  obtain ⟨S, F0, H0, F, env, P, sr, p, k⟩ := h
  refine ⟨S, F0, H0, F, env, _, sr, p, fun c F1 H1 px e1 => ?_⟩
  cases c with
  | true => exact ⟨S, F0, H0, F1, env, _, sr.step e1, px, fun t v F2 H2 pt e2 r2 => k t v F2 H2 pt (e1.trans e2 sr.wf) (r2.back (e1.nn sr.wf))⟩
  | false => exact ⟨S, F0, H0, F1, env, _, sr.step e1, px, fun t v F2 H2 pt e2 r2 => k t v F2 H2 pt (e1.trans e2 sr.wf) (r2.back (e1.nn sr.wf))⟩
def dNil : DAx := fun _ P => P []
def dCons (d : DEx) (r : DAx) : DAx := fun env P => d env fun x => r env fun xs => P (x :: xs)
variable {e : Expr} {es : List Expr} {d : DEx} {dr : DAx}
theorem da_nil : DA X [] dNil := ⟨PA.weaken pa_nil fun _ _ _ ⟨S, F0, H0, F, env, P, sr, p, k⟩ => k [] [] F _ p .refl rfl (by simp [owns])⟩
theorem da_cons (ha : DE X e d) (hr : DA X es dr) (hs : starEach (e :: es) X.env = (false, eval e X.env) :: starEach es X.env := by rfl) : DA X (e :: es) (dCons d dr) := by
  refine ⟨PA.weaken (pa_cons ha.run hr.run hs) fun σ H Q h => ?_⟩
  obtain ⟨S, F0, H0, F, env, P, sr, p, k⟩ := h
  refine ⟨S, F0, H0, F, env, _, sr, p, fun x vx F1 H1 px e1 r1 => ?_⟩
  have w1 := e1.wf sr.wf
  refine ⟨S, F0, H0, F1, env, _, sr.step e1, px, fun ts vs F2 H2 pt e2 r2 nd => ?_⟩
  refine k (x :: ts) (vx :: vs) F2 H2 pt (e1.trans e2 sr.wf) ⟨vx, vs, rfl, r1.ext e2 w1, r2.back (e1.nn sr.wf)⟩ ?_
  cases x with
  | fr d => simpa [owns] using nd
  | rd d => simpa [owns] using nd
  | own d =>
    obtain ⟨a, us, rfl, q, nv, m, f, _⟩ := r1
    show (a :: owns ts vs).Nodup
    refine List.nodup_cons.mpr ⟨fun ha => ?_, nd⟩
    have z := (r2.owns a ha).1
    rw [q] at z; cases z
  | dct d => exact r1.elim
def TV.fz : TV → Option D
  | .fr d => some d
  | .own ds => some (.list ds)
  | .rd _ => none
  | .dct _ => none
def fzs : List TV → Option (List D)
  | [] => some []
  | t :: ts => match t.fz, fzs ts with
    | some d, some ds => some (d :: ds)
    | _, _ => none
mutual
theorem FR.sub (h : ∀ a, F a → F' a) : ∀ (d : D) (v : V), FR S F H d v → FR S F' H d v
  | .none, _, q => q
  | .bool _, _, q => q
  | .int _, _, q => q
  | .str _, _, q => q
  | .list ds, _, q => by
    obtain ⟨a, vs, rfl, f, q, r⟩ := q
    exact ⟨a, vs, rfl, h a f, q, FRs.sub h ds vs r⟩
  | .tuple ds, _, q => by
    obtain ⟨a, vs, rfl, q, r⟩ := q
    exact ⟨a, vs, rfl, q, FRs.sub h ds vs r⟩
  | .dict _, _, q => q
theorem FRs.sub (h : ∀ a, F a → F' a) : ∀ (ds : List D) (vs : List V), FRs S F H ds vs → FRs S F' H ds vs
  | [], _, q => q
  | d :: ds, _, q => by
    obtain ⟨v, r, rfl, h1, h2⟩ := q
    exact ⟨v, r, rfl, FR.sub h d v h1, FRs.sub h ds r h2⟩
end
theorem fz_all (h : ∀ a, F a → F' a) : ∀ {ts : List TV} {vs : List V} {ds : List D}, (∀ a ∈ owns ts vs, F' a) → RVs S Hs F H ts vs → fzs ts = some ds → FRs S F' H ds vs
  | [], _, _, _, r, e => by
    have e : some [] = some _ := e
    cases e; cases r; rfl
  | t :: ts, _, ds, ho, r, e => by
    obtain ⟨v, rr, rfl, r1, r2⟩ := r
    unfold fzs at e
    split at e
    · rename_i d es e1 e2
      cases e
      cases t with
      | fr d' =>
        cases e1
        exact ⟨v, rr, rfl, FR.sub h _ _ r1, fz_all h (fun a ha => ho a (by simpa [owns] using ha)) r2 e2⟩
      | rd d' => cases e1
      | own d' =>
        cases e1
        obtain ⟨a, us, rfl, q, nv, m, f, rf⟩ := r1
        refine ⟨_, rr, rfl, ⟨a, us, rfl, ho a ?_, q, FRs.sub h _ _ rf⟩, fz_all h (fun b hb => ho b ?_) r2 e2⟩
        · exact List.mem_cons_self
        · exact List.mem_cons_of_mem _ hb
      | dct d' => cases e1
    · cases e
theorem freeze {ts : List TV} {vs : List V} {ds : List D} (w : WF S F H) (e : Ext S F H F' H') (r : RVs S H F' H' ts vs) (h : fzs ts = some ds) : ∃ F'', Ext S F H F'' H' ∧ FRs S F'' H' ds vs ∧ ∀ a, F' a → F'' a := by
  refine ⟨fun a => F' a ∨ a ∈ owns ts vs, ⟨e.same, fun a f => .inl (e.sub a f), fun a f => ?_, fun w => ?_⟩, fz_all (fun a f => .inl f) (fun a ha => .inr ha) r h, fun a f => .inl f⟩
  · rcases f with f | f
    · exact e.new a f
    · exact .inr (r.owns a f).1
  · have w' := e.wf w
    refine ⟨w'.src, fun a f => ?_, fun a f => ?_⟩
    · rcases f with f | f
      · exact w'.fin a f
      · obtain ⟨_, ⟨us, q⟩, _⟩ := r.owns a f
        rw [q]; exact fun z => nomatch z
    · rcases f with f | f
      · exact w'.nv a f
      · exact (r.owns a f).2.2
theorem Ext.new_obj {o : HO} {p : Addr} (w : WF S F H) (n : H p = none) : Ext S F H F (upd H p o) := by
  refine ⟨fun a u _ q => by rw [upd_ne (ne_of_none q n)]; exact q, fun _ f => f, fun _ f => .inl f, fun w => ⟨fun sd sc e => ?_, fun a f => ?_, w.nv⟩⟩
  · obtain ⟨c, l, m, t, h1, h2, h3⟩ := w.src sd sc e
    exact ⟨c, l, m, t, by rw [upd_ne (ne_of_none h1 n)]; exact h1, by rw [upd_ne (ne_of_none h2 n)]; exact h2, h3⟩
  · have q := w.fin a f
    have : a ≠ p := fun z => q (by rw [z]; exact n)
    rw [upd_ne this]; exact q
def dTup (da : DAx) : DEx := fun env P => da env fun ts => ∃ ds, fzs ts = some ds ∧ ds.length ≤ sizeLine ∧ P (.fr (.tuple ds))
def dLst (da : DAx) : DEx := fun env P => da env fun ts => ∃ ds, fzs ts = some ds ∧ ds.length ≤ sizeLine ∧ P (.own ds)
theorem de_tup {x1} (h : DA X es dr) : DE X (.Tuple es x1 pos) (dTup dr) := by
  refine ⟨PE.weaken (pe_tup h.run) fun σ H Q h => ?_⟩
  obtain ⟨S, F0, H0, F, env, P, sr, p, k⟩ := h
  refine ⟨S, F0, H0, F, env, _, sr, p, fun ts vs F1 H1 px e1 r1 nd => ?_⟩
  obtain ⟨ds, hz, hl, px⟩ := px
  obtain ⟨F2, e2, f2, sub⟩ := freeze sr.wf e1 r1 hz
  refine ⟨by rw [f2.length]; exact hl, fun p hp => ?_⟩
  have w2 := e2.wf sr.wf
  have e3 : Ext S F2 H1 F2 (upd H1 p (.tup vs)) := .new_obj w2 hp
  exact k _ _ F2 _ px (e2.trans e3 sr.wf) ⟨p, vs, rfl, upd_same, FRs.ext e3 w2 ds vs f2⟩
theorem de_lst (h : DA X es dr) : DE X (.List es pos) (dLst dr) := by
  refine ⟨PE.weaken (pe_lst h.run) fun σ H Q h => ?_⟩
  obtain ⟨S, F0, H0, F, env, P, sr, p, k⟩ := h
  refine ⟨S, F0, H0, F, env, _, sr, p, fun ts vs F1 H1 px e1 r1 nd => ?_⟩
  obtain ⟨ds, hz, hl, px⟩ := px
  obtain ⟨F2, e2, f2, sub⟩ := freeze sr.wf e1 r1 hz
  refine ⟨by rw [f2.length]; exact hl, fun p hp => ?_⟩
  have w2 := e2.wf sr.wf
  have e3 : Ext S F2 H1 F2 (upd H1 p (.lst vs)) := .new_obj w2 hp
  exact k _ _ F2 _ px (e2.trans e3 sr.wf) ⟨p, vs, rfl, upd_same, w2.vol hp, e2.none_of sr.wf hp, fun f => w2.fin p f hp, FRs.ext e3 w2 ds vs f2⟩
def cut {α : Type} (xs : List α) (lo hi : Option Int) : List α := (xs.drop (HT.sIx xs.length 0 lo)).take (HT.sIx xs.length xs.length hi - HT.sIx xs.length 0 lo)
abbrev DOx := DEnv → (Option Int → Prop) → Prop
def liftO (d : DOx) : TO := fun σ H Q => ∃ S F0 H0 F env P, SR S F0 H0 F env σ H ∧ d env P ∧ ∀ o F' H', P o → Ext S F H F' H' → Q o H'
structure DO_ (X : Cx) (e : Option Expr) (d : DOx) : Prop where
  run : PO X e (liftO d)
def dNoPart : DOx := fun _ P => P none
def dPart (d : DEx) : DOx := fun env P => d env fun t => ∃ i, t = .fr (.int i) ∧ P (some i)
theorem do_none : DO_ X none dNoPart := ⟨⟨fun pins s σ H Q I ⟨S, F0, H0, F, env, P, sr, p, k⟩ => po_none.run pins s σ H Q I (k none F H p .refl)⟩⟩
theorem do_some (h : DE X e d) : DO_ X (some e) (dPart d) := by
  refine ⟨⟨fun pins s σ H Q I h' => (po_some h.run).run pins s σ H Q I ?_⟩⟩
  obtain ⟨S, F0, H0, F, env, P, sr, p, k⟩ := h'
  refine ⟨S, F0, H0, F, env, _, sr, p, fun x vx F1 H1 px e1 r1 => ?_⟩
  obtain ⟨i, rfl, px⟩ := px
  exact ⟨i, r1, k _ F1 H1 px e1⟩
def dSl (d : DEx) (dl dh : DOx) : DEx := fun env P => d env fun x => dl env fun l => dh env fun u => (∃ ds, x.asD = .list ds ∧ P (.own (cut ds l u))) ∨ ∃ ds, x.asD = .tuple ds ∧ P (.fr (.tuple (cut ds l u)))
theorem FRs.cut {ds : List D} {vs : List V} (h : FRs S F H ds vs) (l u : Option Int) : FRs S F H (DL.cut ds l u) (cutV vs l u) := by
  unfold DL.cut cutV
  rw [h.length]
  exact (h.drop _).take _
theorem cut_all {α : Type} {xs : List α} {l u : Option Int} (h : HT.sIx xs.length 0 l = 0 ∧ HT.sIx xs.length xs.length u = xs.length) : cut xs l u = xs := by
  unfold cut
  rw [h.1, h.2]; simp
theorem slr_or {r r' : V → Option Int → Option Int → Hp → VK → Prop} (h : SlR X r) (h' : SlR X r') : SlR X (fun x lo hi H Q => r x lo hi H Q ∨ r' x lo hi H Q) := h.or h'
theorem de_sl {lo hi : Option Expr} {dl dh : DOx} {p2 : Pos} (he : DE X e d) (hl : DO_ X lo dl) (hh : DO_ X hi dh) : DE X (.Subscript e (.Slice lo hi none p2) pos) (dSl d dl dh) := by
  refine ⟨PE.weaken (pe_slice (sl_list.or sl_tupA) he.run hl.run hh.run) fun σ H Q h => ?_⟩
  obtain ⟨S, F0, H0, F, env, P, sr, p, k⟩ := h
  refine ⟨S, F0, H0, F, env, _, sr, p, fun x vx F1 H1 px e1 r1 => ?_⟩
  have w1 := e1.wf sr.wf
  refine ⟨S, F0, H0, F1, env, _, sr.step e1, px, fun l F2 H2 pl e2 => ?_⟩
  have w2 := e2.wf w1
  refine ⟨S, F0, H0, F2, env, _, (sr.step e1).step e2, pl, fun u F3 H3 pu e3 => ?_⟩
  have w3 := e3.wf w2
  have r3 := (r1.ext e2 w1).ext e3 w2
  have e13 := e1.trans (e2.trans e3 w1) sr.wf
  rcases pu with ⟨ds, ed, q⟩ | ⟨ds, ed, q⟩
  · obtain ⟨a, vs, rfl, ha, nv, rf⟩ := r3.list w3 ed
    refine .inl ⟨a, vs, rfl, .of ha, fun p hp => ?_⟩
    have e4 : Ext S F3 H3 F3 (upd H3 p (.lst (cutV vs l u))) := .new_obj w3 hp
    exact k _ _ F3 _ q (e13.trans e4 sr.wf) ⟨p, _, rfl, upd_same, w3.vol hp, e13.none_of sr.wf hp, fun f => w3.fin p f hp, FRs.ext e4 w3 _ _ (rf.cut l u)⟩
  · obtain ⟨a, vs, rfl, ha, rf⟩ := r3.tup ed
    refine .inr ⟨a, vs, rfl, .of ha, fun hw => ?_, fun hw p hp => ?_⟩
    · refine k _ _ F3 _ q e13 ⟨a, vs, rfl, ha, ?_⟩
      rw [rf.length] at hw
      rw [cut_all hw]; exact rf
    · have e4 : Ext S F3 H3 F3 (upd H3 p (.tup (cutV vs l u))) := .new_obj w3 hp
      exact k _ _ F3 _ q (e13.trans e4 sr.wf) ⟨p, _, rfl, upd_same, FRs.ext e4 w3 _ _ (rf.cut l u)⟩
end
end DL
end
section
set_option maxRecDepth 100000
set_option maxHeartbeats 1000000
namespace DL
open PySem PySem.Spec PyProof.Rows L2
variable {X : Cx}
def oI (f : Int → Int → Int) : O2 := fun x y P => match x, y with
  | .fr (.int i), .fr (.int j) => P (.fr (.int (f i j)))
  | _, _ => False
def oIC (C : Int → Int → Prop) (f : Int → Int → Int) : O2 := fun x y P => match x, y with
  | .fr (.int i), .fr (.int j) => C i j ∧ P (.fr (.int (f i j)))
  | _, _ => False
def oIB (f : Int → Int → Bool) : O2 := fun x y P => match x, y with
  | .fr (.int i), .fr (.int j) => P (.fr (.bool (f i j)))
  | _, _ => False
theorem opd_I {f : Int → Int → Int} : OpD (oI f) (rI0 fun i j => .int (f i j)) := by
  intro S Hs F H x y vx vy P Q w rx ry h k
  unfold oI at h
  split at h
  · exact ⟨_, _, rx, ry, k _ _ F H h .refl rfl⟩
  · exact h.elim
theorem opd_IC {C : Int → Int → Prop} {f : Int → Int → Int} : OpD (oIC C f) (rI C fun i j => .int (f i j)) := by
  intro S Hs F H x y vx vy P Q w rx ry h k
  unfold oIC at h
  split at h
  · exact ⟨_, _, rx, ry, h.1, k _ _ F H h.2 .refl rfl⟩
  · exact h.elim
theorem opd_IB {f : Int → Int → Bool} : OpD (oIB f) (rI0 fun i j => .bl (f i j)) := by
  intro S Hs F H x y vx vy P Q w rx ry h k
  unfold oIB at h
  split at h
  · exact ⟨_, _, rx, ry, k _ _ F H h .refl rfl⟩
  · exact h.elim
abbrev oSub : O2 := oI fun i j => i - j
abbrev oMul : O2 := oIC CMulW fun i j => i * j
def CDv (_ j : Int) : Prop := j ≠ 0 ∧ j.natAbs.log2 < 9000
abbrev oDiv : O2 := oIC CDv fun i j => i.fdiv j
abbrev oMod : O2 := oIC (fun _ j => j ≠ 0) fun i j => i.fmod j
theorem op_dv : OpR X (binaryOp .FloorDiv) (rI CDv fun i j => .int (i.fdiv j)) := opI fun _ _ _ _ _ _ _ hc q => floordiv_int hc.1 q (.inl (PyProof.noPylong_of_log2 hc.2))
abbrev oLt : O2 := oIB fun i j => decide (i < j)
abbrev oLe : O2 := oIB fun i j => decide (i ≤ j)
abbrev oGt : O2 := oIB fun i j => decide (j < i)
abbrev oGe : O2 := oIB fun i j => decide (j ≤ i)
def oNeg : O1 := fun x P => match x with
  | .fr (.int i) => P (.fr (.int (-i)))
  | _ => False
theorem und_neg : UnD oNeg (rU fun i => .int (-i)) := by
  intro S Hs F H x vx P Q w rx h k
  unfold oNeg at h
  split at h
  · exact ⟨_, rx, k _ _ F H h .refl rfl⟩
  · exact h.elim
def oAdd : O2 := fun x y P => match x, y with
  | .fr (.int i), .fr (.int j) => P (.fr (.int (i + j)))
  | .fr (.tuple a), .fr (.tuple b) => a.length + b.length ≤ sizeLine ∧ P (.fr (.tuple (a ++ b)))
  | x, y => match x.asD, y.asD with
    | .list a, .list b => a.length + b.length ≤ sizeLine ∧ P (.own (a ++ b))
    | _, _ => False
def rAdd3 (K : PySem.W.Frag) : R2 := fun x y H Q => (rI0 (fun i j => .int (i + j)) x y H Q ∨ rCatA K x y H Q) ∨ rCat x y H Q
theorem op_add3 : OpR X (binaryOp .Add) (rAdd3 X.K) := (op_add.or op_catA).or op_cat
theorem opd_add {K : PySem.W.Frag} : OpD oAdd (rAdd3 K) := by
  intro S Hs F H x y vx vy P Q w rx ry h k
  unfold oAdd at h
  split at h
  · exact .inl (.inl ⟨_, _, rx, ry, k _ _ F H h .refl rfl⟩)
  · obtain ⟨a, vs, rfl, ha, ra⟩ := rx
    obtain ⟨b, ws, rfl, hb, rb⟩ := ry
    obtain ⟨hl, h⟩ := h
    refine .inl (.inr ⟨a, b, vs, ws, rfl, rfl, .of ha, .of hb, by rw [ra.length, rb.length]; exact hl, fun e => ?_, fun e e' => ?_, fun e e' p hp => ?_⟩)
    · subst e
      exact k _ _ F H h .refl ⟨b, ws, rfl, hb, ra.append rb⟩
    · subst e'
      have := ra.append rb
      rw [List.append_nil] at this
      exact k _ _ F H h .refl ⟨a, vs, rfl, ha, this⟩
    · have e4 : Ext S F H F (upd H p (.tup (vs ++ ws))) := .new_obj w hp
      exact k _ _ F _ h e4 ⟨p, _, rfl, upd_same, FRs.ext e4 w _ _ (ra.append rb)⟩
  · split at h
    · rename_i a b ea eb
      obtain ⟨hl, h⟩ := h
      obtain ⟨a, vs, rfl, ha, nv, ra⟩ := rx.list w ea
      obtain ⟨b, ws, rfl, hb, nv', rb⟩ := ry.list w eb
      refine .inr ⟨a, b, vs, ws, rfl, rfl, ha, hb, by rw [ra.length, rb.length]; exact hl, fun p hp => ?_⟩
      have e4 : Ext S F H F (upd H p (.lst (vs ++ ws))) := .new_obj w hp
      exact k _ _ F _ h e4 ⟨p, _, rfl, upd_same, w.vol hp, hp, fun f => w.fin p f hp, FRs.ext e4 w _ _ (ra.append rb)⟩
    · exact h.elim
mutual
theorem FR.dp {K : PySem.W.Frag} {S : Vo} {F : Addr → Prop} {H : Hp} : ∀ (d : D) (v : V), d.canLay0 = true → FR S F H d v → Dp K H v d
  | .none, _, _, h => by cases h; exact .non
  | .bool _, _, _, h => by cases h; exact .bl _
  | .int _, _, _, h => by cases h; exact .int _
  | .str _, _, _, h => by cases h; exact .str _
  | .list ds, _, c, h => by
    obtain ⟨a, vs, rfl, f, q, r⟩ := h
    exact .lst (.of q) (FRs.dp ds vs (by simpa [PyData.canLay0] using c) r)
  | .tuple ds, _, c, h => by
    obtain ⟨a, vs, rfl, q, r⟩ := h
    exact .tup (.of q) (FRs.dp ds vs (by simpa [PyData.canLay0] using c) r)
  | .dict _, _, c, _ => by simp [PyData.canLay0] at c
theorem FRs.dp {K : PySem.W.Frag} {S : Vo} {F : Addr → Prop} {H : Hp} : ∀ (ds : List D) (vs : List V), PyData.canLayAll0 ds = true → FRs S F H ds vs → DpAll K H vs ds
  | [], _, _, h => by cases h; exact .nil
  | d :: ds, _, c, h => by
    obtain ⟨v, r, rfl, h1, h2⟩ := h
    have c' : d.canLay0 = true ∧ PyData.canLayAll0 ds = true := by simpa [PyData.canLayAll0] using c
    exact .cons (FR.dp d v c'.1 h1) (FRs.dp ds r c'.2 h2)
end
theorem RV.dp {K : PySem.W.Frag} {S : Vo} {Hs : Hp} {F : Addr → Prop} {H : Hp} {t : TV} {v : V} (r : RV S Hs F H t v) (w : WF S F H) (c : t.asD.canLay0 = true) : Dp K H v t.asD := by
  cases t with
  | fr d => exact FR.dp d v c r
  | rd ds =>
    obtain ⟨a, vs, rfl, ha, nv, ra⟩ := r.list w rfl
    exact .lst (.of ha) (FRs.dp ds vs (by simpa [PyData.canLay0, TV.asD] using c) ra)
  | own ds =>
    obtain ⟨a, vs, rfl, ha, nv, ra⟩ := r.list w rfl
    exact .lst (.of ha) (FRs.dp ds vs (by simpa [PyData.canLay0, TV.asD] using c) ra)
  | dct ls => exact r.elim
def pl : Nat → D → Bool
  | _, .none => true
  | _, .bool _ => false
  | _, .int _ => true
  | _, .str x => (PyData.str x).canLay0
  | 0, .list _ => false
  | 0, .tuple _ => false
  | n + 1, .list ds => ds.all (pl n)
  | n + 1, .tuple ds => ds.all (pl n)
  | _, .dict _ => false
theorem canLayAll_iff : ∀ {ds : List D}, (∀ d ∈ ds, d.canLay0 = true) → PyData.canLayAll0 ds = true
  | [], _ => rfl
  | d :: ds, h => by
    simp only [PyData.canLayAll0, Bool.and_eq_true]
    exact ⟨h d List.mem_cons_self, canLayAll_iff fun e he => h e (List.mem_cons_of_mem _ he)⟩
theorem pl_lay : ∀ {n : Nat} {d : D}, pl n d = true → d.canLay0 = true := by
  intro n
  induction n with
  | zero => intro d h; cases d <;> first | rfl | (simp only [pl] at h; exact h) | (simp [pl] at h)
  | succ n ih =>
    intro d h
    cases d with
    | none => rfl
    | bool b => simp [pl] at h
    | int i => rfl
    | str x => exact h
    | list ds =>
      simp only [pl, List.all_eq_true] at h
      simp only [PyData.canLay0]
      exact canLayAll_iff fun d hd => ih (h d hd)
    | tuple ds =>
      simp only [pl, List.all_eq_true] at h
      simp only [PyData.canLay0]
      exact canLayAll_iff fun d hd => ih (h d hd)
    | dict k => simp [pl] at h
theorem depthAll_le {n : Nat} : ∀ {ds : List D}, (∀ d ∈ ds, d.depth ≤ n) → PyData.depthAll ds ≤ n
  | [], _ => by simp [PyData.depthAll]
  | d :: ds, h => by
    have h1 := h d List.mem_cons_self
    have h2 := depthAll_le (ds := ds) fun e he => h e (List.mem_cons_of_mem _ he)
    simp only [PyData.depthAll]
    omega
theorem pl_depth : ∀ {n : Nat} {d : D}, pl n d = true → d.depth ≤ n + 1 := by
  intro n
  induction n with
  | zero => intro d h; cases d <;> first | (simp [PyData.depth]; done) | (simp [pl] at h)
  | succ n ih =>
    intro d h
    cases d with
    | list ds =>
      simp only [pl, List.all_eq_true] at h
      have := depthAll_le (n := n + 1) (ds := ds) fun d hd => ih (h d hd)
      simp only [PyData.depth]; omega
    | tuple ds =>
      simp only [pl, List.all_eq_true] at h
      have := depthAll_le (n := n + 1) (ds := ds) fun d hd => ih (h d hd)
      simp only [PyData.depth]; omega
    | dict k => simp [pl] at h
    | _ => simp [PyData.depth]
theorem eqvAll_iff : ∀ {xs ys : List D}, (∀ x ∈ xs, ∀ y ∈ ys, (PyData.eqv x y = true ↔ x = y)) → (PyData.eqvAll xs ys = true ↔ xs = ys)
  | [], [], _ => by simp [PyData.eqvAll]
  | [], _ :: _, _ => by simp [PyData.eqvAll]
  | _ :: _, [], _ => by simp [PyData.eqvAll]
  | x :: xs, y :: ys, h => by
    simp only [PyData.eqvAll, Bool.and_eq_true, List.cons.injEq]
    rw [h x List.mem_cons_self y List.mem_cons_self, eqvAll_iff fun a ha b hb => h a (List.mem_cons_of_mem _ ha) b (List.mem_cons_of_mem _ hb)]
theorem pl_eqv : ∀ {n : Nat} {d e : D}, pl n d = true → pl n e = true → (PyData.eqv d e = true ↔ d = e) := by
  intro n
  induction n with
  | zero => intro d e h h'; cases d <;> cases e <;> first | (simp [pl] at h; done) | (simp [pl] at h'; done) | simp [PyData.eqv]
  | succ n ih =>
    intro d e h h'
    cases d <;> cases e <;> first
      | (simp [pl] at h; done)
      | (simp [pl] at h'; done)
      | (simp only [pl, List.all_eq_true] at h h'; simp only [PyData.eqv, PyData.list.injEq, PyData.tuple.injEq]; exact eqvAll_iff fun x hx y hy => ih (h x hx) (h' y hy))
      | simp [PyData.eqv]
open Classical in
noncomputable def oEq : O2 := fun x y P => pl 20 x.asD = true ∧ pl 20 y.asD = true ∧ P (.fr (.bool (decide (x.asD = y.asD))))
open Classical in
noncomputable def oNe : O2 := fun x y P => pl 20 x.asD = true ∧ pl 20 y.asD = true ∧ P (.fr (.bool (!decide (x.asD = y.asD))))
theorem pl_shaped {d : D} (h : pl 20 d = true) : SeqAt.shaped d = true := by
  unfold SeqAt.shaped
  rw [pl_lay h]
  have := pl_depth h
  simp; omega
open Classical in
theorem opd_eq {K : PySem.W.Frag} : OpD oEq (rEqD K) := by
  intro S Hs F H x y vx vy P Q w rx ry h k
  obtain ⟨h1, h2, h⟩ := h
  refine ⟨x.asD, y.asD, rx.dp w (pl_lay h1), ry.dp w (pl_lay h2), pl_shaped h1, pl_shaped h2, ?_⟩
  have e : PyData.eqv x.asD y.asD = decide (x.asD = y.asD) := by
    rw [Bool.eq_iff_iff, pl_eqv h1 h2, decide_eq_true_eq]
  rw [e]
  exact k _ _ F H h .refl rfl
open Classical in
theorem opd_ne {K : PySem.W.Frag} : OpD oNe (rNeD K) := by
  intro S Hs F H x y vx vy P Q w rx ry h k
  obtain ⟨h1, h2, h⟩ := h
  refine ⟨x.asD, y.asD, rx.dp w (pl_lay h1), ry.dp w (pl_lay h2), pl_shaped h1, pl_shaped h2, ?_⟩
  have e : PyData.eqv x.asD y.asD = decide (x.asD = y.asD) := by
    rw [Bool.eq_iff_iff, pl_eqv h1 h2, decide_eq_true_eq]
  rw [e]
  exact k _ _ F H h .refl rfl
def TV.isN : TV → Bool
  | .fr .none => true
  | _ => false
def oIsN : O2 := fun x y P => y.isN = true ∧ P (.fr (.bool x.isN))
def oNotN : O2 := fun x y P => y.isN = true ∧ P (.fr (.bool !x.isN))
theorem RV.isN {S : Vo} {Hs : Hp} {F : Addr → Prop} {H : Hp} {t : TV} {v : V} (r : RV S Hs F H t v) : decide (v = .non) = t.isN := by
  cases t with
  | fr d =>
    cases d with
    | none => cases (show v = .non from r); rfl
    | bool b => cases (show v = .bl b from r); rfl
    | int b => cases (show v = .int b from r); rfl
    | str b => cases (show v = .str b from r); rfl
    | list ds => obtain ⟨a, vs, rfl, _⟩ := r; rfl
    | tuple ds => obtain ⟨a, vs, rfl, _⟩ := r; rfl
    | dict ds => obtain ⟨a, rfl, _⟩ := r; rfl
  | rd ds => obtain ⟨a, vs, rfl, _⟩ := r; rfl
  | own ds => obtain ⟨a, vs, rfl, _⟩ := r; rfl
  | dct ls => exact r.elim
theorem RV.non {S : Vo} {Hs : Hp} {F : Addr → Prop} {H : Hp} {t : TV} {v : V} (r : RV S Hs F H t v) (h : t.isN = true) : v = .non := by
  have := r.isN
  rw [h] at this
  exact of_decide_eq_true this
theorem opd_isN : OpD oIsN (fun x y H Q => y = .non ∧ Q (.bl (decide (x = .non))) H) := by
  intro S Hs F H x y vx vy P Q w rx ry h k
  exact ⟨ry.non h.1, by rw [rx.isN]; exact k _ _ F H h.2 .refl rfl⟩
theorem opd_notN : OpD oNotN (fun x y H Q => y = .non ∧ Q (.bl (!decide (x = .non))) H) := by
  intro S Hs F H x y vx vy P Q w rx ry h k
  exact ⟨ry.non h.1, by rw [rx.isN]; exact k _ _ F H h.2 .refl rfl⟩
def TV.items : TV → Option (List D)
  | .fr (.list ds) => some ds
  | .fr (.tuple ds) => some ds
  | .rd ds => some ds
  | .own ds => some ds
  | _ => none
theorem RV.items {S : Vo} {Hs : Hp} {F : Addr → Prop} {H : Hp} {t : TV} {v : V} {ds : List D} (r : RV S Hs F H t v) (e : t.items = some ds) : ∃ a vs, v = .ref a ∧ (H a = some (.lst vs) ∨ H a = some (.tup vs)) ∧ FRs S F H ds vs := by
  cases t with
  | fr d =>
    cases d with
    | list es => cases e; obtain ⟨a, vs, rfl, f, q, r⟩ := r; exact ⟨a, vs, rfl, .inl q, r⟩
    | tuple es => cases e; obtain ⟨a, vs, rfl, q, r⟩ := r; exact ⟨a, vs, rfl, .inr q, r⟩
    | _ => cases e
  | rd es => cases e; obtain ⟨a, vs, rfl, q, nv, r⟩ := r; exact ⟨a, vs, rfl, .inl q, r⟩
  | own es => cases e; obtain ⟨a, vs, rfl, q, nv, m, f, r⟩ := r; exact ⟨a, vs, rfl, .inl q, r⟩
  | dct ls => cases e
theorem FRs.at {S : Vo} {F : Addr → Prop} {H : Hp} {ds : List D} {vs : List V} {i : Int} {d : D} (h : FRs S F H ds vs) (e : atI ds i = some d) : ∃ v, atI vs i = some v ∧ FR S F H d v := by
  unfold atI at e ⊢
  rw [h.length]
  cases q : ixN ds.length i with
  | none => rw [q] at e; cases e
  | some j =>
    rw [q] at e
    exact h.get e
def oIx : O2 := fun x y P => match x.items, y with
  | some ds, .fr (.int i) => match atI ds i with
    | some d => P (.fr d)
    | none => False
  | _, _ => False
theorem opd_ix {K : PySem.W.Frag} : OpD oIx (fun x y H Q => rIxL K x y H Q ∨ rIxT K x y H Q) := by
  intro S Hs F H x y vx vy P Q w rx ry h k
  unfold oIx at h
  split at h
  · rename_i ds i e
    split at h
    · rename_i d ed
      obtain ⟨a, vs, rfl, ha, r⟩ := rx.items e
      obtain ⟨v, ev, rv⟩ := r.at ed
      rcases ha with ha | ha
      · exact .inl ⟨a, vs, i, v, rfl, ry, .of ha, ev, k _ _ F H h .refl rv⟩
      · exact .inr ⟨a, vs, i, v, rfl, ry, .of ha, ev, k _ _ F H h .refl rv⟩
    · exact h.elim
  · exact h.elim
theorem ix_lt : IxR X (fun x y H Q => rIxL X.K x y H Q ∨ rIxT X.K x y H Q) := ix_list.or ix_tup
abbrev OC := List TV → (TV → Prop) → Prop
def CallD (c : OC) (r : List V → Hp → VK → Prop) : Prop := ∀ (S : Vo) (Hs : Hp) (F : Addr → Prop) (H : Hp) (ts : List TV) (vs : List V) (P : TV → Prop) (Q : VK), WF S F H → RVs S Hs F H ts vs → c ts P →
  (∀ t v F' H', P t → Ext S F H F' H' → RV S H F' H' t v → Q v H') → r vs H Q
def dCB (c : OC) (da : DAx) : DEx := fun env P => da env fun ts => c ts P
theorem cb_go {c : OC} {r : List V → Hp → VK → Prop} {da : DAx} (hr : CallD c r) {σ : L2.St} {H : Hp} {Q : VK} (h : liftE (dCB c da) σ H Q) : tCB r (liftA da) σ H Q := by
  obtain ⟨S, F0, H0, F, env, P, sr, p, k⟩ := h
  refine ⟨S, F0, H0, F, env, _, sr, p, fun ts vs F1 H1 px e1 r1 nd => ?_⟩
  exact hr S H F1 H1 ts vs P Q (e1.wf sr.wf) r1 px fun t v F2 H2 pt e2 r2 => k t v F2 H2 pt (e1.trans e2 sr.wf) (r2.back (e1.nn sr.wf))
variable {x : Str} {p pos : Pos} {e : Expr} {es : List Expr} {da : DAx} {id T : String}
theorem de_callB {c : OC} {r : List V → Hp → VK → Prop} (hd : CallD c r) (hc : CallR X (.builtin id) r) (hg : Gl X x) (hm : X.mg x = none) (hv : bootBuiltins x = some (.builtin id)) (ha : DA X (e :: es) da) (hn : x ≠ "__name__" := by decide) (hdb : (x == ("__debug__" : Str)) = false := by decide)
    (he : starEach (e :: es) X.env = (false, eval e X.env) :: starEach es X.env := by rfl) (hpl : (backTo pos (starEach es X.env)).any (·.1) = false := by rfl) : DE X (.Call (.Name x p) (e :: es) [] pos) (dCB c da) :=
  ⟨PE.weaken (pe_callB hc hg hm hv ha.run hn hdb he hpl) fun _ _ _ h => cb_go hd h⟩
theorem de_callTy {c : OC} {r : List V → Hp → VK → Prop} (hd : CallD c r) (hc : CallR X (.type T) r) (hg : Gl X x) (hm : X.mg x = none) (hv : bootBuiltins x = some (.type T)) (ha : DA X (e :: es) da) (hn : x ≠ "__name__" := by decide) (hdb : (x == ("__debug__" : Str)) = false := by decide)
    (he : starEach (e :: es) X.env = (false, eval e X.env) :: starEach es X.env := by rfl) (hpl : (backTo pos (starEach es X.env)).any (·.1) = false := by rfl) : DE X (.Call (.Name x p) (e :: es) [] pos) (dCB c da) :=
  ⟨PE.weaken (pe_callTy hc hg hm hv ha.run hn hdb he hpl) fun _ _ _ h => cb_go hd h⟩
section
variable {S : Vo} {Hs : Hp} {F : Addr → Prop} {H : Hp}
theorem RVs.one {t : TV} {vs : List V} (h : RVs S Hs F H [t] vs) : ∃ v, vs = [v] ∧ RV S Hs F H t v := by
  obtain ⟨v, r, rfl, h1, h2⟩ := h
  cases h2
  exact ⟨v, rfl, h1⟩
theorem RVs.two {t u : TV} {vs : List V} (h : RVs S Hs F H [t, u] vs) : ∃ v w, vs = [v, w] ∧ RV S Hs F H t v ∧ RV S Hs F H u w := by
  obtain ⟨v, r, rfl, h1, h2⟩ := h
  obtain ⟨w, rfl, h3⟩ := h2.one
  exact ⟨v, w, rfl, h1, h3⟩
end
def cLen : OC := fun ts P => match ts with
  | [x] => match x.items with
    | some ds => P (.fr (.int ds.length))
    | none => False
  | _ => False
theorem cd_len {K : PySem.W.Frag} : CallD cLen (fun xs H Q => ∃ p ys, xs = [.ref p] ∧ (SqL K H p ys ∨ SqT K H p ys) ∧ Q (.int ys.length) H) := by
  intro S Hs F H ts vs P Q w r h k
  unfold cLen at h
  split at h
  · split at h
    · rename_i e
      obtain ⟨v, rfl, r1⟩ := r.one
      obtain ⟨a, us, rfl, ha, rf⟩ := r1.items e
      refine ⟨a, us, rfl, ha.imp (fun z => .of z) (fun z => .of z), ?_⟩
      rw [rf.length]
      exact k _ _ F H h .refl rfl
    · exact h.elim
  · exact h.elim
def cTuple : OC := fun ts P => match ts with
  | [x] => match x.items with
    | some ds => P (.fr (.tuple ds))
    | none => False
  | _ => False
theorem cd_tuple {K : PySem.W.Frag} : CallD cTuple (fun xs H Q => ∃ p ys, xs = [.ref p] ∧ ((SqL K H p ys ∧ ∀ l, H l = none → Q (.ref l) (upd H l (.tup ys))) ∨ (SqT K H p ys ∧ Q (.ref p) H))) := by
  intro S Hs F H ts vs P Q w r h k
  unfold cTuple at h
  split at h
  · split at h
    · rename_i e
      obtain ⟨v, rfl, r1⟩ := r.one
      obtain ⟨a, us, rfl, ha, rf⟩ := r1.items e
      refine ⟨a, us, rfl, ?_⟩
      rcases ha with ha | ha
      · refine .inl ⟨.of ha, fun l hl => ?_⟩
        have e4 : Ext S F H F (upd H l (.tup us)) := .new_obj w hl
        exact k _ _ F _ h e4 ⟨l, _, rfl, upd_same, FRs.ext e4 w _ _ rf⟩
      · exact .inr ⟨.of ha, k _ _ F H h .refl ⟨a, us, rfl, ha, rf⟩⟩
    · exact h.elim
  · exact h.elim
def cList : OC := fun ts P => match ts with
  | [x] => match x.items with
    | some ds => P (.own ds)
    | none => False
  | _ => False
theorem cd_list {K : PySem.W.Frag} : CallD cList (fun xs H Q => ∃ p ys, xs = [.ref p] ∧ (SqL K H p ys ∨ SqT K H p ys) ∧ ∀ l, H l = none → Q (.ref l) (upd H l (.lst ys))) := by
  intro S Hs F H ts vs P Q w r h k
  unfold cList at h
  split at h
  · split at h
    · rename_i e
      obtain ⟨v, rfl, r1⟩ := r.one
      obtain ⟨a, us, rfl, ha, rf⟩ := r1.items e
      refine ⟨a, us, rfl, ha.imp (fun z => .of z) (fun z => .of z), fun l hl => ?_⟩
      have e4 : Ext S F H F (upd H l (.lst us)) := .new_obj w hl
      exact k _ _ F _ h e4 ⟨l, _, rfl, upd_same, w.vol hl, hl, fun f => w.fin l f hl, FRs.ext e4 w _ _ rf⟩
    · exact h.elim
  · exact h.elim
def cAbs : OC := fun ts P => match ts with
  | [.fr (.int i)] => P (.fr (.int (if i < 0 then -i else i)))
  | _ => False
theorem cd_abs : CallD cAbs (fun xs H Q => ∃ i, xs = [.int i] ∧ Q (.int (if i < 0 then -i else i)) H) := by
  intro S Hs F H ts vs P Q w r h k
  unfold cAbs at h
  split at h
  · obtain ⟨v, rfl, r1⟩ := r.one
    cases r1
    exact ⟨_, rfl, k _ _ F H h .refl rfl⟩
  · exact h.elim
def cInt : OC := fun ts P => match ts with
  | [.fr (.int i)] => P (.fr (.int i))
  | [.fr (.bool b)] => P (.fr (.int (if b then 1 else 0)))
  | _ => False
theorem cd_int : CallD cInt (fun xs H Q => (∃ i, xs = [.int i] ∧ Q (.int i) H) ∨ ∃ k, xs = [.bl k] ∧ Q (.int (if k then 1 else 0)) H) := by
  intro S Hs F H ts vs P Q w r h k
  unfold cInt at h
  split at h
  · obtain ⟨v, rfl, r1⟩ := r.one
    cases r1
    exact .inl ⟨_, rfl, k _ _ F H h .refl rfl⟩
  · obtain ⟨v, rfl, r1⟩ := r.one
    cases r1
    exact .inr ⟨_, rfl, k _ _ F H h .refl rfl⟩
  · exact h.elim
def intsD : List D → Option (List Int)
  | [] => some []
  | .int i :: ds => (intsD ds).map (i :: ·)
  | _ => none
def boolsD : List D → Option (List Bool)
  | [] => some []
  | .bool i :: ds => (boolsD ds).map (i :: ·)
  | _ => none
theorem FRs.intV {S : Vo} {F : Addr → Prop} {H : Hp} : ∀ {ds : List D} {vs : List V} {ns : List Int}, FRs S F H ds vs → DL.intsD ds = some ns → vs = ns.map V.int
  | [], _, _, h, e => by cases h; cases e; rfl
  | .int i :: ds, _, ns, h, e => by
    obtain ⟨v, r, rfl, h1, h2⟩ := h
    cases h1
    unfold DL.intsD at e
    cases q : DL.intsD ds with
    | none => rw [q] at e; cases e
    | some ms =>
      rw [q] at e
      cases e
      rw [h2.intV q]; rfl
  | .none :: _, _, _, _, e => by cases e
  | .bool _ :: _, _, _, _, e => by cases e
  | .str _ :: _, _, _, _, e => by cases e
  | .list _ :: _, _, _, _, e => by cases e
  | .tuple _ :: _, _, _, _, e => by cases e
  | .dict _ :: _, _, _, _, e => by cases e
theorem FRs.boolV {S : Vo} {F : Addr → Prop} {H : Hp} : ∀ {ds : List D} {vs : List V} {ns : List Bool}, FRs S F H ds vs → DL.boolsD ds = some ns → vs = ns.map V.bl
  | [], _, _, h, e => by cases h; cases e; rfl
  | .bool i :: ds, _, ns, h, e => by
    obtain ⟨v, r, rfl, h1, h2⟩ := h
    cases h1
    unfold DL.boolsD at e
    cases q : DL.boolsD ds with
    | none => rw [q] at e; cases e
    | some ms =>
      rw [q] at e
      cases e
      rw [h2.boolV q]; rfl
  | .none :: _, _, _, _, e => by cases e
  | .int _ :: _, _, _, _, e => by cases e
  | .str _ :: _, _, _, _, e => by cases e
  | .list _ :: _, _, _, _, e => by cases e
  | .tuple _ :: _, _, _, _, e => by cases e
  | .dict _ :: _, _, _, _, e => by cases e
def cMax : OC := fun ts P => match ts with
  | [x] => ∃ ds ns, x.asD = .list ds ∧ intsD ds = some ns ∧ 0 < ns.length ∧ ∀ m, m ∈ ns → (∀ y, y ∈ ns → y ≤ m) → P (.fr (.int m))
  | _ => False
def cMin : OC := fun ts P => match ts with
  | [x] => ∃ ds ns, x.asD = .list ds ∧ intsD ds = some ns ∧ 0 < ns.length ∧ ∀ m, m ∈ ns → (∀ y, y ∈ ns → m ≤ y) → P (.fr (.int m))
  | _ => False
theorem cd_max {K : PySem.W.Frag} : CallD cMax (rMax K) := by
  intro S Hs F H ts vs P Q w r h k
  unfold cMax at h
  split at h
  · obtain ⟨v, rfl, r1⟩ := r.one
    obtain ⟨ds, ns, e, en, hl, h⟩ := h
    obtain ⟨a, us, rfl, ha, nv, rf⟩ := r1.list w e
    refine ⟨a, ns, rfl, ?_, hl, fun m hm hx => k _ _ F H (h m hm hx) .refl rfl⟩
    rw [rf.intV en] at ha
    exact .of ha
  · exact h.elim
theorem cd_min {K : PySem.W.Frag} : CallD cMin (rMin K) := by
  intro S Hs F H ts vs P Q w r h k
  unfold cMin at h
  split at h
  · obtain ⟨v, rfl, r1⟩ := r.one
    obtain ⟨ds, ns, e, en, hl, h⟩ := h
    obtain ⟨a, us, rfl, ha, nv, rf⟩ := r1.list w e
    refine ⟨a, ns, rfl, ?_, hl, fun m hm hx => k _ _ F H (h m hm hx) .refl rfl⟩
    rw [rf.intV en] at ha
    exact .of ha
  · exact h.elim
def cMax2 : OC := fun ts P => match ts with
  | [.fr (.int i), .fr (.int j)] => P (.fr (.int (if j > i then j else i)))
  | _ => False
def cMin2 : OC := fun ts P => match ts with
  | [.fr (.int i), .fr (.int j)] => P (.fr (.int (if j < i then j else i)))
  | _ => False
theorem cd_max2 : CallD cMax2 (fun xs H Q => ∃ i j, xs = [.int i, .int j] ∧ Q (.int (if j > i then j else i)) H) := by
  intro S Hs F H ts vs P Q w r h k
  unfold cMax2 at h
  split at h
  · obtain ⟨v, u, rfl, r1, r2⟩ := r.two
    cases r1; cases r2
    exact ⟨_, _, rfl, k _ _ F H h .refl rfl⟩
  · exact h.elim
theorem cd_min2 : CallD cMin2 (fun xs H Q => ∃ i j, xs = [.int i, .int j] ∧ Q (.int (if j < i then j else i)) H) := by
  intro S Hs F H ts vs P Q w r h k
  unfold cMin2 at h
  split at h
  · obtain ⟨v, u, rfl, r1, r2⟩ := r.two
    cases r1; cases r2
    exact ⟨_, _, rfl, k _ _ F H h .refl rfl⟩
  · exact h.elim
def cAll : OC := fun ts P => match ts with
  | [x] => ∃ ds bs, x.asD = .list ds ∧ boolsD ds = some bs ∧ P (.fr (.bool (bs.all fun b => b)))
  | _ => False
def cAny : OC := fun ts P => match ts with
  | [x] => ∃ ds bs, x.asD = .list ds ∧ boolsD ds = some bs ∧ P (.fr (.bool (bs.any fun b => b)))
  | _ => False
theorem cd_all {K : PySem.W.Frag} : CallD cAll (rAll K) := by
  intro S Hs F H ts vs P Q w r h k
  unfold cAll at h
  split at h
  · obtain ⟨v, rfl, r1⟩ := r.one
    obtain ⟨ds, ns, e, en, h⟩ := h
    obtain ⟨a, us, rfl, ha, nv, rf⟩ := r1.list w e
    rw [rf.boolV en] at ha
    exact ⟨a, ns, rfl, .of ha, k _ _ F H h .refl rfl⟩
  · exact h.elim
theorem cd_any {K : PySem.W.Frag} : CallD cAny (rAny K) := by
  intro S Hs F H ts vs P Q w r h k
  unfold cAny at h
  split at h
  · obtain ⟨v, rfl, r1⟩ := r.one
    obtain ⟨ds, ns, e, en, h⟩ := h
    obtain ⟨a, us, rfl, ha, nv, rf⟩ := r1.list w e
    rw [rf.boolV en] at ha
    exact ⟨a, ns, rfl, .of ha, k _ _ F H h .refl rfl⟩
  · exact h.elim
abbrev DC := List D → (TV → Prop) → Prop
def ARs (S : Vo) (F : Addr → Prop) (H : Hp) : List D → List V → Prop
  | [], vs => vs = []
  | d :: ds, vs => ∃ v r, vs = v :: r ∧ (FR S F H d v ∨ ∃ es a us, d = .list es ∧ v = .ref a ∧ H a = some (.lst us) ∧ ¬ Vol S a ∧ FRs S F H es us) ∧ ARs S F H ds r
def liftSp (C : DC) : Sp := fun vs H Q _ => ∃ S F ds P, WF S F H ∧ ARs S F H ds vs ∧ C ds P ∧ ∀ t v F' H', P t → Ext S F H F' H' → RV S H F' H' t v → Q v H'
theorem RVs.args {S : Vo} {Hs : Hp} {F : Addr → Prop} {H : Hp} (w : WF S F H) : ∀ {ts : List TV} {vs : List V}, RVs S Hs F H ts vs → ARs S F H (ts.map TV.asD) vs
  | [], _, h => h
  | t :: ts, _, h => by
    obtain ⟨v, r, rfl, h1, h2⟩ := h
    refine ⟨v, r, rfl, ?_, h2.args w⟩
    cases t with
    | fr d => exact .inl h1
    | rd es =>
      obtain ⟨a, vs, e, ha, nv, rf⟩ := h1.list w rfl
      exact .inr ⟨es, a, vs, rfl, e, ha, nv, rf⟩
    | own es =>
      obtain ⟨a, vs, e, ha, nv, rf⟩ := h1.list w rfl
      exact .inr ⟨es, a, vs, rfl, e, ha, nv, rf⟩
    | dct ls => exact h1.elim
def dCall (C : DC) (da : DAx) : DEx := fun env P => da env fun ts => C (ts.map TV.asD) P
structure Fn (P : Program) (w : World) (K : PySem.W.Frag) (mg : Str → Option Value) (base : Heap) (k : Nat) (x : Str) (ps : List Str) (C : DC) : Prop where
  ex : ∃ f fd, mg x = some (.ref f) ∧ PySem.W.keepIn K (.ref f) = true ∧ Binds K fd ps [] ∧ FnOk P w K mg base CX0 k f fd ps (liftSp C)
theorem de_call {k : Nat} {ps : List Str} {C : DC} (F : Fn X.prog X.w X.K X.mg X.base k x ps C) (hr : Room k X.A) (hg : Gl X x) (ha : DA X (e :: es) da)
    (hdb : (x == ("__debug__" : Str)) = false := by decide) (he : starEach (e :: es) X.env = (false, eval e X.env) :: starEach es X.env := by rfl) (hpl : (backTo pos (starEach es X.env)).any (·.1) = false := by rfl) :
    DE X (.Call (.Name x p) (e :: es) [] pos) (dCall C da) := by
  obtain ⟨f, fd, hm, hk, hb, F⟩ := F.ex
  refine ⟨PE.weaken (pe_call F hr hg hm hk hb .nil pass0 ha.run hdb he hpl) fun σ H Q h => ?_⟩
  obtain ⟨S, F0, H0, F, env, P, sr, p, k⟩ := h
  refine ⟨S, F0, H0, F, env, _, sr, p, fun ts vs F1 H1 px e1 r1 nd => ?_⟩
  have w1 := e1.wf sr.wf
  show liftSp C (vs ++ []) H1 Q E0
  rw [List.append_nil]
  exact ⟨S, F1, _, P, w1, r1.args w1, px, fun t v F2 H2 pt e2 r2 => k t v F2 H2 pt (e1.trans e2 sr.wf) (r2.back (e1.nn sr.wf))⟩
end DL
end
section
set_option maxRecDepth 100000
set_option maxHeartbeats 1000000
namespace DL
open PySem PySem.Spec PyProof.Rows L2
variable {X : Cx}
structure Step (S : Vo) (F : Addr → Prop) (H : Hp) (F' : Addr → Prop) (H' : Hp) : Prop where
  tup : ∀ a vs, H a = some (.tup vs) → H' a = some (.tup vs)
  fix : ∀ a, F a → F' a ∧ H' a = H a
section
variable {S : Vo} {F F1 F2 F' F0 : Addr → Prop} {H H1 H2 H' Hs H0 : Hp}
theorem Step.refl : Step S F H F H := ⟨fun _ _ e => e, fun _ f => ⟨f, rfl⟩⟩
theorem Step.trans (a : Step S F H F1 H1) (b : Step S F1 H1 F2 H2) : Step S F H F2 H2 :=
  ⟨fun c vs e => b.tup c vs (a.tup c vs e), fun c f => ⟨(b.fix c (a.fix c f).1).1, (b.fix c (a.fix c f).1).2.trans (a.fix c f).2⟩⟩
theorem Ext.step (e : Ext S F H F' H') (w : WF S F H) : Step S F H F' H' :=
  ⟨fun a vs q => e.same a _ (w.tup q) q, fun a f => ⟨e.sub a f, by
    cases q : H a with
    | none => exact absurd q (w.fin a f)
    | some o => exact e.same a o (w.nv a f) q⟩⟩
mutual
theorem FR.step (e : Step S F H F' H') : ∀ (d : D) (v : V), FR S F H d v → FR S F' H' d v
  | .none, _, h => h
  | .bool _, _, h => h
  | .int _, _, h => h
  | .str _, _, h => h
  | .list ds, _, h => by
    obtain ⟨a, vs, rfl, f, q, r⟩ := h
    exact ⟨a, vs, rfl, (e.fix a f).1, (e.fix a f).2.trans q, FRs.step e ds vs r⟩
  | .tuple ds, _, h => by
    obtain ⟨a, vs, rfl, q, r⟩ := h
    exact ⟨a, vs, rfl, e.tup a _ q, FRs.step e ds vs r⟩
  | .dict _, _, h => h
theorem FRs.step (e : Step S F H F' H') : ∀ (ds : List D) (vs : List V), FRs S F H ds vs → FRs S F' H' ds vs
  | [], _, h => h
  | d :: ds, _, h => by
    obtain ⟨v, r, rfl, h1, h2⟩ := h
    exact ⟨v, r, rfl, FR.step e d v h1, FRs.step e ds r h2⟩
end
end
structure Wk (J : It) (S : Vo) (ds : List D) (St : (Addr → Prop) → Hp → Prop) : Prop where
  go : ∀ i F H, WF S F H → St F H → i < ds.length → J.go i H
  yld : ∀ i F H x H', WF S F H → St F H → J.yld i H x H' → ∀ d, ds[i]? = some d → Ext S F H F H' ∧ FR S F H' d x
  stop : ∀ F H, WF S F H → St F H → J.stop ds.length H
  keepE : ∀ F H F' H', WF S F H → St F H → Ext S F H F' H' → St F' H'
def KeepS (S : Vo) (St : (Addr → Prop) → Hp → Prop) : Prop := ∀ F H F' H', St F H → Step S F H F' H' → St F' H'
abbrev DIx := DEnv → (List D → Prop) → Prop
def liftI (b : Bool) (d : DIx) : TI := fun σ H R => ∃ S F0 H0 F env P, SR S F0 H0 F env σ H ∧ d env P ∧ ∀ ds J F' H' St, P ds → Ext S F H F' H' → Wk J S ds St → (b = true → KeepS S St) → St F' H' → R J H'
structure DI (X : Cx) (tg iter : Expr) (b : Bool) (d : DIx) : Prop where
  run : PI X tg iter (liftI b d)
theorem PI.weaken {tg e : Expr} {t t' : TI} (h : PI X tg e t) (i : ∀ σ H R, t' σ H R → t σ H R) : PI X tg e t' := ⟨fun pins s σ H R I q => h.run pins s σ H R I (i _ _ _ q)⟩
def iSeq (K : PySem.W.Frag) (tl : TE) : TI := fun σ H R => tl σ H fun x H1 => ∃ a, x = .ref a ∧ (((∃ xs, SqL K H1 a xs) ∧ R (Itl K a) H1) ∨ ((∃ xs, SqT K H1 a xs) ∧ R (Itt K a) H1))
theorem pi_seq {tg l : Expr} {tl : TE} (hl : PE X l tl) : PI X tg l (iSeq X.K tl) := by
  refine ⟨fun pins s σ H R I h => ?_⟩
  refine thn (hl.run pins s σ H _ I h) fun v s1 ⟨x, H1, I1, r1, q1⟩ => ?_
  obtain ⟨a, e, q⟩ := q1
  subst e
  cases r1
  rcases q with ⟨⟨xs, hq⟩, q⟩ | ⟨⟨xs, hq⟩, q⟩
  · obtain ⟨its, rv, p, hz⟩ := I1.list hq
    refine wpAny_pyIter_list p.isList ?_
    refine ⟨s1.heap.objs.size, [s1.heap.objs.size], _, _, H1, rfl, I1.kept (t' := s1.toks) fun b o e => Heap.get?_push_of_some _ e, turn_list a _, ⟨_, Heap.get?_push_size _ rfl, rfl, rfl⟩, fun b hb => ?_, q⟩
    have e : b = s1.heap.objs.size := by simpa using hb
    subst e
    exact I1.fpOk (Nat.le_refl _) (I1.hok.fresh (Nat.le_refl _))
  · obtain ⟨its, rv, p, hz⟩ := I1.tuple hq
    refine wpAny_pyIter_tuple (show s1.heap.IsTuple a its.toArray from p) ?_
    refine ⟨s1.heap.objs.size, [s1.heap.objs.size], _, _, H1, rfl, I1.kept (t' := s1.toks) fun b o e => Heap.get?_push_of_some _ e, turn_tuple a _, ⟨_, Heap.get?_push_size _ rfl, rfl, rfl⟩, fun b hb => ?_, q⟩
    have e : b = s1.heap.objs.size := by simpa using hb
    subst e
    exact I1.fpOk (Nat.le_refl _) (I1.hok.fresh (Nat.le_refl _))
section
variable {K : PySem.W.Frag} {S : Vo} {ds : List D} {a : Addr}
theorem SqL_inj {H : Hp} {xs ys : List V} (h : H a = some (.lst xs)) (h' : Rd H a (.lst ys)) : ys = xs := by
  rcases h' with h' | ⟨o, h'⟩
  · rw [h] at h'; cases h'; rfl
  · rw [h] at h'; cases h'
def StL (S : Vo) (a : Addr) (ds : List D) (b : Bool) : (Addr → Prop) → Hp → Prop := fun F H => ∃ vs, H a = some (.lst vs) ∧ ¬ Vol S a ∧ (b = true → F a) ∧ FRs S F H ds vs
def StT (S : Vo) (a : Addr) (ds : List D) : (Addr → Prop) → Hp → Prop := fun F H => ∃ vs, H a = some (.tup vs) ∧ FRs S F H ds vs
theorem StL.keepE {b : Bool} : ∀ F H F' H', WF S F H → StL S a ds b F H → Ext S F H F' H' → StL S a ds b F' H' := fun F H F' H' w ⟨vs, h, nv, f, r⟩ e =>
  ⟨vs, e.same a _ nv h, nv, fun z => e.sub a (f z), FRs.ext e w _ _ r⟩
theorem StL.keepS : KeepS S (StL S a ds true) := fun F H F' H' ⟨vs, h, nv, f, r⟩ e => ⟨vs, (e.fix a (f rfl)).2.trans h, nv, fun _ => (e.fix a (f rfl)).1, FRs.step e _ _ r⟩
theorem StT.keepE : ∀ F H F' H', WF S F H → StT S a ds F H → Ext S F H F' H' → StT S a ds F' H' := fun F H F' H' w ⟨vs, h, r⟩ e =>
  ⟨vs, e.same a _ (w.tup h) h, FRs.ext e w _ _ r⟩
theorem StT.keepS : KeepS S (StT S a ds) := fun F H F' H' ⟨vs, h, r⟩ e => ⟨vs, e.tup a _ h, FRs.step e _ _ r⟩
theorem wk_list {b : Bool} : Wk (Itl K a) S ds (StL S a ds b) where
  go := fun i F H w ⟨vs, h, nv, f, r⟩ hi => ⟨vs, vs[i]'(by rw [r.length]; exact hi), .of h, by simp⟩
  yld := fun i F H x H' w ⟨vs, h, nv, f, r⟩ y d hd => by
    obtain ⟨rfl, y⟩ := y
    obtain ⟨v, hv, rv⟩ := r.get hd
    have := y vs (.of h)
    rw [hv] at this; cases this
    exact ⟨.refl, rv⟩
  stop := fun F H w ⟨vs, h, nv, f, r⟩ => ⟨vs, .of h, by rw [r.length]; exact Nat.le_refl _⟩
  keepE := StL.keepE
theorem wk_tup : Wk (Itt K a) S ds (StT S a ds) where
  go := fun i F H w ⟨vs, h, r⟩ hi => ⟨vs, vs[i]'(by rw [r.length]; exact hi), .of h, by simp⟩
  yld := fun i F H x H' w ⟨vs, h, r⟩ y d hd => by
    obtain ⟨rfl, y⟩ := y
    obtain ⟨v, hv, rv⟩ := r.get hd
    have := y vs (.of h)
    rw [hv] at this; cases this
    exact ⟨.refl, rv⟩
  stop := fun F H w ⟨vs, h, r⟩ => ⟨vs, .of h, by rw [r.length]; exact Nat.le_refl _⟩
  keepE := StT.keepE
theorem wk_range {lo : Int} {n : Nat} : Wk (Itr lo n) S ((List.range n).map fun (k : Nat) => PyData.int (lo + (k : Int))) (fun _ _ => True) where
  go := fun i F H w _ hi => by show i < n; simpa using hi
  yld := fun i F H x H' w _ y d hd => by
    obtain ⟨rfl, rfl⟩ := y
    rw [List.getElem?_map] at hd
    cases q : (List.range n)[i]? with
    | none => rw [q] at hd; cases hd
    | some j =>
      rw [q] at hd
      obtain ⟨h1, h2⟩ := List.getElem?_eq_some_iff.mp q
      rw [List.getElem_range] at h2
      subst h2
      cases hd
      exact ⟨.refl, rfl⟩
  stop := fun F H w _ => by show n ≤ _; simp
  keepE := fun _ _ _ _ _ _ _ => trivial
end
def dItems (d : DEx) : DIx := fun env P => d env fun t => ∃ ds, t.items = some ds ∧ P ds
def TV.fixd : TV → Option (List D)
  | .fr (.list ds) => some ds
  | .fr (.tuple ds) => some ds
  | .own ds => some ds
  | _ => none
def dItemsF (d : DEx) : DIx := fun env P => d env fun t => ∃ ds, t.fixd = some ds ∧ P ds
theorem di_seq {tg e : Expr} {d : DEx} (h : DE X e d) : DI X tg e false (dItems d) := by
  refine ⟨PI.weaken (pi_seq h.run) fun σ H R hh => ?_⟩
  obtain ⟨S, F0, H0, F, env, P, sr, p, k⟩ := hh
  refine ⟨S, F0, H0, F, env, _, sr, p, fun t v F1 H1 pt e1 r1 => ?_⟩
  obtain ⟨ds, et, pt⟩ := pt
  have w1 := e1.wf sr.wf
  obtain ⟨a, vs, rfl, ha, rf⟩ := r1.items et
  rcases ha with ha | ha
  · refine ⟨a, rfl, .inl ⟨⟨vs, .of ha⟩, ?_⟩⟩
    by_cases hv : Vol S a
    · -- the cells of the source are no data
      exfalso
      cases t with
      | fr d =>
        cases d with
        | list es =>
          obtain ⟨b, us, e, f, q, _⟩ := r1
          cases e
          exact w1.nv _ f hv
        | tuple es =>
          obtain ⟨b, us, e, q, _⟩ := r1
          cases e
          rw [ha] at q; cases q
        | _ => cases et
      | rd es => obtain ⟨b, us, e, q, nv, _⟩ := r1; cases e; exact nv hv
      | own es => obtain ⟨b, us, e, q, nv, _⟩ := r1; cases e; exact nv hv
      | dct ls => exact r1.elim
    · exact k ds _ F1 H1 (StL S a ds false) pt e1 wk_list (fun z => by cases z) ⟨vs, ha, hv, (fun z => by cases z), rf⟩
  · exact ⟨a, rfl, .inr ⟨⟨vs, .of ha⟩, k ds _ F1 H1 (StT S a ds) pt e1 wk_tup (fun z => by cases z) ⟨vs, ha, rf⟩⟩⟩
theorem di_seqF {tg e : Expr} {d : DEx} (h : DE X e d) : DI X tg e true (dItemsF d) := by
  refine ⟨PI.weaken (pi_seq h.run) fun σ H R hh => ?_⟩
  obtain ⟨S, F0, H0, F, env, P, sr, p, k⟩ := hh
  refine ⟨S, F0, H0, F, env, _, sr, p, fun t v F1 H1 pt e1 r1 => ?_⟩
  obtain ⟨ds, et, pt⟩ := pt
  have w1 := e1.wf sr.wf
  cases t with
  | fr d =>
    cases d with
    | list es =>
      cases et
      obtain ⟨a, us, rfl, f, q, rf⟩ := r1
      exact ⟨a, rfl, .inl ⟨⟨us, .of q⟩, k _ _ F1 H1 (StL S a _ true) pt e1 wk_list (fun _ => StL.keepS) ⟨us, q, w1.nv a f, fun _ => f, rf⟩⟩⟩
    | tuple es =>
      cases et
      obtain ⟨a, us, rfl, q, rf⟩ := r1
      exact ⟨a, rfl, .inr ⟨⟨us, .of q⟩, k _ _ F1 H1 (StT S a _) pt e1 wk_tup (fun _ => StT.keepS) ⟨us, q, rf⟩⟩⟩
    | _ => cases et
  | rd es => cases et
  | dct ls => cases et
  | own es =>
    have et : some es = some ds := et
    have rr : RVs S H F1 H1 [.own es] [v] := ⟨v, [], rfl, r1, rfl⟩
    obtain ⟨F2, e2, f2, sub⟩ := freeze sr.wf e1 rr rfl
    cases et
    obtain ⟨v', r', ev, f2, _⟩ := f2
    cases ev
    obtain ⟨a, us, rfl, f, q, rf⟩ := f2
    have w2 := e2.wf sr.wf
    exact ⟨a, rfl, .inl ⟨⟨us, .of q⟩, k _ _ F2 H1 (StL S a _ true) pt e2 wk_list (fun _ => StL.keepS) ⟨us, q, w2.nv a f, fun _ => f, rf⟩⟩⟩
def dRange (lo : Int) (n : Nat) : List D := (List.range n).map fun (k : Nat) => PyData.int (lo + (k : Int))
def dIr1 (da : DAx) : DIx := fun env P => da env fun ts => ∃ j, ts = [.fr (.int j)] ∧ -(2 ^ 62) ≤ j ∧ j < 2 ^ 62 ∧ P (dRange 0 j.toNat)
def dIr2 (da : DAx) : DIx := fun env P => da env fun ts => ∃ i j, ts = [.fr (.int i), .fr (.int j)] ∧ (-(2 ^ 62) ≤ i ∧ i < 2 ^ 62 ∧ -(2 ^ 62) ≤ j ∧ j < 2 ^ 62) ∧ P (dRange i (j - i).toNat)
theorem di_range1 {tg a : Expr} {b : Bool} {da : DAx} {p pos : Pos} (hg : Gl X "range") (hm : X.mg "range" = none) (ha : DA X [a] da) (hs : starEach [a] X.env = [(false, eval a X.env)] := by rfl) : DI X tg (.Call (.Name "range" p) [a] [] pos) b (dIr1 da) := by
  refine ⟨PI.weaken (pi_range1 hg hm ha.run hs) fun σ H R hh => ?_⟩
  obtain ⟨S, F0, H0, F, env, P, sr, p, k⟩ := hh
  refine ⟨S, F0, H0, F, env, _, sr, p, fun ts vs F1 H1 pt e1 r1 nd => ?_⟩
  obtain ⟨j, rfl, h1, h2, pt⟩ := pt
  obtain ⟨v, rfl, r2⟩ := r1.one
  cases r2
  exact ⟨j, rfl, h1, h2, k _ _ F1 H1 _ pt e1 wk_range (fun _ _ _ _ _ _ _ => trivial) trivial⟩
theorem di_range2 {tg a c : Expr} {b : Bool} {da : DAx} {p pos : Pos} (hg : Gl X "range") (hm : X.mg "range" = none) (ha : DA X [a, c] da) (hs : starEach [a, c] X.env = [(false, eval a X.env), (false, eval c X.env)] := by rfl) (hs2 : starEach [c] X.env = [(false, eval c X.env)] := by rfl) :
    DI X tg (.Call (.Name "range" p) [a, c] [] pos) b (dIr2 da) := by
  refine ⟨PI.weaken (pi_range2 hg hm ha.run hs hs2) fun σ H R hh => ?_⟩
  obtain ⟨S, F0, H0, F, env, P, sr, p, k⟩ := hh
  refine ⟨S, F0, H0, F, env, _, sr, p, fun ts vs F1 H1 pt e1 r1 nd => ?_⟩
  obtain ⟨i, j, rfl, h1, pt⟩ := pt
  obtain ⟨v, u, rfl, r2, r3⟩ := r1.two
  cases r2; cases r3
  exact ⟨i, j, rfl, h1, k _ _ F1 H1 _ pt e1 wk_range (fun _ _ _ _ _ _ _ => trivial) trivial⟩
abbrev DGx := D → DEnv → (DEnv → Prop) → Prop
abbrev DGs := List D → DEnv → (DEnv → Prop) → Prop
section
variable {S : Vo} {F F1 F' F0 : Addr → Prop} {H H1 H' H0 : Hp} {env : DEnv} {σ : L2.St}
theorem SR.put {d : D} {v : V} (r : SR S F0 H0 F env σ H) (i : Nat) (h : FR S F H d v) : SR S F0 H0 F (env.set i (some (.fr d))) (σ.set i (some v)) H := by
  refine ⟨by simp [r.len], fun j t e => ?_, fun j l t u a ne e e' o o' q => ?_, r.ext, r.wf0⟩
  · by_cases z : j = i
    · subst z
      have hl : j < env.length := by
        have := (List.getElem?_eq_some_iff.mp e).1
        simpa using this
      rw [List.getElem?_set_self hl] at e
      cases e
      exact ⟨v, List.getElem?_set_self (by rw [← r.len]; exact hl), h⟩
    · rw [List.getElem?_set_ne (Ne.symm z)] at e
      rw [List.getElem?_set_ne (Ne.symm z)]
      exact r.slot j t e
  · have key : ∀ (m : Nat) (w : TV), (env.set i (some (.fr d)))[m]? = some (some w) → w.isOwn = true → m ≠ i := fun m w e o z => by
      subst z
      have hl : m < env.length := by
        have := (List.getElem?_eq_some_iff.mp e).1
        simpa using this
      rw [List.getElem?_set_self hl] at e
      cases e
      cases o
    have n1 := key j t e o
    have n2 := key l u e' o'
    rw [List.getElem?_set_ne (Ne.symm n1)] at e q
    rw [List.getElem?_set_ne (Ne.symm n2)] at e'
    rw [List.getElem?_set_ne (Ne.symm n2)]
    exact r.dist j l t u a ne e e' o o' q
end
def Off (ns : List Nat) (σ σ' : L2.St) : Prop := σ'.length = σ.length ∧ ∀ j, j ∉ ns → σ'[j]? = σ[j]?
theorem Off.refl {ns : List Nat} {σ : L2.St} : Off ns σ σ := ⟨rfl, fun _ _ => rfl⟩
theorem Off.trans {ns ms : List Nat} {σ σ' σ'' : L2.St} (a : Off ns σ σ') (b : Off ms σ' σ'') : Off (ns ++ ms) σ σ'' :=
  ⟨b.1.trans a.1, fun j h => (b.2 j fun z => h (List.mem_append_right _ z)).trans (a.2 j fun z => h (List.mem_append_left _ z))⟩
def liftG (ns : List Nat) (g : DGx) : TG := fun v σ H Q => ∃ S F0 H0 F env d P, SR S F0 H0 F env σ H ∧ FR S F H d v ∧ g d env P ∧ ∀ env' σ', P env' → SR S F0 H0 F env' σ' H → Off ns σ σ' → Q σ' H
def liftGs (ns : List Nat) (g : DGs) : TGs := fun vs σ H Q => ∃ S F0 H0 F env ds P, SR S F0 H0 F env σ H ∧ FRs S F H ds vs ∧ g ds env P ∧ ∀ env' σ', P env' → SR S F0 H0 F env' σ' H → Off ns σ σ' → Q σ' H
structure DG (X : Cx) (e : Expr) (ns : List Nat) (g : DGx) : Prop where
  run : PG X e (liftG ns g)
structure DGS (X : Cx) (es : List Expr) (ns : List Nat) (g : DGs) : Prop where
  run : PGs X es (liftGs ns g)
theorem PG.weaken {e : Expr} {t t' : TG} (h : PG X e t) (i : ∀ v σ H Q, t' v σ H Q → t v σ H Q) : PG X e t' := ⟨fun pins s σ H v u Q I r q => h.run pins s σ H v u Q I r (i _ _ _ _ q)⟩
theorem PGs.weaken {e : List Expr} {t t' : TGs} (h : PGs X e t) (i : ∀ v σ H Q, t' v σ H Q → t v σ H Q) : PGs X e t' := ⟨fun pins s σ H v u Q I r q => h.run pins s σ H v u Q I r (i _ _ _ _ q)⟩
def dgN (i : Nat) : DGx := fun d env P => P (env.set i (some (.fr d)))
def dgNil : DGs := fun ds env P => match ds with
  | [] => P env
  | _ => False
def dgCons (g : DGx) (r : DGs) : DGs := fun ds env P => match ds with
  | d :: ds => g d env fun env' => r ds env' P
  | [] => False
def dgT (n : Nat) (g : DGs) : DGx := fun d env P => match d with
  | .tuple ds => ds.length = n ∧ g ds env P
  | _ => False
theorem dg_n {i : Nat} {x : Str} {pos : Pos} (hN : X.N.Nodup) (hi : X.N[i]? = some x) (hx : Loc X.env.scope x) (hf : X.fn x = true ∨ X.env.scope.names.lookup x = some .local := by first | exact .inl rfl | exact .inr rfl | assumption) : DG X (.Name x pos) [i] (dgN i) :=
  ⟨PG.weaken (pg_name hN hi hx hf) fun v σ H Q ⟨S, F0, H0, F, env, d, P, sr, f, p, k⟩ => k _ _ p (sr.put i f) ⟨by simp, fun j h => List.getElem?_set_ne (by simpa using Ne.symm (fun z => h (by simp [z])))⟩⟩
theorem dgs_nil : DGS X [] [] dgNil := ⟨PGs.weaken pgs_nil fun v σ H Q ⟨S, F0, H0, F, env, ds, P, sr, f, p, k⟩ => by
  unfold dgNil at p
  split at p
  · cases f
    exact ⟨rfl, k _ _ p sr .refl⟩
  · exact p.elim⟩
theorem dgs_cons {e : Expr} {es : List Expr} {ns ms : List Nat} {g : DGx} {r : DGs} (h1 : DG X e ns g) (h2 : DGS X es ms r) (hs : (assignEach (e :: es) X.env).map (·.2) = assign e X.env :: (assignEach es X.env).map (·.2) := by rfl) : DGS X (e :: es) (ns ++ ms) (dgCons g r) := by
  refine ⟨PGs.weaken (pgs_cons h1.run h2.run hs) fun v σ H Q hh => ?_⟩
  obtain ⟨S, F0, H0, F, env, ds, P, sr, f, p, k⟩ := hh
  unfold dgCons at p
  split at p
  · obtain ⟨v, r, rfl, f1, f2⟩ := f
    exact ⟨v, r, rfl, S, F0, H0, F, env, _, _, sr, f1, p, fun env' σ' p' sr' o => ⟨S, F0, H0, F, env', _, _, sr', f2, p', fun env'' σ'' p'' sr'' o' => k env'' σ'' p'' sr'' (o.trans o')⟩⟩
  · exact p.elim
theorem dg_t {es : List Expr} {kk : Nat} {n : Nat} {ns : List Nat} {g : DGs} {pos : Pos} (hc : X.calm = true) (h : DGS X es ns g) (hn : (assignEach es X.env).length = n := by rfl) (hst : (assignEach es X.env).findIdx? (·.1) = none := by rfl) : DG X (.Tuple es kk pos) ns (dgT n g) := by
  refine ⟨PG.weaken (pg_tup hc h.run hn hst) fun v σ H Q hh => ?_⟩
  obtain ⟨S, F0, H0, F, env, d, P, sr, f, p, k⟩ := hh
  unfold dgT at p
  split at p
  · obtain ⟨a, vs, rfl, ha, f⟩ := f
    exact ⟨a, vs, rfl, .of ha, by rw [f.length]; exact p.1, S, F0, H0, F, env, _, P, sr, f, p.2, k⟩
  · exact p.elim
def wipeE (env : DEnv) : List Nat → DEnv
  | [] => env
  | v :: vs => (wipeE env vs).set v none
def lcL (g : DGx) (tt : DTx) (te : DEx) (env : DEnv) (P : List D → Prop) : List D → List D → Prop
  | [], acc => P acc
  | d :: ds, acc => g d env fun env' => tt env' fun b => if b = true then te env' fun t => ∃ y, t.fz = some y ∧ acc.length < sizeLine ∧ lcL g tt te env P ds (acc ++ [y]) else lcL g tt te env P ds acc
def dLc (di : DIx) (g : DGx) (tt : DTx) (te : DEx) (vs : List Nat) : DEx := fun env P => di env fun ds => lcL g tt te (wipeE env vs) (fun ys => P (.own ys)) ds []
def dYes : DTx := fun _ P => P true
structure DTs (X : Cx) (ifs : List Expr) (d : DTx) : Prop where
  run : PTs X ifs (liftT d)
theorem dts_nil : DTs X [] dYes := ⟨⟨fun pins s σ H Q I ⟨S, F0, H0, F, env, P, sr, p, k⟩ => pts_nil.run pins s σ H Q I (k true F H p .refl)⟩⟩
theorem dts_one {c : Expr} {d : DTx} (h : DT X c d) : DTs X [c] d := ⟨pts_one h.run⟩
theorem wipeE_length (env : DEnv) : ∀ vs : List Nat, (wipeE env vs).length = env.length
  | [] => rfl
  | v :: vs => by simp [wipeE, wipeE_length env vs]
section
variable {S : Vo} {F F1 F' F0 : Addr → Prop} {H H1 H' H0 : Hp} {env : DEnv} {σ : L2.St}
theorem SR.clear (r : SR S F0 H0 F env σ H) (i : Nat) : SR S F0 H0 F (env.set i none) (σ.set i none) H := by
  refine ⟨by simp [r.len], fun j t e => ?_, fun j l t u a ne e e' o o' q => ?_, r.ext, r.wf0⟩
  · by_cases z : j = i
    · subst z
      have hl : j < env.length := by
        have := (List.getElem?_eq_some_iff.mp e).1
        simpa using this
      rw [List.getElem?_set_self hl] at e
      cases e
    · rw [List.getElem?_set_ne (Ne.symm z)] at e
      rw [List.getElem?_set_ne (Ne.symm z)]
      exact r.slot j t e
  · have key : ∀ (m : Nat) (w : TV), (env.set i none)[m]? = some (some w) → m ≠ i := fun m w e z => by
      subst z
      have hl : m < env.length := by
        have := (List.getElem?_eq_some_iff.mp e).1
        simpa using this
      rw [List.getElem?_set_self hl] at e
      cases e
    have n1 := key j t e
    have n2 := key l u e'
    rw [List.getElem?_set_ne (Ne.symm n1)] at e q
    rw [List.getElem?_set_ne (Ne.symm n2)] at e'
    rw [List.getElem?_set_ne (Ne.symm n2)]
    exact r.dist j l t u a ne e e' o o' q
theorem SR.wipe (r : SR S F0 H0 F env σ H) : ∀ vs : List Nat, SR S F0 H0 F (wipeE env vs) (wipe σ vs) H
  | [] => r
  | v :: vs => (SR.wipe r vs).clear v
end
theorem wipe_get : ∀ (vs : List Nat) (σ : L2.St) (i : Nat), (wipe σ vs)[i]? = if i ∈ vs then (if i < σ.length then some none else none) else σ[i]?
  | [], σ, i => by simp [wipe]
  | v :: vs, σ, i => by
    unfold wipe
    rw [List.getElem?_set, wipe_get vs σ i]
    have hl : ((wipe σ vs).set v none).length = σ.length := by rw [List.length_set, wipe_length]
    rw [wipe_length]
    by_cases h : v = i
    · subst h; simp
    · have h' : ¬ i = v := fun z => h z.symm
      simp [h, h']
theorem wipe_off {ns vs : List Nat} {σ σ' : L2.St} (o : Off ns (wipe σ vs) σ') (h : ∀ i ∈ ns, i ∈ vs) : wipe σ' vs = wipe σ vs := by
  apply List.ext_getElem?
  intro i
  have hl : σ'.length = σ.length := by rw [o.1, wipe_length]
  rw [wipe_get, wipe_get, hl]
  by_cases hi : i ∈ vs
  · simp [hi]
  · simp only [hi, if_false]
    rw [o.2 i fun z => hi (h i z), wipe_get]
    simp [hi]
theorem lc_go {J : It} {S : Vo} {F0 F F1 : Addr → Prop} {H0 H H1 : Hp} {env : DEnv} {σ : L2.St} {ds : List D} {St : (Addr → Prop) → Hp → Prop} {g : DGx} {tt : DTx} {te : DEx} {ns vs : List Nat} {P : List D → Prop} {Q : V → Hp → Prop} {C : Addr}
    (sr : SR S F0 H0 F env σ H) (e1 : Ext S F H F1 H1) (wk : Wk J S ds St) (st : St F1 H1) (hC : H1 C = none) (hns : ∀ i ∈ ns, i ∈ vs)
    (h : lcL g tt te (wipeE env vs) P ds [])
    (k : ∀ ys F' H' us, P ys → Ext S F H F' H' → H' C = some (.lst us) → ¬ F' C → FRs S F' H' ys us → Q (.ref C) H') :
    ∃ W : Nat → Nat → Hp → Prop, (∃ m, W 0 m (upd H1 C (.lst []))) ∧ ∀ i m H, W i m H →
      (J.stop i H ∧ Q (.ref C) H) ∨ (J.go i H ∧ ∃ Nx : Hp → Prop, (∀ H', Nx H' → ∃ m', m' < m ∧ W (i + 1) m' H') ∧ ∀ x H', J.yld i H x H' → liftG ns g x (wipe σ vs) H' fun σ2 H2 => wipe σ2 vs = wipe σ vs ∧ liftT tt σ2 H2 fun b H3 =>
        if b = true then liftE te σ2 H3 fun y H4 => ∃ acc, H4 C = some (.lst acc) ∧ acc.length < sizeLine ∧ Nx (upd H4 C (.lst (acc ++ [y]))) else Nx H3) := by
  have w0 := sr.wf
  have w1 := e1.wf w0
  have hC0 : H C = none := e1.none_of w0 hC
  have nvC : ¬ Vol S C := w1.vol hC
  let In : Nat → Hp → Prop := fun i H' => ∃ F' us acc, Ext S F1 H1 F' H' ∧ H' C = some (.lst us) ∧ ¬ F' C ∧ FRs S F' H' acc us ∧ i ≤ ds.length ∧ lcL g tt te (wipeE env vs) P (ds.drop i) acc
  have upC : ∀ {F' : Addr → Prop} {H' : Hp} {us us' : List V}, Ext S F1 H1 F' H' → H' C = some (.lst us) → ¬ F' C → (Ext S F1 H1 F' (upd H' C (.lst us'))) ∧ ∀ (es : List D) (ws : List V), FRs S F' H' es ws → FRs S F' (upd H' C (.lst us')) es ws := by
    intro F' H' us us' e hc nf
    have w' := e.wf w1
    have wn : WF S F' (upd H' C (.lst us')) := by
      refine ⟨fun sd sc q => ?_, fun a f => ?_, w'.nv⟩
      · obtain ⟨c, l, m, t, h1, h2, h3⟩ := w'.src sd sc q
        have n1 : sd ≠ C := fun z => nvC ⟨sd, sc, q, .inl z.symm⟩
        have n2 : sc ≠ C := fun z => nvC ⟨sd, sc, q, .inr z.symm⟩
        exact ⟨c, l, m, t, by rw [upd_ne n1]; exact h1, by rw [upd_ne n2]; exact h2, h3⟩
      · have : a ≠ C := fun z => nf (z ▸ f)
        rw [upd_ne this]; exact w'.fin a f
    have stp : Step S F' H' F' (upd H' C (.lst us')) := ⟨fun a vs q => by
      have : a ≠ C := fun z => by rw [z, hc] at q; cases q
      rw [upd_ne this]; exact q, fun a f => ⟨f, by
      have : a ≠ C := fun z => nf (z ▸ f)
      rw [upd_ne this]⟩⟩
    refine ⟨⟨fun a o nv q => ?_, e.sub, e.new, fun _ => wn⟩, fun es ws r => FRs.step stp es ws r⟩
    have : a ≠ C := fun z => by rw [z, hC] at q; cases q
    rw [upd_ne this]; exact e.same a o nv q
  have start : In 0 (upd H1 C (.lst [])) :=
    ⟨F1, [], [], .new_obj w1 hC, upd_same, fun f => w1.fin C f hC, rfl, Nat.zero_le _, h⟩
  refine ⟨fun i m H' => m = ds.length - i ∧ In i H', ⟨_, rfl, start⟩, ?_⟩
  rintro i m H' ⟨rfl, F', us, acc, e, hc, nf, rf, hi, hl⟩
  have w' := e.wf w1
  have st' := wk.keepE _ _ _ _ w1 st e
  by_cases hlt : i < ds.length
  · refine .inr ⟨wk.go i F' H' w' st' hlt, In (i + 1), fun H'' n => ⟨_, by omega, rfl, n⟩, fun x H'' y => ?_⟩
    have hd : ds[i]? = some ds[i] := List.getElem?_eq_getElem hlt
    obtain ⟨e2, fx⟩ := wk.yld i F' H' x H'' w' st' y _ hd
    have w2 := e2.wf w'
    have e12 := e.trans e2 w1
    rw [List.drop_eq_getElem_cons hlt] at hl
    have hl : g ds[i] (wipeE env vs) fun env' => tt env' fun b => if b = true then te env' fun t => ∃ y, t.fz = some y ∧ acc.length < sizeLine ∧ lcL g tt te (wipeE env vs) P (ds.drop (i + 1)) (acc ++ [y]) else lcL g tt te (wipeE env vs) P (ds.drop (i + 1)) acc := hl
    refine ⟨S, F0, H0, F', wipeE env vs, ds[i], _, (sr.step (e1.trans e12 w0)).wipe vs, fx, hl, fun env' σ' p' sr' off => ⟨wipe_off off hns, S, F0, H0, F', env', _, sr', p', fun b F3 H3 pb e3 => ?_⟩⟩
    have w3 := e3.wf w2
    have e13 := e12.trans e3 w1
    have hc2 : H'' C = some (.lst us) := e2.same C _ nvC hc
    have hc3 : H3 C = some (.lst us) := e3.same C _ nvC hc2
    have nf3 : ¬ F3 C := fun f => by
      rcases e3.new C f with z | z
      · exact nf z
      · rw [hc2] at z; cases z
    have rf3 : FRs S F3 H3 acc us := FRs.ext e3 w2 _ _ (FRs.ext e2 w' _ _ rf)
    cases b with
    | false =>
      refine ⟨F3, us, acc, e13, hc3, nf3, rf3, hlt, ?_⟩
      simpa using pb
    | true =>
      refine ⟨S, F0, H0, F3, env', _, sr'.step e3, (by simpa using pb : te env' _), fun t v F4 H4 pt e4 r4 => ?_⟩
      obtain ⟨y, hy, hz, pt⟩ := pt
      have hc4 : H4 C = some (.lst us) := e4.same C _ nvC hc3
      have rr : RVs S H3 F4 H4 [t] [v] := ⟨v, [], rfl, r4, rfl⟩
      have hf : fzs [t] = some [y] := by simp [fzs, hy]
      obtain ⟨F5, e5, f5, sub⟩ := freeze w3 e4 rr hf
      have w5 := e5.wf w3
      have nf5 : ¬ F5 C := fun f => by
        rcases e5.new C f with z | z
        · exact nf3 z
        · rw [hc3] at z; cases z
      have e15 := e13.trans e5 w1
      obtain ⟨ue, uf⟩ := upC (us' := us ++ [v]) e15 hc4 nf5
      have rf5 : FRs S F5 H4 (acc ++ [y]) (us ++ [v]) := (FRs.ext e5 w3 _ _ rf3).append f5
      refine ⟨us, hc4, by rw [rf.length]; exact hz, F5, us ++ [v], acc ++ [y], ue, upd_same, nf5, uf _ _ rf5, hlt, pt⟩
  · have ei : i = ds.length := by omega
    subst ei
    rw [List.drop_length] at hl
    exact .inl ⟨wk.stop F' H' w' st', k acc F' H' us hl (e1.trans e w0) hc nf rf⟩
theorem de_lc {elt tg iter : Expr} {ifs : List Expr} {scope : Scope} {own : List (Str × Nat)} {pos : Pos} {di : DIx} {g : DGx} {tt : DTx} {te : DEx} {ns : List Nat} (hc : X.calm = true) (hN : X.N.Nodup) (hi : DI X tg iter false di) (ok : BlkOk X.N X.env.scope scope own)
    (hg : ∀ (s : Shared) (H : Hp) (C : Addr) (cl : List (Str × Addr)) (fp : List Addr), DG (X.blk s H scope (compEnvC scope cl C X.env) fp) tg ns g) (ht : ∀ (s : Shared) (H : Hp) (C : Addr) (cl : List (Str × Addr)) (fp : List Addr), DTs (X.blk s H scope (compEnvC scope cl C X.env) fp) ifs tt)
    (he : ∀ (s : Shared) (H : Hp) (C : Addr) (cl : List (Str × Addr)) (fp : List Addr), DE (X.blk s H scope (compEnvC scope cl C X.env) fp) elt te) (hns : ∀ i ∈ ns, i ∈ own.map (·.2)) (hs : ∀ x, foldedSetIterable iter X.env x = pure x := by intro _; rfl) :
    DE X (.ListComp elt [⟨tg, iter, ifs, 0⟩] scope pos) (dLc di g tt te (own.map (·.2))) := by
  refine ⟨PE.weaken (pe_lc hc hN hi.run ok (fun s H C cl fp => (hg s H C cl fp).run) (fun s H C cl fp => (ht s H C cl fp).run) (fun s H C cl fp => (he s H C cl fp).run) hs) fun σ H Q hh => ?_⟩
  obtain ⟨S, F0, H0, F, env, P, sr, p, k⟩ := hh
  refine ⟨S, F0, H0, F, env, _, sr, p, fun ds J F1 H1 St pt e1 wk _ st C hC => ?_⟩
  refine lc_go sr e1 wk st hC hns pt fun ys F' H' us py e' hc' nf rf => ?_
  have w1 := e1.wf sr.wf
  exact k _ _ F' H' py e' ⟨C, us, rfl, hc', w1.vol hC, e1.none_of sr.wf hC, nf, rf⟩
end DL
end
section
set_option maxRecDepth 100000
set_option maxHeartbeats 1000000
namespace DL
open PySem PySem.Spec PyProof.Rows L2
variable {X : Cx}
structure DEnds where
  nx : DEnv → Prop
  rt : TV → Prop
  bk : DEnv → Prop := fun _ => False
  ct : DEnv → Prop := fun _ => False
abbrev DSt := DEnds → DEnv → Prop
def liftS (d : DSt) : TS := fun D σ H => ∃ S F0 H0 F env DD, SR S F0 H0 F env σ H ∧ d DD env ∧
  (∀ F' env' σ' H', DD.nx env' → Step S F H F' H' → SR S F0 H0 F' env' σ' H' → D.nx σ' H') ∧
  (∀ t v F' H', DD.rt t → Ext S F0 H0 F' H' → RV S H0 F' H' t v → D.rt v H') ∧
  (∀ F' env' σ' H', DD.bk env' → Step S F H F' H' → SR S F0 H0 F' env' σ' H' → D.bk σ' H') ∧
  (∀ F' env' σ' H', DD.ct env' → Step S F H F' H' → SR S F0 H0 F' env' σ' H' → D.ct σ' H')
structure DS (X : Cx) (st : Stmt) (d : DSt) : Prop where
  run : PS X st (liftS d)
structure DSs (X : Cx) (sts : List Stmt) (d : DSt) : Prop where
  run : PSs X sts (liftS d)
theorem PS.weaken {e : Stmt} {t t' : TS} (h : PS X e t) (i : ∀ D σ H, t' D σ H → t D σ H) : PS X e t' := ⟨fun pins s σ H D I q => h.run pins s σ H D I (i _ _ _ q)⟩
theorem PSs.weaken {e : List Stmt} {t t' : TS} (h : PSs X e t) (i : ∀ D σ H, t' D σ H → t D σ H) : PSs X e t' := ⟨fun pins s σ H D I q => h.run pins s σ H D I (i _ _ _ q)⟩
def dSeq (a b : DSt) : DSt := fun DD env => a { DD with nx := b DD } env
def dNext : DSt := fun DD env => DD.nx env
def dBreak : DSt := fun DD env => DD.bk env
def dCont : DSt := fun DD env => DD.ct env
variable {st : Stmt} {rest : List Stmt} {a b : DSt} {e : Expr} {d : DEx} {pos : Pos}
theorem dss_nil : DSs X [] dNext := ⟨PSs.weaken pss_nil fun D σ H ⟨S, F0, H0, F, env, DD, sr, p, kn, _⟩ => kn F env σ H p .refl sr⟩
theorem dss_cons (h1 : DS X st a) (h2 : DSs X rest b) : DSs X (st :: rest) (dSeq a b) := by
  refine ⟨PSs.weaken (pss_cons h1.run h2.run) fun D σ H hh => ?_⟩
  obtain ⟨S, F0, H0, F, env, DD, sr, p, kn, kr, kb, kc⟩ := hh
  exact ⟨S, F0, H0, F, env, _, sr, p, fun F1 env1 σ1 H1 p1 s1 sr1 => ⟨S, F0, H0, F1, env1, DD, sr1, p1, fun F2 env2 σ2 H2 p2 s2 sr2 => kn F2 env2 σ2 H2 p2 (s1.trans s2) sr2, kr,
    fun F2 env2 σ2 H2 p2 s2 sr2 => kb F2 env2 σ2 H2 p2 (s1.trans s2) sr2, fun F2 env2 σ2 H2 p2 s2 sr2 => kc F2 env2 σ2 H2 p2 (s1.trans s2) sr2⟩, kr, kb, kc⟩
theorem dss_one (h1 : DS X st a) : DSs X [st] a := ⟨pss_one h1.run⟩
theorem ds_pass : DS X (.Pass pos) dNext := ⟨PS.weaken ps_pass fun D σ H ⟨S, F0, H0, F, env, DD, sr, p, kn, _⟩ => kn F env σ H p .refl sr⟩
theorem ds_break : DS X (.Break pos) dBreak := ⟨PS.weaken ps_break fun D σ H ⟨S, F0, H0, F, env, DD, sr, p, kn, kr, kb, kc⟩ => kb F env σ H p .refl sr⟩
theorem ds_cont : DS X (.Continue pos) dCont := ⟨PS.weaken ps_continue fun D σ H ⟨S, F0, H0, F, env, DD, sr, p, kn, kr, kb, kc⟩ => kc F env σ H p .refl sr⟩
def frz : Option TV → Option TV
  | some (.own ds) => some (.fr (.list ds))
  | t => t
def TV.res : TV → Option TV
  | .fr (.list _) => none
  | .rd _ => none
  | t => some t
def dRet (d : DEx) : DSt := fun DD env => d (env.map frz) fun t => match t.res with
  | some t => DD.rt t
  | none => False
def TV.isDct : TV → Bool
  | .dct _ => true
  | _ => false
def dRetVar (i : Nat) : DSt := fun DD env => match env[i]? with
  | some (some t) => t.isDct = false ∧ DD.rt t
  | _ => False
def dRetN : DSt := fun DD _ => DD.rt (.fr .none)
section
variable {S : Vo} {F F1 F' F0 : Addr → Prop} {H H1 H' H0 : Hp} {env : DEnv} {σ : L2.St}
theorem SR.freeze (r : SR S F0 H0 F env σ H) : ∃ F', SR S F0 H0 F' (env.map frz) σ H ∧ (∀ a, F a → F' a) ∧ ∀ a, F' a → F a ∨ H0 a = none := by
  let O : Addr → Prop := fun a => ∃ (i : Nat) (ds : List D), env[i]? = some (some (.own ds)) ∧ σ[i]? = some (some (.ref a))
  have hO : ∀ a, O a → H0 a = none ∧ H a ≠ none := fun a ⟨i, ds, h1, h2⟩ => by
    obtain ⟨v, h3, b, vs, rfl, q, n, f, _⟩ := r.slot i _ h1
    rw [h2] at h3
    cases h3
    exact ⟨n, by rw [q]; exact fun z => nomatch z⟩
  have w := r.wf
  have w' : WF S (fun a => F a ∨ O a) H := ⟨w.src, fun a f => f.elim (w.fin a) fun o => (hO a o).2, fun a f => f.elim (w.nv a) fun o => r.wf0.vol (hO a o).1⟩
  refine ⟨fun a => F a ∨ O a, ⟨by simp [r.len], fun i t h => ?_, fun i j t u a ne h h' o o' => ?_, ⟨r.ext.same, fun a f => .inl (r.ext.sub a f), fun a f => f.elim (r.ext.new a) fun o => .inr (hO a o).1, fun _ => w'⟩, r.wf0⟩, fun a f => .inl f, fun a f => f.elim .inl fun o => .inr (hO a o).1⟩
  · rw [List.getElem?_map] at h
    cases q : env[i]? with
    | none => rw [q] at h; cases h
    | some x =>
      rw [q] at h
      cases x with
      | none => cases h
      | some t' =>
        obtain ⟨v, h1, h2⟩ := r.slot i t' q
        refine ⟨v, h1, ?_⟩
        cases t' with
        | fr d => cases h; exact FR.sub (fun a f => .inl f) _ _ h2
        | rd d => exact h2.elim
        | own d =>
          cases h
          obtain ⟨b, vs, rfl, q', n, f, rf⟩ := h2
          exact ⟨b, vs, rfl, .inr ⟨i, d, q, h1⟩, q', FRs.sub (fun a f => .inl f) _ _ rf⟩
        | dct ls =>
          cases h
          obtain ⟨b, vs, rfl, q', n, f, rf⟩ := h2
          refine ⟨b, vs, rfl, q', n, fun z => z.elim f fun ⟨j, es, hj, hj'⟩ => ?_, rf⟩
          have ne : j ≠ i := fun z => by subst z; rw [q] at hj; cases hj
          exact r.dist j i _ _ b ne hj q rfl rfl hj' h1
  · have back : ∀ (m : Nat) (t : TV), (env.map frz)[m]? = some (some t) → t.isOwn = true → env[m]? = some (some t) := fun m t h o => by
      rw [List.getElem?_map] at h
      cases q : env[m]? with
      | none => rw [q] at h; cases h
      | some x =>
        rw [q] at h
        cases x with
        | none => cases h
        | some t' => cases t' <;> (cases h; first | rfl | cases o)
    exact fun h1 h2 => r.dist i j t u a ne (back i t h o) (back j u h' o') o o' h1 h2
end
theorem ds_ret (he : DE X e d) : DS X (.Return (some e) pos) (dRet d) := by
  refine ⟨PS.weaken (ps_ret he.run) fun D σ H hh => ?_⟩
  obtain ⟨S, F0, H0, F, env, DD, sr, p, kn, kr, kb, kc⟩ := hh
  obtain ⟨F', sr', sub, new⟩ := sr.freeze
  refine ⟨S, F0, H0, F', _, _, sr', p, fun t v F1 H1 pt e1 r1 => ?_⟩
  have er := sr'.ext.trans e1 sr.wf0
  have back : ∀ a, H a = none → H0 a = none := fun a h => sr.ext.none_of sr.wf0 h
  cases t with
  | fr d =>
    cases d <;> first
      | exact pt.elim
      | exact kr _ v F1 H1 pt er r1
  | rd ds => exact pt.elim
  | dct ls => exact r1.elim
  | own ds => exact kr _ v F1 H1 pt er (r1.back back)
theorem ds_retVar (i : Nat) {x : Str} {p' : Pos} (hN : X.N[i]? = some x := by rfl) (hv : Vis X.env.scope x := by first | exact Or.inl rfl | exact Or.inr (Or.inl rfl) | exact Or.inr (Or.inr rfl)) (hd : (x == ("__debug__" : Str)) = false := by decide)
    (hcd : (x == ("__classdict__" : Str)) = false := by decide) : DS X (.Return (some (.Name x p')) pos) (dRetVar i) := by
  refine ⟨PS.weaken (ps_ret (pe_var hN hv hd hcd)) fun D σ H hh => ?_⟩
  obtain ⟨S, F0, H0, F, env, DD, sr, p, kn, kr, kb, kc⟩ := hh
  unfold dRetVar at p
  split at p
  · rename_i t et
    obtain ⟨v, ev, r⟩ := sr.slot i t et
    cases t with
    | fr d => exact ⟨v, ev, kr _ v F H p.2 sr.ext r⟩
    | rd ds => exact r.elim
    | own ds =>
      obtain ⟨a, vs, rfl, q, n, f, r⟩ := r
      exact ⟨_, ev, kr _ _ F H p.2 sr.ext ⟨a, vs, rfl, q, sr.wf0.vol n, n, f, r⟩⟩
    | dct ls => exact (by cases p.1)
  · exact p.elim
theorem ds_retN : DS X (.Return none pos) dRetN := ⟨PS.weaken ps_retN fun D σ H ⟨S, F0, H0, F, env, DD, sr, p, kn, kr, kb, kc⟩ => kr _ _ F H p sr.ext rfl⟩
def dIfS (c : DTx) (a b : DSt) : DSt := fun DD env => c env fun k => if k = true then a DD env else b DD env
theorem ds_if {c : Expr} {as bs : List Stmt} {dc : DTx} (hc : DT X c dc) (ha : DSs X as a) (hb : DSs X bs b) : DS X (.If c as bs pos) (dIfS dc a b) := by
  refine ⟨PS.weaken (ps_if hc.run ha.run hb.run) fun D σ H hh => ?_⟩
  obtain ⟨S, F0, H0, F, env, DD, sr, p, kn, kr, kb, kc⟩ := hh
  refine ⟨S, F0, H0, F, env, _, sr, p, fun k F1 H1 pk e1 => ?_⟩
  have s1 := e1.step sr.wf
  cases k with
  | true => exact ⟨S, F0, H0, F1, env, DD, sr.step e1, pk, fun F2 env2 σ2 H2 p2 s2 sr2 => kn F2 env2 σ2 H2 p2 (s1.trans s2) sr2, kr,
    fun F2 env2 σ2 H2 p2 s2 sr2 => kb F2 env2 σ2 H2 p2 (s1.trans s2) sr2, fun F2 env2 σ2 H2 p2 s2 sr2 => kc F2 env2 σ2 H2 p2 (s1.trans s2) sr2⟩
  | false => exact ⟨S, F0, H0, F1, env, DD, sr.step e1, pk, fun F2 env2 σ2 H2 p2 s2 sr2 => kn F2 env2 σ2 H2 p2 (s1.trans s2) sr2, kr,
    fun F2 env2 σ2 H2 p2 s2 sr2 => kb F2 env2 σ2 H2 p2 (s1.trans s2) sr2, fun F2 env2 σ2 H2 p2 s2 sr2 => kc F2 env2 σ2 H2 p2 (s1.trans s2) sr2⟩
def TV.sv (m : Bool) : TV → Option TV
  | .fr d => if m then none else some (.fr d)
  | .own ds => if m then some (.own ds) else some (.fr (.list ds))
  | .rd _ => none
  | .dct _ => none
section
variable {S : Vo} {F F1 F' F0 : Addr → Prop} {H H1 H' H0 : Hp} {env : DEnv} {σ : L2.St}
theorem RVs.more {a : Addr} : ∀ {ts : List TV} {vs : List V}, RVs S H0 F H ts vs → a ∉ DL.owns ts vs → RVs S H0 (fun b => F b ∨ b = a) H ts vs
  | [], _, h, _ => h
  | t :: ts, _, h, ha => by
    obtain ⟨v, rr, rfl, r1, r2⟩ := h
    cases t with
    | fr d => exact ⟨v, rr, rfl, FR.sub (fun b f => .inl f) _ _ r1, r2.more (by simpa [DL.owns] using ha)⟩
    | rd d =>
      obtain ⟨b, ws, rfl, q2, nv2, rf2⟩ := r1
      exact ⟨_, rr, rfl, ⟨b, ws, rfl, q2, nv2, FRs.sub (fun b f => .inl f) _ _ rf2⟩, r2.more (by simpa [DL.owns] using ha)⟩
    | own d =>
      obtain ⟨b, ws, rfl, q2, nv2, n2, f2, rf2⟩ := r1
      have ha : a ∉ b :: DL.owns ts rr := ha
      exact ⟨_, rr, rfl, ⟨b, ws, rfl, q2, nv2, n2, fun z => z.elim f2 (fun z => ha (by rw [z]; exact List.mem_cons_self)), FRs.sub (fun b f => .inl f) _ _ rf2⟩, r2.more fun z => ha (List.mem_cons_of_mem _ z)⟩
    | dct ls => exact r1.elim
structure SRT (S : Vo) (F0 : Addr → Prop) (H0 : Hp) (F : Addr → Prop) (env : DEnv) (σ : L2.St) (H : Hp) (ts : List TV) (vs : List V) : Prop where
  sr : SR S F0 H0 F env σ H
  rv : RVs S H0 F H ts vs
  nd : (owns ts vs).Nodup
  ap : ∀ a ∈ owns ts vs, ∀ (i : Nat) (t : TV), env[i]? = some (some t) → t.isOwn = true → σ[i]? ≠ some (some (.ref a))
theorem SRT.of {ts : List TV} {vs : List V} (sr : SR S F0 H0 F env σ H) (e : Ext S F H F' H') (r : RVs S H F' H' ts vs) (nd : (owns ts vs).Nodup) : SRT S F0 H0 F' env σ H' ts vs := by
  refine ⟨sr.step e, r.back fun a h => sr.ext.none_of sr.wf0 h, nd, fun a ha i t h1 h2 h3 => ?_⟩
  have n := (r.owns a ha).1
  obtain ⟨v, ev, rs⟩ := sr.slot i t h1
  cases t with
  | own ds =>
    obtain ⟨b, us, rfl, q, _⟩ := rs
    rw [h3] at ev; cases ev
    rw [q] at n; cases n
  | dct ls =>
    obtain ⟨b, us, rfl, q, _⟩ := rs
    rw [h3] at ev; cases ev
    rw [q] at n; cases n
  | fr d => cases h2
  | rd d => cases h2
theorem SR.putOwn {ds : List D} {vs : List V} {a : Addr} (r : SR S F0 H0 F env σ H) (i : Nat) (h : H a = some (.lst vs)) (n : H0 a = none) (f : ¬ F a) (rf : FRs S F H ds vs)
    (ap : ∀ (j : Nat) (t : TV), env[j]? = some (some t) → t.isOwn = true → σ[j]? ≠ some (some (.ref a))) : SR S F0 H0 F (env.set i (some (.own ds))) (σ.set i (some (.ref a))) H := by
  refine ⟨by simp [r.len], fun j t e => ?_, fun j l t u b ne e e' o o' q q' => ?_, r.ext, r.wf0⟩
  · by_cases z : j = i
    · subst z
      have hl : j < env.length := by
        have := (List.getElem?_eq_some_iff.mp e).1
        simpa using this
      rw [List.getElem?_set_self hl] at e
      cases e
      exact ⟨.ref a, List.getElem?_set_self (by rw [← r.len]; exact hl), a, vs, rfl, h, n, f, rf⟩
    · rw [List.getElem?_set_ne (Ne.symm z)] at e
      rw [List.getElem?_set_ne (Ne.symm z)]
      exact r.slot j t e
  · have at_i : ∀ (m : Nat) (w : TV), (env.set i (some (.own ds)))[m]? = some (some w) → m = i → (σ.set i (some (.ref a)))[m]? = some (some (.ref a)) := fun m w e z => by
      subst z
      have hl : m < env.length := by
        have := (List.getElem?_eq_some_iff.mp e).1
        simpa using this
      exact List.getElem?_set_self (by rw [← r.len]; exact hl)
    by_cases z : j = i
    · have q2 := at_i j t e z
      rw [q] at q2
      cases q2
      have z' : l ≠ i := fun y => ne (z.trans y.symm)
      rw [List.getElem?_set_ne (Ne.symm z')] at e' q'
      exact ap l u e' o' q'
    · by_cases z' : l = i
      · have q2 := at_i l u e' z'
        rw [q'] at q2
        cases q2
        rw [List.getElem?_set_ne (Ne.symm z)] at e q
        exact ap j t e o q
      · rw [List.getElem?_set_ne (Ne.symm z)] at e q
        rw [List.getElem?_set_ne (Ne.symm z')] at e' q'
        exact r.dist j l t u b ne e e' o o' q q'
theorem SRT.put {t t' : TV} {v : V} {ts : List TV} {vs : List V} {m : Bool} (r : SRT S F0 H0 F env σ H (t :: ts) (v :: vs)) (i : Nat) (h : t.sv m = some t') : ∃ F', SRT S F0 H0 F' (env.set i (some t')) (σ.set i (some v)) H ts vs ∧ Step S F H F' H := by
  obtain ⟨v', r', ev, rv, rvs⟩ := r.rv
  cases ev
  have nd := r.nd
  have ap := r.ap
  cases t with
  | rd ds => cases h
  | dct ls => cases h
  | fr d =>
    cases m with
    | true => cases h
    | false =>
      cases h
      refine ⟨F, ⟨r.sr.put i rv, rvs, by simpa [owns] using nd, fun a ha j u hj ho => ?_⟩, .refl⟩
      by_cases z : j = i
      · subst z
        have hl : j < env.length := by
          have := (List.getElem?_eq_some_iff.mp hj).1
          simpa using this
        rw [List.getElem?_set_self hl] at hj
        cases hj
        cases ho
      · rw [List.getElem?_set_ne (Ne.symm z)] at hj
        rw [List.getElem?_set_ne (Ne.symm z)]
        exact ap a (by simpa [owns] using ha) j u hj ho
  | own ds =>
    obtain ⟨a, us, rfl, q, nv, n, f, rf⟩ := rv
    have nd' : (a :: owns ts vs).Nodup := nd
    have ap' : ∀ b ∈ a :: owns ts vs, ∀ (i : Nat) (t : TV), env[i]? = some (some t) → t.isOwn = true → σ[i]? ≠ some (some (.ref b)) := ap
    cases m with
    | true =>
      cases h
      refine ⟨F, ⟨r.sr.putOwn i q n f rf fun j t h1 h2 => ap' a List.mem_cons_self j t h1 h2, rvs, (List.nodup_cons.mp nd').2, fun b hb j u hj ho => ?_⟩, .refl⟩
      by_cases z : j = i
      · subst z
        have hl : j < env.length := by
          have := (List.getElem?_eq_some_iff.mp hj).1
          simpa using this
        rw [List.getElem?_set_self (by rw [← r.sr.len]; exact hl)]
        intro e
        cases e
        exact (List.nodup_cons.mp nd').1 hb
      · rw [List.getElem?_set_ne (Ne.symm z)] at hj
        rw [List.getElem?_set_ne (Ne.symm z)]
        exact ap' b (List.mem_cons_of_mem _ hb) j u hj ho
    | false =>
      cases h
      have w := r.sr.wf
      have stp : Step S F H (fun b => F b ∨ b = a) H := ⟨fun _ _ q => q, fun b f => ⟨.inl f, rfl⟩⟩
      have w' : WF S (fun b => F b ∨ b = a) H := ⟨w.src, fun b f => f.elim (w.fin b) (fun z => by rw [z, q]; exact fun z => nomatch z), fun b f => f.elim (w.nv b) (fun z => by rw [z]; exact nv)⟩
      have sr1 : SR S F0 H0 (fun b => F b ∨ b = a) env σ H := by
        refine ⟨r.sr.len, fun j u hj => ?_, r.sr.dist, ⟨r.sr.ext.same, fun b f => .inl (r.sr.ext.sub b f), fun b f => f.elim (r.sr.ext.new b) fun z => .inr (by rw [z]; exact n), fun _ => w'⟩, r.sr.wf0⟩
        obtain ⟨x, hx, rs⟩ := r.sr.slot j u hj
        refine ⟨x, hx, ?_⟩
        cases u with
        | fr d => exact FR.sub (fun b f => .inl f) _ _ rs
        | rd d => exact rs.elim
        | own es =>
          obtain ⟨b, ws, rfl, q2, n2, f2, rf2⟩ := rs
          refine ⟨b, ws, rfl, q2, n2, fun z => z.elim f2 fun z => ?_, FRs.sub (fun b f => .inl f) _ _ rf2⟩
          exact ap' a List.mem_cons_self j _ hj rfl (z ▸ hx)
        | dct es =>
          obtain ⟨b, ws, rfl, q2, n2, f2, rf2⟩ := rs
          refine ⟨b, ws, rfl, q2, n2, fun z => z.elim f2 fun z => ?_, rf2⟩
          exact ap' a List.mem_cons_self j _ hj rfl (z ▸ hx)
      have rvs1 : RVs S H0 (fun b => F b ∨ b = a) H ts vs := rvs.more (List.nodup_cons.mp nd').1
      refine ⟨_, ⟨sr1.put i ⟨a, us, rfl, .inr rfl, q, FRs.sub (fun b f => .inl f) _ _ rf⟩, rvs1, (List.nodup_cons.mp nd').2, fun b hb j u hj ho => ?_⟩, stp⟩
      by_cases z : j = i
      · subst z
        have hl : j < env.length := by
          have := (List.getElem?_eq_some_iff.mp hj).1
          simpa using this
        rw [List.getElem?_set_self hl] at hj
        cases hj
        cases ho
      · rw [List.getElem?_set_ne (Ne.symm z)] at hj
        rw [List.getElem?_set_ne (Ne.symm z)]
        exact ap' b (List.mem_cons_of_mem _ hb) j u hj ho
end
end DL
end
section
set_option maxRecDepth 100000
set_option maxHeartbeats 1000000
namespace DL
open PySem PySem.Spec PyProof.Rows L2
variable {X : Cx} {e : Expr} {d : DEx} {pos : Pos}
def dSet (m : Bool) (i : Nat) (d : DEx) : DSt := fun DD env => d env fun t => match t.sv m with
  | some t' => DD.nx (env.set i (some t'))
  | none => False
section
variable {S : Vo} {F F1 F' F0 : Addr → Prop} {H H1 H' H0 : Hp} {env : DEnv} {σ : L2.St}
theorem set_go {m : Bool} {i : Nat} {te : TE} {D : Ends} (he : ∀ σ H Q, liftE d σ H Q → te σ H Q) (hh : liftS (dSet m i d) D σ H) : tAsg te (gName i) D σ H := by
  obtain ⟨S, F0, H0, F, env, DD, sr, p, kn, kr, kb, kc⟩ := hh
  refine he _ _ _ ⟨S, F0, H0, F, env, _, sr, p, fun t v F1 H1 pt e1 r1 => ?_⟩
  have s1 := e1.step sr.wf
  have z : SRT S F0 H0 F1 env σ H1 [t] [v] := .of sr e1 ⟨v, [], rfl, r1, rfl⟩ (by cases t <;> cases v <;> simp [owns])
  split at pt
  · rename_i t' et
    obtain ⟨F2, z2, s2⟩ := z.put i et
    exact kn F2 _ _ H1 pt (s1.trans s2) z2.sr
  · exact pt.elim
end
theorem ds_set (m : Bool) {i : Nat} {x : Str} {pos' : Pos} (hN : X.N.Nodup) (hi : X.N[i]? = some x) (hx : Loc X.env.scope x) (he : DE X e d) (hs : swapsWith e (some (.Name x pos')) pos.line X.env = pure false := by rfl) (hf : X.fn x = true ∨ X.env.scope.names.lookup x = some .local := by first | exact .inl rfl | exact .inr rfl | assumption) :
    DS X (.Assign [.Name x pos'] e pos) (dSet m i d) :=
  ⟨PS.weaken (ps_set hN hi hx he.run hs hf) fun _ _ _ h => set_go (fun _ _ _ h => h) h⟩
theorem ds_setLc (m : Bool) {i : Nat} {y : Str} {py : Pos} {elt tg iter : Expr} {ifs : List Expr} {scope : Scope} {own : List (Str × Nat)} {pos spos : Pos} {di : DIx} {g : DGx} {tt : DTx} {te : DEx} {ns : List Nat} (hc : X.calm = true) (hN : X.N.Nodup) (hy : X.N[i]? = some y) (hyl : X.env.scope.names.lookup y = some .local)
    (hsw : swapsWith (.ListComp elt [⟨tg, iter, ifs, 0⟩] scope pos) (some (.Name y py)) spos.line X.env = pure true) (hi : DI X tg iter false di) (ok : BlkOk X.N X.env.scope scope own)
    (hg : ∀ (s : Shared) (H : Hp) (C : Addr) (cl : List (Str × Addr)) (fp : List Addr), DG (X.blk s H scope (compEnvC scope cl C X.env) fp) tg ns g) (ht : ∀ (s : Shared) (H : Hp) (C : Addr) (cl : List (Str × Addr)) (fp : List Addr), DTs (X.blk s H scope (compEnvC scope cl C X.env) fp) ifs tt)
    (he : ∀ (s : Shared) (H : Hp) (C : Addr) (cl : List (Str × Addr)) (fp : List Addr), DE (X.blk s H scope (compEnvC scope cl C X.env) fp) elt te) (hns : ∀ i ∈ ns, i ∈ own.map (·.2)) (hs : ∀ x, foldedSetIterable iter X.env x = pure x := by intro _; rfl) :
    DS X (.Assign [.Name y py] (.ListComp elt [⟨tg, iter, ifs, 0⟩] scope pos) spos) (dSet m i (dLc di g tt te (own.map (·.2)))) := by
  refine ⟨PS.weaken (ps_setLc hc hN hy hyl hsw hi.run ok (fun s H C cl fp => (hg s H C cl fp).run) (fun s H C cl fp => (ht s H C cl fp).run) (fun s H C cl fp => (he s H C cl fp).run) hs) fun D σ H hh => set_go (fun σ H Q hh => ?_) hh⟩
  obtain ⟨S, F0, H0, F, env, P, sr, p, k⟩ := hh
  refine ⟨S, F0, H0, F, env, _, sr, p, fun ds J F1 H1 St pt e1 wk _ st C hC => ?_⟩
  refine lc_go sr e1 wk st hC hns pt fun ys F' H' us py e' hc' nf rf => ?_
  have w1 := e1.wf sr.wf
  exact k _ _ F' H' py e' ⟨C, us, rfl, hc', w1.vol hC, e1.none_of sr.wf hC, nf, rf⟩
def dAsg (g : DGx) (d : DEx) : DSt := fun DD env => d env fun t => match t.fz with
  | some x => g x env DD.nx
  | none => False
theorem ds_asg {tg : Expr} {ns : List Nat} {g : DGx} (he : DE X e d) (hg : DG X tg ns g) (hs : swapsWithSole [tg] e pos.line X.env = pure false := by rfl) (hw : swappedStores [tg] e X.env = pure none := by rfl)
    (h1 : (assignEach [tg] X.env).map (·.2) = [assign tg X.env] := by rfl) : DS X (.Assign [tg] e pos) (dAsg g d) := by
  refine ⟨PS.weaken (ps_asg he.run hg.run hs hw h1) fun D σ H hh => ?_⟩
  obtain ⟨S, F0, H0, F, env, DD, sr, p, kn, kr, kb, kc⟩ := hh
  refine ⟨S, F0, H0, F, env, _, sr, p, fun t v F1 H1 pt e1 r1 => ?_⟩
  split at pt
  · rename_i x ex
    have rr : RVs S H F1 H1 [t] [v] := ⟨v, [], rfl, r1, rfl⟩
    obtain ⟨F2, e2, f2, sub⟩ := freeze sr.wf e1 rr (by simp [fzs, ex] : fzs [t] = some [x])
    obtain ⟨v', r', ev, f2, _⟩ := f2
    cases ev
    exact ⟨S, F0, H0, F2, env, x, _, sr.step e2, f2, pt, fun env' σ' p' sr' _ => kn F2 env' σ' H1 p' (e2.step sr.wf) sr'⟩
  · exact pt.elim
def dPar2 (m n : Bool) (i j : Nat) (da : DAx) : DSt := fun DD env => da env fun ts => match ts with
  | [t, u] => match t.sv m, u.sv n with
    | some t', some u' => DD.nx ((env.set i (some t')).set j (some u'))
    | _, _ => False
  | _ => False
theorem ds_par2 (m n : Bool) {i j : Nat} {x y : Str} {a b : Expr} {da : DAx} {px py pt : Pos} {kt k2 pt2} (hc : X.calm = true) (hN : X.N.Nodup) (hi : X.N[i]? = some x) (hj : X.N[j]? = some y) (hij : i ≠ j)
    (hx : X.env.scope.names.lookup x = some .local) (hy : X.env.scope.names.lookup y = some .local) (ha : DA X [a, b] da)
    (hw : swappedStores [.Tuple [.Name x px, .Name y py] kt pt] (.Tuple [a, b] k2 pt2) X.env = pure (some [x, y]))
    (hs : swapsWithSole [.Tuple [.Name x px, .Name y py] kt pt] (.Tuple [a, b] k2 pt2) pos.line X.env = pure false := by rfl) :
    DS X (.Assign [.Tuple [.Name x px, .Name y py] kt pt] (.Tuple [a, b] k2 pt2) pos) (dPar2 m n i j da) := by
  refine ⟨PS.weaken (ps_par hc hN hi hj hij hx hy ha.run hw hs) fun D σ H hh => ?_⟩
  obtain ⟨S, F0, H0, F, env, DD, sr, p, kn, kr, kb, kc⟩ := hh
  refine ⟨S, F0, H0, F, env, _, sr, p, fun ts vs F1 H1 pt e1 r1 nd => ?_⟩
  have s1 := e1.step sr.wf
  split at pt
  · rename_i t u
    have z := SRT.of sr e1 r1 nd
    obtain ⟨v, w, rfl, _, _⟩ := r1.two
    split at pt
    · rename_i t' u' et eu
      obtain ⟨F2, z2, s2⟩ := z.put i et
      obtain ⟨F3, z3, s3⟩ := z2.put j eu
      exact ⟨v, w, rfl, kn F3 _ _ H1 pt ((s1.trans s2).trans s3) z3.sr⟩
    · exact pt.elim
  · exact pt.elim
def dPar3 (m n o : Bool) (i j l : Nat) (da : DAx) : DSt := fun DD env => da env fun ts => match ts with
  | [t, u, v] => match t.sv m, u.sv n, v.sv o with
    | some t', some u', some v' => DD.nx (((env.set i (some t')).set j (some u')).set l (some v'))
    | _, _, _ => False
  | _ => False
theorem ds_par3 (m n o : Bool) {i j l : Nat} {x y z : Str} {a b c : Expr} {da : DAx} {px py pz pt : Pos} {kt k2 pt2} (hc : X.calm = true) (hN : X.N.Nodup) (hi : X.N[i]? = some x) (hj : X.N[j]? = some y) (hl : X.N[l]? = some z) (hij : i ≠ j) (hil : i ≠ l) (hjl : j ≠ l)
    (hx : X.env.scope.names.lookup x = some .local) (hy : X.env.scope.names.lookup y = some .local) (hz : X.env.scope.names.lookup z = some .local) (ha : DA X [a, b, c] da)
    (hw : swappedStores [.Tuple [.Name x px, .Name y py, .Name z pz] kt pt] (.Tuple [a, b, c] k2 pt2) X.env = pure (some [x, y, z]))
    (hs : swapsWithSole [.Tuple [.Name x px, .Name y py, .Name z pz] kt pt] (.Tuple [a, b, c] k2 pt2) pos.line X.env = pure false := by rfl) :
    DS X (.Assign [.Tuple [.Name x px, .Name y py, .Name z pz] kt pt] (.Tuple [a, b, c] k2 pt2) pos) (dPar3 m n o i j l da) := by
  refine ⟨PS.weaken (ps_par3 hc hN hi hj hl hij hil hjl hx hy hz ha.run hw hs) fun D σ H hh => ?_⟩
  obtain ⟨S, F0, H0, F, env, DD, sr, p, kn, kr, kb, kc⟩ := hh
  refine ⟨S, F0, H0, F, env, _, sr, p, fun ts vs F1 H1 pt e1 r1 nd => ?_⟩
  have s1 := e1.step sr.wf
  split at pt
  · rename_i t u v
    have z := SRT.of sr e1 r1 nd
    obtain ⟨v1, rr, rfl, _, r2⟩ := r1
    obtain ⟨v2, v3, rfl, _, _⟩ := r2.two
    split at pt
    · rename_i t' u' v' et eu ev
      obtain ⟨F2, z2, s2⟩ := z.put i et
      obtain ⟨F3, z3, s3⟩ := z2.put j eu
      obtain ⟨F4, z4, s4⟩ := z3.put l ev
      exact ⟨v1, v2, v3, rfl, kn F4 _ _ H1 pt (((s1.trans s2).trans s3).trans s4) z4.sr⟩
    · exact pt.elim
  · exact pt.elim
def dAug (i : Nat) (f : Int → Int → Int) (d : DEx) : DSt := fun DD env => match env[i]? with
  | some (some (.fr (.int a))) => d env fun t => match t with
    | .fr (.int b) => DD.nx (env.set i (some (.fr (.int (f a b)))))
    | _ => False
  | _ => False
theorem ds_aug {i : Nat} {x : Str} {op : Operator} {f : Int → Int → Int} {pos' : Pos} (hN : X.N.Nodup) (hi : X.N[i]? = some x) (hx : Loc X.env.scope x) (he : DE X e d) (ho : PIp X op (ipI f)) (hf : X.fn x = true ∨ X.env.scope.names.lookup x = some .local := by first | exact .inl rfl | exact .inr rfl | assumption) :
    DS X (.AugAssign (.Name x pos') op e pos) (dAug i f d) := by
  refine ⟨PS.weaken (ps_aug hN hi hx he.run ho hf) fun D σ H hh => ?_⟩
  obtain ⟨S, F0, H0, F, env, DD, sr, p, kn, kr, kb, kc⟩ := hh
  unfold dAug at p
  split at p
  · rename_i a ea
    obtain ⟨v, ev, r⟩ := sr.slot i _ ea
    cases r
    refine ⟨.int a, ev, S, F0, H0, F, env, _, sr, p, fun t v F1 H1 pt e1 r1 => ?_⟩
    split at pt
    · cases r1
      exact ⟨a, _, rfl, rfl, kn F1 _ _ H1 pt (e1.step sr.wf) ((sr.step e1).put i rfl)⟩
    · exact pt.elim
  · exact p.elim
section
variable {S : Vo} {F F1 F' F0 : Addr → Prop} {H H1 H' H0 : Hp} {env : DEnv} {σ : L2.St}
theorem SR.change {ds es : List D} {us ws : List V} {a : Addr} {i : Nat} (r : SR S F0 H0 F env σ H) (he : env[i]? = some (some (.own ds))) (hs : σ[i]? = some (some (.ref a))) (h : H a = some (.lst us)) (rf : FRs S F H es ws) :
    SR S F0 H0 F (env.set i (some (.own es))) σ (upd H a (.lst ws)) ∧ Step S F H F (upd H a (.lst ws)) := by
  obtain ⟨v, hv, b, us', e, q, n, f, _⟩ := r.slot i _ he
  rw [hs] at hv
  cases hv
  cases e
  have w := r.wf
  have nv := r.wf0.vol n
  have stp : Step S F H F (upd H a (.lst ws)) := ⟨fun b vs q' => by
    have : b ≠ a := fun z => by rw [z, q] at q'; cases q'
    rw [upd_ne this]; exact q', fun b f' => ⟨f', by
    have : b ≠ a := fun z => f (z ▸ f')
    rw [upd_ne this]⟩⟩
  have wn : WF S F (upd H a (.lst ws)) := by
    refine ⟨fun sd sc q' => ?_, fun b f' => by rw [(stp.fix b f').2]; exact w.fin b f', w.nv⟩
    obtain ⟨c, l, m, t, h1, h2, h3⟩ := w.src sd sc q'
    have n1 : sd ≠ a := fun z => nv ⟨sd, sc, q', .inl z.symm⟩
    have n2 : sc ≠ a := fun z => nv ⟨sd, sc, q', .inr z.symm⟩
    exact ⟨c, l, m, t, by rw [upd_ne n1]; exact h1, by rw [upd_ne n2]; exact h2, h3⟩
  refine ⟨⟨by simp [r.len], fun j t hj => ?_, fun j l t u c ne e e' o o' q1 q2 => ?_, ⟨fun b o nb q' => ?_, r.ext.sub, r.ext.new, fun _ => wn⟩, r.wf0⟩, stp⟩
  · by_cases z : j = i
    · subst z
      have hl : j < env.length := by
        have := (List.getElem?_eq_some_iff.mp hj).1
        simpa using this
      rw [List.getElem?_set_self hl] at hj
      cases hj
      exact ⟨.ref a, hs, a, ws, rfl, upd_same, n, f, FRs.step stp _ _ rf⟩
    · rw [List.getElem?_set_ne (Ne.symm z)] at hj
      obtain ⟨x, hx, rs⟩ := r.slot j t hj
      refine ⟨x, hx, ?_⟩
      cases t with
      | fr d => exact FR.step stp _ _ rs
      | rd d => exact rs.elim
      | own d =>
        obtain ⟨c, vs, rfl, q2, n2, f2, rf2⟩ := rs
        have : c ≠ a := fun y => r.dist i j _ _ a (Ne.symm z) he hj rfl rfl hs (y ▸ hx)
        exact ⟨c, vs, rfl, by rw [upd_ne this]; exact q2, n2, f2, FRs.step stp _ _ rf2⟩
      | dct ls =>
        obtain ⟨c, vs, rfl, q2, n2, f2, rf2⟩ := rs
        have : c ≠ a := fun y => r.dist i j _ _ a (Ne.symm z) he hj rfl rfl hs (y ▸ hx)
        exact ⟨c, vs, rfl, by rw [upd_ne this]; exact q2, n2, f2, rf2⟩
  · have key : ∀ (m : Nat) (w : TV), (env.set i (some (.own es)))[m]? = some (some w) → w.isOwn = true → ∃ w', env[m]? = some (some w') ∧ w'.isOwn = true := fun m w e o => by
      by_cases z : m = i
      · subst z; exact ⟨_, he, rfl⟩
      · rw [List.getElem?_set_ne (Ne.symm z)] at e
        exact ⟨w, e, o⟩
    obtain ⟨t', k1, k2⟩ := key j t e o
    obtain ⟨u', k3, k4⟩ := key l u e' o'
    exact r.dist j l t' u' c ne k1 k3 k2 k4 q1 q2
  · have : b ≠ a := fun z => by rw [z, n] at q'; cases q'
    rw [upd_ne this]; exact r.ext.same b o nb q'
end
def dMeth (i : Nat) (da : DAx) (f : List D → List D → Option (List D)) : DSt := fun DD env => match env[i]? with
  | some (some (.own ds)) => da env fun ts => ∃ xs es, fzs ts = some xs ∧ f ds xs = some es ∧ es.length ≤ sizeLine ∧ DD.nx (env.set i (some (.own es)))
  | _ => False
def MethD (f : List D → List D → Option (List D)) (r : V → List V → Hp → VK → Prop) : Prop :=
  ∀ (S : Vo) (F : Addr → Prop) (H : Hp) (a : Addr) (us vs : List V) (ds xs es : List D) (Q : VK), H a = some (.lst us) → FRs S F H ds us → FRs S F H xs vs → WF S F H → f ds xs = some es → es.length ≤ sizeLine →
    (∀ ws v, FRs S F H es ws → Q v (upd H a (.lst ws))) → r (.ref a) vs H Q
theorem ds_meth {f : List D → List D → Option (List D)} {r : V → List V → Hp → VK → Prop} {i : Nat} {x m : Str} {name : Str} {id : String} {p apos cpos : Pos} {es : List Expr} {da : DAx} (hr : MethD f r)
    (hN : X.N[i]? = some x) (hv : Vis X.env.scope x) (hd : (x == ("__debug__" : Str)) = false) (hcd : (x == ("__classdict__" : Str)) = false) (ha : DA X es da)
    (hm : ∀ {ta : TA}, PA X es ta → PE X (.Call (.Attribute (.Name x p) m apos) es [] cpos) (tBM X.K "list" r (tVar i) ta))
    (hs : swapsWith (.Call (.Attribute (.Name x p) m apos) es [] cpos) none pos.line X.env = pure false := by rfl) : DS X (.Expr (.Call (.Attribute (.Name x p) m apos) es [] cpos) pos) (dMeth i da f) := by
  refine ⟨PS.weaken (ps_expr (hm ha.run) hs) fun D σ H hh => ?_⟩
  obtain ⟨S, F0, H0, F, env, DD, sr, p, kn, kr, kb, kc⟩ := hh
  unfold dMeth at p
  split at p
  · rename_i ds he
    obtain ⟨v, hv, a, us, rfl, q, n, nf, rf⟩ := sr.slot i _ he
    refine ⟨.ref a, hv, .inl ⟨rfl, us, .of q⟩, S, F0, H0, F, env, _, sr, p, fun ts vs F1 H1 pt e1 r1 nd => ?_⟩
    obtain ⟨xs, es, hz, hf, hl, pt⟩ := pt
    obtain ⟨F2, e2, f2, sub⟩ := freeze sr.wf e1 r1 hz
    have sr2 := sr.step e2
    obtain ⟨v2, hv2, a2, us2, e3, q2, n2, nf2, rf2⟩ := sr2.slot i _ he
    rw [hv] at hv2
    cases hv2
    cases e3
    refine hr S F2 H1 a us2 vs ds xs es _ q2 rf2 f2 sr2.wf hf hl fun ws v rw' => ?_
    obtain ⟨sr3, s3⟩ := sr2.change he hv q2 rw'
    exact kn F2 _ _ _ pt ((e2.step sr.wf).trans s3) sr3
  · exact p.elim
def fApp : List D → List D → Option (List D) := fun ds xs => match xs with
  | [x] => some (ds ++ [x])
  | _ => none
theorem FRs.oneV {S : Vo} {F : Addr → Prop} {H : Hp} {d : D} {vs : List V} (h : FRs S F H [d] vs) : ∃ v, vs = [v] ∧ FR S F H d v := by
  obtain ⟨v, r, rfl, h1, h2⟩ := h
  cases h2
  exact ⟨v, rfl, h1⟩
theorem FRs.twoV {S : Vo} {F : Addr → Prop} {H : Hp} {d d' : D} {vs : List V} (h : FRs S F H [d, d'] vs) : ∃ v w, vs = [v, w] ∧ FR S F H d v ∧ FR S F H d' w := by
  obtain ⟨v, r, rfl, h1, h2⟩ := h
  obtain ⟨w, rfl, h3⟩ := h2.oneV
  exact ⟨v, w, rfl, h1, h3⟩
theorem md_app : MethD fApp rAppend := by
  intro S F H a us vs ds xs es Q h rf rx w hf hl k
  unfold fApp at hf
  split at hf
  · cases hf
    obtain ⟨v, rfl, rv⟩ := rx.oneV
    refine ⟨a, us, v, rfl, rfl, h, ?_, k _ _ (rf.append ⟨v, [], rfl, rv, rfl⟩)⟩
    rw [rf.length]
    simp at hl; omega
  · cases hf
def fIns : List D → List D → Option (List D) := fun ds xs => match xs with
  | [.int i, x] => if 0 ≤ i ∧ i < 2 ^ 63 then some (ds.take i.toNat ++ [x] ++ ds.drop i.toNat) else none
  | _ => none
theorem md_ins : MethD fIns (fun x vs H Q => ∃ (l : Addr) (xs : List V) (i : Int) (y : V), x = .ref l ∧ vs = [.int i, y] ∧ H l = some (.lst xs) ∧ xs.length < sizeLine ∧ 0 ≤ i ∧ i < 2 ^ 63 ∧ Q .non (upd H l (.lst (xs.take i.toNat ++ [y] ++ xs.drop i.toNat)))) := by
  intro S F H a us vs ds xs es Q h rf rx w hf hl k
  unfold fIns at hf
  split at hf
  · rename_i i x
    split at hf
    · rename_i hi
      cases hf
      obtain ⟨v, w, rfl, rv, rw'⟩ := rx.twoV
      cases rv
      refine ⟨a, us, i, w, rfl, rfl, h, ?_, hi.1, hi.2, k _ _ (((rf.take _).append (show FRs S F H [x] [w] from ⟨w, [], rfl, rw', rfl⟩)).append (rf.drop _))⟩
      rw [rf.length]
      simp at hl; omega
    · cases hf
  · cases hf
def dWhile (c : DTx) (b : DSt) : DSt := fun DD env => ∃ W : Nat → DEnv → Prop, (∃ m, W m env) ∧ ∀ m env, W m env →
  c env fun k => if k = true then b { DD with nx := fun env' => ∃ m', m' < m ∧ W m' env', ct := fun env' => ∃ m', m' < m ∧ W m' env', bk := DD.nx } env else DD.nx env
theorem ds_while {c : Expr} {body : List Stmt} {dc : DTx} {b : DSt} (hp : PassesOwn (model X.prog X.w) X.A X.env X.xe) (hc : DT X c dc) (hb : DSs X body b) : DS X (.While c body [] pos) (dWhile dc b) := by
  refine ⟨PS.weaken (ps_while hp hc.run hb.run) fun D σ H hh => ?_⟩
  obtain ⟨S, F0, H0, F, env, DD, sr, ⟨W, ⟨m0, w0⟩, turn⟩, kn, kr, kb, kc⟩ := hh
  refine ⟨fun m σ' H' => ∃ F' env', SR S F0 H0 F' env' σ' H' ∧ Step S F H F' H' ∧ W m env', ⟨m0, F, env, sr, .refl, w0⟩, ?_⟩
  rintro m σ' H' ⟨F', env', sr', s', w'⟩
  refine ⟨S, F0, H0, F', env', _, sr', turn m env' w', fun k F1 H1 pk e1 => ?_⟩
  have s1 := s'.trans (e1.step sr'.wf)
  cases k with
  | false =>
    simp only [Bool.false_eq_true, if_false] at pk ⊢
    exact kn F1 env' σ' H1 pk s1 (sr'.step e1)
  | true =>
    simp only [if_true] at pk ⊢
    refine ⟨fun σ2 H2 => ∃ F2 env2, SR S F0 H0 F2 env2 σ2 H2 ∧ Step S F H F2 H2 ∧ ∃ m', m' < m ∧ W m' env2, fun σ2 H2 ⟨F2, env2, sr2, s2, m', hm, w2⟩ => ⟨m', hm, F2, env2, sr2, s2, w2⟩, ?_⟩
    exact ⟨S, F0, H0, F1, env', _, sr'.step e1, pk, fun F2 env2 σ2 H2 p2 s2 sr2 => ⟨F2, env2, sr2, s1.trans s2, p2⟩, kr, fun F2 env2 σ2 H2 p2 s2 sr2 => kn F2 env2 σ2 H2 p2 (s1.trans s2) sr2, fun F2 env2 σ2 H2 p2 s2 sr2 => ⟨F2, env2, sr2, s1.trans s2, p2⟩⟩
def forL (g : DGx) (b : DSt) (DD : DEnds) : List D → DEnv → Prop
  | [], env => DD.nx env
  | x :: xs, env => g x env fun env' => b { DD with nx := fun env'' => forL g b DD xs env'', ct := fun env'' => forL g b DD xs env'', bk := DD.nx } env'
def dFor (di : DIx) (g : DGx) (b : DSt) : DSt := fun DD env => di env fun xs => forL g b DD xs env
theorem ds_for {tg iter : Expr} {body : List Stmt} {di : DIx} {g : DGx} {b : DSt} {ns : List Nat} (hp : PassesOwn (model X.prog X.w) X.A X.env X.xe) (hc : X.calm = true) (hi : DI X tg iter true di) (hg : DG X tg ns g) (hb : DSs X body b)
    (hs : ∀ x, foldedSetIterable iter X.env x = pure x := by intro _; rfl) : DS X (.For tg iter body [] pos) (dFor di g b) := by
  refine ⟨PS.weaken (ps_for hp hc hi.run hg.run hb.run hs) fun D σ H hh => ?_⟩
  obtain ⟨S, F0, H0, F, env, DD, sr, p, kn, kr, kb, kc⟩ := hh
  refine ⟨S, F0, H0, F, env, _, sr, p, fun xs J F1 H1 St pt e1 wk ks st => ?_⟩
  have s1 := e1.step sr.wf
  refine ⟨fun i m σ' H' => ∃ F' env', m = xs.length - i ∧ i ≤ xs.length ∧ SR S F0 H0 F' env' σ' H' ∧ Step S F H F' H' ∧ St F' H' ∧ forL g b DD (xs.drop i) env',
    ⟨_, F1, env, rfl, Nat.zero_le _, sr.step e1, s1, st, pt⟩, ?_⟩
  rintro i m σ' H' ⟨F', env', rfl, hi', sr', s', st', p'⟩
  by_cases hlt : i < xs.length
  · refine .inr ⟨wk.go i F' H' sr'.wf st' hlt, fun σ2 H2 => ∃ F2 env2, SR S F0 H0 F2 env2 σ2 H2 ∧ Step S F H F2 H2 ∧ St F2 H2 ∧ forL g b DD (xs.drop (i + 1)) env2,
      fun σ2 H2 ⟨F2, env2, sr2, s2, st2, p2⟩ => ⟨xs.length - (i + 1), by omega, F2, env2, rfl, hlt, sr2, s2, st2, p2⟩, fun x H2 y => ?_⟩
    obtain ⟨e2, fx⟩ := wk.yld i F' H' x H2 sr'.wf st' y _ (List.getElem?_eq_getElem hlt)
    rw [List.drop_eq_getElem_cons hlt] at p'
    have st2 := wk.keepE _ _ _ _ sr'.wf st' e2
    have s2 := s'.trans (e2.step sr'.wf)
    have ks := ks rfl
    refine ⟨S, F0, H0, F', env', xs[i], _, sr'.step e2, fx, p', fun env3 σ3 p3 sr3 _ => ?_⟩
    exact ⟨S, F0, H0, F', env3, _, sr3, p3, fun F4 env4 σ4 H4 p4 s4 sr4 => ⟨F4, env4, sr4, s2.trans s4, ks _ _ _ _ st2 s4, p4⟩, kr, fun F4 env4 σ4 H4 p4 s4 sr4 => kn F4 env4 σ4 H4 p4 (s2.trans s4) sr4, fun F4 env4 σ4 H4 p4 s4 sr4 => ⟨F4, env4, sr4, s2.trans s4, ks _ _ _ _ st2 s4, p4⟩⟩
  · have ei : i = xs.length := by omega
    subst ei
    rw [List.drop_length] at p'
    exact .inl ⟨wk.stop F' H' sr'.wf st', kn F' env' σ' H' p' s' sr'⟩
def startE (n : Nat) (ds : List D) : DEnv := ds.map (fun d => some (.fr d)) ++ List.replicate (n - ds.length) none
def TV.lf : TV → Bool
  | .fr d => DL.lf d
  | .own ds => DL.lf.lfs ds
  | .rd _ => false
  | .dct _ => false
theorem ARs.length {S : Vo} {F : Addr → Prop} {H : Hp} : ∀ {ds : List D} {vs : List V}, ARs S F H ds vs → vs.length = ds.length
  | [], _, h => by cases h; rfl
  | d :: ds, _, h => by
    obtain ⟨v, r, rfl, _, h2⟩ := h
    simp [h2.length]
def argL : List D → List V → List Addr
  | .list _ :: ds, .ref a :: vs => a :: argL ds vs
  | _ :: ds, _ :: vs => argL ds vs
  | _, _ => []
theorem ARs.fix {S : Vo} {F F' : Addr → Prop} {H : Hp} (h : ∀ a, F a → F' a) : ∀ {ds : List D} {vs : List V}, (∀ a ∈ argL ds vs, F' a) → ARs S F H ds vs → FRs S F' H ds vs
  | [], _, _, r => r
  | d :: ds, _, hm, r => by
    obtain ⟨v, rr, rfl, r1, r2⟩ := r
    rcases r1 with r1 | ⟨es, a, us, rfl, rfl, q, nv, rf⟩
    · refine ⟨v, rr, rfl, FR.sub h _ _ r1, ARs.fix h (fun a ha => hm a ?_) r2⟩
      cases d <;> cases v <;> first | exact ha | exact List.mem_cons_of_mem _ ha
    · exact ⟨_, rr, rfl, ⟨a, us, rfl, hm a List.mem_cons_self, q, FRs.sub h _ _ rf⟩, ARs.fix h (fun b hb => hm b (List.mem_cons_of_mem _ hb)) r2⟩
theorem ARs.lists {S : Vo} {F : Addr → Prop} {H : Hp} : ∀ {ds : List D} {vs : List V}, WF S F H → ARs S F H ds vs → ∀ a ∈ argL ds vs, H a ≠ none ∧ ¬ Vol S a
  | [], _, _, r, a, ha => by cases r; simp [argL] at ha
  | d :: ds, _, w, r, a, ha => by
    obtain ⟨v, rr, rfl, r1, r2⟩ := r
    rcases r1 with r1 | ⟨es, b, us, rfl, rfl, q, nv, rf⟩
    · cases d with
      | list es =>
        obtain ⟨b, us, rfl, f, q, _⟩ := r1
        have ha : a ∈ b :: argL ds rr := ha
        rcases List.mem_cons.mp ha with z | ha
        · subst z; exact ⟨(by rw [q]; exact fun z => nomatch z), w.nv _ f⟩
        · exact r2.lists w a ha
      | _ => exact r2.lists w a (by cases v <;> exact ha)
    · have ha : a ∈ b :: argL ds rr := ha
      rcases List.mem_cons.mp ha with z | ha
      · subst z; exact ⟨(by rw [q]; exact fun z => nomatch z), nv⟩
      · exact r2.lists w a ha
theorem SR.start {S : Vo} {F : Addr → Prop} {H : Hp} {ds : List D} {vs : List V} {N : List Str} (w : WF S F H) (r : FRs S F H ds vs) : SR S F H F (startE N.length ds) (L2.start N vs) H := by
  have hl := r.length
  refine ⟨by simp [startE, L2.start, hl], fun i t h => ?_, fun i j t u a ne h h' o o' => ?_, .refl, w⟩
  · unfold startE at h
    by_cases hi : i < ds.length
    · rw [List.getElem?_append_left (by simpa using hi), List.getElem?_map] at h
      cases q : ds[i]? with
      | none => rw [q] at h; cases h
      | some d =>
        rw [q] at h
        cases h
        obtain ⟨v, hv, rv⟩ := r.get q
        refine ⟨v, ?_, rv⟩
        unfold L2.start
        rw [List.getElem?_append_left (by simp [hl]; exact hi), List.getElem?_map, hv]; rfl
    · rw [List.getElem?_append_right (by simpa using hi), List.getElem?_replicate] at h
      split at h <;> cases h
  · unfold startE at h
    by_cases hi : i < ds.length
    · rw [List.getElem?_append_left (by simpa using hi), List.getElem?_map] at h
      cases q : ds[i]? with
      | none => rw [q] at h; cases h
      | some d => rw [q] at h; cases h; cases o
    · rw [List.getElem?_append_right (by simpa using hi), List.getElem?_replicate] at h
      split at h <;> cases h
structure SemA (C : DC) (n np : Nat) (d : DSt) : Prop where
  len : ∀ ds P, C ds P → ds.length = np
  sem : ∀ ds P, C ds P → d { nx := fun _ => P (.fr .none), rt := fun t => t.lf = true ∧ P t } (startE n ds)
structure SemB (C : DC) (n np : Nat) (d : DSt) : Prop where
  len : ∀ ds P, C ds P → ds.length = np
  nol : ∀ ds P, C ds P → lf.lfs ds = true
  sem : ∀ ds P, C ds P → d { nx := fun _ => P (.fr .none), rt := P } (startE n ds)
theorem ARs.lf {S : Vo} {F : Addr → Prop} {H : Hp} : ∀ {ds : List D} {vs : List V}, lf.lfs ds = true → ARs S F H ds vs → FRs S F H ds vs
  | [], _, _, r => r
  | d :: ds, _, l, r => by
    obtain ⟨v, rr, rfl, r1, r2⟩ := r
    have l : (DL.lf d && DL.lf.lfs ds) = true := l
    rw [Bool.and_eq_true] at l
    rcases r1 with r1 | ⟨es, a, us, rfl, _⟩
    · exact ⟨v, rr, rfl, r1, ARs.lf l.2 r2⟩
    · cases l.1
section
variable {P : Program} {w : World} {K : PySem.W.Frag} {mg : Str → Option Value} {base : Heap} {x qual : Str} {params : Arguments} {body : List Stmt} {scope : Scope} {f : Addr} {fd : FuncData} {N ps : List Str} {k : Nat} {C : DC} {d : DSt}
theorem dfnA (F : FunD K x qual params body scope [] [] f fd) (S : FnScope N ps scope) (sem : SemA C N.length ps.length d)
    (hbody : ∀ (cdv : Value) (A : Around) (outer : List Env) (s : Shared) (H : Hp) (E : XK), Room k (A.deeper (envOfC qual scope s.heap.objs.size f cdv)) → DSs (cxOf CX0 P w K mg base N qual scope f cdv A outer s H E).nox body d) :
    FnOk P w K mg base CX0 (k + 1) f fd ps (liftSp C) := by
  refine F.ok S (fun vs H Q E h => ?_) (fun cdv A outer s H vs Q E hr h => ⟨liftS d, PSs.nox (hbody cdv A outer s H E hr).run, ?_⟩)
  · obtain ⟨S', F', ds, P', w, ar, c, _⟩ := h
    rw [ar.length, sem.len ds P' c]
  · obtain ⟨S', F', ds, P', w, ar, c, kq⟩ := h
    have L := ar.lists w
    let F1 : Addr → Prop := fun a => F' a ∨ a ∈ argL ds vs
    have w1 : WF S' F1 H := ⟨w.src, fun a f => f.elim (w.fin a) fun m => (L a m).1, fun a f => f.elim (w.nv a) fun m => (L a m).2⟩
    have fr := ar.fix (F' := F1) (fun a f => .inl f) fun a m => .inr m
    have out : ∀ (t : TV) (v : V) (F2 : Addr → Prop) (H2 : Hp), (t.lf = true ∧ P' t) → Ext S' F1 H F2 H2 → RV S' H F2 H2 t v → Q v H2 := by
      intro t v F2 H2 ⟨hl, pt⟩ e2 r2
      let F3 : Addr → Prop := fun a => F' a
      have e3 : Ext S' F' H F' H2 := ⟨e2.same, fun a f => f, fun a f => .inl f, fun w => ⟨(e2.wf w1).src, fun a f => (e2.wf w1).fin a (e2.sub a (.inl f)), w.nv⟩⟩
      refine kq t v F' H2 pt e3 ?_
      cases t with
      | fr d => exact FR.lf d v hl r2
      | rd d => cases hl
      | dct ls => cases hl
      | own d =>
        obtain ⟨a, us, rfl, q, nv, n, nf, rf⟩ := r2
        exact ⟨a, us, rfl, q, nv, n, fun z => nf (e2.sub a (.inl z)), FRs.lf d us hl rf⟩
    refine ⟨S', F1, H, F1, _, _, SR.start w1 fr, sem.sem ds P' c, fun F2 env' σ' H2 p2 s2 sr2 => ?_, fun t v F2 H2 pt e2 r2 => out t v F2 H2 pt e2 r2, fun _ _ _ _ z => z.elim, fun _ _ _ _ z => z.elim⟩
    exact out (.fr .none) .non F2 H2 ⟨rfl, p2⟩ sr2.ext rfl
theorem dfnB (F : FunD K x qual params body scope [] [] f fd) (S : FnScope N ps scope) (sem : SemB C N.length ps.length d)
    (hbody : ∀ (cdv : Value) (A : Around) (outer : List Env) (s : Shared) (H : Hp) (E : XK), Room k (A.deeper (envOfC qual scope s.heap.objs.size f cdv)) → DSs (cxOf CX0 P w K mg base N qual scope f cdv A outer s H E).nox body d) :
    FnOk P w K mg base CX0 (k + 1) f fd ps (liftSp C) := by
  refine F.ok S (fun vs H Q E h => ?_) (fun cdv A outer s H vs Q E hr h => ⟨liftS d, PSs.nox (hbody cdv A outer s H E hr).run, ?_⟩)
  · obtain ⟨S', F', ds, P', w, ar, c, _⟩ := h
    rw [ar.length, sem.len ds P' c]
  · obtain ⟨S', F', ds, P', w, ar, c, kq⟩ := h
    exact ⟨S', F', H, F', _, _, SR.start w (ar.lf (sem.nol ds P' c)), sem.sem ds P' c, fun F2 env' σ' H2 p2 s2 sr2 => kq (.fr .none) .non F2 H2 p2 sr2.ext rfl, fun t v F2 H2 pt e2 r2 => kq t v F2 H2 pt e2 r2, fun _ _ _ _ z => z.elim, fun _ _ _ _ z => z.elim⟩
end
end DL
end
section
set_option maxRecDepth 100000
set_option maxHeartbeats 1000000
namespace DL
open PySem PySem.Spec PyProof.Rows L2
local macro_rules | `(tactic| walk_at "ev") => `(tactic| simp only [dSeq, dNext, dRet, dRetVar, dRetN, dIfS, dSet, dAsg, dPar2, dPar3, dAug, dMeth, dVar, dC, dBin, dUn, dChain, dTest, dAnd, dOr, dNot, dAndV, dOrV, dNotV, dIf, dNil, dCons, dTup, dLst, dCB, dCall, dItems, dItemsF, dFor, dLc, dYes,
  oI, oIC, oIB, oNeg, oAdd, oIsN, oNotN, oIx, cLen, cTuple, cList, cAbs, cInt, TV.view, TV.fz, TV.sv, TV.items, TV.fixd, TV.asD, TV.isN, TV.res, TV.isOwn, TV.isDct, fzs, frz, startE, wipeE,
  List.map_cons, List.map_nil, List.length_cons, List.length_nil, List.cons_append, List.nil_append, List.getElem?_cons_succ, List.getElem?_cons_zero, List.set_cons_succ, List.set_cons_zero, List.replicate, Nat.reduceAdd, Nat.reduceSub, Nat.zero_add,
  Option.some.injEq, exists_eq_left', exists_eq_left, exists_and_left, TV.fr.injEq, PyData.bool.injEq, PyData.int.injEq, dgN, dgNil, dgCons, dgT, true_and, and_true, reduceCtorEq, false_and, and_false, ↓reduceIte, if_true, if_false, Bool.not_true, Bool.not_false, decide_eq_true_eq, Bool.false_eq_true])
def encQ (x : Rat) : D := .tuple [.int x.num, .int (x.den : Int)]
theorem encQ_inj {x y : Rat} (h : encQ x = encQ y) : x = y := by
  unfold encQ at h
  simp only [PyData.tuple.injEq, List.cons.injEq, PyData.int.injEq, and_true] at h
  exact Rat.ext h.1 (by omega)
def B (k : Nat) (x : Rat) : Prop := x.num.natAbs < 2 ^ k ∧ x.den < 2 ^ k
theorem B.mono {j k : Nat} {x : Rat} (h : B j x) (l : j ≤ k) : B k x :=
  ⟨Nat.lt_of_lt_of_le h.1 (Nat.pow_le_pow_right (by decide) l), Nat.lt_of_lt_of_le h.2 (Nat.pow_le_pow_right (by decide) l)⟩
theorem B.of_div {k : Nat} {u e : Int} (he : e ≠ 0) (h1 : u.natAbs < 2 ^ k) (h2 : e.natAbs < 2 ^ k) : B k (Rat.divInt u e) := by
  have hg : 0 < Int.gcd e u := Int.gcd_pos_of_ne_zero_left u he
  refine ⟨?_, ?_⟩
  · rw [Rat.num_divInt]
    have hd : ((e.gcd u : Nat) : Int) ∣ e.sign * u := Int.dvd_mul_of_dvd_right (Int.gcd_dvd_right ..)
    have : (e.sign * u / ((e.gcd u : Nat) : Int)).natAbs ≤ (e.sign * u).natAbs := by
      rw [Int.natAbs_ediv_of_dvd hd]
      exact Nat.div_le_self _ _
    have hs : (e.sign * u).natAbs = u.natAbs := by
      rw [Int.natAbs_mul, Int.natAbs_sign_of_ne_zero he, Nat.one_mul]
    omega
  · rw [Rat.den_divInt, if_neg he]
    exact Nat.lt_of_le_of_lt (Nat.div_le_self _ _) h2
theorem pow_pos2 (k : Nat) : 0 < 2 ^ k := Nat.pow_pos (by decide)
theorem mul_lt2 {a b j k : Nat} (h : a < 2 ^ j) (h' : b < 2 ^ k) : a * b < 2 ^ (j + k) := by
  rw [Nat.pow_add]
  exact Nat.mul_lt_mul'' h h'
theorem B.add {j k : Nat} {x y : Rat} (hx : B j x) (hy : B k y) : B (j + k + 1) (x + y) := by
  have e : x + y = Rat.divInt (x.num * y.den + y.num * x.den) (x.den * y.den) := by
    rw [← Rat.divInt_add_divInt _ _ (by have := x.den_nz; omega) (by have := y.den_nz; omega), Rat.num_divInt_den, Rat.num_divInt_den]
  have hx0 := x.den_nz
  have hy0 := y.den_nz
  rw [e]
  refine .of_div (Int.mul_ne_zero (by omega) (by omega)) ?_ ?_
  · have h1 : (x.num * (y.den : Int)).natAbs < 2 ^ (j + k) := by rw [Int.natAbs_mul]; exact mul_lt2 hx.1 (by simpa using hy.2)
    have h2 : (y.num * (x.den : Int)).natAbs < 2 ^ (j + k) := by rw [Int.natAbs_mul, Nat.add_comm j k]; exact mul_lt2 hy.1 (by simpa using hx.2)
    rw [Nat.pow_succ]
    omega
  · rw [Int.natAbs_mul]
    refine Nat.lt_of_lt_of_le (mul_lt2 (j := j) (k := k) (by simpa using hx.2) (by simpa using hy.2)) (Nat.pow_le_pow_right (by decide) (Nat.le_succ _))
theorem B.neg {k : Nat} {x : Rat} (h : B k x) : B k (-x) := by
  refine ⟨?_, ?_⟩
  · rw [Rat.neg_num, Int.natAbs_neg]; exact h.1
  · rw [Rat.neg_den]; exact h.2
theorem B.sub {j k : Nat} {x y : Rat} (hx : B j x) (hy : B k y) : B (j + k + 1) (x - y) := by
  rw [Rat.sub_eq_add_neg]
  exact hx.add hy.neg
theorem rat_mul_eq (x y : Rat) : x * y = Rat.divInt (x.num * y.num) (x.den * y.den) := by
  rw [← Rat.divInt_mul_divInt, Rat.num_divInt_den, Rat.num_divInt_den]
theorem B.mul {j k : Nat} {x y : Rat} (hx : B j x) (hy : B k y) : B (j + k) (x * y) := by
  have hx0 := x.den_nz
  have hy0 := y.den_nz
  rw [rat_mul_eq]
  refine .of_div (Int.mul_ne_zero (by omega) (by omega)) ?_ ?_
  · rw [Int.natAbs_mul]; exact mul_lt2 hx.1 hy.1
  · rw [Int.natAbs_mul]; exact mul_lt2 (by simpa using hx.2) (by simpa using hy.2)
theorem rat_div_eq (x y : Rat) : x / y = Rat.divInt (x.num * y.den) (x.den * y.num) := by
  rw [Rat.divInt_eq_div]
  have hx0 := x.den_nz
  have hy0 := y.den_nz
  have e1 : x = (x.num : Rat) / (x.den : Rat) := by
    have := Rat.num_divInt_den x
    rw [Rat.divInt_eq_div] at this
    rw [Rat.intCast_natCast] at this
    exact this.symm
  have e2 : y = (y.num : Rat) / (y.den : Rat) := by
    have := Rat.num_divInt_den y
    rw [Rat.divInt_eq_div] at this
    rw [Rat.intCast_natCast] at this
    exact this.symm
  have d1 : (x.den : Rat) ≠ 0 := by
    intro h
    exact hx0 (by exact_mod_cast h)
  have d2 : (y.den : Rat) ≠ 0 := by
    intro h
    exact hy0 (by exact_mod_cast h)
  rw [Rat.intCast_mul, Rat.intCast_mul, Rat.intCast_natCast, Rat.intCast_natCast]
  by_cases hn : (y.num : Rat) = 0
  · have : y = 0 := by rw [e2, hn]; grind
    rw [this]
    have hn' : ((0 : Rat).num : Rat) = 0 := by simp
    rw [hn']
    grind
  · generalize (y.num : Rat) = yn at *
    generalize (y.den : Rat) = yd at *
    generalize (x.num : Rat) = xn at *
    generalize (x.den : Rat) = xd at *
    subst e1 e2
    grind
theorem B.div {j k : Nat} {x y : Rat} (hx : B j x) (hy : B k y) : B (j + k) (x / y) := by
  have hx0 := x.den_nz
  have hy0 := y.den_nz
  by_cases h : y = 0
  · subst h
    have : x / 0 = 0 := by grind
    rw [this]
    refine ⟨?_, ?_⟩
    · simp; exact pow_pos2 _
    · have h1 := hx.2
      have h2 : x.den ≥ 1 := by omega
      have h3 : 2 ^ j ≤ 2 ^ (j + k) := Nat.pow_le_pow_right (by decide) (by omega)
      show 1 < _
      omega
  · rw [rat_div_eq]
    have hn : y.num ≠ 0 := fun z => h (Rat.num_eq_zero.mp z)
    refine .of_div (Int.mul_ne_zero (by omega) hn) ?_ ?_
    · rw [Int.natAbs_mul]; exact mul_lt2 hx.1 (by simpa using hy.2)
    · rw [Int.natAbs_mul]; exact mul_lt2 (by simpa using hx.2) hy.1
theorem B.int {k : Nat} {i : Int} (h : i.natAbs < 2 ^ k) (hk : 1 ≤ k) : B k (i : Rat) := by
  refine ⟨by simpa using h, ?_⟩
  have : 2 ^ 1 ≤ 2 ^ k := Nat.pow_le_pow_right (by decide) hk
  show 1 < _
  omega
end DL
end
section
set_option maxRecDepth 100000
set_option maxHeartbeats 1000000
namespace DL
open PySem PySem.Spec PyProof.Rows L2
variable {X : Cx} {e : Expr} {d : DEx} {pos : Pos}
def dStar (d : DEx) (r : DAx) : DAx := fun env P => d env fun x => match x.items with
  | some ds => r env fun ts => P (ds.map .fr ++ ts)
  | none => False
theorem owns_frs : ∀ {ds : List D} {us : List V} {ts : List TV} {vs : List V}, us.length = ds.length → owns (ds.map TV.fr ++ ts) (us ++ vs) = owns ts vs
  | [], us, ts, vs, h => by
    have : us = [] := List.length_eq_zero_iff.mp h
    subst this; rfl
  | d :: ds, us, ts, vs, h => by
    cases us with
    | nil => simp at h
    | cons u us => 
      have := owns_frs (ds := ds) (us := us) (ts := ts) (vs := vs) (by simpa using h)
      cases u <;> exact this
theorem RVs.pre {S : Vo} {Hs : Hp} {F : Addr → Prop} {H : Hp} : ∀ {ds : List D} {us : List V} {ts : List TV} {vs : List V}, FRs S F H ds us → RVs S Hs F H ts vs → RVs S Hs F H (ds.map TV.fr ++ ts) (us ++ vs)
  | [], _, _, _, h, r => by cases h; exact r
  | d :: ds, _, _, _, h, r => by
    obtain ⟨v, rr, rfl, h1, h2⟩ := h
    exact ⟨v, _, rfl, h1, RVs.pre h2 r⟩
theorem da_star {es : List Expr} {r : DAx} {p : Pos} (h : DE X e d) (hr : DA X es r) : DA X (.Starred e p :: es) (dStar d r) := by
  refine ⟨PA.weaken (StX.pa_star h.run hr.run) fun σ H Q hh => ?_⟩
  obtain ⟨S, F0, H0, F, env, P, sr, p, k⟩ := hh
  refine ⟨S, F0, H0, F, env, _, sr, p, fun t v F1 H1 pt e1 r1 => ?_⟩
  have w1 := e1.wf sr.wf
  split at pt
  · rename_i ds et
    obtain ⟨a, us, rfl, ha, rf⟩ := r1.items et
    refine ⟨a, us, rfl, ha.symm.imp (fun z => .of z) (fun z => .of z), S, F0, H0, F1, env, _, sr.step e1, pt, fun ts vs F2 H2 p2 e2 r2 nd => ?_⟩
    exact k _ _ F2 H2 p2 (e1.trans e2 sr.wf) (RVs.pre (FRs.ext e2 w1 _ _ rf) (r2.back (e1.nn sr.wf))) (by rw [owns_frs rf.length]; exact nd)
  · exact pt.elim
def dTruth (d : DEx) : DTx := fun env P => d env fun t => match t.items, t with
  | some ds, _ => P !ds.isEmpty
  | none, .fr (.bool b) => P b
  | none, .fr .none => P false
  | none, .fr (.int i) => P (i != 0)
  | _, _ => False
theorem dt_truth (h : DE X e d) (he : ∀ whole, isTrue e X.env whole = (do let v ← whole; standAt e.pos; holding [v] (truthy v)) := by intro _; rfl) : DT X e (dTruth d) := by
  refine ⟨PT.weaken (pt_truth h.run he) fun σ H Q hh => ?_⟩
  obtain ⟨S, F0, H0, F, env, P, sr, p, k⟩ := hh
  refine ⟨S, F0, H0, F, env, _, sr, p, fun t v F1 H1 pt e1 r1 => ?_⟩
  split at pt
  · rename_i ds et
    obtain ⟨a, us, rfl, ha, rf⟩ := r1.items et
    have : us.isEmpty = ds.isEmpty := by
      have := rf.length
      cases us <;> cases ds <;> simp_all
    refine ⟨!us.isEmpty, ?_, by rw [this]; exact k _ F1 H1 pt e1⟩
    rcases ha with ha | ha
    · exact .inl ⟨us, .of ha, rfl⟩
    · exact .inr (.inl ⟨us, .of ha, rfl⟩)
  · cases (show v = _ from r1); exact ⟨_, rfl, k _ F1 H1 pt e1⟩
  · cases (show v = _ from r1); exact ⟨_, rfl, k _ F1 H1 pt e1⟩
  · cases (show v = _ from r1); exact ⟨_, rfl, k _ F1 H1 pt e1⟩
  · exact pt.elim
section
variable {prog : Program} {w : World} {A : Around} {E : Value → Shared → Prop} {s : Shared}
end
def tRevS (K : PySem.W.Frag) (te : TE) : TE := fun σ H Q => te σ H fun x H1 => ∃ a xs, x = .ref a ∧ ((SqL K H1 a xs ∧ ∀ p, H1 p = none → Q (.ref p) (upd H1 p (.lst xs.reverse))) ∨ (SqT K H1 a xs ∧ ∀ p, H1 p = none → Q (.ref p) (upd H1 p (.tup xs.reverse))))
theorem adjust_rev (n : Nat) : Builtin.Slice.sliceAdjust none none (-1) (n : Int) = ((n : Int) - 1, -1) := by
  unfold Builtin.Slice.sliceAdjust
  simp
theorem places_rev (n : Nat) : Builtin.Slice.slicePlaces ((n : Int) - 1) (-1) (-1) = n := by
  unfold Builtin.Slice.slicePlaces
  simp
  omega
theorem sliceApplied_rev {prog : Program} {w : World} {A : Around} {E : Value → Shared → Prop} {s : Shared} {sl : Addr} {vl vu vs : Value} {n : Nat} {Q : Int × Int × Nat → Shared → Prop} (hs : s.heap.IsSliceOf sl vl vu vs) (pl : IsPart vl none) (pu : IsPart vu none) (ps : IsPart vs (some (-1)))
    (h : Q ((n : Int) - 1, -1, n) s) : wpAny (model prog w) A (Builtin.Slice.sliceApplied (.ref sl) (pure (n : Int))) Q E s := by
  obtain ⟨os, hos, hcs, hds⟩ := id hs
  unfold Builtin.Slice.sliceApplied Builtin.Slice.sliceFields
  refine wpAny_bind (wpAny_bind (wpAny_field hos hds (x := vl) rfl (wpAny_bind (wpAny_field hos hds (x := vu) rfl (wpAny_bind (wpAny_field hos hds (x := vs) rfl (wpAny_pure ?_)))))))
  refine wpAny_bind (HT.slicePart_ ps ?_)
  show wpAny _ _ (if ((-1 : Int) == 0) = true then _ else _) _ _ s
  rw [if_neg (by decide)]
  refine wpAny_bind (HT.slicePart_ pl (wpAny_bind (HT.slicePart_ pu (wpAny_bind (wpAny_pure ?_)))))
  show wpAny _ _ (match Builtin.Slice.sliceAdjust none none (-1) (n : Int) with | (lo, hi) => pure (lo, (-1 : Int), Builtin.Slice.slicePlaces lo hi (-1))) _ _ s
  rw [adjust_rev n]
  show wpAny _ _ (pure ((n : Int) - 1, (-1 : Int), Builtin.Slice.slicePlaces ((n : Int) - 1) (-1) (-1))) _ _ s
  rw [places_rev]
  exact wpAny_pure h
theorem filterMap_cong {α β : Type} {f g : α → Option β} : ∀ {l : List α}, (∀ x ∈ l, f x = g x) → l.filterMap f = l.filterMap g
  | [], _ => rfl
  | x :: l, h => by
    rw [List.filterMap_cons, List.filterMap_cons, h x List.mem_cons_self, filterMap_cong fun y hy => h y (List.mem_cons_of_mem _ hy)]
theorem pick_rev (xs : List Value) : ((List.range xs.length).filterMap fun (m : Nat) => xs.toArray[(((xs.length : Nat) : Int) - 1 + (m : Int) * -1).toNat]?) = xs.reverse := by
  have e : ∀ m ∈ List.range xs.length, xs.toArray[(((xs.length : Nat) : Int) - 1 + (m : Int) * -1).toNat]? = some (xs.reverse.getD m .none) := by
    intro m hm
    have hm := List.mem_range.mp hm
    have e1 : (((xs.length : Nat) : Int) - 1 + (m : Int) * -1).toNat = xs.length - 1 - m := by omega
    rw [e1, List.getElem?_toArray, List.getD_eq_getElem?_getD, List.getElem?_reverse hm]
    have : xs.length - 1 - m < xs.length := by omega
    rw [List.getElem?_eq_getElem this]; rfl
  rw [filterMap_cong (g := fun m => some (xs.reverse.getD m .none)) e]
  have : ∀ (ys : List Value), (List.range ys.length).filterMap (fun m => some (ys.getD m .none)) = ys := by
    intro ys
    apply List.ext_getElem?
    intro i
    rw [show (fun m => some (ys.getD m Value.none)) = some ∘ (fun m => ys.getD m Value.none) from rfl, List.filterMap_eq_map, List.getElem?_map]
    by_cases hi : i < ys.length
    · rw [List.getElem?_range hi, List.getElem?_eq_getElem hi]
      simp [hi]
    · rw [List.getElem?_eq_none (by simpa using hi), List.getElem?_eq_none (by omega)]; rfl
  have h2 := this xs.reverse
  rw [List.length_reverse] at h2
  exact h2
theorem getItem_tuple_rev {prog : Program} {w : World} {A : Around} {E : Value → Shared → Prop} {s : Shared} {t sl : Addr} {items : Array Value} {vl vu vs : Value} {Q : Value → Shared → Prop} (ht : IsTup s.heap t items) (hs : s.heap.IsSliceOf sl vl vu vs) (pl : IsPart vl none) (pu : IsPart vu none) (ps : IsPart vs (some (-1)))
    (h : Q (.ref s.heap.objs.size) { s with heap := s.heap.push { cls := .type "tuple", data := .seq items.toList.reverse.toArray } })
    (hsz : items.size ≤ sizeLine) : wpAny (model prog w) A (getItem (.ref t) (.ref sl)) Q E s := by
  obtain ⟨os, hos, hcs, hds⟩ := id hs
  have hTs : s.TypeIs (.ref sl) "slice" := ⟨os, hos, hcs⟩
  have htake : sizeOk (.seq items.toList.reverse.toArray) := by
    show items.toList.reverse.toArray.size ≤ sizeLine
    rw [List.size_toArray, List.length_reverse, Array.length_toList]
    exact hsz
  unfold getItem
  try with_reducible refine wpAny_holding ?_
  first | refine wpAny_bind (wpAny_pure ?_) | skip
  refine wpAny_bind (wpAny_sequenceKey ht.typeIs (by decide) ?_)
  refine wpAny_bind (wpAny_callSpecial?_slot (name := Str.ofString "__getitem__") ht.typeIs PyProof.Rows.slot_tuple_getitem
    (wpAny_call_entry PyProof.Rows.slot_tuple_getitem ht.typeIs PyProof.Rows.entry_tuple_getitem ?_ (PyProof.Rows.args_tuple_getitem _ _)))
  show wpAny _ _ (Builtin.Tuple.tupleItemsOf (.ref t) >>= _) _ _ s
  refine wpAny_bind (PyProof.Rows.tupleItemsOf_ ht ?_)
  refine wpAny_bind (wpAny_typeOf hTs ?_)
  rw [if_pos (by decide)]
  refine wpAny_bind (sliceApplied_rev hs pl pu ps ?_)
  show wpAny _ _ (if (((items.size : Nat) : Int) - 1 == 0 && (-1 : Int) == 1 && items.size == items.size) = true then _ else _) _ _ s
  rw [if_neg (by simp)]
  have pk : ((List.range items.size).filterMap fun (m : Nat) => items[(((items.size : Nat) : Int) - 1 + (m : Int) * -1).toNat]?).toArray = items.toList.reverse.toArray := by
    have := pick_rev items.toList
    simp only [Array.length_toList] at this
    rw [← this]
  rw [pk]
  first
    | exact wpAny_bind (m := Builtin.Tuple.tupleExact _) (wpAny_newObj_type (wpAny_pure ⟨_, rfl, wpAny_pure h⟩) htake)
    | exact wpAny_bind (m := Builtin.Tuple.tupleExact _) (wpAny_newObj_type (wpAny_bind (wpAny_pure (wpAny_pure ⟨_, rfl, wpAny_pure h⟩))) htake)
    | exact wpAny_bind (wpAny_bind (m := Builtin.Tuple.tupleExact _) (wpAny_newObj_type (wpAny_pure (wpAny_pure ⟨_, rfl, wpAny_pure h⟩)) htake))
    | exact wpAny_bind (wpAny_bind (m := Builtin.Tuple.tupleExact _) (wpAny_newObj_type (wpAny_pure ⟨_, rfl, wpAny_pure h⟩) htake))
theorem pe_revS {te : TE} {k : Nat} {p1 p2 p3 pos : Pos} (he : PE X e te) : PE X (.Subscript e (.Slice none none (some (.UnaryOp .USub (.Constant (.int 1) k p1) p2)) p3) pos) (tRevS X.K te) := by
  refine ⟨fun pins s σ H Q I h => ?_⟩
  refine Subscript_ (thn (he.run pins s σ H _ I h) fun v s1 ⟨x, H1, I1, r1, q1⟩ => ?_)
  obtain ⟨a, xs, ex, q1⟩ := q1
  subst ex
  cases r1
  have hst : PO X (some (.UnaryOp .USub (.Constant (.int 1) k p1) p2)) (tPart (tUn (rU fun i => .int (-i)) (tC (.int 1)))) := po_some (pe_un un_neg pe_int)
  refine wpAny_Slice (thn (po_none.run pins s1 σ H1 (fun o H2 => o = none ∧ H2 = H1) I1 ⟨rfl, rfl⟩) fun vl s2 ⟨l, H2, I2, pl, el, e2⟩ => ?_)
  subst el e2
  refine thn (po_none.run pins s2 σ H2 (fun o H3 => o = none ∧ H3 = H2) I2 ⟨rfl, rfl⟩) fun vu s3 ⟨u, H3, I3, pu, eu, e3⟩ => ?_
  subst eu e3
  refine thn (hst.run pins s3 σ H3 (fun o H4 => o = some (-1) ∧ H4 = H3) I3 ⟨1, rfl, -1, rfl, rfl, rfl⟩) fun vs s4 ⟨o, H4, I4, ps, eo, e4⟩ => ?_
  subst eo e4
  have I5 : Inv X pins σ H4 { s4 with heap := s4.heap.push { cls := .type "slice", data := .fields #[vl, vu, vs] } } := I4.kept (t' := s4.toks) fun b ob q => Heap.get?_push_of_some _ q
  show wpAny (model X.prog X.w) X.A (subscriptTail e (.Slice none none (some (.UnaryOp .USub (.Constant (.int 1) k p1) p2)) p3) (.ref a) (.ref s4.heap.objs.size)) (EP X pins σ Q) X.xe { s4 with heap := s4.heap.push { cls := .type "slice", data := .fields #[vl, vu, vs] } }
  rcases q1 with ⟨hx, q⟩ | ⟨hx, q⟩
  · obtain ⟨its, r, ht, hz⟩ := I5.list hx
    have hlen := r.length
    refine tail_any (ops := [.ref a, .ref s4.heap.objs.size]) ht.isList.typeIs (PySem.slot_list_getitem.lookup) ?_ (by with_unfolding_all rfl)
    refine wpAny_getItem_list_slice ht.isList (Heap.IsSliceOf.new _ vl vu vs) pl pu ps (by decide) ?_ (by rw [List.size_toArray]; omega)
    rw [PySem.W.krv_pick]
    refine ⟨.ref _, _, I5.laid (t' := s4.toks) (o := .lst xs.reverse) (fun b ob q => Heap.get?_push_of_some _ q) (Nat.le_refl _) ?_, rfl, q _ (I5.hok.fresh (Nat.le_refl _))⟩
    exact ⟨by rw [List.length_reverse]; exact hz, _, 0, r.reverse, Heap.get?_push_size _ rfl⟩
  · obtain ⟨its, r, ht, hz⟩ := I5.tuple hx
    have hlen := r.length
    refine tail_any (ops := [.ref a, .ref s4.heap.objs.size]) ht.typeIs (PyProof.Rows.slot_tuple_getitem.lookup) ?_ (by with_unfolding_all rfl)
    refine getItem_tuple_rev ht (Heap.IsSliceOf.new _ vl vu vs) pl pu ps ?_ (by rw [List.size_toArray]; omega)
    refine ⟨.ref _, _, I5.laid (t' := s4.toks) (o := .tup xs.reverse) (fun b ob q => Heap.get?_push_of_some _ q) (Nat.le_refl _) ?_, rfl, q _ (I5.hok.fresh (Nat.le_refl _))⟩
    exact ⟨by rw [List.length_reverse]; exact hz, _, r.reverse, ⟨_, Heap.get?_push_size _ rfl, rfl, _, rfl⟩⟩
def dRev (d : DEx) : DEx := fun env P => d env fun x => match x with
  | .fr (.tuple ds) => P (.fr (.tuple ds.reverse))
  | x => match x.asD with
    | .list ds => P (.own ds.reverse)
    | _ => False
theorem de_rev {k : Nat} {p1 p2 p3 pos : Pos} (he : DE X e d) : DE X (.Subscript e (.Slice none none (some (.UnaryOp .USub (.Constant (.int 1) k p1) p2)) p3) pos) (dRev d) := by
  refine ⟨PE.weaken (pe_revS he.run) fun σ H Q hh => ?_⟩
  obtain ⟨S, F0, H0, F, env, P, sr, p, k⟩ := hh
  refine ⟨S, F0, H0, F, env, _, sr, p, fun t v F1 H1 pt e1 r1 => ?_⟩
  have w1 := e1.wf sr.wf
  split at pt
  · obtain ⟨a, us, rfl, ha, rf⟩ := r1
    refine ⟨a, us, rfl, .inr ⟨.of ha, fun p hp => ?_⟩⟩
    have e4 : Ext S F1 H1 F1 (upd H1 p (.tup us.reverse)) := .new_obj w1 hp
    exact k _ _ F1 _ pt (e1.trans e4 sr.wf) ⟨p, _, rfl, upd_same, FRs.ext e4 w1 _ _ rf.reverse⟩
  · split at pt
    · rename_i ds et
      obtain ⟨a, us, rfl, ha, nv, rf⟩ := r1.list w1 et
      refine ⟨a, us, rfl, .inl ⟨.of ha, fun p hp => ?_⟩⟩
      have e4 : Ext S F1 H1 F1 (upd H1 p (.lst us.reverse)) := .new_obj w1 hp
      exact k _ _ F1 _ pt (e1.trans e4 sr.wf) ⟨p, _, rfl, upd_same, w1.vol hp, e1.none_of sr.wf hp, fun f => w1.fin p f hp, FRs.ext e4 w1 _ _ rf.reverse⟩
    · exact pt.elim
def dSetIx (j : Nat) (d di : DEx) : DSt := fun DD env => match env[j]? with
  | some (some (.own ds)) => d env fun t => match t.fz with
    | some y => di env fun u => match u with
      | .fr (.int i) => match ixN ds.length i with
        | some n => DD.nx (env.set j (some (.own (ds.set n y))))
        | none => False
      | _ => False
    | none => False
  | _ => False
theorem ds_setIx {j : Nat} {x : Str} {i : Expr} {di : DEx} {px p' : Pos} (hN : X.N[j]? = some x) (hv : Vis X.env.scope x) (hd : (x == ("__debug__" : Str)) = false) (hcd : (x == ("__classdict__" : Str)) = false) (he : DE X e d) (hi : DE X i di)
    (ha : ∀ v, assign (.Subscript (.Name x px) i p') X.env v = (do
      let ov ← holding [v] (eval (.Name x px) X.env)
      let iv ← holding [v, ov] (eval i X.env)
      standAt p'
      holding [v, ov, iv] (setItem ov iv v)
      release [v, ov, iv] []) := by intro _; rfl) (hs : swapsWithSole [.Subscript (.Name x px) i p'] e pos.line X.env = pure false := by rfl) (hw : swappedStores [.Subscript (.Name x px) i p'] e X.env = pure none := by rfl)
    (h1 : (assignEach [.Subscript (.Name x px) i p'] X.env).map (·.2) = [assign (.Subscript (.Name x px) i p') X.env] := by rfl) : DS X (.Assign [.Subscript (.Name x px) i p'] e pos) (dSetIx j d di) := by
  refine ⟨PS.weaken (ps_asg he.run (pg_sub (pe_var hN hv hd hcd) hi.run set_list ha) hs hw h1) fun D σ H hh => ?_⟩
  obtain ⟨S, F0, H0, F, env, DD, sr, p, kn, kr, kb, kc⟩ := hh
  unfold dSetIx at p
  split at p
  · rename_i ds hj
    obtain ⟨v0, hv0, a, us0, rfl, q0, n0, nf0, rf0⟩ := sr.slot j _ hj
    refine ⟨S, F0, H0, F, env, _, sr, p, fun t v F1 H1 pt e1 r1 => ?_⟩
    split at pt
    · rename_i y ey
      have rr : RVs S H F1 H1 [t] [v] := ⟨v, [], rfl, r1, rfl⟩
      obtain ⟨F2, e2, f2, sub⟩ := freeze sr.wf e1 rr (by simp [fzs, ey] : fzs [t] = some [y])
      obtain ⟨v', r', ev, f2, _⟩ := f2
      cases ev
      have w2 := e2.wf sr.wf
      refine ⟨.ref a, hv0, S, F0, H0, F2, env, _, sr.step e2, pt, fun u vu F3 H3 pu e3 r3 => ?_⟩
      have w3 := e3.wf w2
      split at pu
      · cases r3
        split at pu
        · rename_i n hn
          have sr3 := (sr.step e2).step e3
          obtain ⟨v3, hv3, a3, us, eq3, q3, n3, nf3, rf3⟩ := sr3.slot j _ hj
          rw [hv0] at hv3
          cases hv3
          cases eq3
          refine ⟨a, us, _, n, rfl, rfl, q3, by rw [rf3.length]; exact hn, ?_⟩
          obtain ⟨sr4, s4⟩ := sr3.change hj hv0 q3 (rf3.set n (FR.ext e3 w2 _ _ f2))
          exact kn F3 _ _ _ pu (((e2.step sr.wf).trans (e3.step w2)).trans s4) sr4
        · exact pu.elim
      · exact pu.elim
    · exact pt.elim
  · exact p.elim
def dPopIx (i j : Nat) (dk : DEx) : DSt := fun DD env => match env[j]? with
  | some (some (.own ds)) => match ds.getLast? with
    | some l => dBin oIx (fun _ P => P (.fr l)) dk (env.set j (some (.own ds.dropLast))) fun t => match t with
      | .fr y => DD.nx ((env.set j (some (.own ds.dropLast))).set i (some (.fr y)))
      | _ => False
    | none => False
  | _ => False
theorem ds_popIx {i j : Nat} {y x : Str} {kx : Expr} {dk : DEx} {py px apos cpos spos : Pos} (hN : X.N.Nodup) (hi : X.N[i]? = some y) (hyl : Loc X.env.scope y) (hj : X.N[j]? = some x) (hv : Vis X.env.scope x) (hd : (x == ("__debug__" : Str)) = false) (hcd : (x == ("__classdict__" : Str)) = false)
    (hm : PE X (.Call (.Attribute (.Name x px) "pop" apos) [] [] cpos) (tBM0 X.K "list" rPop (tVar j))) (hk : DE X kx dk) (hp : PlainIx kx)
    (hs : swapsWith (.Subscript (.Call (.Attribute (.Name x px) "pop" apos) [] [] cpos) kx spos) (some (.Name y py)) pos.line X.env = pure false := by rfl)
    (hf : X.fn y = true ∨ X.env.scope.names.lookup y = some .local := by first | exact .inl rfl | exact .inr rfl | assumption) :
    DS X (.Assign [.Name y py] (.Subscript (.Call (.Attribute (.Name x px) "pop" apos) [] [] cpos) kx spos) pos) (dPopIx i j dk) := by
  refine ⟨PS.weaken (ps_set hN hi hyl (pe_ix ix_lt hm hk.run hp) hs hf) fun D σ H hh => ?_⟩
  obtain ⟨S, F0, H0, F, env, DD, sr, p, kn, kr, kb, kc⟩ := hh
  unfold dPopIx at p
  split at p
  · rename_i ds ej
    obtain ⟨v0, hv0, a, us, rfl, q0, n0, nf0, rf0⟩ := sr.slot j _ ej
    split at p
    · rename_i l el
      have hl : ds[ds.length - 1]? = some l := by rw [← List.getLast?_eq_getElem?]; exact el
      obtain ⟨vl, hvl, fl⟩ := rf0.get hl
      rw [← rf0.length] at hvl
      refine ⟨.ref a, hv0, .inl ⟨rfl, us, .of q0⟩, a, us, vl, rfl, rfl, q0, hvl, ?_⟩
      obtain ⟨sr1, s1⟩ := sr.change ej hv0 q0 rf0.dropLast
      have w1 := sr1.wf
      have fl1 := FR.step s1 _ _ fl
      refine ⟨S, F0, H0, F, _, _, sr1, p, fun t v F2 H2 pt e2 r2 => ?_⟩
      have w2 := e2.wf w1
      unfold oIx at pt
      split at pt
      · rename_i es ik eit
        split at pt
        · rename_i yy ey
          obtain ⟨b, ws, eb, hb, rw'⟩ := (show RV S H2 F2 H2 (.fr l) vl from FR.ext e2 w1 _ _ fl1).items eit
          obtain ⟨vy, hvy, fy⟩ := rw'.at ey
          have fin : D.nx (σ.set i (some vy)) H2 := kn F2 _ _ H2 pt (s1.trans (e2.step w1)) ((sr1.step e2).put i fy)
          rcases hb with hb | hb
          · exact .inl ⟨b, ws, ik, vy, eb, r2, .of hb, hvy, fin⟩
          · exact .inr ⟨b, ws, ik, vy, eb, r2, .of hb, hvy, fin⟩
        · exact pt.elim
      · exact pt.elim
    · exact p.elim
  · exact p.elim
def fExt : List D → List D → Option (List D) := fun ds xs => match xs with
  | [.list ys] => some (ds ++ ys)
  | _ => none
theorem md_ext : MethD fExt rExtend := by
  intro S F H a us vs ds xs es Q h rf rx w hf hl k
  unfold fExt at hf
  split at hf
  · cases hf
    obtain ⟨v, rfl, b, ws, rfl, fb, q, rw'⟩ := rx.oneV
    refine ⟨a, b, us, ws, rfl, rfl, h, q, ?_, k _ _ (rf.append rw')⟩
    rw [rf.length, rw'.length]
    simpa using hl
  · cases hf
end DL
end
section
set_option maxRecDepth 100000
set_option maxHeartbeats 2000000
namespace PySem
open Sem (wp)
theorem meets_enumerate_newB1 {v : Value} {o : Obj} {H : Heap → Prop} (B : Begins v o H) :
    Meets (Builtin.«enumerate.__new__» ⟨[.type "enumerate", v], []⟩) (fun _ R s => H s.heap ∧
      R (.ok (.ret (.ref (s.heap.push o).objs.size))) { s with heap := (s.heap.push o).push { cls := .type "enumerate", data := .fields #[.none, .bool false, .ref s.heap.objs.size, rawInt 0, .none, .none] } }) :=
  .of_wp fun prog w A R s h => by
    obtain ⟨hp, g, d, tk, os⟩ := s; obtain ⟨h1, h⟩ := h
    have hsub := sub_enumerate
    have q1 : ∀ {A' : Around} {E : Value → Shared → Prop} {Q : Value → Shared → Prop}, Q (.ref hp.objs.size) ⟨hp.push o, g, d, tk, os⟩ → wpAny (model prog w) A' (pyIter v) Q E ⟨hp, g, d, tk, os⟩ :=
      fun q => B.iter prog w _ _ ⟨hp, g, d, tk, os⟩ _ h1 q
    wp_walk using q1
    refine wpAny_stack_any fun st => wpAny_pure ?_
    split
    · rename_i c _ _ _ _ _
      cases (c == Value.type "enumerate")
      · wp_walk using q1
        exact ⟨_, rfl, h⟩
      · wp_walk using q1
        exact ⟨_, rfl, h⟩
    · wp_walk using q1
      exact ⟨_, rfl, h⟩
section
variable {prog : Program} {w : World} {A : Around} {E : Value → Shared → Prop} {s : Shared}
theorem enum_begins1 {v : Value} {o : Obj} {H : Heap → Prop} {Q : Value → Shared → Prop} (B : Begins v o H) (h1 : H s.heap)
    (h : ∀ h', IsEnum h' (s.heap.objs.size + 1) s.heap.objs.size 0 .none → h'.get? s.heap.objs.size = some o → h'.objs.size = s.heap.objs.size + 2 →
      (∀ b o, s.heap.get? b = some o → h'.get? b = some o) → Q (.ref (s.heap.objs.size + 1)) { s with heap := h' }) :
    wpAny (model prog w) A (call (.type "enumerate") [v]) Q E s := by
  refine callType_new F.called_enumerate (by decide) (F.typeCall_enumerate_1 _) (F.newCall_enumerate_1 _) (fun obj => F.args_object_init_2 obj _) F.entry_enumerate_new
    (meets_enumerate_newB1 B) ⟨h1, ?_⟩
  have hz : (s.heap.push o).objs.size = s.heap.objs.size + 1 := Heap.size_push ..
  show _ ∧ _
  rw [hz]
  have he : IsEnum ((s.heap.push o).push { cls := .type "enumerate", data := .fields #[.none, .bool false, .ref s.heap.objs.size, rawInt 0, .none, .none] }) (s.heap.objs.size + 1) s.heap.objs.size 0 .none := by
    have := Heap.get?_push_size (s.heap.push o) (o := { cls := .type "enumerate", data := .fields #[.none, .bool false, .ref s.heap.objs.size, rawInt 0, .none, .none] }) rfl
    rw [hz] at this; exact this
  refine ⟨⟨_, he, rfl⟩, h _ he (Heap.get?_push_of_some _ (Heap.get?_push_size _ B.free)) (by rw [Heap.size_push, hz]) fun b o x => Heap.get?_push_of_some _ (Heap.get?_push_of_some _ x)⟩
end
theorem meets_zip_newBK {v1 v2 : Value} {o1 o2 : Obj} {H1 H2 : Heap → Prop} (B1 : Begins v1 o1 H1) (B2 : Begins v2 o2 H2) :
    Meets (Builtin.«zip.__new__» ⟨[.type "zip", v1, v2], [(Str.ofString "strict", .bool false)]⟩) (fun _ R s => (H1 s.heap ∧ H2 s.heap) ∧
      R (.ok (.ret (.ref (gzO2 s.heap o1 o2).objs.size))) { s with heap := gzZ2 s.heap o1 o2 }) :=
  .of_wp fun prog w A R s h => by
    obtain ⟨hp, g, d, tk, os⟩ := s; obtain ⟨⟨h1, h2⟩, h⟩ := h
    have hsub := sub_zip
    have q1 : ∀ {A' : Around} {E : Value → Shared → Prop} {Q : Value → Shared → Prop}, Q (.ref hp.objs.size) ⟨(hp.push o1), g, d, tk, os⟩ → wpAny (model prog w) A' (pyIter v1) Q E ⟨hp, g, d, tk, os⟩ :=
      fun q => B1.iter prog w _ _ ⟨hp, g, d, tk, os⟩ _ (B1.keeps _ _ h1 fun b o' e => e) q
    have q2 : ∀ {A' : Around} {E : Value → Shared → Prop} {Q : Value → Shared → Prop}, Q (.ref (hp.push o1).objs.size) ⟨((hp.push o1).push o2), g, d, tk, os⟩ → wpAny (model prog w) A' (pyIter v2) Q E ⟨(hp.push o1), g, d, tk, os⟩ :=
      fun q => B2.iter prog w _ _ ⟨(hp.push o1), g, d, tk, os⟩ _ (B2.keeps _ _ h2 fun b o' e => (Heap.get?_push_of_some _ e)) q
    wp_walk using q1, q2
    exact ⟨_, rfl, h⟩
theorem typeCall_zip_K (a b c : Value) : checkTypeCall "zip" ⟨[a, b], [(Str.ofString "strict", c)]⟩ = pure () := by kernel_rfl
theorem newCall_zip_K (a b c : Value) : checkBuiltinCall "zip.__new__" ⟨[.type "zip", a, b], [(Str.ofString "strict", c)]⟩ = pure () := by kernel_rfl
end PySem
end
section
set_option maxRecDepth 100000
set_option maxHeartbeats 2000000
namespace DL
open PySem PySem.Spec PyProof.Rows L2 RZ
variable {X : Cx}
def IteT (K : PySem.W.Frag) (a : Addr) : It :=
  ⟨fun i H => ∃ (xs : List V) (x : V), SqT K H a xs ∧ xs[i]? = some x, fun i H v H' => ∃ T x, v = .ref T ∧ H T = none ∧ H' = upd H T (.tup [.int (i : Nat), x]) ∧ ∀ xs, SqT K H a xs → xs[i]? = some x, fun i H => ∃ xs : List V, SqT K H a xs ∧ xs.length = i⟩
theorem turn_enumT {P : Program} {w : World} {K : PySem.W.Frag} {elts : List Expr} {kk : Nat} {tpos : Pos} (a e it : Addr) :
    Turn P w K (.Tuple elts kk tpos) (IteT K a) [e, it] e (fun i h => (∃ old, IsEnum h e it ((i : Nat) : Int) old) ∧ h.IsTupleIter it a i ∧ e ≠ it) where
  mem := by simp
  obj := fun i h st b hb => by
    obtain ⟨⟨old, he⟩, ⟨o, ho, hc, hd⟩, _⟩ := st
    have e' : b = e ∨ b = it := by simpa using hb
    rcases e' with z | z
    · rw [z]; exact ⟨_, he, fun v q => nomatch q⟩
    · rw [z]; exact ⟨o, ho, fun v q => by rw [hd] at q; cases q⟩
  keep := fun i h h' st k => let ⟨⟨old, he⟩, hi, hne⟩ := st; ⟨⟨old, k e (by simp) _ he⟩, hi.at fun o q => k it (by simp) o q, hne⟩
  item := by
    intro X hP hw hK hc i pins s σ H E I hf st hg
    subst hP hw hK
    obtain ⟨⟨old, he⟩, hit, hne⟩ := st
    obtain ⟨xs, x, hq, hx⟩ := hg
    obtain ⟨its, rv, p, hz⟩ := I.tuple hq
    obtain ⟨u, hu, ru⟩ := rv.get hx
    have hel : e < s.heap.objs.size := Heap.lt_size he
    have hil : it < s.heap.objs.size := by obtain ⟨_, q, _⟩ := hit; exact Heap.lt_size q
    have hat : a ≠ it := fun z => by
      obtain ⟨o, h1, h2, _⟩ := hit
      obtain ⟨o', h1', h2', _⟩ := id p
      rw [z, h1] at h1'
      cases h1'
      rw [h2] at h2'
      exact absurd h2' (by decide)
    have hae : a ≠ e := fun z => by
      obtain ⟨o', h1', h2', _⟩ := id p
      have h1 : s.heap.get? e = some _ := he
      rw [z, h1] at h1'
      cases h1'
      have h2' : (Value.type "enumerate") = Value.type "tuple" := h2'
      exact absurd h2' (by decide)
    refine wpAny_pyNext_enum_itemD (Draws.tuple (by show X.A.handled = none; exact I.ok.hd hc) it a hat its.toArray) he ⟨hit, p⟩ (by
      have := (List.getElem?_eq_some_iff.mp hu).1
      simpa using this) hne (by simp [hne, hae.symm]) fun u' h' tk hu' ho hit' hT hsz hk => ?_
    have eu : u' = u := by
      have : its[i]? = some u' := by simpa using hu'
      rw [hu] at this; cases this; rfl
    subst eu
    refine ⟨_, rfl, wpAny_letOwnedTupleGo_enum (s := { s with heap := h', toks := tk + 1 }) ho fun h'' he' sb => ?_⟩
    have hT2 : h''.get? s.heap.objs.size = some { cls := .type "tuple", data := .seq #[.int i tk, u'] } := (sb.2 _ (Nat.ne_of_gt hel)).trans hT
    have new : ObjOk X.prog X.w (upd H s.heap.objs.size (.tup [.int (i : Nat), x])) h'' s.heap.objs.size (.tup [.int (i : Nat), x]) :=
      ⟨by show 2 ≤ sizeLine; decide, [.int i tk, u'], .cons ⟨_, rfl⟩ (.cons ru .nil), ⟨_, hT2, rfl, _, rfl⟩⟩
    have I1 : Inv X pins σ (upd H s.heap.objs.size (.tup [.int (i : Nat), x])) { s with heap := h'', toks := tk + 1 } :=
      I.turnedNew (ch := [e, it]) (fun b ob hb q => (sb.2 b (fun z => hb (by simp [z]))).trans (hk b ob (fun z => hb (by simp [z])) (fun z => hb (by simp [z])) q)) hf (Nat.le_refl _) new
    refine ⟨.ref s.heap.objs.size, _, I1, rfl, ⟨_, x, rfl, I.hok.fresh (Nat.le_refl _), rfl, fun ys hy => by rw [I.tuple_inj hy hq]; exact hx⟩, ⟨⟨u', ?_⟩, hit'.1.at fun o q => (sb.2 it (Ne.symm hne)).trans q, hne⟩, fun b hb => ?_⟩
    · have e1 : ((i + 1 : Nat) : Int) = (i : Int) + 1 := by omega
      rw [e1]; exact he'
    · have hb' : b < s.heap.objs.size := by
        have e' : b = e ∨ b = it := by simpa using hb
        rcases e' with z | z
        · rw [z]; exact hel
        · rw [z]; exact hil
      rw [upd_ne (Nat.ne_of_lt hb')]
      exact (hf b hb).1
  done := by
    intro X hP hw hK hc i pins s σ H E I hf st hg
    subst hP hw hK
    obtain ⟨⟨old, he⟩, hit, hne⟩ := st
    obtain ⟨xs, hq, hx⟩ := hg
    obtain ⟨its, rv, p, hz⟩ := I.tuple hq
    obtain ⟨f0, f1, f2, f3, f4, f5⟩ := hf it (by simp)
    have hl := rv.length
    have hat : a ≠ it := fun z => by
      obtain ⟨o, h1, h2, _⟩ := hit
      obtain ⟨o', h1', h2', _⟩ := id p
      rw [z, h1] at h1'
      cases h1'
      rw [h2] at h2'
      exact absurd h2' (by decide)
    have en : its.toArray.size = i := by rw [List.size_toArray, ← hl]; exact hx
    refine wpAny_pyNext_enum_endD (Draws.tuple (by show X.A.handled = none; exact I.ok.hd hc) it a hat its.toArray) he ⟨by rw [en]; exact hit, p⟩ fun h' eb => ⟨rfl, I.turned (t' := s.toks) (fun b o hb q => eb b o hb q) f0 f1 f3 f4 f5⟩
  self := fun A i s Q E st h => let ⟨⟨_, he⟩, _⟩ := st; wpAny_pyIter_enum he h
def iEnumS (K : PySem.W.Frag) (ta : TA) : TI := fun σ H R => ta σ H fun vs H1 => ∃ a, vs = [.ref a] ∧ (((∃ xs, SqL K H1 a xs) ∧ R (Ite K a) H1) ∨ ((∃ xs, SqT K H1 a xs) ∧ R (IteT K a) H1))
theorem pi_enumS {X : Cx} {e : Expr} {ta : TA} {p pos tpos : Pos} {elts : List Expr} {kk : Nat} (hg : Gl X "enumerate") (hm : X.mg "enumerate" = none) (ha : PA X [e] ta) (hs : starEach [e] X.env = [(false, eval e X.env)] := by rfl) :
    PI X (.Tuple elts kk tpos) (.Call (.Name "enumerate" p) [e] [] pos) (iEnumS X.K ta) := by
  refine ⟨fun pins s σ H R I h => ?_⟩
  refine Call_ (ld_blt I hg hm boot_enumerate (PyProof.Rows.callWith_type1 (thn (ha.run pos pins s σ H _ I h) fun us s1 ⟨vs, H1, I1, r1, q1⟩ => ?_) hs rfl))
  obtain ⟨a, ex, q1⟩ := q1
  subst ex
  cases r1 with
  | cons r rr =>
    cases rr
    cases r
    have fr : ∀ b ∈ [s1.heap.objs.size + 1, s1.heap.objs.size], FpOk X pins H1 b := fun b hb => by
      have e' : b = s1.heap.objs.size + 1 ∨ b = s1.heap.objs.size := by simpa using hb
      have hle : s1.heap.objs.size ≤ b := by
        rcases e' with z | z
        · rw [z]; exact Nat.le_add_right _ _
        · rw [z]; exact Nat.le_refl _
      exact I1.fpOk hle (I1.hok.fresh hle)
    rcases q1 with ⟨⟨xs, hq⟩, q⟩ | ⟨⟨xs, hq⟩, q⟩
    · obtain ⟨its, rv, p', hz⟩ := I1.list hq
      refine call_enumerate_list p'.isList fun h' he hit hsz hk => wpAny_pyIter_enum he ?_
      have I2 : Inv X pins σ H1 { s1 with heap := h' } := I1.kept (t' := s1.toks) hk
      exact ⟨s1.heap.objs.size + 1, [s1.heap.objs.size + 1, s1.heap.objs.size], _, _, H1, rfl, I2, turn_enum a (s1.heap.objs.size + 1) s1.heap.objs.size, ⟨⟨.none, he⟩, hit, Nat.succ_ne_self _⟩, fr, q⟩
    · obtain ⟨its, rv, p', hz⟩ := I1.tuple hq
      refine enum_begins1 (begins_tuple a its.toArray) p' fun h' he hit hsz hk => wpAny_pyIter_enum he ?_
      have I2 : Inv X pins σ H1 { s1 with heap := h' } := I1.kept (t' := s1.toks) hk
      exact ⟨s1.heap.objs.size + 1, [s1.heap.objs.size + 1, s1.heap.objs.size], _, _, H1, rfl, I2, turn_enumT a (s1.heap.objs.size + 1) s1.heap.objs.size, ⟨⟨.none, he⟩, ⟨_, hit, rfl, rfl⟩, Nat.succ_ne_self _⟩, fr, q⟩
def dNum : Nat → List D → List D
  | _, [] => []
  | k, d :: ds => .tuple [.int (k : Nat), d] :: dNum (k + 1) ds
theorem dNum_length : ∀ {k : Nat} {ds : List D}, (dNum k ds).length = ds.length
  | _, [] => rfl
  | k, d :: ds => by simp [dNum, dNum_length]
theorem dNum_get : ∀ {k i : Nat} {ds : List D}, (dNum k ds)[i]? = (ds[i]?).map fun d => .tuple [.int ((k + i : Nat) : Int), d]
  | k, i, [] => by simp [dNum]
  | k, 0, d :: ds => by simp [dNum]
  | k, i + 1, d :: ds => by
    simp only [dNum, List.getElem?_cons_succ]
    rw [dNum_get]
    simp; congr 1; funext d; congr 3; omega
section
variable {K : PySem.W.Frag} {S : Vo} {ds : List D} {a : Addr}
theorem wk_enum {b : Bool} : Wk (Ite K a) S (dNum 0 ds) (StL S a ds b) where
  go := fun i F H w ⟨vs, h, nv, f, r⟩ hi => ⟨vs, vs[i]'(by rw [r.length]; rw [dNum_length] at hi; exact hi), .of h, by simp⟩
  yld := fun i F H x H' w ⟨vs, h, nv, f, r⟩ y d hd => by
    obtain ⟨T, x', rfl, hT, rfl, y⟩ := y
    rw [dNum_get] at hd
    cases q : ds[i]? with
    | none => rw [q] at hd; cases hd
    | some d' =>
      rw [q] at hd; cases hd
      obtain ⟨v, hv, rv⟩ := r.get q
      have := y vs (.of h)
      rw [hv] at this
      have this : v = x' := by cases this; rfl
      subst this
      have e : Ext S F H F (upd H T (.tup [.int (i : Nat), v])) := .new_obj w hT
      exact ⟨e, T, _, rfl, upd_same, .int (i : Nat), [v], rfl, (by show V.int _ = V.int _; simp), v, [], rfl, FR.ext e w _ _ rv, rfl⟩
  stop := fun F H w ⟨vs, h, nv, f, r⟩ => ⟨vs, .of h, by rw [r.length, dNum_length]; exact Nat.le_refl _⟩
  keepE := StL.keepE
theorem wk_enumT : Wk (IteT K a) S (dNum 0 ds) (StT S a ds) where
  go := fun i F H w ⟨vs, h, r⟩ hi => ⟨vs, vs[i]'(by rw [r.length]; rw [dNum_length] at hi; exact hi), .of h, by simp⟩
  yld := fun i F H x H' w ⟨vs, h, r⟩ y d hd => by
    obtain ⟨T, x', rfl, hT, rfl, y⟩ := y
    rw [dNum_get] at hd
    cases q : ds[i]? with
    | none => rw [q] at hd; cases hd
    | some d' =>
      rw [q] at hd; cases hd
      obtain ⟨v, hv, rv⟩ := r.get q
      have := y vs (.of h)
      rw [hv] at this
      have this : v = x' := by cases this; rfl
      subst this
      have e : Ext S F H F (upd H T (.tup [.int (i : Nat), v])) := .new_obj w hT
      exact ⟨e, T, _, rfl, upd_same, .int (i : Nat), [v], rfl, (by show V.int _ = V.int _; simp), v, [], rfl, FR.ext e w _ _ rv, rfl⟩
  stop := fun F H w ⟨vs, h, r⟩ => ⟨vs, .of h, by rw [r.length, dNum_length]⟩
  keepE := StT.keepE
end
theorem not_vol_of {S : Vo} {F0 F1 : Addr → Prop} {H H1 : Hp} {t : TV} {a : Addr} {vs : List V} {ds : List D} (w1 : WF S F1 H1) (r1 : RV S H F1 H1 t (.ref a)) (ha : H1 a = some (.lst vs)) (et : t.items = some ds) : ¬ Vol S a := by
  intro hv
  cases t with
  | fr d =>
    cases d with
    | list es =>
      obtain ⟨b, us, e, f, q, _⟩ := r1
      cases e
      exact w1.nv _ f hv
    | tuple es =>
      obtain ⟨b, us, e, q, _⟩ := r1
      cases e
      rw [ha] at q; cases q
    | _ => cases et
  | rd es => obtain ⟨b, us, e, q, nv, _⟩ := r1; cases e; exact nv hv
  | own es => obtain ⟨b, us, e, q, nv, _⟩ := r1; cases e; exact nv hv
  | dct ls => exact r1.elim
def TV.itm (b : Bool) (t : TV) : Option (List D) := if b then t.fixd else t.items
def dEnum (b : Bool) (da : DAx) : DIx := fun env P => da env fun ts => ∃ t ds, ts = [t] ∧ t.itm b = some ds ∧ P (dNum 0 ds)
theorem frozen {S : Vo} {Hs H1 : Hp} {F F1 : Addr → Prop} {H : Hp} {t : TV} {v : V} {ds : List D} (w : WF S F H) (e1 : Ext S F H F1 H1) (r1 : RV S H F1 H1 t v) (et : t.fixd = some ds) :
    ∃ F2 a us, Ext S F H F2 H1 ∧ v = .ref a ∧ ((H1 a = some (.lst us) ∧ F2 a) ∨ H1 a = some (.tup us)) ∧ FRs S F2 H1 ds us ∧ ∀ c, F1 c → F2 c := by
  cases t with
  | fr d =>
    cases d with
    | list es =>
      cases et
      obtain ⟨a, us, rfl, f, q, rf⟩ := r1
      exact ⟨F1, a, us, e1, rfl, .inl ⟨q, f⟩, rf, fun _ z => z⟩
    | tuple es =>
      cases et
      obtain ⟨a, us, rfl, q, rf⟩ := r1
      exact ⟨F1, a, us, e1, rfl, .inr q, rf, fun _ z => z⟩
    | _ => cases et
  | rd es => cases et
  | dct ls => cases et
  | own es =>
    have et : some es = some ds := et
    have rr : RVs S H F1 H1 [.own es] [v] := ⟨v, [], rfl, r1, rfl⟩
    obtain ⟨F2, e2, f2, sub⟩ := freeze w e1 rr rfl
    cases et
    obtain ⟨v', r', ev, f2, _⟩ := f2
    cases ev
    obtain ⟨a, us, rfl, f, q, rf⟩ := f2
    exact ⟨F2, a, us, e2, rfl, .inl ⟨q, f⟩, rf, sub⟩
theorem di_enum {b : Bool} {e : Expr} {da : DAx} {p pos tpos : Pos} {elts : List Expr} {kk : Nat} (hg : Gl X "enumerate") (hm : X.mg "enumerate" = none) (ha : DA X [e] da) (hs : starEach [e] X.env = [(false, eval e X.env)] := by rfl) :
    DI X (.Tuple elts kk tpos) (.Call (.Name "enumerate" p) [e] [] pos) b (dEnum b da) := by
  refine ⟨PI.weaken (pi_enumS hg hm ha.run hs) fun σ H R hh => ?_⟩
  obtain ⟨S, F0, H0, F, env, P, sr, p, k⟩ := hh
  refine ⟨S, F0, H0, F, env, _, sr, p, fun ts vs F1 H1 pt e1 r1 nd => ?_⟩
  obtain ⟨t, ds, rfl, et, pt⟩ := pt
  obtain ⟨v, rfl, r2⟩ := r1.one
  cases b with
  | false =>
    obtain ⟨a, us, rfl, ha, rf⟩ := r2.items et
    have w1 := e1.wf sr.wf
    rcases ha with ha | ha
    · exact ⟨a, rfl, .inl ⟨⟨us, .of ha⟩, k _ _ F1 H1 (StL S a ds false) pt e1 wk_enum (fun z => by cases z) ⟨us, ha, not_vol_of (F0 := F) w1 r2 ha et, (fun z => by cases z), rf⟩⟩⟩
    · exact ⟨a, rfl, .inr ⟨⟨us, .of ha⟩, k _ _ F1 H1 (StT S a ds) pt e1 wk_enumT (fun z => by cases z) ⟨us, ha, rf⟩⟩⟩
  | true =>
    obtain ⟨F2, a, us, e2, rfl, ha, rf, _⟩ := frozen (Hs := H) sr.wf e1 r2 et
    have w2 := e2.wf sr.wf
    rcases ha with ⟨ha, f⟩ | ha
    · exact ⟨a, rfl, .inl ⟨⟨us, .of ha⟩, k _ _ F2 H1 (StL S a ds true) pt e2 wk_enum (fun _ => StL.keepS) ⟨us, ha, w2.nv a f, fun _ => f, rf⟩⟩⟩
    · exact ⟨a, rfl, .inr ⟨⟨us, .of ha⟩, k _ _ F2 H1 (StT S a ds) pt e2 wk_enumT (fun _ => StT.keepS) ⟨us, ha, rf⟩⟩⟩
end DL
end
section
set_option maxRecDepth 100000
set_option maxHeartbeats 2000000
namespace PySem
open Sem (wp)
theorem callWith_type_kwB {M : Model} {A : Around} {E : Value → Shared → Prop} {s : Shared} {pos : Pos} {T : String} {first : List Value} {args : List (Bool × Sem Value)} {keywords : List (Option Str × Sem Value)} {Q : Value → Shared → Prop}
    (hplain : args.any (·.1) = false) (hkw : keywords.any (·.1.isNone) = false)
    (h : wpAny M A (evalArgs (.type T) true args keywords) (fun a s₁ => wpAny M A (call (.type T) (first ++ a.pos) a.kw) Q E s₁) E s) :
    wpAny M A (callWith pos (.type T) first args keywords) Q E s := by
  unfold callWith
  refine wpAny_bind (wpAny_holding (wpAny_mono h (fun a s₁ h₁ => wpAny_bind (wpAny_standAt ?_)) fun _ _ x => x))
  simp only [hplain, hkw, Bool.or_false]
  refine wpAny_bind (wpAny_pure ?_)
  exact wpAny_bind (wpAny_mono h₁ (fun r s₂ hr => wpAny_bind (wpAny_holding (wpAny_point (wpAny_pure hr)))) fun _ _ x => x)
theorem callWith_kwT {M : Model} {A : Around} {E : Value → Shared → Prop} {s : Shared} {env : Env} {pos : Pos} {T : String} {e : Expr} {rest : List Expr} {kws : List Keyword} {Q : Value → Shared → Prop}
    (h : wpAny M A (spliced (backTo pos (starEach (e :: rest) env))) (fun vs s₁ => wpAny M A (evalAll ((backToKw pos (keywordEach kws env)).map (·.2)))
      (fun kvs s₂ => wpAny M A (call (.type T) vs (((backToKw pos (keywordEach kws env)).filterMap (·.1)).zip kvs)) Q E s₂) E s₁) E s)
    (he : backTo pos (starEach (e :: rest) env) = (false, eval e env) :: backTo pos (starEach rest env) := by rfl)
    (hplain : (backTo pos (starEach (e :: rest) env)).any (·.1) = false := by rfl)
    (hall : (backToKw pos (keywordEach kws env)).all (·.1.isSome) = true := by rfl)
    (hkw : (backToKw pos (keywordEach kws env)).any (·.1.isNone) = false := by rfl) :
    wpAny M A (callWith pos (.type T) [] (backTo pos (starEach (e :: rest) env)) (backToKw pos (keywordEach kws env))) Q E s := by
  refine callWith_type_kwB hplain hkw ?_
  rw [he] at h ⊢
  exact PyProof.Rows.evalArgs_kwB hall h
theorem args_object_init_3K (obj a b c : Value) : argsOk "object.__init__" ⟨[obj, a, b], [(Str.ofString "strict", c)]⟩ := by unfold argsOk; kernel_rfl
section
variable {prog : Program} {w : World} {A : Around} {E : Value → Shared → Prop} {s : Shared}
theorem zip_begins2K {v1 v2 : Value} {o1 o2 : Obj} {H1 H2 : Heap → Prop} {Q : Value → Shared → Prop} (B1 : Begins v1 o1 H1) (B2 : Begins v2 o2 H2) (h1 : H1 s.heap) (h2 : H2 s.heap)
    (h : ∀ h', IsZip h' (s.heap.objs.size + 4) (s.heap.objs.size + 2) (s.heap.objs.size + 3) .none → IsPair h' (s.heap.objs.size + 2) (.ref s.heap.objs.size) (.ref (s.heap.objs.size + 1)) →
      IsPair h' (s.heap.objs.size + 3) .none .none → h'.get? s.heap.objs.size = some o1 → h'.get? (s.heap.objs.size + 1) = some o2 → h'.objs.size = s.heap.objs.size + 5 →
      (∀ c o, s.heap.get? c = some o → h'.get? c = some o) → Q (.ref (s.heap.objs.size + 4)) { s with heap := h' }) :
    wpAny (model prog w) A (call (.type "zip") [v1, v2] [(Str.ofString "strict", .bool false)]) Q E s := by
  refine callType_newKw F.called_zip (by decide) (typeCall_zip_K _ _ _) (newCall_zip_K _ _ _) (fun obj => args_object_init_3K obj _ _ _) F.entry_zip_new
    (meets_zip_newBK B1 B2) ⟨⟨h1, h2⟩, ?_⟩
  have z1 : (s.heap.push o1).objs.size = s.heap.objs.size + 1 := by rw [Heap.size_push]
  have z2 : ((s.heap.push o1).push o2).objs.size = s.heap.objs.size + 2 := by rw [Heap.size_push, z1]
  have zT : (gzT2 s.heap o1 o2).objs.size = s.heap.objs.size + 3 := by rw [Heap.size_push, z2]
  have zO : (gzO2 s.heap o1 o2).objs.size = s.heap.objs.size + 4 := by rw [Heap.size_push, zT]
  have zZ : (gzZ2 s.heap o1 o2).objs.size = s.heap.objs.size + 5 := by rw [Heap.size_push, zO]
  have gZ : (gzZ2 s.heap o1 o2).get? (gzO2 s.heap o1 o2).objs.size = some { cls := .type "zip", data := .fields #[.none, .bool false, .bool false, .ref ((s.heap.push o1).push o2).objs.size, .ref (gzT2 s.heap o1 o2).objs.size] } := Heap.get?_push_size _ rfl
  have gO : (gzZ2 s.heap o1 o2).get? (gzT2 s.heap o1 o2).objs.size = some { cls := .type "tuple", data := .seq #[.none, .none] } := Heap.get?_push_of_some _ (Heap.get?_push_size _ rfl)
  have gT : (gzZ2 s.heap o1 o2).get? ((s.heap.push o1).push o2).objs.size = some { cls := .type "tuple", data := .seq #[.ref s.heap.objs.size, .ref (s.heap.push o1).objs.size] } := Heap.get?_push_of_some _ (Heap.get?_push_of_some _ (Heap.get?_push_size _ rfl))
  have g1 : (gzZ2 s.heap o1 o2).get? s.heap.objs.size = some o1 := Heap.get?_push_of_some _ (Heap.get?_push_of_some _ (Heap.get?_push_of_some _ (Heap.get?_push_of_some _ (Heap.get?_push_size _ B1.free))))
  have g2 : (gzZ2 s.heap o1 o2).get? (s.heap.push o1).objs.size = some o2 := Heap.get?_push_of_some _ (Heap.get?_push_of_some _ (Heap.get?_push_of_some _ (Heap.get?_push_size _ B2.free)))
  rw [zO, zT, z2] at gZ
  rw [zT] at gO
  rw [z2, z1] at gT
  rw [z1] at g2
  show _ ∧ _
  rw [zO]
  exact ⟨⟨_, gZ, rfl⟩, h _ gZ gT gO g1 g2 zZ fun c o e => Heap.get?_push_of_some _ (Heap.get?_push_of_some _ (Heap.get?_push_of_some _ (Heap.get?_push_of_some _ (Heap.get?_push_of_some _ e))))⟩
end
end PySem
namespace DL
open PySem PySem.Spec PyProof.Rows L2 RZ
variable {X : Cx}
def iZipS (K : PySem.W.Frag) (ta : TA) : TI := fun σ H R => ta σ H fun vs H1 => ∃ a b, vs = [.ref a, .ref b] ∧ (((∃ xs ys, SqL K H1 a xs ∧ SqL K H1 b ys) ∧ R (Itz K a b) H1) ∨ ((∃ xs ys, SqT K H1 a xs ∧ SqT K H1 b ys) ∧ R (ItzT K a b) H1))
theorem fresh5 {pins : List (Addr × Obj)} {σ : L2.St} {H1 : Hp} {s1 : Shared} (I1 : Inv X pins σ H1 s1) : ∀ c, c ∈ [s1.heap.objs.size + 4, s1.heap.objs.size + 2, s1.heap.objs.size + 3, s1.heap.objs.size, s1.heap.objs.size + 1] → FpOk X pins H1 c := fun c hcm => by
  have e' : c = s1.heap.objs.size + 4 ∨ c = s1.heap.objs.size + 2 ∨ c = s1.heap.objs.size + 3 ∨ c = s1.heap.objs.size ∨ c = s1.heap.objs.size + 1 := by simpa using hcm
  have hle : s1.heap.objs.size ≤ c := by
    rcases e' with z | z | z | z | z
    · rw [z]; exact Nat.le_add_right _ _
    · rw [z]; exact Nat.le_add_right _ _
    · rw [z]; exact Nat.le_add_right _ _
    · rw [z]; exact Nat.le_refl _
    · rw [z]; exact Nat.le_add_right _ _
  exact I1.fpOk hle (I1.hok.fresh hle)
theorem zip_go {pins : List (Addr × Obj)} {σ : L2.St} {H1 : Hp} {s1 : Shared} {a b : Addr} {R : It → Hp → Prop} {elts : List Expr} {kk : Nat} {tpos : Pos} (I1 : Inv X pins σ H1 s1)
    (cl : ∀ {v1 v2 : Value} {o1 o2 : Obj} {P1 P2 : Heap → Prop} {Q : Value → Shared → Prop} (B1 : Begins v1 o1 P1) (B2 : Begins v2 o2 P2) (h1 : P1 s1.heap) (h2 : P2 s1.heap)
      (h : ∀ h', IsZip h' (s1.heap.objs.size + 4) (s1.heap.objs.size + 2) (s1.heap.objs.size + 3) .none → IsPair h' (s1.heap.objs.size + 2) (.ref s1.heap.objs.size) (.ref (s1.heap.objs.size + 1)) →
      IsPair h' (s1.heap.objs.size + 3) .none .none → h'.get? s1.heap.objs.size = some o1 → h'.get? (s1.heap.objs.size + 1) = some o2 → h'.objs.size = s1.heap.objs.size + 5 →
      (∀ c o, s1.heap.get? c = some o → h'.get? c = some o) → Q (.ref (s1.heap.objs.size + 4)) { s1 with heap := h' }), wpAny (model X.prog X.w) X.A (call (.type "zip") [v1, v2] kw) Q X.xe s1)
    (q1 : ((∃ xs ys, SqL X.K H1 a xs ∧ SqL X.K H1 b ys) ∧ R (Itz X.K a b) H1) ∨ ((∃ xs ys, SqT X.K H1 a xs ∧ SqT X.K H1 b ys) ∧ R (ItzT X.K a b) H1)) :
    wpAny (model X.prog X.w) X.A (call (.type "zip") [.ref a, .ref b] kw) (fun v s => wpAny (model X.prog X.w) X.A (pyIter v) (PIE X pins σ (.Tuple elts kk tpos) R) X.xe s) X.xe s1 := by
  rcases q1 with ⟨⟨xs, ys, hqx, hqy⟩, q⟩ | ⟨⟨xs, ys, hqx, hqy⟩, q⟩
  · obtain ⟨its, rv, p1, _⟩ := I1.list hqx
    obtain ⟨its2, rv2, p2, _⟩ := I1.list hqy
    refine cl (begins_list a _) (begins_list b _) p1.isList p2.isList fun h' hz hTI hTO h1 h2 hsz hk => wpAny_pyIter_zip hz ?_
    have I2 : Inv X pins σ H1 { s1 with heap := h' } := I1.kept (t' := s1.toks) hk
    exact ⟨s1.heap.objs.size + 4, [s1.heap.objs.size + 4, s1.heap.objs.size + 2, s1.heap.objs.size + 3, s1.heap.objs.size, s1.heap.objs.size + 1], _, _, H1, rfl, I2, turn_zip (PySem.W.ktu_apart s1.heap.objs.size a b p1.lt p2.lt), ⟨hz, hTI, ⟨_, _, hTO⟩, ⟨_, h1, rfl, rfl⟩, ⟨_, h2, rfl, rfl⟩⟩, fresh5 I1, q⟩
  · obtain ⟨its, rv, p1, _⟩ := I1.tuple hqx
    obtain ⟨its2, rv2, p2, _⟩ := I1.tuple hqy
    obtain ⟨o1, ho1, _⟩ := id p1
    obtain ⟨o2, ho2, _⟩ := id p2
    refine cl (begins_tuple a _) (begins_tuple b _) p1 p2 fun h' hz hTI hTO h1 h2 hsz hk => wpAny_pyIter_zip hz ?_
    have I2 : Inv X pins σ H1 { s1 with heap := h' } := I1.kept (t' := s1.toks) hk
    exact ⟨s1.heap.objs.size + 4, [s1.heap.objs.size + 4, s1.heap.objs.size + 2, s1.heap.objs.size + 3, s1.heap.objs.size, s1.heap.objs.size + 1], _, _, H1, rfl, I2, turn_zipT (PySem.W.ktu_apart s1.heap.objs.size a b (Heap.lt_size ho1) (Heap.lt_size ho2)), ⟨hz, hTI, ⟨_, _, hTO⟩, ⟨_, h1, rfl, rfl⟩, ⟨_, h2, rfl, rfl⟩⟩, fresh5 I1, q⟩
theorem pi_zipS {e e2 : Expr} {ta : TA} {p pos tpos : Pos} {elts : List Expr} {kk : Nat} (hg : Gl X "zip") (hm : X.mg "zip" = none) (ha : PA X [e, e2] ta)
    (hs : starEach [e, e2] X.env = (false, eval e X.env) :: starEach [e2] X.env := by rfl) (hpl : (backTo pos (starEach [e2] X.env)).any (·.1) = false := by rfl) :
    PI X (.Tuple elts kk tpos) (.Call (.Name "zip" p) [e, e2] [] pos) (iZipS X.K ta) := by
  refine ⟨fun pins s σ H R I h => ?_⟩
  refine Call_ (ld_blt I hg hm PyProof.Rows.boot_zip (PyProof.Rows.callWith_type1 (thn (ha.run pos pins s σ H _ I h) fun us s1 ⟨vs, H1, I1, r1, q1⟩ => ?_) hs hpl))
  obtain ⟨a, b, ex, q1⟩ := q1
  subst ex
  cases r1 with
  | cons r rr =>
    cases rr with
    | cons r' rr =>
      cases rr
      cases r
      cases r'
      exact zip_go I1 (fun B1 B2 h1 h2 h => zip_begins2 B1 B2 h1 h2 h) q1
theorem pi_zipKS {e e2 : Expr} {ta : TA} {p pos tpos p1 p2 : Pos} {k1 : Nat} {elts : List Expr} {kk : Nat} (hg : Gl X "zip") (hm : X.mg "zip" = none) (ha : PA X [e, e2] ta)
    (hs : backTo pos (starEach [e, e2] X.env) = (false, eval e X.env) :: backTo pos (starEach [e2] X.env) := by rfl) (hpl : (backTo pos (starEach [e, e2] X.env)).any (·.1) = false := by rfl) :
    PI X (.Tuple elts kk tpos) (.Call (.Name "zip" p) [e, e2] [⟨some "strict", .Constant (.bool false) k1 p1, p2⟩] pos) (iZipS X.K ta) := by
  refine ⟨fun pins s σ H R I h => ?_⟩
  refine wpAny_Call_Name_kw (ld_blt I hg hm PyProof.Rows.boot_zip (callWith_kwT (thn (ha.run pos pins s σ H _ I h) fun us s1 ⟨vs, H1, I1, r1, q1⟩ => ?_) hs hpl))
  obtain ⟨a, b, ex, q1⟩ := q1
  subst ex
  have kb : PK X [⟨some "strict", .Constant (.bool false) k1 p1, p2⟩] (tCons (tC (.bl false)) tNil) := pk_cons pe_bl pk_nil
  refine thn (kb.run pos pins s1 σ H1 (fun zs H2 => zs = [.bl false] ∧ H2 = H1) I1 ⟨rfl, rfl⟩) fun ws s2 ⟨zs, H2, I2, r2, ez, eh⟩ => ?_
  subst ez eh
  cases r2 with
  | cons rb rr =>
    cases rr
    cases rb
    cases r1 with
    | cons r rr =>
      cases rr with
      | cons r' rr =>
        cases rr
        cases r
        cases r'
        exact zip_go (kw := [(Str.ofString "strict", .bool false)]) I2 (fun B1 B2 h1 h2 h => zip_begins2K B1 B2 h1 h2 h) q1
end DL
end
section
set_option maxRecDepth 100000
set_option maxHeartbeats 2000000
namespace DL
open PySem PySem.Spec PyProof.Rows L2 RZ
variable {X : Cx}
def dZp : List D → List D → List D
  | d :: ds, e :: es => .tuple [d, e] :: dZp ds es
  | _, _ => []
theorem dZp_get : ∀ {i : Nat} {ds es : List D} {z : D}, (dZp ds es)[i]? = some z → ∃ d e, ds[i]? = some d ∧ es[i]? = some e ∧ z = .tuple [d, e]
  | i, [], es, z, h => by simp [dZp] at h
  | i, d :: ds, [], z, h => by simp [dZp] at h
  | 0, d :: ds, e :: es, z, h => by simp [dZp] at h; subst h; exact ⟨d, e, rfl, rfl, rfl⟩
  | i + 1, d :: ds, e :: es, z, h => by
    simp only [dZp, List.getElem?_cons_succ] at h
    obtain ⟨d', e', h1, h2, h3⟩ := dZp_get h
    exact ⟨d', e', by simpa using h1, by simpa using h2, h3⟩
theorem dZp_length : ∀ {ds es : List D}, (dZp ds es).length = min ds.length es.length
  | [], es => by simp [dZp]
  | d :: ds, [] => by simp [dZp]
  | d :: ds, e :: es => by simp [dZp, dZp_length]
section
variable {K : PySem.W.Frag} {S : Vo} {ds es : List D} {a c : Addr}
def St2 (P Q : (Addr → Prop) → Hp → Prop) : (Addr → Prop) → Hp → Prop := fun F H => P F H ∧ Q F H
theorem wk_zip {b : Bool} : Wk (Itz K a c) S (dZp ds es) (St2 (StL S a ds b) (StL S c es b)) where
  go := fun i F H w ⟨⟨vs, h, nv, f, r⟩, ⟨us, h', nv', f', r'⟩⟩ hi => by
    rw [dZp_length] at hi
    have l1 := r.length
    have l2 := r'.length
    exact ⟨vs, us, vs[i]'(by omega), us[i]'(by omega), .of h, .of h', by simp, by simp⟩
  yld := fun i F H x H' w ⟨⟨vs, h, nv, f, r⟩, ⟨us, h', nv', f', r'⟩⟩ y d hd => by
    obtain ⟨T, p, q, rfl, hT, rfl, y1, y2⟩ := y
    obtain ⟨d1, d2, e1, e2, rfl⟩ := dZp_get hd
    obtain ⟨v, hv, rv⟩ := r.get e1
    obtain ⟨u, hu, ru⟩ := r'.get e2
    have z1 := y1 vs (.of h)
    have z2 := y2 us (.of h')
    rw [hv] at z1; rw [hu] at z2
    have z1 : v = p := by cases z1; rfl
    have z2 : u = q := by cases z2; rfl
    subst z1 z2
    have e : Ext S F H F (upd H T (.tup [v, u])) := .new_obj w hT
    exact ⟨e, T, _, rfl, upd_same, v, [u], rfl, FR.ext e w _ _ rv, u, [], rfl, FR.ext e w _ _ ru, rfl⟩
  stop := fun F H w ⟨⟨vs, h, nv, f, r⟩, ⟨us, h', nv', f', r'⟩⟩ => ⟨vs, us, .of h, .of h', by
    rw [dZp_length]
    have l1 := r.length
    have l2 := r'.length
    omega⟩
  keepE := fun F H F' H' w p e => ⟨StL.keepE _ _ _ _ w p.1 e, StL.keepE _ _ _ _ w p.2 e⟩
theorem wk_zipT : Wk (ItzT K a c) S (dZp ds es) (St2 (StT S a ds) (StT S c es)) where
  go := fun i F H w ⟨⟨vs, h, r⟩, ⟨us, h', r'⟩⟩ hi => by
    rw [dZp_length] at hi
    have l1 := r.length
    have l2 := r'.length
    exact ⟨vs, us, vs[i]'(by omega), us[i]'(by omega), .of h, .of h', by simp, by simp⟩
  yld := fun i F H x H' w ⟨⟨vs, h, r⟩, ⟨us, h', r'⟩⟩ y d hd => by
    obtain ⟨T, p, q, rfl, hT, rfl, y1, y2⟩ := y
    obtain ⟨d1, d2, e1, e2, rfl⟩ := dZp_get hd
    obtain ⟨v, hv, rv⟩ := r.get e1
    obtain ⟨u, hu, ru⟩ := r'.get e2
    have z1 := y1 vs (.of h)
    have z2 := y2 us (.of h')
    rw [hv] at z1; rw [hu] at z2
    have z1 : v = p := by cases z1; rfl
    have z2 : u = q := by cases z2; rfl
    subst z1 z2
    have e : Ext S F H F (upd H T (.tup [v, u])) := .new_obj w hT
    exact ⟨e, T, _, rfl, upd_same, v, [u], rfl, FR.ext e w _ _ rv, u, [], rfl, FR.ext e w _ _ ru, rfl⟩
  stop := fun F H w ⟨⟨vs, h, r⟩, ⟨us, h', r'⟩⟩ => ⟨vs, us, .of h, .of h', by
    rw [dZp_length]
    have l1 := r.length
    have l2 := r'.length
    omega⟩
  keepE := fun F H F' H' w p e => ⟨StT.keepE _ _ _ _ w p.1 e, StT.keepE _ _ _ _ w p.2 e⟩
theorem KeepS.two {P Q : (Addr → Prop) → Hp → Prop} (h : KeepS S P) (h' : KeepS S Q) : KeepS S (St2 P Q) := fun F H F' H' p e => ⟨h _ _ _ _ p.1 e, h' _ _ _ _ p.2 e⟩
end
def isT (t : TV) : Bool := match t with
  | .fr (.tuple _) => true
  | _ => false
def dZip (b : Bool) (da : DAx) : DIx := fun env P => da env fun ts => ∃ t u ds es, ts = [t, u] ∧ isT t = isT u ∧ t.itm b = some ds ∧ u.itm b = some es ∧ P (dZp ds es)
theorem isT_frozen {S : Vo} {F2 : Addr → Prop} {H1 : Hp} {t : TV} {v : V} {ds : List D} {d : D} (et : t.fixd = some ds) (hf : t.fz = some d) (r : FR S F2 H1 d v) :
    ∃ a us, v = .ref a ∧ FRs S F2 H1 ds us ∧ ((isT t = false ∧ H1 a = some (.lst us) ∧ F2 a) ∨ (isT t = true ∧ H1 a = some (.tup us))) := by
  cases t with
  | fr d' =>
    cases d' with
    | list es =>
      cases et; cases hf
      obtain ⟨a, us, rfl, f, q, rf⟩ := r
      exact ⟨a, us, rfl, rf, .inl ⟨rfl, q, f⟩⟩
    | tuple es =>
      cases et; cases hf
      obtain ⟨a, us, rfl, q, rf⟩ := r
      exact ⟨a, us, rfl, rf, .inr ⟨rfl, q⟩⟩
    | _ => cases et
  | rd es => cases et
  | dct ls => cases et
  | own es =>
    cases et; cases hf
    obtain ⟨a, us, rfl, f, q, rf⟩ := r
    exact ⟨a, us, rfl, rf, .inl ⟨rfl, q, f⟩⟩
theorem fixd_fz {t : TV} {ds : List D} (et : t.fixd = some ds) : ∃ d, t.fz = some d := by
  cases t with
  | fr d' => exact ⟨_, rfl⟩
  | rd es => cases et
  | dct ls => cases et
  | own es => exact ⟨_, rfl⟩
theorem isT_items {S : Vo} {Hs H1 : Hp} {F1 : Addr → Prop} {t : TV} {v : V} {ds : List D} (w1 : WF S F1 H1) (r1 : RV S Hs F1 H1 t v) (et : t.items = some ds) :
    ∃ a us, v = .ref a ∧ FRs S F1 H1 ds us ∧ ((isT t = false ∧ H1 a = some (.lst us) ∧ ¬ Vol S a) ∨ (isT t = true ∧ H1 a = some (.tup us))) := by
  cases t with
  | fr d' =>
    cases d' with
    | list es =>
      cases et
      obtain ⟨a, us, rfl, f, q, rf⟩ := r1
      exact ⟨a, us, rfl, rf, .inl ⟨rfl, q, w1.nv a f⟩⟩
    | tuple es =>
      cases et
      obtain ⟨a, us, rfl, q, rf⟩ := r1
      exact ⟨a, us, rfl, rf, .inr ⟨rfl, q⟩⟩
    | _ => cases et
  | rd es =>
    cases et
    obtain ⟨a, us, rfl, q, nv, rf⟩ := r1
    exact ⟨a, us, rfl, rf, .inl ⟨rfl, q, nv⟩⟩
  | dct ls => cases et
  | own es =>
    cases et
    obtain ⟨a, us, rfl, q, nv, _, _, rf⟩ := r1
    exact ⟨a, us, rfl, rf, .inl ⟨rfl, q, nv⟩⟩
theorem zip_lift {b : Bool} {K : PySem.W.Frag} {da : DAx} {σ : L2.St} {H : Hp} {R : It → Hp → Prop} (hh : liftI b (dZip b da) σ H R) : iZipS K (liftA da) σ H R := by
  obtain ⟨S, F0, H0, F, env, P, sr, p, k⟩ := hh
  refine ⟨S, F0, H0, F, env, _, sr, p, fun ts vs F1 H1 pt e1 r1 nd => ?_⟩
  obtain ⟨t, u, ds, es, rfl, eT, et, eu, pt⟩ := pt
  have w1 := e1.wf sr.wf
  cases b with
  | false =>
    obtain ⟨v1, v2, rfl, q1, q2⟩ := r1.two
    obtain ⟨a, us, rfl, rf, ha⟩ := isT_items w1 q1 et
    obtain ⟨c, us', rfl, rf', hc⟩ := isT_items w1 q2 eu
    refine ⟨a, c, rfl, ?_⟩
    rcases ha with ⟨z, ha, nv⟩ | ⟨z, ha⟩ <;> rcases hc with ⟨z', hc, nv'⟩ | ⟨z', hc⟩
    · exact .inl ⟨⟨us, us', .of ha, .of hc⟩, k _ _ F1 H1 _ pt e1 (wk_zip (b := false)) (fun z => by cases z) ⟨⟨us, ha, nv, (fun z => by cases z), rf⟩, ⟨us', hc, nv', (fun z => by cases z), rf'⟩⟩⟩
    · rw [z, z'] at eT; cases eT
    · rw [z, z'] at eT; cases eT
    · exact .inr ⟨⟨us, us', .of ha, .of hc⟩, k _ _ F1 H1 _ pt e1 wk_zipT (fun z => by cases z) ⟨⟨us, ha, rf⟩, ⟨us', hc, rf'⟩⟩⟩
  | true =>
    have et : t.fixd = some ds := et
    have eu : u.fixd = some es := eu
    obtain ⟨d1, hf1⟩ := fixd_fz et
    obtain ⟨d2, hf2⟩ := fixd_fz eu
    have hz : fzs [t, u] = some [d1, d2] := by simp [fzs, hf1, hf2]
    obtain ⟨F2, e2, f2, sub⟩ := freeze sr.wf e1 r1 hz
    obtain ⟨v1, v2, rfl, q1, q2⟩ := FRs.twoV f2
    obtain ⟨a, us, rfl, rf, ha⟩ := isT_frozen et hf1 q1
    obtain ⟨c, us', rfl, rf', hc⟩ := isT_frozen eu hf2 q2
    have w2 := e2.wf sr.wf
    refine ⟨a, c, rfl, ?_⟩
    rcases ha with ⟨z, ha, nv⟩ | ⟨z, ha⟩ <;> rcases hc with ⟨z', hc, nv'⟩ | ⟨z', hc⟩
    · exact .inl ⟨⟨us, us', .of ha, .of hc⟩, k _ _ F2 H1 _ pt e2 (wk_zip (b := true)) (fun _ => KeepS.two StL.keepS StL.keepS) ⟨⟨us, ha, w2.nv a nv, (fun _ => nv), rf⟩, ⟨us', hc, w2.nv c nv', (fun _ => nv'), rf'⟩⟩⟩
    · rw [z, z'] at eT; cases eT
    · rw [z, z'] at eT; cases eT
    · exact .inr ⟨⟨us, us', .of ha, .of hc⟩, k _ _ F2 H1 _ pt e2 wk_zipT (fun _ => KeepS.two StT.keepS StT.keepS) ⟨⟨us, ha, rf⟩, ⟨us', hc, rf'⟩⟩⟩
theorem di_zip {b : Bool} {e e2 : Expr} {da : DAx} {p pos tpos : Pos} {elts : List Expr} {kk : Nat} (hg : Gl X "zip") (hm : X.mg "zip" = none) (ha : DA X [e, e2] da)
    (hs : starEach [e, e2] X.env = (false, eval e X.env) :: starEach [e2] X.env := by rfl) (hpl : (backTo pos (starEach [e2] X.env)).any (·.1) = false := by rfl) :
    DI X (.Tuple elts kk tpos) (.Call (.Name "zip" p) [e, e2] [] pos) b (dZip b da) := ⟨PI.weaken (pi_zipS hg hm ha.run hs hpl) fun _ _ _ h => zip_lift h⟩
theorem di_zipK {b : Bool} {e e2 : Expr} {da : DAx} {p pos tpos p1 p2 : Pos} {k1 : Nat} {elts : List Expr} {kk : Nat} (hg : Gl X "zip") (hm : X.mg "zip" = none) (ha : DA X [e, e2] da)
    (hs : backTo pos (starEach [e, e2] X.env) = (false, eval e X.env) :: backTo pos (starEach [e2] X.env) := by rfl) (hpl : (backTo pos (starEach [e, e2] X.env)).any (·.1) = false := by rfl) :
    DI X (.Tuple elts kk tpos) (.Call (.Name "zip" p) [e, e2] [⟨some "strict", .Constant (.bool false) k1 p1, p2⟩] pos) b (dZip b da) := ⟨PI.weaken (pi_zipKS hg hm ha.run hs hpl) fun _ _ _ h => zip_lift h⟩
end DL
end
section
set_option maxRecDepth 100000
set_option maxHeartbeats 2000000
namespace DL
open PySem PySem.Spec PyProof.Rows L2 RZ
variable {X : Cx}
structure XC (C : Addr) (S : Vo) (F : Addr → Prop) (H : Hp) (F' : Addr → Prop) (H' : Hp) : Prop where
  same : ∀ a o, a ≠ C → ¬ Vol S a → H a = some o → H' a = some o
  sub : ∀ a, F a → F' a
  new : ∀ a, F' a → F a ∨ H a = none
  wf : WF S F' H'
  nc : ¬ F' C
  at_ : ∃ us, H' C = some (.lst us)
section
variable {C : Addr} {S : Vo} {F F1 F2 F' F0 : Addr → Prop} {H H1 H2 H' Hs H0 : Hp}
theorem XC.refl (w : WF S F H) (n : ¬ F C) (h : ∃ us, H C = some (.lst us)) : XC C S F H F H := ⟨fun _ _ _ _ e => e, fun _ e => e, fun _ e => .inl e, w, n, h⟩
theorem XC.step (x : XC C S F H F1 H1) (e : Ext S F1 H1 F2 H2) (w : WF S F H) (n : ¬ F C) (nv : ¬ Vol S C) (h : ∃ us, H C = some (.lst us)) : XC C S F H F2 H2 := by
  obtain ⟨us, hc⟩ := x.at_
  refine ⟨fun a o ne v q => e.same a o v (x.same a o ne v q), fun a f => e.sub a (x.sub a f), fun a f => ?_, e.wf x.wf, fun f => ?_, us, e.same C _ nv hc⟩
  · rcases e.new a f with q | q
    · exact x.new a q
    · by_cases z : a = C
      · subst z; rw [hc] at q; cases q
      · cases p : H a with
        | none => exact .inr rfl
        | some o =>
          by_cases v : Vol S a
          · obtain ⟨sd, sc, rfl, v⟩ := v
            obtain ⟨_, _, _, _, h1, h2, _⟩ := x.wf.src _ _ rfl
            rcases v with v | v <;> subst v
            · rw [q] at h1; cases h1
            · rw [q] at h2; cases h2
          · rw [x.same a o z v p] at q; cases q
  · rcases e.new C f with q | q
    · exact x.nc q
    · rw [hc] at q; cases q
theorem XC.put (x : XC C S F H F1 H1) (nv : ¬ Vol S C) (us : List V) : XC C S F H F1 (upd H1 C (.lst us)) := by
  refine ⟨fun a o ne v q => by rw [upd_ne ne]; exact x.same a o ne v q, x.sub, x.new, ⟨fun sd sc q => ?_, fun a f => ?_, x.wf.nv⟩, x.nc, us, upd_same⟩
  · obtain ⟨c, l, m, t, h1, h2, h3⟩ := x.wf.src sd sc q
    have n1 : sd ≠ C := fun z => nv ⟨sd, sc, q, .inl z.symm⟩
    have n2 : sc ≠ C := fun z => nv ⟨sd, sc, q, .inr z.symm⟩
    exact ⟨c, l, m, t, by rw [upd_ne n1]; exact h1, by rw [upd_ne n2]; exact h2, h3⟩
  · have : a ≠ C := fun z => x.nc (z ▸ f)
    rw [upd_ne this]; exact x.wf.fin a f
theorem XC.toStep (x : XC C S F H F' H') (w : WF S F H) (n : ¬ F C) (h : ∃ us, H C = some (.lst us)) : Step S F H F' H' := by
  obtain ⟨us, hc⟩ := h
  refine ⟨fun a vs q => x.same a _ (fun z => by rw [z, hc] at q; cases q) (w.tup q) q, fun a f => ⟨x.sub a f, ?_⟩⟩
  have ne : a ≠ C := fun z => n (z ▸ f)
  cases q : H a with
  | none => exact absurd q (w.fin a f)
  | some o => exact x.same a o ne (w.nv a f) q
end
def ownP (env : DEnv) : List Bool := env.map fun o => match o with
  | some t => t.isOwn
  | none => false
theorem ownP_get {env : DEnv} {i : Nat} : (ownP env)[i]? = (env[i]?).map fun o => match o with
  | some t => t.isOwn
  | none => false := by simp [ownP]
theorem wipeE_none : ∀ {vs : List Nat} {env : DEnv} {i : Nat} {t : TV}, i ∈ vs → (wipeE env vs)[i]? ≠ some (some t)
  | v :: vs, env, i, t, h => by
    unfold wipeE
    rw [List.getElem?_set]
    by_cases z : v = i
    · simp [z]
    · have : i ∈ vs := by
        rcases List.mem_cons.mp h with q | q
        · exact absurd q.symm z
        · exact q
      simp only [z, if_false]
      exact wipeE_none this
section
variable {C : Addr} {S : Vo} {F F1 F' F0 : Addr → Prop} {H H1 H' H0 : Hp} {env : DEnv} {σ : L2.St}
theorem SR.xc (r : SR S F0 H0 F env σ H) (x : XC C S F H F' H') (nf : ¬ F C) (hc : ∃ us, H C = some (.lst us)) (h0 : H0 C = none) (av : ∀ (i : Nat) (t : TV), env[i]? = some (some t) → t.isOwn = true → σ[i]? ≠ some (some (.ref C))) : SR S F0 H0 F' env σ H' := by
  have st := x.toStep r.wf nf hc
  refine ⟨r.len, fun i t e => ?_, r.dist, ⟨fun a o v q => ?_, fun a f => x.sub a (r.ext.sub a f), fun a f => ?_, fun _ => x.wf⟩, r.wf0⟩
  · obtain ⟨v, h1, h2⟩ := r.slot i t e
    refine ⟨v, h1, ?_⟩
    have keep : ∀ (a : Addr) (o : HO), v = .ref a → t.isOwn = true → H a = some o → H0 a = none → ¬ F a → H' a = some o ∧ ¬ F' a := fun a o hv ho q n f => by
      have ne : a ≠ C := fun z => by subst z; subst hv; exact av i t e ho h1
      refine ⟨x.same a o ne (r.wf0.vol n) q, fun f' => ?_⟩
      rcases x.new a f' with z | z
      · exact f z
      · rw [q] at z; cases z
    cases t with
    | fr d => exact FR.step st d v h2
    | rd ds => exact h2
    | own ds =>
      obtain ⟨a, vs, rfl, q, n, f, rf⟩ := h2
      obtain ⟨k1, k2⟩ := keep a _ rfl rfl q n f
      exact ⟨a, vs, rfl, k1, n, k2, FRs.step st _ _ rf⟩
    | dct ls =>
      obtain ⟨a, kvs, rfl, q, n, f, rf⟩ := h2
      obtain ⟨k1, k2⟩ := keep a _ rfl rfl q n f
      exact ⟨a, kvs, rfl, k1, n, k2, rf⟩
  · exact x.same a o (fun z => by rw [z, h0] at q; cases q) v (r.ext.same a o v q)
  · rcases x.new a f with z | z
    · exact r.ext.new a z
    · exact .inr (r.ext.none_of r.wf0 z)
theorem SR.avoid {env' : DEnv} {σ' : L2.St} {vs ns : List Nat} (r : SR S F0 H0 F (wipeE env vs) (L2.wipe σ vs) H) (hn : H C = none) (off : Off ns (L2.wipe σ vs) σ') (hs : ∀ i ∈ ns, i ∈ vs) (cl : ownP env' = ownP (wipeE env vs)) :
    ∀ (i : Nat) (t : TV), env'[i]? = some (some t) → t.isOwn = true → σ'[i]? ≠ some (some (.ref C)) := by
  intro i t e o q
  have h1 : (ownP env')[i]? = some true := by rw [ownP_get, e]; simp [o]
  rw [cl, ownP_get] at h1
  cases h2 : (wipeE env vs)[i]? with
  | none => rw [h2] at h1; cases h1
  | some ot =>
    rw [h2] at h1
    cases ot with
    | none => simp at h1
    | some t0 =>
      have o0 : t0.isOwn = true := by simpa using h1
      have hi : i ∉ ns := fun h => wipeE_none (hs i h) h2
      obtain ⟨v, g1, g2⟩ := r.slot i t0 h2
      rw [off.2 i hi, g1] at q
      cases q
      cases t0 with
      | fr d => cases o0
      | rd ds => cases o0
      | own ds => obtain ⟨a, us, e1, e2, _⟩ := g2; cases e1; rw [hn] at e2; cases e2
      | dct ls => obtain ⟨a, us, e1, e2, _⟩ := g2; cases e1; rw [hn] at e2; cases e2
end
def lcI (g : DGx) (tt : DTx) (te : DEx) (env : DEnv) (P : List D → Prop) : List D → List D → Prop
  | [], acc => P acc
  | d :: ds, acc => g d env fun env' => tt env' fun b => if b = true then te env' fun t => ∃ y, t.fz = some y ∧ acc.length < sizeLine ∧ lcI g tt te env P ds (acc ++ [y]) else lcI g tt te env P ds acc
def lcO (g : DGx) (tt : DTx) (di1 : DIx) (g1 : DGx) (tt1 : DTx) (te : DEx) (env : DEnv) (vs1 : List Nat) (P : List D → Prop) : List D → List D → Prop
  | [], acc => P acc
  | d :: ds, acc => g d env fun env' => ownP env' = ownP env ∧ tt env' fun b => if b = true then di1 env' fun es => lcI g1 tt1 te (wipeE env' vs1) (fun acc' => lcO g tt di1 g1 tt1 te env vs1 P ds acc') es acc
    else lcO g tt di1 g1 tt1 te env vs1 P ds acc
def dLc2 (di : DIx) (g : DGx) (tt : DTx) (di1 : DIx) (g1 : DGx) (tt1 : DTx) (te : DEx) (vs vs1 : List Nat) : DEx := fun env P => di env fun ds => lcO g tt di1 g1 tt1 te (wipeE env vs) vs1 (fun ys => P (.own ys)) ds []
theorem de_lc2 {elt tg iter tg1 iter1 : Expr} {ifs ifs1 : List Expr} {scope : Scope} {own : List (Str × Nat)} {vs1 : List Nat} {pos : Pos} {di di1 : DIx} {g g1 : DGx} {tt tt1 : DTx} {te : DEx} {ns ns1 : List Nat} (hc : X.calm = true) (hN : X.N.Nodup) (hi : DI X tg iter false di) (ok : BlkOk X.N X.env.scope scope own) (hv : ∀ i ∈ vs1, i ∈ own.map (·.2))
    (hg : ∀ (s : Shared) (H : Hp) (C : Addr) (cl : List (Str × Addr)) (fp : List Addr), DG (X.blk s H scope (compEnvC scope cl C X.env) fp) tg ns g) (ht : ∀ (s : Shared) (H : Hp) (C : Addr) (cl : List (Str × Addr)) (fp : List Addr), DTs (X.blk s H scope (compEnvC scope cl C X.env) fp) ifs tt)
    (hi1 : ∀ (s : Shared) (H : Hp) (C : Addr) (cl : List (Str × Addr)) (fp : List Addr), DI (X.blk s H scope (compEnvC scope cl C X.env) fp) tg1 iter1 true di1)
    (hg1 : ∀ (s : Shared) (H : Hp) (C : Addr) (cl : List (Str × Addr)) (fp : List Addr), DG (X.blk s H scope (compEnvC scope cl C X.env) fp) tg1 ns1 g1) (ht1 : ∀ (s : Shared) (H : Hp) (C : Addr) (cl : List (Str × Addr)) (fp : List Addr), DTs (X.blk s H scope (compEnvC scope cl C X.env) fp) ifs1 tt1)
    (he : ∀ (s : Shared) (H : Hp) (C : Addr) (cl : List (Str × Addr)) (fp : List Addr), DE (X.blk s H scope (compEnvC scope cl C X.env) fp) elt te) (hns : ∀ i ∈ ns, i ∈ own.map (·.2)) (hns1 : ∀ i ∈ ns1, i ∈ vs1) (hs : ∀ x, foldedSetIterable iter X.env x = pure x := by intro _; rfl) (hs1 : ∀ env x, foldedSetIterable iter1 env x = pure x := by intro _ _; rfl) :
    DE X (.ListComp elt [⟨tg, iter, ifs, 0⟩, ⟨tg1, iter1, ifs1, 0⟩] scope pos) (dLc2 di g tt di1 g1 tt1 te (own.map (·.2)) vs1) := by
  refine ⟨PE.weaken (pe_lc2 hc hN hi.run ok hv (fun s H C cl fp => (hg s H C cl fp).run) (fun s H C cl fp => (ht s H C cl fp).run) (fun s H C cl fp => (hi1 s H C cl fp).run) (fun s H C cl fp => (hg1 s H C cl fp).run) (fun s H C cl fp => (ht1 s H C cl fp).run) (fun s H C cl fp => (he s H C cl fp).run) hs hs1) fun σ H Q hh => ?_⟩
  obtain ⟨S, F0, H0, F, env, P, sr, p, k⟩ := hh
  refine ⟨S, F0, H0, F, env, _, sr, p, fun ds J F1 H1 St pt e1 wk _ st C hC => ?_⟩
  have w0 := sr.wf
  have w1 := e1.wf w0
  have hC0 : H C = none := e1.none_of w0 hC
  have hCs : H0 C = none := sr.ext.none_of sr.wf0 hC0
  have nvC : ¬ Vol S C := w1.vol hC
  generalize hvs : own.map (·.2) = vs at *
  have ext_of : ∀ {F' : Addr → Prop} {H' : Hp}, XC C S F1 (upd H1 C (.lst [])) F' H' → Ext S F1 H1 F' H' := by
    intro F' H' x
    refine ⟨fun a o nv q => ?_, x.sub, fun a f => ?_, fun _ => x.wf⟩
    · have ne : a ≠ C := fun z => by rw [z, hC] at q; cases q
      exact x.same a o ne nv (by rw [upd_ne ne]; exact q)
    · rcases x.new a f with z | z
      · exact .inl z
      · have ne : a ≠ C := fun q => by rw [q, upd_same] at z; cases z
        rw [upd_ne ne] at z
        exact .inr z
  have nF1 : ¬ F1 C := fun f => w1.fin C f hC
  have wU : WF S F1 (upd H1 C (.lst [])) := (Ext.new_obj w1 hC).wf w1
  have x0 : XC C S F1 (upd H1 C (.lst [])) F1 (upd H1 C (.lst [])) := .refl wU nF1 ⟨[], upd_same⟩
  let In : Nat → Hp → Prop := fun i H' => ∃ F' us acc, XC C S F1 (upd H1 C (.lst [])) F' H' ∧ H' C = some (.lst us) ∧ FRs S F' H' acc us ∧ i ≤ ds.length ∧ lcO g tt di1 g1 tt1 te (wipeE env vs) vs1 (fun ys => P (.own ys)) (ds.drop i) acc
  refine ⟨fun i m H' => m = ds.length - i ∧ In i H', ⟨_, rfl, F1, [], [], x0, upd_same, rfl, Nat.zero_le _, pt⟩, ?_⟩
  rintro i m H' ⟨rfl, F', us, acc, x, hc', rf, hi', hl⟩
  have e := ext_of x
  have w' := x.wf
  have nf := x.nc
  have st' := wk.keepE _ _ _ _ w1 st e
  by_cases hlt : i < ds.length
  · refine .inr ⟨wk.go i F' H' w' st' hlt, In (i + 1), fun H'' n => ⟨_, by omega, rfl, n⟩, fun xv H'' y => ?_⟩
    have hd : ds[i]? = some ds[i] := List.getElem?_eq_getElem hlt
    obtain ⟨e2, fx⟩ := wk.yld i F' H' xv H'' w' st' y _ hd
    have w2 := e2.wf w'
    have x2 := x.step e2 wU nF1 nvC ⟨_, upd_same⟩
    rw [List.drop_eq_getElem_cons hlt] at hl
    unfold lcO at hl
    have srw := (sr.step (e1.trans (ext_of x2) w0)).wipe vs
    refine ⟨S, F0, H0, F', wipeE env vs, ds[i], _, srw, fx, hl, fun env' σ' p' sr' off => ⟨wipe_off off hns, S, F0, H0, F', env', _, sr', p'.2, fun b F3 H3 pb e3 => ?_⟩⟩
    have x3 := x2.step e3 wU nF1 nvC ⟨_, upd_same⟩
    have w3 := e3.wf w2
    have hc2 : H'' C = some (.lst us) := e2.same C _ nvC hc'
    have hc3 : H3 C = some (.lst us) := e3.same C _ nvC hc2
    have nf3 : ¬ F3 C := x3.nc
    have rf3 : FRs S F3 H3 acc us := FRs.ext e3 w2 _ _ (FRs.ext e2 w' _ _ rf)
    have av : ∀ (i : Nat) (t : TV), env'[i]? = some (some t) → t.isOwn = true → σ'[i]? ≠ some (some (.ref C)) := by
      refine SR.avoid (H := H) (F := F) (sr.wipe vs) hC0 off hns p'.1
    cases b with
    | false =>
      refine ⟨F3, us, acc, x3, hc3, rf3, hlt, ?_⟩
      simpa using pb
    | true =>
      have sr3 := sr'.step e3
      simp only [if_true]
      simp only [if_true] at pb
      refine ⟨S, F0, H0, F3, env', _, sr3, pb, fun es J1 F4 H4 St1 pe e4 wk1 ks1 st1 => ?_⟩
      have ks1 := ks1 rfl
      have x4 := x3.step e4 wU nF1 nvC ⟨_, upd_same⟩
      have w4 := e4.wf w3
      have hc4 : H4 C = some (.lst us) := e4.same C _ nvC hc3
      have rf4 : FRs S F4 H4 acc us := FRs.ext e4 w3 _ _ rf3
      let In1 : Nat → Hp → Prop := fun j H5 => ∃ F5 us acc, XC C S F4 H4 F5 H5 ∧ XC C S F1 (upd H1 C (.lst [])) F5 H5 ∧ H5 C = some (.lst us) ∧ FRs S F5 H5 acc us ∧ j ≤ es.length ∧ lcI g1 tt1 te (wipeE env' vs1) (fun acc' => lcO g tt di1 g1 tt1 te (wipeE env vs) vs1 (fun ys => P (.own ys)) (ds.drop (i + 1)) acc') (es.drop j) acc
      refine ⟨fun j k' H5 => k' = es.length - j ∧ In1 j H5, ⟨_, rfl, F4, us, acc, .refl w4 x4.nc ⟨_, hc4⟩, x4, hc4, rf4, Nat.zero_le _, pe⟩, ?_⟩
      rintro j k' H5 ⟨rfl, F5, us5, acc5, x45, x5, hc5, rf5, hj, hl5⟩
      have w5 := x5.wf
      have st5 := ks1 _ _ _ _ st1 (x45.toStep w4 x4.nc ⟨_, hc4⟩)
      by_cases hlt5 : j < es.length
      · refine .inr ⟨wk1.go j F5 H5 w5 st5 hlt5, In1 (j + 1), fun H6 n => ⟨_, by omega, rfl, n⟩, fun xv1 H6 y1 => ?_⟩
        have hd5 : es[j]? = some es[j] := List.getElem?_eq_getElem hlt5
        obtain ⟨e6, fx6⟩ := wk1.yld j F5 H5 xv1 H6 w5 st5 y1 _ hd5
        have w6 := e6.wf w5
        have x46 := x45.step e6 w4 x4.nc nvC ⟨_, hc4⟩
        have x6 := x5.step e6 wU nF1 nvC ⟨_, upd_same⟩
        rw [List.drop_eq_getElem_cons hlt5] at hl5
        unfold lcI at hl5
        have sr4 := sr3.step e4
        have sr6 : SR S F0 H0 F5 env' σ' H6 := sr4.xc x46 x4.nc ⟨_, hc4⟩ hCs av
        have hc6 : H6 C = some (.lst us5) := e6.same C _ nvC hc5
        refine ⟨S, F0, H0, F5, wipeE env' vs1, es[j], _, sr6.wipe vs1, fx6, hl5, fun env7 σ7 p7 sr7 off7 => ⟨wipe_off off7 hns1, S, F0, H0, F5, env7, _, sr7, p7, fun b8 F8 H8 pb8 e8 => ?_⟩⟩
        have x48 := x46.step e8 w4 x4.nc nvC ⟨_, hc4⟩
        have x8 := x6.step e8 wU nF1 nvC ⟨_, upd_same⟩
        have w8 := e8.wf w6
        have hc8 : H8 C = some (.lst us5) := e8.same C _ nvC hc6
        have rf8 : FRs S F8 H8 acc5 us5 := FRs.ext e8 w6 _ _ (FRs.ext e6 w5 _ _ rf5)
        cases b8 with
        | false =>
          refine ⟨F8, us5, acc5, x48, x8, hc8, rf8, hlt5, ?_⟩
          simpa using pb8
        | true =>
          refine ⟨S, F0, H0, F8, env7, _, sr7.step e8, (by simpa using pb8 : te env7 _), fun t v F9 H9 pt e9 r9 => ?_⟩
          obtain ⟨y, hy, hz, pt⟩ := pt
          have hc9 : H9 C = some (.lst us5) := e9.same C _ nvC hc8
          have rr : RVs S H8 F9 H9 [t] [v] := ⟨v, [], rfl, r9, rfl⟩
          have hf : fzs [t] = some [y] := by simp [fzs, hy]
          obtain ⟨F10, e10, f10, sub10⟩ := freeze w8 e9 rr hf
          have x410 := x48.step e10 w4 x4.nc nvC ⟨_, hc4⟩
          have x10 := x8.step e10 wU nF1 nvC ⟨_, upd_same⟩
          have w10 := e10.wf w8
          have rf10 : FRs S F10 H9 (acc5 ++ [y]) (us5 ++ [v]) := (FRs.ext e10 w8 _ _ rf8).append f10
          have xr : XC C S F10 H9 F10 (upd H9 C (.lst (us5 ++ [v]))) := (XC.refl w10 x10.nc ⟨_, hc9⟩).put nvC _
          have stp := xr.toStep w10 x10.nc ⟨_, hc9⟩
          refine ⟨us5, hc9, by rw [rf8.length]; exact hz, F10, us5 ++ [v], acc5 ++ [y], x410.put nvC _, x10.put nvC _, upd_same, FRs.step stp _ _ rf10, hlt5, pt⟩
      · have ej : j = es.length := by omega
        subst ej
        rw [List.drop_length] at hl5
        exact .inl ⟨wk1.stop F5 H5 w5 st5, F5, us5, acc5, x5, hc5, rf5, hlt, hl5⟩
  · have ei : i = ds.length := by omega
    subst ei
    rw [List.drop_length] at hl
    refine .inl ⟨wk.stop F' H' w' st', ?_⟩
    exact k _ _ F' H' hl (e1.trans e w0) ⟨C, us, rfl, hc', nvC, hC0, nf, rf⟩
end DL
end
section
set_option maxRecDepth 100000
set_option maxHeartbeats 2000000
namespace DL
open PySem PySem.Spec PyProof.Rows L2 RZ
variable {X : Cx}
def dTy : D → Option String
  | .none => some "NoneType"
  | .bool _ => some "bool"
  | .int _ => some "int"
  | .str _ => some "str"
  | .list _ => some "list"
  | .tuple _ => some "tuple"
  | .dict _ => none
theorem RV.ty {K : PySem.W.Frag} {S : Vo} {Hs H : Hp} {F : Addr → Prop} {t : TV} {v : V} {T : String} (r : RV S Hs F H t v) (w : WF S F H) (e : dTy t.asD = some T) : TyX K H v (.type T) := by
  cases t with
  | fr d =>
    cases d with
    | none => cases e; cases r; exact .base .non
    | bool b => cases e; cases r; exact .base (.bl b)
    | int i => cases e; cases r; exact .base (.int i)
    | str x => cases e; cases r; exact .base (.str x)
    | list ds => cases e; obtain ⟨a, vs, rfl, f, q, _⟩ := r; exact .base (.lst q)
    | tuple ds => cases e; obtain ⟨a, vs, rfl, q, _⟩ := r; exact .base (.tup q)
    | dict x => cases e
  | rd ds => cases e; obtain ⟨a, vs, rfl, q, _⟩ := r; exact .base (.lst q)
  | own ds => cases e; obtain ⟨a, vs, rfl, q, _⟩ := r; exact .base (.lst q)
  | dct ls => exact r.elim
def isTy (T : String) (d : D) : Bool := match d with
  | .bool _ => T == "bool" || T == "int"
  | .int _ => T == "int"
  | .str _ => T == "str"
  | .list _ => T == "list"
  | .tuple _ => T == "tuple"
  | _ => false
def dIsTy (T : String) (d : DEx) : DEx := fun env P => d env fun t => (∃ s, dTy t.asD = some s) ∧ P (.fr (.bool (isTy T t.asD)))
theorem kit3 (K : PySem.W.Frag) {T : String} (hT : T = "tuple" ∨ T = "int" ∨ T = "bool") {d : D} {s : String} (e : dTy d = some s) : PySem.W.kitOne K (.type s) (.type T) = some (isTy T d) := by
  rcases hT with rfl | rfl | rfl <;> cases d <;> cases e <;> kernel_rfl
theorem de_isTy (T : String) {x : Str} {p1 p2 pos : Pos} {e : Expr} {d : DEx} (hT : T = "tuple" ∨ T = "int" ∨ T = "bool") (hv : bootBuiltins x = some (.type T)) (hn : x ≠ "__name__") (hd : (x == ("__debug__" : Str)) = false) (hg : Gl X "isinstance") (hm : X.mg "isinstance" = none) (hg2 : Gl X x) (hm2 : X.mg x = none) (h : DE X e d)
    (hs : starEach [e, .Name x p2] X.env = (false, eval e X.env) :: starEach [.Name x p2] X.env := by rfl) :
    DE X (.Call (.Name "isinstance" p1) [e, .Name x p2] [] pos) (dIsTy T d) := by
  refine ⟨PE.weaken (pe_callB call_isi hg hm (by decide +kernel) (pa_cons h.run (pa_cons (pe_bltn (v := .ty T) hg2 hm2 hv rfl hn hd) pa_nil) hs) (he := hs)) fun σ H Q hh => ?_⟩
  obtain ⟨S, F0, H0, F, env, P, sr, p, k⟩ := hh
  refine ⟨S, F0, H0, F, env, _, sr, p, fun t v F1 H1 pt e1 r1 => ?_⟩
  obtain ⟨⟨s, hs⟩, pt⟩ := pt
  exact ⟨v, .ty T, .type s, .type T, _, rfl, .ty T, r1.ty (e1.wf sr.wf) hs, kit3 _ hT hs, k _ _ F1 H1 pt e1 rfl⟩
def dIsTuple : DEx → DEx := dIsTy "tuple"
def dIsInt : DEx → DEx := dIsTy "int"
def dIsBool : DEx → DEx := dIsTy "bool"
theorem de_isTuple {p1 p2 pos : Pos} {e : Expr} {d : DEx} (hg : Gl X "isinstance") (hm : X.mg "isinstance" = none) (hg2 : Gl X "tuple") (hm2 : X.mg "tuple" = none) (h : DE X e d)
    (hs : starEach [e, .Name "tuple" p2] X.env = (false, eval e X.env) :: starEach [.Name "tuple" p2] X.env := by rfl) : DE X (.Call (.Name "isinstance" p1) [e, .Name "tuple" p2] [] pos) (dIsTuple d) := de_isTy "tuple" (.inl rfl) (by decide +kernel) (by decide) (by decide) hg hm hg2 hm2 h hs
theorem de_isInt {p1 p2 pos : Pos} {e : Expr} {d : DEx} (hg : Gl X "isinstance") (hm : X.mg "isinstance" = none) (hg2 : Gl X "int") (hm2 : X.mg "int" = none) (h : DE X e d)
    (hs : starEach [e, .Name "int" p2] X.env = (false, eval e X.env) :: starEach [.Name "int" p2] X.env := by rfl) : DE X (.Call (.Name "isinstance" p1) [e, .Name "int" p2] [] pos) (dIsInt d) := de_isTy "int" (.inr (.inl rfl)) (by decide +kernel) (by decide) (by decide) hg hm hg2 hm2 h hs
theorem de_isBool {p1 p2 pos : Pos} {e : Expr} {d : DEx} (hg : Gl X "isinstance") (hm : X.mg "isinstance" = none) (hg2 : Gl X "bool") (hm2 : X.mg "bool" = none) (h : DE X e d)
    (hs : starEach [e, .Name "bool" p2] X.env = (false, eval e X.env) :: starEach [.Name "bool" p2] X.env := by rfl) : DE X (.Call (.Name "isinstance" p1) [e, .Name "bool" p2] [] pos) (dIsBool d) := de_isTy "bool" (.inr (.inr rfl)) (by decide +kernel) (by decide) (by decide) hg hm hg2 hm2 h hs
def intT (k : List Int) : D := .tuple (k.map .int)
theorem FR.intT {S : Vo} {F : Addr → Prop} {H : Hp} {k : List Int} {v : V} (r : FR S F H (intT k) v) : ∃ b, v = .ref b ∧ H b = some (.tup ((k.map Sum.inl).map kV)) := by
  obtain ⟨b, vs, rfl, q, rf⟩ := r
  refine ⟨b, rfl, ?_⟩
  rw [q]
  have : ∀ (k : List Int) (vs : List V), FRs S F H (k.map .int) vs → vs = (k.map Sum.inl).map kV := by
    intro k
    induction k with
    | nil => intro vs r; exact r
    | cons i k ih =>
      intro vs r
      obtain ⟨v, r', rfl, h1, h2⟩ := r
      rw [ih _ h2]; cases h1; rfl
  rw [this k vs rf]
def putL (ls : List (List Int)) (k : List Int) : List (List Int) := if k ∈ ls then ls else ls ++ [k]
theorem putK_keys {κ : Type} [DecidableEq κ] {kvs : List (κ × V)} {k : κ} {v : V} : (putK kvs k v).map (·.1) = if k ∈ kvs.map (·.1) then kvs.map (·.1) else kvs.map (·.1) ++ [k] := by
  unfold putK
  by_cases h : k ∈ kvs.map (·.1)
  · have : (kvs.any fun kv => decide (kv.1 = k)) = true := by
      obtain ⟨x, hx, e⟩ := List.mem_map.mp h
      exact List.any_eq_true.mpr ⟨x, hx, by simpa using e⟩
    rw [if_pos this, if_pos h, List.map_map]
    apply List.map_congr_left
    intro x _
    show (if x.1 = k then (x.1, v) else x).1 = x.1
    split <;> rfl
  · have : ¬ (kvs.any fun kv => decide (kv.1 = k)) = true := by
      intro q
      obtain ⟨x, hx, e⟩ := List.any_eq_true.mp q
      exact h (List.mem_map.mpr ⟨x, hx, by simpa using e⟩)
    rw [if_neg this, if_neg h, List.map_append]
    rfl
theorem put_keys {kvs : List (List Key × V)} {ls : List (List Int)} {k : List Int} {v : V} (e : kvs.map (·.1) = ls.map (·.map Sum.inl)) : (putK kvs (k.map Sum.inl) v).map (·.1) = (putL ls k).map (·.map Sum.inl) := by
  rw [putK_keys, e]
  have inj : ∀ (a b : List Int), a.map (Sum.inl : Int → Key) = b.map Sum.inl → a = b := fun a b h => List.map_inj_right (fun x y z => by injection z) |>.mp h
  have : (k.map (Sum.inl : Int → Key) ∈ ls.map (·.map Sum.inl)) ↔ k ∈ ls := by
    constructor
    · intro h
      obtain ⟨x, hx, q⟩ := List.mem_map.mp h
      rw [← inj _ _ q]; exact hx
    · exact fun h => List.mem_map.mpr ⟨k, h, rfl⟩
  unfold putL
  by_cases h : k ∈ ls
  · rw [if_pos (this.mpr h), if_pos h]
  · rw [if_neg (fun z => h (this.mp z)), if_neg h, List.map_append]; rfl
theorem putK_len {kvs : List (List Key × V)} {ls : List (List Int)} (e : kvs.map (·.1) = ls.map (·.map Sum.inl)) : kvs.length = ls.length := by
  have := congrArg List.length e
  simpa using this
end DL
end
section
set_option maxRecDepth 100000
set_option maxHeartbeats 2000000
namespace PySem
open Sem (wp)
theorem wpAny_Dict_heapH {prog : Program} {w : World} {K : Type} [DecidableEq K] {knd : HeapKind prog w K} {A : Around} {E : Value → Shared → Prop} {s : Shared} {env : Env} {keys : List (Option Expr)} {values : List Expr} {pos : Pos} {pairs : List (Sem Value × Sem Value)} {Q : Value → Shared → Prop} (hu : knd.room A)
    (hshape : (evalEachOpt keys env).zip ((evalEach values env).map fun v => do let x ← v; standAt pos; pure x) = pairs.map fun p => (some p.1, p.2)) (h0 : pairs ≠ []) (hlen : pairs.length ≤ 15)
    (h : wpAny (model prog w) A (evalPairs pairs) (fun vs s₁ => ∃ ps, CarriesH knd s₁.heap vs ps ∧ s₁.heap.DictOfH knd s.heap.objs.size [] ∧
      ∀ h' tk, h'.DictOfH knd s.heap.objs.size (storedAllH [] ps) → Heap.SameBut s.heap.objs.size s₁.heap h' → Q (.ref s.heap.objs.size) { s₁ with heap := h', toks := tk }) E
      { s with heap := s.heap.push { cls := .type "dict", data := .dict #[] } }) :
    wpAny (model prog w) A (eval (.Dict keys values pos) env) Q E s := by
  rw [arm_eval_Dict, hshape, dictDisplay_pairs pairs h0 (by omega)]
  exact wpAny_bind (wpAny_standAt (wpAny_bind (wpAny_subDictH (knd := knd) (Q := fun d s' => wpAny (model prog w) A (pure (Value.ref d)) Q E s') hu hlen
    (wpAny_mono h (fun vs s₁ h₁ => by obtain ⟨ps, hc, hm, hq⟩ := h₁; exact ⟨ps, hc, hm, fun h' tk a b => wpAny_pure (hq h' tk a b)⟩) fun _ _ e => e))))
end PySem
namespace DL
open PySem PySem.Spec PyProof.Rows L2 RZ
variable {X : Cx}
def tDisp2 (ta tu tb tv : TE) : TE := fun σ H Q => ∀ p, H p = none → ta σ (upd H p (.dT [])) fun x H1 => tu σ H1 fun y H2 => tb σ H2 fun x' H3 => tv σ H3 fun y' H4 => H4 p = some (.dT []) ∧
  ∃ k k' b b', x = .ref b ∧ x' = .ref b' ∧ H4 b = some (.tup (k.map kV)) ∧ H4 b' = some (.tup (k'.map kV)) ∧ Q (.ref p) (upd H4 p (.dT (putK (putK [] k y) k' y')))
theorem pe_disp2 {a u b v : Expr} {pos : Pos} {ta tu tb tv : TE} (hu : X.A.units < cLine) (ha : PE X a ta) (hU : PE X u tu) (hb : PE X b tb) (hv : PE X v tv) : PE X (.Dict [some a, some b] [u, v] pos) (tDisp2 ta tu tb tv) := by
  refine ⟨fun pins s σ H Q I q => ?_⟩
  have hn := I.hok.fresh (Nat.le_refl s.heap.objs.size)
  have I1 := I.laid (a := s.heap.objs.size) (o := .dT []) (h' := s.heap.push { cls := .type "dict", data := .dict #[] }) (t' := s.toks) (fun _ _ q => Heap.get?_push_of_some _ q) (Nat.le_refl _) (dt_empty s.heap I.big)
  refine wpAny_Dict_heapH (knd := tupleKind (mixKind X.prog X.w)) (pairs := pairTrees [some a, some b] [u, v] X.env pos) hu (zip_pairTrees [some a, some b] [u, v] X.env pos rfl rfl) (fun z => by cases z) (by show 2 ≤ 15; omega) ?_
  refine pairTrees_cons_walk (thn (ha.run pins _ σ _ _ I1 (q _ hn)) fun vx s1 ⟨x, H1, I1, rx, q1⟩ => thn (hU.run pins s1 σ H1 _ I1 q1) fun vy s2 ⟨y, H2, I2, ry, q2⟩ => ?_)
  refine pairTrees_cons_walk (thn (hb.run pins _ σ _ _ I2 q2) fun vx' s3 ⟨x', H3, I3, rx', q3⟩ => thn (hv.run pins s3 σ H3 _ I3 q3) fun vy' s4 ⟨y', H4, I4, ry', q4⟩ => pairTrees_nil_walk ?_)
  obtain ⟨e, k, k', b1, b2, rfl, rfl, e1, e2, q4⟩ := q4
  cases rx; cases rx'
  obtain ⟨z, hd, xs, r0, dd⟩ := dt_of I4.hok e
  cases r0
  have r1 : KT H4 (putK [] k y) (storedH [] k b1 vy) := KT.put .nil k e1 ry
  have r2 : KT H4 (putK (putK [] k y) k' y') (storedH (storedH [] k b1 vy) k' b2 vy') := r1.put k' e2 ry'
  refine ⟨[(k, b1, vy), (k', b2, vy')], ⟨rfl, rfl, key_of I4.hok e1, rfl, rfl, key_of I4.hok e2, trivial⟩, dd, fun h' tk dd' hs => ⟨.ref s.heap.objs.size, _, ?_, rfl, q4⟩⟩
  have hl : (putK (putK [] k y) k' y').length ≤ sizeLine := by
    have h1 := length_putK (putK ([] : List (List Key × V)) k y) k' y'
    have h2 := length_putK ([] : List (List Key × V)) k y
    rw [sizeLine_eq]; simp at h2; omega
  obtain ⟨q, es, ep, hq, h2, h3, h4, _, h5⟩ := dd'
  refine d_write I4 (by rw [e]; exact True.intro) hs ⟨q, hq⟩ ⟨hl, hd, _, r2.keeps fun c ys ec => ?_, q, es, ep, hq, h2, h3, h4, h5⟩
  rw [upd_ne (ne_of ec e (fun z => nomatch z))]
  exact ec
section
variable {S : Vo} {F F1 F' F0 : Addr → Prop} {H H1 H' H0 : Hp} {env : DEnv} {σ : L2.St}
theorem SR.upD {p : Addr} {i : Nat} {kvs : List (List Key × V)} {ls : List (List Int)} (r : SR S F0 H0 F env σ H) (hp : ∃ kvs0, H p = some (.dT kvs0)) (n : H0 p = none) (f : ¬ F p)
    (ok : ∀ (j : Nat) (t : TV), env[j]? = some (some t) → t.isOwn = true → σ[j]? = some (some (.ref p)) → j = i) (ek : kvs.map (·.1) = ls.map (·.map Sum.inl)) :
    SR S F0 H0 F (env.set i (some (.dct ls))) (σ.set i (some (.ref p))) (upd H p (.dT kvs)) ∧ Step S F H F (upd H p (.dT kvs)) := by
  obtain ⟨kvs0, q⟩ := hp
  have w := r.wf
  have nv := r.wf0.vol n
  have stp : Step S F H F (upd H p (.dT kvs)) := ⟨fun b vs q' => by
    have : b ≠ p := fun z => by rw [z, q] at q'; cases q'
    rw [upd_ne this]; exact q', fun b f' => ⟨f', by
    have : b ≠ p := fun z => f (z ▸ f')
    rw [upd_ne this]⟩⟩
  have wn : WF S F (upd H p (.dT kvs)) := by
    refine ⟨fun sd sc q' => ?_, fun b f' => by rw [(stp.fix b f').2]; exact w.fin b f', w.nv⟩
    obtain ⟨c, l, m, t, h1, h2, h3⟩ := w.src sd sc q'
    have n1 : sd ≠ p := fun z => nv ⟨sd, sc, q', .inl z.symm⟩
    have n2 : sc ≠ p := fun z => nv ⟨sd, sc, q', .inr z.symm⟩
    exact ⟨c, l, m, t, by rw [upd_ne n1]; exact h1, by rw [upd_ne n2]; exact h2, h3⟩
  have at_i : ∀ (m : Nat) (w : TV), (env.set i (some (.dct ls)))[m]? = some (some w) → m = i → (σ.set i (some (.ref p)))[m]? = some (some (.ref p)) := fun m w e z => by
    subst z
    have hl : m < env.length := by
      have := (List.getElem?_eq_some_iff.mp e).1
      simpa using this
    exact List.getElem?_set_self (by rw [← r.len]; exact hl)
  refine ⟨⟨by simp [r.len], fun j t hj => ?_, fun j l t u c ne e e' o o' q1 q2 => ?_, ⟨fun b o nb q' => ?_, r.ext.sub, r.ext.new, fun _ => wn⟩, r.wf0⟩, stp⟩
  · by_cases z : j = i
    · have hv := at_i j t hj z
      subst z
      have hl : j < env.length := by
        have := (List.getElem?_eq_some_iff.mp hj).1
        simpa using this
      rw [List.getElem?_set_self hl] at hj
      cases hj
      exact ⟨_, hv, p, kvs, rfl, upd_same, n, f, ek⟩
    · rw [List.getElem?_set_ne (Ne.symm z)] at hj
      rw [List.getElem?_set_ne (Ne.symm z)]
      obtain ⟨x, hx, rs⟩ := r.slot j t hj
      refine ⟨x, hx, ?_⟩
      cases t with
      | fr d => exact FR.step stp _ _ rs
      | rd d => exact rs.elim
      | own d =>
        obtain ⟨c, vs, rfl, q2, n2, f2, rf2⟩ := rs
        have : c ≠ p := fun y => z (ok j _ hj rfl (y ▸ hx))
        exact ⟨c, vs, rfl, by rw [upd_ne this]; exact q2, n2, f2, FRs.step stp _ _ rf2⟩
      | dct ls =>
        obtain ⟨c, vs, rfl, q2, n2, f2, rf2⟩ := rs
        have : c ≠ p := fun y => z (ok j _ hj rfl (y ▸ hx))
        exact ⟨c, vs, rfl, by rw [upd_ne this]; exact q2, n2, f2, rf2⟩
  · by_cases z : j = i
    · have q3 := at_i j t e z
      rw [q1] at q3
      cases q3
      have z' : l ≠ i := fun y => ne (z.trans y.symm)
      rw [List.getElem?_set_ne (Ne.symm z')] at e' q2
      exact z' (ok l u e' o' q2)
    · by_cases z' : l = i
      · have q3 := at_i l u e' z'
        rw [q2] at q3
        cases q3
        rw [List.getElem?_set_ne (Ne.symm z)] at e q1
        exact z (ok j t e o q1)
      · rw [List.getElem?_set_ne (Ne.symm z)] at e q1
        rw [List.getElem?_set_ne (Ne.symm z')] at e' q2
        exact r.dist j l t u c ne e e' o o' q1 q2
  · have : b ≠ p := fun z => by rw [z, n] at q'; cases q'
    rw [upd_ne this]; exact r.ext.same b o nb q'
end
def dDict (i : Nat) (da db : DEx) : DSt := fun DD env => da env fun x => ∃ k, x = .fr (intT k) ∧ db env fun y => ∃ k', y = .fr (intT k') ∧ DD.nx (env.set i (some (.dct (putL (putL [] k) k'))))
theorem ds_dict {i : Nat} {y : Str} {a b : Expr} {da db : DEx} {py p0 p1 p2 pos : Pos} {j1 j2 : Nat} {z1 z2 : Bool} (hu : X.A.units < cLine) (hN : X.N.Nodup) (hi : X.N[i]? = some y) (hx : Loc X.env.scope y) (ha : DE X a da) (hb : DE X b db)
    (hs : swapsWith (.Dict [some a, some b] [.Constant (.bool z1) j1 p1, .Constant (.bool z2) j2 p2] p0) (some (.Name y py)) pos.line X.env = pure false := by rfl) (hf : X.fn y = true ∨ X.env.scope.names.lookup y = some .local := by first | exact .inl rfl | exact .inr rfl | assumption) :
    DS X (.Assign [.Name y py] (.Dict [some a, some b] [.Constant (.bool z1) j1 p1, .Constant (.bool z2) j2 p2] p0) pos) (dDict i da db) := by
  refine ⟨PS.weaken (ps_set hN hi hx (pe_disp2 hu ha.run pe_bl hb.run pe_bl) hs hf) fun D σ H hh => ?_⟩
  obtain ⟨S, F0, H0, F, env, DD, sr, p, kn, kr, kb, kc⟩ := hh
  intro c hc
  have e0 : Ext S F H F (upd H c (.dT [])) := .new_obj sr.wf hc
  have sr0 := sr.step e0
  have hc0 : H0 c = none := sr.ext.none_of sr.wf0 hc
  have nv := sr.wf.vol hc
  have nf : ¬ F c := fun f => sr.wf.fin c f hc
  refine ⟨S, F0, H0, F, env, _, sr0, p, fun t v F1 H1 pt e1 r1 => ?_⟩
  obtain ⟨k, rfl, pt⟩ := pt
  have sr1 := sr0.step e1
  refine ⟨S, F0, H0, F1, env, _, sr1, pt, fun t' v' F2 H2 pt e2 r2 => ?_⟩
  obtain ⟨k', rfl, pt⟩ := pt
  have sr2 := sr1.step e2
  have q0 : (upd H c (.dT [])) c = some (.dT []) := upd_same
  have q1 : H1 c = some (.dT []) := e1.same c _ nv q0
  have q2 : H2 c = some (.dT []) := e2.same c _ nv q1
  have nf1 : ¬ F1 c := fun f => by
    rcases e1.new c f with z | z
    · exact nf z
    · rw [q0] at z; cases z
  have nf2 : ¬ F2 c := fun f => by
    rcases e2.new c f with z | z
    · exact nf1 z
    · rw [q1] at z; cases z
  have r1 : FR S F1 H1 (intT k) v := r1
  have r2 : FR S F2 H2 (intT k') v' := r2
  obtain ⟨b1, rfl, h1⟩ := FR.intT (FR.ext e2 sr1.wf _ _ r1)
  obtain ⟨b2, rfl, h2⟩ := FR.intT r2
  refine ⟨q2, k.map .inl, k'.map .inl, b1, b2, rfl, rfl, h1, h2, ?_⟩
  have av : ∀ (j : Nat) (t : TV), env[j]? = some (some t) → t.isOwn = true → σ[j]? = some (some (.ref c)) → j = i := fun j t e o q => by
    exfalso
    obtain ⟨x, hx, rs⟩ := sr.slot j t e
    rw [q] at hx; cases hx
    cases t with
    | fr d => cases o
    | rd d => cases o
    | own d => obtain ⟨a, us, ea, qa, _⟩ := rs; cases ea; rw [hc] at qa; cases qa
    | dct l => obtain ⟨a, us, ea, qa, _⟩ := rs; cases ea; rw [hc] at qa; cases qa
  have ek : (putK (putK ([] : List (List Key × V)) (k.map .inl) (.bl z1)) (k'.map .inl) (.bl z2)).map (·.1) = (putL (putL [] k) k').map (·.map Sum.inl) := put_keys (put_keys rfl)
  obtain ⟨sr3, st3⟩ := sr2.upD ⟨_, q2⟩ hc0 nf2 av ek
  exact kn F2 _ _ _ pt ((((e0.step sr.wf).trans (e1.step sr0.wf)).trans (e2.step sr1.wf)).trans st3) sr3
def dPut (i : Nat) (d : DEx) : DSt := fun DD env => match env[i]? with
  | some (some (.dct ls)) => d env fun t => ∃ k, t = .fr (intT k) ∧ ls.length < sizeLine ∧ DD.nx (env.set i (some (.dct (putL ls k))))
  | _ => False
theorem ds_put {i : Nat} {x : Str} {e : Expr} {d : DEx} {px pos' p1 pos : Pos} {j1 : Nat} {z1 : Bool} (hN : X.N[i]? = some x) (hv : Vis X.env.scope x) (hd : (x == ("__debug__" : Str)) = false) (hcd : (x == ("__classdict__" : Str)) = false) (hu : X.A.units + 1 < cLine) (he : DE X e d)
    (hs : swapsWith (.Constant (.bool z1) j1 p1) (some (.Subscript (.Name x px) e pos')) pos.line X.env = pure false := by rfl) : DS X (.Assign [.Subscript (.Name x px) e pos'] (.Constant (.bool z1) j1 p1) pos) (dPut i d) := by
  refine ⟨PS.weaken (ps_dput hu (pe_var hN hv hd hcd) he.run pe_bl hs) fun D σ H hh => ?_⟩
  obtain ⟨S, F0, H0, F, env, DD, sr, p, kn, kr, kb, kc⟩ := hh
  unfold dPut at p
  split at p
  · rename_i ls hj
    obtain ⟨v0, hv0, a, kvs, rfl, q, n, nf, ek⟩ := sr.slot i _ hj
    refine ⟨.ref a, hv0, S, F0, H0, F, env, _, sr, p, fun t v F1 H1 pt e1 r1 => ?_⟩
    obtain ⟨k, rfl, hl, pt⟩ := pt
    have sr1 := sr.step e1
    obtain ⟨b, rfl, hb⟩ := FR.intT (show FR S F1 H1 (intT k) v from r1)
    obtain ⟨v1, hv1, a1, kvs1, ea, q1, n1, nf1, ek1⟩ := sr1.slot i _ hj
    rw [hv0] at hv1; cases hv1; cases ea
    refine ⟨a, _, rfl, DPut.t q1 hb (by rw [putK_len ek1]; exact hl), ?_⟩
    have av : ∀ (j : Nat) (t : TV), env[j]? = some (some t) → t.isOwn = true → σ[j]? = some (some (.ref a)) → j = i := fun j t e o q => by
      by_cases z : j = i
      · exact z
      · exact absurd hv0 (sr.dist j i t _ a z e hj o rfl q)
    obtain ⟨sr3, st3⟩ := sr1.upD ⟨_, q1⟩ n1 nf1 av (put_keys (k := k) (v := .bl z1) ek1)
    have es : σ.set i (some (.ref a)) = σ := by
      obtain ⟨hl, he⟩ := List.getElem?_eq_some_iff.mp hv0
      rw [← he, List.set_getElem_self]
    rw [es] at sr3
    exact kn F1 _ _ _ pt ((e1.step sr.wf).trans st3) sr3
  · exact p.elim
def dKeys (i : Nat) : DEx := fun env P => match env[i]? with
  | some (some (.dct ls)) => P (.own (ls.map intT))
  | _ => False
theorem frs_ints {S : Vo} {F : Addr → Prop} {H : Hp} : ∀ k : List Int, FRs S F H (k.map .int) ((k.map Sum.inl).map kV)
  | [] => rfl
  | i :: k => ⟨.int i, _, rfl, rfl, frs_ints k⟩
theorem fr_ints {S : Vo} {F : Addr → Prop} {H : Hp} {k : List Int} {b : Addr} (h : H b = some (.tup ((k.map Sum.inl).map kV))) : FR S F H (intT k) (.ref b) := ⟨b, _, rfl, h, frs_ints k⟩
theorem de_keys (i : Nat) {x : Str} {px pc pos : Pos} (hg : Gl X "list") (hm : X.mg "list" = none) (hc : X.calm = true := by rfl) (hN : X.N[i]? = some x := by rfl) (hv : Vis X.env.scope x := by first | exact Or.inl rfl | exact Or.inr (Or.inl rfl) | exact Or.inr (Or.inr rfl)) (hd : (x == ("__debug__" : Str)) = false := by decide) (hcd : (x == ("__classdict__" : Str)) = false := by decide)
    (hs : starEach [.Name x px] X.env = (false, eval (.Name x px) X.env) :: starEach [] X.env := by rfl) : DE X (.Call (.Name "list" pc) [.Name x px] [] pos) (dKeys i) := by
  refine ⟨PE.weaken (pe_callTy (call_list_dT hc) hg hm (by decide +kernel) (pa_cons (pe_var hN hv hd hcd) pa_nil hs) (he := hs)) fun σ H Q hh => ?_⟩
  obtain ⟨S, F0, H0, F, env, P, sr, p, k⟩ := hh
  unfold dKeys at p
  split at p
  · rename_i ls hj
    obtain ⟨v0, hv0, a, kvs, rfl, q, n, nf, ek⟩ := sr.slot i _ hj
    refine ⟨.ref a, hv0, a, kvs, rfl, .of q, fun c bs hc ik => ?_⟩
    have e : Ext S F H F (upd H c (.lst (bs.map V.ref))) := .new_obj sr.wf hc
    refine k _ _ F _ p e ⟨c, _, rfl, upd_same, sr.wf.vol hc, hc, fun f => sr.wf.fin c f hc, ?_⟩
    refine FRs.ext e sr.wf _ _ ?_
    have : ∀ (ls : List (List Int)) (kvs : List (List Key × V)) (bs : List Addr), kvs.map (·.1) = ls.map (·.map Sum.inl) → IsKeys H kvs bs → FRs S F H (ls.map intT) (bs.map V.ref) := by
      intro ls
      induction ls with
      | nil =>
        intro kvs bs e ik
        cases kvs with
        | nil => cases ik; rfl
        | cons _ _ => cases e
      | cons l ls ih =>
        intro kvs bs e ik
        cases kvs with
        | nil => cases e
        | cons kv kvs =>
          cases ik with
          | @cons p b ps qs hb t =>
            have e1 : kv.1 = l.map Sum.inl := by injection e
            have e2 : kvs.map (·.1) = ls.map (·.map Sum.inl) := by injection e
            rw [e1] at hb
            exact ⟨.ref b, _, rfl, fr_ints hb, ih _ _ e2 t⟩
    exact this ls kvs bs ek ik
  · exact p.elim
end DL
end
section
set_option maxRecDepth 100000
set_option maxHeartbeats 2000000
namespace DL
open PySem PySem.Spec PyProof.Rows L2 RZ
variable {X : Cx}
def oMulK : O2 := oIC CMul (· * ·)
def srcK (sc : Addr) (l m t : Int) : List (Key × V) := [(.inr "cells", .ref sc), (.inr "left", .int l), (.inr "mixed", .int m), (.inr "turn", .int t)]
inductive SKey : Str → Prop where
  | left : SKey "left"
  | mixed : SKey "mixed"
  | turn : SKey "turn"
theorem skey_get {k : Str} (h : SKey k) (sc : Addr) (l m t : Int) : ∃ n : Int, valV (srcK sc l m t) (.inr k) = some (.int n) := by
  cases h <;> exact ⟨_, rfl⟩
theorem skey_put {k : Str} (h : SKey k) (sc : Addr) (l m t n : Int) : ∃ l' m' t' : Int, putK (srcK sc l m t) (.inr k) (.int n) = srcK sc l' m' t' := by
  cases h <;> exact ⟨_, _, _, rfl⟩
theorem cells_get (sc : Addr) (l m t : Int) : valV (srcK sc l m t) (.inr "cells") = some (.ref sc) := rfl
section
variable {S : Vo} {F F1 F' F0 : Addr → Prop} {H H1 H' H0 : Hp} {env : DEnv} {σ : L2.St}
theorem SR.at_src (r : SR S F0 H0 F env σ H) {i : Nat} (h : env[i]? = some (some (.fr (.dict [])))) : ∃ sd sc, S = some (sd, sc) ∧ σ[i]? = some (some (.ref sd)) ∧ ∃ (cells : List Int) (l m t : Int), H sd = some (.dK (srcK sc l m t)) ∧ H sc = some (.lst (cells.map V.int)) ∧ cells.length ≤ 1000 ∧ sd ≠ sc := by
  obtain ⟨v, hv, a, rfl, sd, sc, e1, e2⟩ := r.slot i _ h
  have e2 : a = sd := e2
  subst e2
  obtain ⟨cells, l, m, t, h1, h2, h3, h4⟩ := r.wf.src _ _ e1
  exact ⟨a, sc, e1, hv, cells, l, m, t, h1, h2, h3, h4⟩
theorem SR.src (r : SR S F0 H0 F env σ H) {c : Addr} {o : HO} (hv : Vol S c) (nt : ∀ vs, H c ≠ some (.tup vs)) (ok : SrcOk S (upd H c o)) : SR S F0 H0 F env σ (upd H c o) ∧ Step S F H F (upd H c o) := by
  have w := r.wf
  have nf : ¬ F c := fun f => w.nv c f hv
  have h0 : H0 c ≠ none := fun h => r.wf0.vol h hv
  have stp : Step S F H F (upd H c o) := ⟨fun b vs q => by
    have : b ≠ c := fun z => by rw [z] at q; exact nt vs q
    rw [upd_ne this]; exact q, fun b f => ⟨f, by
    have : b ≠ c := fun z => nf (z ▸ f)
    rw [upd_ne this]⟩⟩
  have wn : WF S F (upd H c o) := ⟨ok, fun b f => by rw [(stp.fix b f).2]; exact w.fin b f, w.nv⟩
  refine ⟨⟨r.len, fun i t e => ?_, r.dist, ⟨fun a o' nv q => ?_, r.ext.sub, r.ext.new, fun _ => wn⟩, r.wf0⟩, stp⟩
  · obtain ⟨v, h1, h2⟩ := r.slot i t e
    refine ⟨v, h1, ?_⟩
    cases t with
    | fr d => exact FR.step stp d v h2
    | rd ds => exact h2
    | own ds =>
      obtain ⟨a, vs, rfl, q, n, f, rf⟩ := h2
      have : a ≠ c := fun z => h0 (z ▸ n)
      exact ⟨a, vs, rfl, by rw [upd_ne this]; exact q, n, f, FRs.step stp _ _ rf⟩
    | dct ls =>
      obtain ⟨a, vs, rfl, q, n, f, rf⟩ := h2
      have : a ≠ c := fun z => h0 (z ▸ n)
      exact ⟨a, vs, rfl, by rw [upd_ne this]; exact q, n, f, rf⟩
  · have : a ≠ c := fun z => nv (z ▸ hv)
    rw [upd_ne this]; exact r.ext.same a o' nv q
theorem src_put {S : Vo} {sd sc : Addr} {cells : List Int} {l m t : Int} (e : S = some (sd, sc)) (h2 : H sc = some (.lst (cells.map V.int))) (h3 : cells.length ≤ 1000) (h4 : sd ≠ sc) : SrcOk S (upd H sd (.dK (srcK sc l m t))) := by
  intro a b q
  rw [e] at q; cases q
  exact ⟨cells, l, m, t, upd_same, by rw [upd_ne (Ne.symm h4)]; exact h2, h3, h4⟩
theorem src_pop {S : Vo} {sd sc : Addr} {cells : List Int} {l m t : Int} (e : S = some (sd, sc)) (h1 : H sd = some (.dK (srcK sc l m t))) (h3 : cells.length ≤ 1000) (h4 : sd ≠ sc) : SrcOk S (upd H sc (.lst (cells.map V.int))) := by
  intro a b q
  rw [e] at q; cases q
  exact ⟨cells, l, m, t, by rw [upd_ne h4]; exact h1, upd_same, h3, h4⟩
end
def dSrc (i : Nat) : DEx := fun env P => env[i]? = some (some (.fr (.dict []))) ∧ ∀ n : Int, P (.fr (.int n))
theorem de_src (i : Nat) {x k : Str} {px pk pos : Pos} {j : Nat} (sk : SKey k) (hu : X.A.units + 1 < cLine) (hN : X.N[i]? = some x := by rfl) (hv : Vis X.env.scope x := by first | exact Or.inl rfl | exact Or.inr (Or.inl rfl) | exact Or.inr (Or.inr rfl)) (hd : (x == ("__debug__" : Str)) = false := by decide) (hcd : (x == ("__classdict__" : Str)) = false := by decide) :
    DE X (.Subscript (.Name x px) (.Constant (.str k) j pk) pos) (dSrc i) := by
  refine ⟨PE.weaken (pe_dget hu (pe_var hN hv hd hcd) pe_str (fun _ _ => rfl)) fun σ H Q hh => ?_⟩
  obtain ⟨S, F0, H0, F, env, P, sr, ⟨he, p⟩, q⟩ := hh
  obtain ⟨sd, sc, eS, hs, cells, l, m, t, h1, h2, h3, h4⟩ := sr.at_src he
  obtain ⟨n, hn⟩ := skey_get sk sc l m t
  refine ⟨.ref sd, hs, sd, .int n, rfl, ?_, q _ _ F H (p n) .refl rfl⟩
  rw [← hn]
  exact DGet.k (k := .inr k) h1
def dSrcPut (i : Nat) (d : DEx) : DSt := fun DD env => env[i]? = some (some (.fr (.dict []))) ∧ d env fun t => ∃ n : Int, t = .fr (.int n) ∧ DD.nx env
theorem ds_srcPut {i : Nat} {x k : Str} {e : Expr} {d : DEx} {px pk p' pos : Pos} {j : Nat} (sk : SKey k) (hu : X.A.units + 1 < cLine) (hN : X.N[i]? = some x) (hv : Vis X.env.scope x) (hd : (x == ("__debug__" : Str)) = false) (hcd : (x == ("__classdict__" : Str)) = false) (he : DE X e d)
    (hs : swapsWith e (some (.Subscript (.Name x px) (.Constant (.str k) j pk) p')) pos.line X.env = pure false := by rfl) : DS X (.Assign [.Subscript (.Name x px) (.Constant (.str k) j pk) p'] e pos) (dSrcPut i d) := by
  refine ⟨PS.weaken (ps_dput hu (pe_var hN hv hd hcd) pe_str he.run hs) fun D σ H hh => ?_⟩
  obtain ⟨S, F0, H0, F, env, DD, sr, ⟨hi, p⟩, kn, kr, kb, kc⟩ := hh
  refine ⟨S, F0, H0, F, env, _, sr, p, fun t v F1 H1 pt e1 r1 => ?_⟩
  obtain ⟨n, rfl, pt⟩ := pt
  cases r1
  have sr1 := sr.step e1
  obtain ⟨sd, sc, eS, hs, cells, l, m, t, h1, h2, h3, h4⟩ := sr1.at_src hi
  obtain ⟨l', m', t', hp⟩ := skey_put sk sc l m t n
  refine ⟨.ref sd, hs, sd, _, rfl, DPut.k (k := .inr k) h1 (by show 4 < sizeLine; decide), ?_⟩
  rw [hp]
  obtain ⟨sr2, s2⟩ := sr1.src ⟨sd, sc, eS, .inl rfl⟩ (fun vs q => by rw [h1] at q; cases q) (src_put eS h2 h3 h4)
  exact kn F1 env σ _ pt ((e1.step sr.wf).trans s2) sr2
def dCells (j i : Nat) : DSt := fun DD env => env[i]? = some (some (.fr (.dict []))) ∧ DD.nx (env.set j (some (.fr (.dict [(.none, .none)]))))
theorem ds_cells {i j : Nat} {x y : Str} {px py pk p' pos : Pos} {z : Nat} (hu : X.A.units + 1 < cLine) (hNd : X.N.Nodup) (hj : X.N[j]? = some y) (hy : Loc X.env.scope y) (hN : X.N[i]? = some x) (hv : Vis X.env.scope x) (hd : (x == ("__debug__" : Str)) = false) (hcd : (x == ("__classdict__" : Str)) = false)
    (hs : swapsWith (.Subscript (.Name x px) (.Constant (.str "cells") z pk) p') (some (.Name y py)) pos.line X.env = pure false := by rfl) (hf : X.fn y = true ∨ X.env.scope.names.lookup y = some .local := by first | exact .inl rfl | exact .inr rfl | assumption) :
    DS X (.Assign [.Name y py] (.Subscript (.Name x px) (.Constant (.str "cells") z pk) p') pos) (dCells j i) := by
  refine ⟨PS.weaken (ps_set hNd hj hy (pe_dget hu (pe_var hN hv hd hcd) pe_str (fun _ _ => rfl)) hs hf) fun D σ H hh => ?_⟩
  obtain ⟨S, F0, H0, F, env, DD, sr, ⟨hi, p⟩, kn, kr, kb, kc⟩ := hh
  obtain ⟨sd, sc, eS, hs, cells, l, m, t, h1, h2, h3, h4⟩ := sr.at_src hi
  refine ⟨.ref sd, hs, sd, .ref sc, rfl, ?_, ?_⟩
  · rw [← cells_get sc l m t]
    exact DGet.k (k := .inr "cells") h1
  · exact kn F _ _ H p .refl (sr.put j ⟨sc, rfl, sd, sc, eS, rfl⟩)
def dDrain (i j : Nat) : DSt := fun DD env => env[i]? = some (some (.fr (.dict []))) ∧ env[j]? = some (some (.fr (.dict [(.none, .none)]))) ∧ DD.nx env
theorem ds_drain {i j : Nat} {x y : Str} {p1 p2 p3 p4 p5 p6 p7 p8 p9 p10 p11 p12 p13 p14 p15 p16 p17 p18 p19 : Pos} {z1 z2 z3 z4 : Nat} (hpo : PassesOwn (model X.prog X.w) X.A X.env X.xe) (hu : X.A.units + 1 < cLine) (hN : X.N[i]? = some x) (hv : Vis X.env.scope x) (hd : (x == ("__debug__" : Str)) = false) (hcd : (x == ("__classdict__" : Str)) = false)
    (hNj : X.N[j]? = some y) (hvj : Vis X.env.scope y) (hdj : (y == ("__debug__" : Str)) = false) (hcdj : (y == ("__classdict__" : Str)) = false) (hg : Gl X "len") (hm : X.mg "len" = none)
    (hpop : PE X (.Call (.Attribute (.Name y p14) "pop" p15) [] [] p16) (tBM0 X.K "list" rPop (tVar j)))
    (hb1 : behindInMarks .Lt (.Constant (.int 2) z2 p4) = false := by rfl) (hb2 : behindInMarks .Gt (.Constant (.int 0) z3 p9) = false := by rfl)
    (hs : swapsWith (.Call (.Attribute (.Name y p14) "pop" p15) [] [] p16) (some (.Subscript (.Name x p11) (.Constant (.str "left") z4 p12) p13)) p17.line X.env = pure false := by rfl)
    (he : starEach [.Name y p6] X.env = (false, eval (.Name y p6) X.env) :: starEach [] X.env := by rfl) :
    DS X (.While (.BoolOp .And [.Compare (.Subscript (.Name x p1) (.Constant (.str "left") z1 p2) p3) [.Lt] [.Constant (.int 2) z2 p4] p5, .Compare (.Call (.Name "len" p7) [.Name y p6] [] p8) [.Gt] [.Constant (.int 0) z3 p9] p10] p18)
      [.Assign [.Subscript (.Name x p11) (.Constant (.str "left") z4 p12) p13] (.Call (.Attribute (.Name y p14) "pop" p15) [] [] p16) p17] [] p19) (dDrain i j) := by
  have c1 : PE X (.Constant (.str "left") z1 p2) (tC (.str "left")) := pe_str
  have c2 : PE X (.Constant (.int 2) z2 p4) (tC (.int 2)) := pe_int
  have c3 : PE X (.Constant (.int 0) z3 p9) (tC (.int 0)) := pe_int
  have e1 : PE X (.Subscript (.Name x p1) (.Constant (.str "left") z1 p2) p3) _ := pe_dget hu (pe_var hN hv hd hcd) c1 (fun _ _ => rfl)
  have e2 : PE X (.Call (.Name "len" p7) [.Name y p6] [] p8) _ := pe_callB call_len_seq hg hm boot_len (pa_cons (pe_var hNj hvj hdj hcdj) pa_nil he) (he := he)
  have t1 : PT X (.Compare (.Subscript (.Name x p1) (.Constant (.str "left") z1 p2) p3) [.Lt] [.Constant (.int 2) z2 p4] p5) _ := pt_cmpR op_lt e1 c2 hb1
  have t2 : PT X (.Compare (.Call (.Name "len" p7) [.Name y p6] [] p8) [.Gt] [.Constant (.int 0) z3 p9] p10) _ := pt_cmpR op_gt e2 c3 hb2
  refine ⟨PS.weaken (ps_while hpo (PW.pt (pw_and t1 (pw_and1 t2))) (pss_one (ps_dput hu (pe_var hN hv hd hcd) pe_str hpop hs))) fun D σ H hh => ?_⟩
  obtain ⟨S, F0, H0, F, env, DD, sr, ⟨hi, hj, p⟩, kn, kr, kb, kc⟩ := hh
  refine ⟨fun k σ' H' => σ' = σ ∧ SR S F0 H0 F env σ H' ∧ Step S F H F H' ∧ ∃ (sd sc : Addr) (cells : List Int), S = some (sd, sc) ∧ H' sc = some (.lst (cells.map V.int)) ∧ cells.length = k, ?_, ?_⟩
  · obtain ⟨sd, sc, eS, hs, cells, l, m, t, h1, h2, h3, h4⟩ := sr.at_src hi
    exact ⟨cells.length, rfl, sr, .refl, sd, sc, cells, eS, h2, rfl⟩
  · rintro k σ' H' ⟨rfl, sr', st', sd', sc', cells', eS', hc', rfl⟩
    obtain ⟨sd, sc, eS, hsi, cells, l, m, t, h1, h2, h3, h4⟩ := sr'.at_src hi
    rw [eS'] at eS; cases eS
    rw [hc'] at h2
    have ec : cells' = cells := by
      have : cells'.map V.int = cells.map V.int := by injection h2 with h2; injection h2
      exact List.map_inj_right (fun x y z => by injection z) |>.mp this
    subst ec
    obtain ⟨v, hvj', a, rfl, sd2, sc2, e1, e2⟩ := sr'.slot j _ hj
    rw [eS'] at e1; cases e1
    have e2 : a = sc' := e2
    subst e2
    refine ⟨.ref sd', hsi, sd', .int l, rfl, ?_, l, 2, rfl, rfl, _, rfl, ?_⟩
    · exact .inl ⟨_, .inr "left", .inl h1, rfl, rfl⟩
    by_cases hl : l < 2
    · dsimp only
      rw [if_pos (by simpa using hl)]
      refine ⟨.ref a, hvj', a, cells'.map V.int, rfl, .inl (.of hc'), _, 0, rfl, rfl, _, rfl, ?_⟩
      by_cases hz : 0 < cells'.length
      · try dsimp only
        rw [if_pos (by simp; omega)]
        refine ⟨fun σ2 H2 => σ2 = σ' ∧ SR S F0 H0 F env σ' H2 ∧ Step S F H F H2 ∧ ∃ (sd sc : Addr) (cells : List Int), S = some (sd, sc) ∧ H2 sc = some (.lst (cells.map V.int)) ∧ cells.length + 1 = cells'.length, fun σ2 H2 ⟨q1, q2, q3, sd, sc, cells, q4, q5, q6⟩ => ⟨_, by omega, q1, q2, q3, sd, sc, cells, q4, q5, rfl⟩, ?_⟩
        have hlast : (cells'.map V.int)[(cells'.map V.int).length - 1]? = some (.int (cells'[cells'.length - 1]'(by omega))) := by
          rw [List.length_map, List.getElem?_map, List.getElem?_eq_getElem (by omega)]; rfl
        refine ⟨.ref a, hvj', .inl ⟨rfl, _, .of hc'⟩, a, _, _, rfl, rfl, hc', hlast, ?_⟩
        rw [← List.map_dropLast]
        have hlen : cells'.dropLast.length ≤ 1000 := by rw [List.length_dropLast]; omega
        obtain ⟨sr2, s2⟩ := sr'.src ⟨sd', a, eS', .inr rfl⟩ (fun vs q => by rw [hc'] at q; cases q) (src_pop (cells := cells'.dropLast) eS' h1 hlen h4)
        obtain ⟨sdx, scx, eSx, hsx, cellsx, lx, mx, tx, k1, k2, k3, k4⟩ := sr2.at_src hi
        rw [eS'] at eSx; cases eSx
        refine ⟨.ref sd', hsi, sd', _, rfl, DPut.k (k := .inr "left") k1 (by show 4 < sizeLine; decide), ?_⟩
        obtain ⟨l', m', t', hp⟩ := skey_put .left a lx mx tx (cells'[cells'.length - 1]'(by omega))
        have hp' : putK (srcK a lx mx tx) (.inr "left") (.int (cells'[cells'.length - 1]'(by omega))) = srcK a l' m' t' := hp
        rw [hp']
        have hcc : (upd H' a (.lst (cells'.dropLast.map V.int))) a = some (.lst (cells'.dropLast.map V.int)) := upd_same
        obtain ⟨sr3, s3⟩ := sr2.src ⟨sd', a, eS', .inl rfl⟩ (fun vs q => by rw [k1] at q; cases q) (src_put (cells := cells'.dropLast) eS' hcc hlen h4)
        exact ⟨rfl, sr3, (st'.trans s2).trans s3, sd', a, cells'.dropLast, eS', by rw [upd_ne (Ne.symm h4)]; exact hcc, by rw [List.length_dropLast]; omega⟩
      · try dsimp only
        rw [if_neg (by rw [decide_eq_true_eq, List.length_map]; omega)]
        exact kn F env σ' H' p st' sr'
    · dsimp only
      rw [if_neg (by simpa using hl)]
      exact kn F env σ' H' p st' sr'
end DL
end
section
namespace RM
abbrev Pt := Rat × Rat
def turn (a b c : Pt) : Rat := (b.1 - a.1) * (c.2 - a.2) - (b.2 - a.2) * (c.1 - a.1)
theorem mn {a b : Rat} (x : 0 ≤ a) (y : 0 ≤ b) : 0 ≤ a * b := Rat.mul_nonneg x y
theorem mp {a b : Rat} (x : 0 < a) (y : 0 < b) : 0 < a * b := Rat.mul_pos x y
theorem mnp {a b : Rat} (x : 0 < b) (y : 0 ≤ a * b) : 0 ≤ a := by
  by_cases h : 0 ≤ a
  · exact h
  · have : 0 < (-a) * b := mp (by grind) x
    grind
theorem mnn {a b : Rat} (x : 0 < b) (y : a * b ≤ 0) : a ≤ 0 := by
  have : 0 ≤ -a := mnp x (by grind)
  grind
theorem mpp {a b : Rat} (x : 0 < b) (y : 0 < a * b) : 0 < a := by
  by_cases h : 0 < a
  · exact h
  · have : 0 ≤ (-a) * b := mn (by grind) (by grind)
    grind
structure Sd where
  f : Rat
  h : Rat
  K : List Pt
  p : Pt
  q : Pt
structure Sd.Ok (S : Sd) : Prop where
  k : ∀ c ∈ S.K, S.f ≤ c.1 ∧ c.1 < S.p.1 ∧ c.2 < S.h
  x : S.p.1 < S.q.1
  p : S.p.2 < S.h
  q : S.q.2 < S.h
  f : S.f ≤ S.p.1
def Sd.s (S : Sd) (t : Rat) : Pt := (S.p.1 + t * (S.q.1 - S.p.1), S.p.2 + t * (S.q.2 - S.p.2))
structure LeX (S : Sd) (t X : Rat) : Prop where
  f : S.f ≤ X
  o : S.q.2 < S.p.2 → turn S.p (X, S.h) S.q ≤ 0
  k : ∀ c ∈ S.K, (S.s t).2 < c.2 → turn c (X, S.h) (S.s t) ≤ 0
section
variable {S : Sd} {t t' X : Rat}
theorem s_x0 (ok : S.Ok) (h0 : 0 ≤ t) : S.p.1 ≤ (S.s t).1 := by
  have := mn h0 (show 0 ≤ S.q.1 - S.p.1 by have := ok.x; grind)
  show S.p.1 ≤ S.p.1 + t * (S.q.1 - S.p.1)
  grind
theorem s_x1 (ok : S.Ok) (h1 : t ≤ 1) : (S.s t).1 ≤ S.q.1 := by
  have := mn (show 0 ≤ 1 - t by grind) (show 0 ≤ S.q.1 - S.p.1 by have := ok.x; grind)
  show S.p.1 + t * (S.q.1 - S.p.1) ≤ S.q.1
  grind
theorem s_y (ok : S.Ok) (h0 : 0 ≤ t) (h1 : t ≤ 1) : (S.s t).2 < S.h := by
  show S.p.2 + t * (S.q.2 - S.p.2) < S.h
  have h2 := ok.p
  have h3 := ok.q
  have e1 := mn (show 0 ≤ 1 - t by grind) (show 0 ≤ S.h - S.p.2 by grind)
  have e2 := mn h0 (show 0 ≤ S.h - S.q.2 by grind)
  by_cases z : t = 0
  · subst z; grind
  · have e2 := mp (show 0 < t by grind) (show 0 < S.h - S.q.2 by grind)
    grind
theorem s_xs (ok : S.Ok) (h : t ≤ t') : (S.s t).1 ≤ (S.s t').1 := by
  have := mn (show 0 ≤ t' - t by grind) (show 0 ≤ S.q.1 - S.p.1 by have := ok.x; grind)
  show S.p.1 + t * (S.q.1 - S.p.1) ≤ S.p.1 + t' * (S.q.1 - S.p.1)
  grind
theorem star (c : Pt) (X : Rat) : (S.q.1 - S.p.1) * turn c (X, S.h) (S.s t) = turn S.p S.q c * ((S.s t).1 - X) - turn S.p S.q (X, S.h) * ((S.s t).1 - c.1) := by
  unfold turn Sd.s
  grind
theorem own_turn (X : Rat) : turn S.p (X, S.h) S.q = - turn S.p S.q (X, S.h) := by
  unfold turn
  grind
theorem near (c : Pt) {X : Rat} {s : Pt} {h : Rat} (h1 : c.1 ≤ X) (h2 : s.2 < c.2) (h3 : c.2 < h) (h4 : c.1 < s.1) : turn c (X, h) s ≤ 0 := by
  have e1 := mn (show 0 ≤ X - c.1 by grind) (show 0 ≤ c.2 - s.2 by grind)
  have e2 := mp (show 0 < h - c.2 by grind) (show 0 < s.1 - c.1 by grind)
  unfold turn
  grind
theorem etaX (ok : S.Ok) (o : S.q.2 < S.p.2 → turn S.p (X, S.h) S.q ≤ 0) (hX : X ≤ S.p.1) : 0 ≤ turn S.p S.q (X, S.h) := by
  by_cases d : S.q.2 < S.p.2
  · have := o d
    rw [own_turn] at this
    grind
  · have e1 := mn (show 0 ≤ S.q.2 - S.p.2 by grind) (show 0 ≤ S.p.1 - X by grind)
    have e2 := mp (show 0 < S.q.1 - S.p.1 by have := ok.x; grind) (show 0 < S.h - S.p.2 by have := ok.p; grind)
    unfold turn
    grind
theorem LeX.later (ok : S.Ok) (l : LeX S t X) (h0 : 0 ≤ t) (h : t ≤ t') (h1 : t' ≤ 1) : LeX S t' X := by
  refine ⟨l.f, l.o, fun c hc hy => ?_⟩
  obtain ⟨k1, k2, k3⟩ := ok.k c hc
  have a0 := s_x0 ok h0
  have a1 := s_xs ok h
  have dx : 0 < S.q.1 - S.p.1 := by have := ok.x; grind
  by_cases hX : c.1 ≤ X
  · exact near c hX hy k3 (by grind)
  have eX := etaX ok l.o (by grind)
  have st' := star (S := S) (t := t') c X
  have st := star (S := S) (t := t) c X
  by_cases he : turn S.p S.q c ≤ 0
  · have e1 := mn (show 0 ≤ - turn S.p S.q c by grind) (show 0 ≤ (S.s t').1 - X by grind)
    have e2 := mn eX (show 0 ≤ (S.s t').1 - c.1 by grind)
    refine mnn dx ?_
    grind
  · have hy0 : (S.s t).2 < c.2 := by
      by_cases d : S.q.2 < S.p.2
      · have e : (S.q.1 - S.p.1) * (c.2 - (S.s t).2) = turn S.p S.q c + (S.p.2 - S.q.2) * ((S.s t).1 - c.1) := by
          unfold turn Sd.s; grind
        have e2 := mp (show 0 < S.p.2 - S.q.2 by grind) (show 0 < (S.s t).1 - c.1 by grind)
        have : 0 < c.2 - (S.s t).2 := mpp dx (by grind)
        grind
      · have : (S.s t).2 ≤ (S.s t').2 := by
          have := mn (show 0 ≤ t' - t by grind) (show 0 ≤ S.q.2 - S.p.2 by grind)
          show S.p.2 + t * (S.q.2 - S.p.2) ≤ S.p.2 + t' * (S.q.2 - S.p.2)
          grind
        grind
    have lk := l.k c hc hy0
    have l2 := mn (show 0 ≤ - turn c (X, S.h) (S.s t) by grind) (show 0 ≤ S.q.1 - S.p.1 by grind)
    have le : turn S.p S.q c ≤ turn S.p S.q (X, S.h) := by
      by_cases z : turn S.p S.q c ≤ turn S.p S.q (X, S.h)
      · exact z
      · have e1 := mp (show 0 < turn S.p S.q c - turn S.p S.q (X, S.h) by grind) (show 0 < (S.s t).1 - c.1 by grind)
        have e2 := mp (show 0 < turn S.p S.q c by grind) (show 0 < c.1 - X by grind)
        grind
    have e3 := mn (show 0 ≤ (S.s t').1 - (S.s t).1 by grind) (show 0 ≤ turn S.p S.q (X, S.h) - turn S.p S.q c by grind)
    refine mnn dx ?_
    grind
theorem LeX.more (l : LeX S t X) {Y : Rat} (h : X ≤ Y) : LeX S t Y := by
  refine ⟨by have := l.f; grind, fun d => ?_, fun c hc hy => ?_⟩
  · have := l.o d
    have := mn (show 0 ≤ Y - X by grind) (show 0 ≤ S.p.2 - S.q.2 by grind)
    unfold turn at *
    grind
  · have := l.k c hc hy
    have := mn (show 0 ≤ Y - X by grind) (show 0 ≤ c.2 - (S.s t).2 by grind)
    unfold turn at *
    grind
theorem LeX.at_p (ok : S.Ok) (h0 : 0 ≤ t) : LeX S t S.p.1 := by
  refine ⟨ok.f, fun d => ?_, fun c hc hy => ?_⟩
  · have := mp (show 0 < S.q.1 - S.p.1 by have := ok.x; grind) (show 0 < S.h - S.p.2 by have := ok.p; grind)
    unfold turn
    grind
  · obtain ⟨k1, k2, k3⟩ := ok.k c hc
    have a0 := s_x0 ok h0
    exact near c (by grind) hy k3 (by grind)
end
end RM
end
section
namespace RM
section
variable {S : Sd} {t t' X lo hi m : Rat}
def Sd.F (S : Sd) : Pt := (S.f, S.h)
def NoIn (S : Sd) (lo hi : Rat) : Prop := ∀ a ∈ S.F :: S.K, ∀ b ∈ S.F :: S.K, ∀ t, lo < t → t < hi → turn a b (S.s t) = 0 → turn a b S.p = turn a b S.q
theorem turn_lin (a b : Pt) (t : Rat) : turn a b (S.s t) = turn a b S.p + t * (turn a b S.q - turn a b S.p) := by
  unfold turn Sd.s; grind
theorem lin_root {u v x y : Rat} (h1 : u + x * v < 0) (h2 : 0 < u + y * v) : ∃ r, u + r * v = 0 ∧ ((x < r ∧ r < y) ∨ (y < r ∧ r < x)) := by
  have hv : v ≠ 0 := fun z => by subst z; grind
  have e : u + (-u / v) * v = 0 := by grind
  refine ⟨-u / v, e, ?_⟩
  generalize -u / v = r at e
  by_cases h : 0 < v
  · left
    constructor
    · have : 0 < (r - x) * v := by grind
      have := mpp h this
      grind
    · have : 0 < (y - r) * v := by grind
      have := mpp h this
      grind
  · right
    have hv : 0 < -v := by grind
    constructor
    · have : 0 < (r - y) * (-v) := by grind
      have := mpp hv this
      grind
    · have : 0 < (x - r) * (-v) := by grind
      have := mpp hv this
      grind
theorem sign_le (n : NoIn S lo hi) {a b : Pt} (ha : a ∈ S.F :: S.K) (hb : b ∈ S.F :: S.K) (m1 : lo < m) (m2 : m < hi) (t1 : lo ≤ t) (t2 : t ≤ hi) (h : turn a b (S.s m) ≤ 0) : turn a b (S.s t) ≤ 0 := by
  by_cases z : turn a b (S.s t) ≤ 0
  · exact z
  exfalso
  by_cases hm : turn a b (S.s m) = 0
  · have := n a ha b hb m m1 m2 hm
    rw [turn_lin] at z hm
    grind
  · rw [turn_lin] at z hm h
    obtain ⟨r, e, hr⟩ := lin_root (u := turn a b S.p) (v := turn a b S.q - turn a b S.p) (x := m) (y := t) (by grind) (by grind)
    have := n a ha b hb r (by grind) (by grind) (by rw [turn_lin]; exact e)
    grind
theorem sign_ge (n : NoIn S lo hi) {a b : Pt} (ha : a ∈ S.F :: S.K) (hb : b ∈ S.F :: S.K) (m1 : lo < m) (m2 : m < hi) (t1 : lo ≤ t) (t2 : t ≤ hi) (h : 0 ≤ turn a b (S.s m)) : 0 ≤ turn a b (S.s t) := by
  have e : ∀ c, turn b a c = - turn a b c := fun c => by unfold turn; grind
  have := sign_le n hb ha m1 m2 t1 t2 (by rw [e]; grind)
  rw [e] at this
  grind
theorem wall (ok : S.Ok) {c : Pt} (hc : c ∈ S.K) (hF : turn c S.F (S.s t) ≤ 0) (hX : S.f ≤ X) (hy : (S.s t).2 < c.2) : turn c (X, S.h) (S.s t) ≤ 0 := by
  have := mn (show 0 ≤ X - S.f by grind) (show 0 ≤ c.2 - (S.s t).2 by grind)
  unfold turn Sd.F at *
  grind
theorem below (ok : S.Ok) {c : Pt} (hc : c ∈ S.K) (h0 : 0 ≤ t) (h1 : t ≤ 1) (hy : c.2 ≤ (S.s t).2) : turn c S.F (S.s t) ≤ 0 := by
  obtain ⟨k1, k2, k3⟩ := ok.k c hc
  have a0 := s_x0 ok h0
  have a1 := s_y ok h0 h1
  have e1 := mn (show 0 ≤ c.1 - S.f by grind) (show 0 ≤ (S.s t).2 - c.2 by grind)
  have e2 := mp (show 0 < S.h - c.2 by grind) (show 0 < (S.s t).1 - c.1 by grind)
  unfold turn Sd.F at *
  grind
theorem above (ok : S.Ok) {c : Pt} (hc : c ∈ S.K) (h0 : 0 ≤ t) (hF : 0 ≤ turn c S.F (S.s t)) : (S.s t).2 < c.2 := by
  obtain ⟨k1, k2, k3⟩ := ok.k c hc
  have a0 := s_x0 ok h0
  by_cases z : (S.s t).2 < c.2
  · exact z
  · have e1 := mn (show 0 ≤ c.1 - S.f by grind) (show 0 ≤ (S.s t).2 - c.2 by grind)
    have e2 := mp (show 0 < S.h - c.2 by grind) (show 0 < (S.s t).1 - c.1 by grind)
    unfold turn Sd.F at *
    grind
theorem memK {c : Pt} (h : c ∈ S.K) : c ∈ S.F :: S.K := List.mem_cons_of_mem _ h
theorem memF : S.F ∈ S.F :: S.K := List.mem_cons_self
theorem piece_none (ok : S.Ok) (n : NoIn S lo hi) (l0 : 0 ≤ lo) (m1 : lo < m) (m2 : m < hi) (h1 : hi ≤ 1) (ho : S.q.2 < S.p.2 → turn S.p S.F S.q ≤ 0)
    (hk : ∀ c ∈ S.K, (S.s m).2 < c.2 → turn c S.F (S.s m) ≤ 0) (t1 : lo ≤ t) (t2 : t ≤ hi) : LeX S t X ↔ S.f ≤ X := by
  refine ⟨fun l => l.f, fun hX => ⟨hX, fun d => ?_, fun c hc hy => ?_⟩⟩
  · have := ho d
    have := mn (show 0 ≤ X - S.f by grind) (show 0 ≤ S.p.2 - S.q.2 by grind)
    unfold turn Sd.F at *
    grind
  · refine wall ok hc (sign_le n (memK hc) memF m1 m2 t1 t2 ?_) hX hy
    by_cases z : (S.s m).2 < c.2
    · exact hk c hc z
    · exact below ok hc (by grind) (by grind) (by grind)
theorem piece_own (ok : S.Ok) {o : Rat} (l0 : 0 ≤ lo) (m1 : lo < m) (m2 : m < hi) (h1 : hi ≤ 1) (d : S.q.2 < S.p.2) (hf : S.f ≤ o) (ho : turn S.p (o, S.h) S.q = 0)
    (hk : ∀ c ∈ S.K, (S.s m).2 < c.2 → turn c (o, S.h) (S.s m) ≤ 0) (t1 : lo ≤ t) (t2 : t ≤ hi) : LeX S t X ↔ o ≤ X := by
  have dx : 0 < S.q.1 - S.p.1 := by have := ok.x; grind
  constructor
  · intro l
    have := l.o d
    by_cases z : o ≤ X
    · exact z
    · have := mp (show 0 < o - X by grind) (show 0 < S.p.2 - S.q.2 by grind)
      unfold turn at *
      grind
  · intro hX
    have o1 : turn S.p (X, S.h) S.q ≤ 0 := by
      have := mn (show 0 ≤ X - o by grind) (show 0 ≤ S.p.2 - S.q.2 by grind)
      unfold turn at *
      grind
    refine ⟨by grind, fun _ => o1, fun c hc hy => ?_⟩
    obtain ⟨k1, k2, k3⟩ := ok.k c hc
    have a0 := s_x0 (t := t) ok (by grind)
    have am := s_x0 (t := m) ok (by grind)
    by_cases hXc : c.1 ≤ X
    · exact near c hXc hy k3 (by grind)
    have he : turn S.p S.q c ≤ 0 := by
      by_cases z : (S.s m).2 < c.2
      · have e1 := hk c hc z
        have e2 := star (S := S) (t := m) c o
        have e3 := own_turn (S := S) o
        have e4 : 0 < (S.s m).1 - o := by grind
        have e5 : turn S.p S.q (o, S.h) = 0 := by grind
        rw [e5] at e2
        refine mnn e4 ?_
        have := mn (show 0 ≤ - turn c (o, S.h) (S.s m) by grind) (show 0 ≤ S.q.1 - S.p.1 by grind)
        grind
      · have e : (S.q.1 - S.p.1) * (c.2 - (S.s m).2) = turn S.p S.q c + (S.p.2 - S.q.2) * ((S.s m).1 - c.1) := by
          unfold turn Sd.s; grind
        have e2 := mp (show 0 < S.p.2 - S.q.2 by grind) (show 0 < (S.s m).1 - c.1 by grind)
        have e3 := mn (show 0 ≤ S.q.1 - S.p.1 by grind) (show 0 ≤ (S.s m).2 - c.2 by grind)
        grind
    have eX := etaX ok (fun _ => o1) (show X ≤ S.p.1 by grind)
    have st := star (S := S) (t := t) c X
    have e1 := mn (show 0 ≤ - turn S.p S.q c by grind) (show 0 ≤ (S.s t).1 - X by grind)
    have e2 := mn eX (show 0 ≤ (S.s t).1 - c.1 by grind)
    refine mnn dx ?_
    grind
theorem piece_some (ok : S.Ok) (n : NoIn S lo hi) {c : Pt} {Xm : Rat} (hc : c ∈ S.K) (l0 : 0 ≤ lo) (m1 : lo < m) (m2 : m < hi) (h1 : hi ≤ 1) (hy : (S.s m).2 < c.2) (hXm : turn c (Xm, S.h) (S.s m) = 0)
    (hf : S.f ≤ Xm) (ho : S.q.2 < S.p.2 → turn S.p (Xm, S.h) S.q ≤ 0) (hk : ∀ k ∈ S.K, (S.s m).2 < k.2 → turn k (Xm, S.h) (S.s m) ≤ 0) (t1 : lo ≤ t) (t2 : t ≤ hi) :
    (S.s t).2 < c.2 ∧ (LeX S t X ↔ turn c (X, S.h) (S.s t) ≤ 0) := by
  obtain ⟨c1, c2, c3⟩ := ok.k c hc
  have dx : 0 < S.q.1 - S.p.1 := by have := ok.x; grind
  have a0 := s_x0 (t := t) ok (by grind)
  have am := s_x0 (t := m) ok (by grind)
  have bt := s_y (t := t) ok (by grind) (by grind)
  have bm := s_y (t := m) ok (by grind) (by grind)
  have cF : 0 ≤ turn c S.F (S.s m) := by
    have := mn (show 0 ≤ Xm - S.f by grind) (show 0 ≤ c.2 - (S.s m).2 by grind)
    unfold turn Sd.F at *
    grind
  have cFt := sign_ge n (memK hc) memF m1 m2 t1 t2 cF
  have hyt := above ok hc (by grind) cFt
  refine ⟨hyt, fun l => l.k c hc hyt, fun l => ?_⟩
  have hX : S.f ≤ X := by
    by_cases z : S.f ≤ X
    · exact z
    · have := mp (show 0 < S.f - X by grind) (show 0 < c.2 - (S.s t).2 by grind)
      unfold turn Sd.F at *
      grind
  refine ⟨hX, fun d => ?_, fun k hkK hkt => ?_⟩
  · have e0 := ho d
    rw [own_turn] at e0 ⊢
    by_cases hXs : X ≤ S.p.1
    · have hXc : Xm < c.1 := by
        by_cases z : Xm < c.1
        · exact z
        · have e1 := mn (show 0 ≤ Xm - c.1 by grind) (show 0 ≤ c.2 - (S.s m).2 by grind)
          have e2 := mp (show 0 < S.h - c.2 by grind) (show 0 < (S.s m).1 - c.1 by grind)
          unfold turn at hXm
          grind
      have st := star (S := S) (t := m) c Xm
      have e1 := mn (show 0 ≤ turn S.p S.q (Xm, S.h) by grind) (show 0 ≤ (S.s m).1 - c.1 by grind)
      have hec : 0 ≤ turn S.p S.q c := mnp (show 0 < (S.s m).1 - Xm by grind) (by grind)
      have st2 := star (S := S) (t := t) c X
      have e2 := mn hec (show 0 ≤ (S.s t).1 - X by grind)
      have e3 := mn (show 0 ≤ - turn c (X, S.h) (S.s t) by grind) (show 0 ≤ S.q.1 - S.p.1 by grind)
      have : 0 ≤ turn S.p S.q (X, S.h) := mnp (show 0 < (S.s t).1 - c.1 by grind) (by grind)
      grind
    · have e1 := mn (show 0 ≤ S.p.2 - S.q.2 by grind) (show 0 ≤ X - S.p.1 by grind)
      have e2 := mp dx (show 0 < S.h - S.p.2 by have := ok.p; grind)
      unfold turn
      grind
  · obtain ⟨k1, k2, k3⟩ := ok.k k hkK
    by_cases z : (S.s m).2 < k.2
    · have e1 := hk k hkK z
      have ck : 0 ≤ turn c k (S.s m) := by
        have id : (S.h - (S.s m).2) * turn c k (S.s m) = turn c (Xm, S.h) (S.s m) * (k.2 - (S.s m).2) - turn k (Xm, S.h) (S.s m) * (c.2 - (S.s m).2) := by
          unfold turn; grind
        have e2 := mn (show 0 ≤ - turn k (Xm, S.h) (S.s m) by grind) (show 0 ≤ c.2 - (S.s m).2 by grind)
        rw [hXm] at id
        refine mnp (show 0 < S.h - (S.s m).2 by grind) ?_
        grind
      have ckt := sign_ge n (memK hc) (memK hkK) m1 m2 t1 t2 ck
      have id : (S.h - (S.s t).2) * turn c k (S.s t) = turn c (X, S.h) (S.s t) * (k.2 - (S.s t).2) - turn k (X, S.h) (S.s t) * (c.2 - (S.s t).2) := by
        unfold turn; grind
      have e2 := mn (show 0 ≤ S.h - (S.s t).2 by grind) ckt
      have e3 := mn (show 0 ≤ - turn c (X, S.h) (S.s t) by grind) (show 0 ≤ k.2 - (S.s t).2 by grind)
      refine mnn (show 0 < c.2 - (S.s t).2 by grind) ?_
      grind
    · have := sign_le n (memK hkK) memF m1 m2 t1 t2 (below ok hkK (by grind) (by grind) (by grind))
      exact wall ok hkK this hX hkt
end
end RM
end
section
namespace RM
section
variable {S : Sd} {t t' X a b : Rat}
def FLs (S : Sd) (X : Rat) : Option Rat → Prop
  | none => ∀ t, 0 ≤ t → t ≤ 1 → ¬ LeX S t X
  | some a => 0 ≤ a ∧ a ≤ 1 ∧ ∀ t, 0 ≤ t → t ≤ 1 → (LeX S t X ↔ a ≤ t)
theorem FLs.uniq {o o' : Option Rat} (h : FLs S X o) (h' : FLs S X o') : o = o' := by
  cases o with
  | none =>
    cases o' with
    | none => rfl
    | some a => exact absurd ((h'.2.2 a h'.1 h'.2.1).mpr (by grind)) (h a h'.1 h'.2.1)
  | some a =>
    cases o' with
    | none => exact absurd ((h.2.2 a h.1 h.2.1).mpr (by grind)) (h' a h.1 h.2.1)
    | some b =>
      have h1 := (h.2.2 b h'.1 h'.2.1).mp ((h'.2.2 b h'.1 h'.2.1).mpr (by grind))
      have h2 := (h'.2.2 a h.1 h.2.1).mp ((h.2.2 a h.1 h.2.1).mpr (by grind))
      have : a = b := by grind
      rw [this]
theorem FLs.of (ok : S.Ok) (h0 : 0 ≤ a) (h1 : a ≤ 1) (l : LeX S a X) (n : ∀ t, 0 ≤ t → t < a → ¬ LeX S t X) : FLs S X (some a) :=
  ⟨h0, h1, fun t t0 t1 => ⟨fun lt => by
    by_cases z : a ≤ t
    · exact z
    · exact absurd lt (n t t0 (by grind)), fun h => l.later ok h0 h t1⟩⟩
inductive PcOk (S : Sd) (a b : Rat) : Option Pt → Prop where
  | wall (h : ∀ t X, a ≤ t → t ≤ b → (LeX S t X ↔ S.f ≤ X)) : PcOk S a b none
  | own (d : S.q.2 < S.p.2) (h : ∀ t X, a ≤ t → t ≤ b → (LeX S t X ↔ turn S.p (X, S.h) S.q ≤ 0)) : PcOk S a b (some S.p)
  | bar (c : Pt) (hc : c ∈ S.K) (h : ∀ t, a ≤ t → t ≤ b → (S.s t).2 < c.2 ∧ ∀ X, (LeX S t X ↔ turn c (X, S.h) (S.s t) ≤ 0)) : PcOk S a b (some c)
theorem PcOk.join {k : Option Pt} {c : Rat} (ok : S.Ok) (h : PcOk S a b k) (h' : PcOk S b c k) : PcOk S a c k := by
  cases h with
  | wall h =>
    cases h' with
    | wall h' =>
      exact .wall fun t X h1 h2 => by
        by_cases z : t ≤ b
        · exact h t X h1 z
        · exact h' t X (by grind) h2
  | own d h =>
    cases h' with
    | own d h' =>
      exact .own d fun t X h1 h2 => by
        by_cases z : t ≤ b
        · exact h t X h1 z
        · exact h' t X (by grind) h2
    | bar _ hc _ => have := (ok.k _ hc).2.1; grind
  | bar c hc h =>
    cases h' with
    | own d h' => have := (ok.k _ hc).2.1; grind
    | bar _ hc h' =>
      exact .bar c hc fun t h1 h2 => by
        by_cases z : t ≤ b
        · exact h t h1 z
        · exact h' t (by grind) h2
theorem PcOk.change {k : Option Pt} (h : PcOk S a b k) (hab : a ≤ b) (la : ¬ LeX S a X) (lb : LeX S b X) : ∃ c, k = some c ∧ c ∈ S.K ∧ turn S.p S.q (X, S.h) ≠ turn S.p S.q c ∧
    ∀ r, turn c (X, S.h) (S.s r) = 0 → a < r ∧ r ≤ b ∧ LeX S r X ∧ ∀ t, a ≤ t → t < r → ¬ LeX S t X := by
  cases h with
  | wall h =>
    exact absurd ((h a X (by grind) hab).mpr ((h b X hab (by grind)).mp lb)) la
  | own d h =>
    exact absurd ((h a X (by grind) hab).mpr ((h b X hab (by grind)).mp lb)) la
  | bar c hc h =>
    have h1 := (h a (by grind) hab).2 X
    have h2 := (h b hab (by grind)).2 X
    have g1 : 0 < turn c (X, S.h) (S.s a) := by
      by_cases z : turn c (X, S.h) (S.s a) ≤ 0
      · exact absurd (h1.mpr z) la
      · grind
    have g2 := h2.mp lb
    refine ⟨c, rfl, hc, fun e => ?_, fun r hr => ?_⟩
    · have e1 : turn c (X, S.h) S.q - turn c (X, S.h) S.p = turn S.p S.q c - turn S.p S.q (X, S.h) := by unfold turn; grind
      rw [turn_lin] at g1 g2
      rw [show turn c (X, S.h) S.q - turn c (X, S.h) S.p = 0 by grind] at g1 g2
      grind
    · have key : ∀ t, turn c (X, S.h) (S.s t) = (t - r) * (turn c (X, S.h) S.q - turn c (X, S.h) S.p) := fun t => by
        rw [turn_lin] at hr ⊢
        grind
      generalize turn c (X, S.h) S.q - turn c (X, S.h) S.p = v at key
      have hv : v < 0 := by
        by_cases z : v < 0
        · exact z
        · rw [key a] at g1
          rw [key b] at g2
          have := mn (show 0 ≤ b - a by grind) (show 0 ≤ v by grind)
          grind
      have ra : a < r := by
        rw [key a] at g1
        have : 0 < r - a := mpp (show 0 < -v by grind) (by grind)
        grind
      have rb : r ≤ b := by
        rw [key b] at g2
        have : 0 ≤ b - r := mnp (show 0 < -v by grind) (by grind)
        grind
      refine ⟨ra, rb, ((h r (by grind) rb).2 X).mpr (by rw [hr]; grind), fun t t1 t2 l => ?_⟩
      have := ((h t t1 (by grind)).2 X).mp l
      rw [key t] at this
      have := mp (show 0 < r - t by grind) (show 0 < -v by grind)
      grind
def PsOk (S : Sd) : Rat → List (Rat × Rat × Option Pt) → Prop
  | x, [] => x = 1
  | x, (a, b, k) :: ps => a = x ∧ a < b ∧ PcOk S a b k ∧ PsOk S b ps
theorem PsOk.le : ∀ {ps : List (Rat × Rat × Option Pt)} {x : Rat}, PsOk S x ps → x ≤ 1
  | [], x, h => by have h : x = 1 := h; grind
  | (a, b, k) :: ps, x, h => by
    have := h.2.2.2.le
    have h1 := h.1
    have h2 := h.2.1
    grind
end
structure Slopes where
  n : Nat
  L : Nat → Rat → Rat → Prop
  R : Nat → Rat → Rat → Prop
  rv : Nat → Rat → Rat
structure Slopes.Ok (G : Slopes) : Prop where
  lt : ∀ i t t' X, i < G.n → 0 ≤ t → t ≤ t' → t' ≤ 1 → G.L i t X → G.L i t' X
  lx : ∀ i t X X', i < G.n → X ≤ X' → G.L i t X → G.L i t X'
  rt : ∀ i t t' X, i < G.n → 0 ≤ t → t ≤ t' → t' ≤ 1 → G.R i t' X → G.R i t X
  rv : ∀ i t X, i < G.n → 0 ≤ t → t ≤ 1 → (G.R i t X ↔ X ≤ G.rv i t)
  lr : ∀ i X, i < G.n → (∀ t, 0 ≤ t → t ≤ 1 → ¬ G.R i t X) ∨ ∃ b, 0 ≤ b ∧ b ≤ 1 ∧ ∀ t, 0 ≤ t → t ≤ 1 → (G.R i t X ↔ t ≤ b)
abbrev Part := Nat × Rat × Rat
def Slopes.PartOk (G : Slopes) (p : Part) : Prop := p.1 < G.n ∧ 0 ≤ p.2.1 ∧ p.2.1 < p.2.2 ∧ p.2.2 ≤ 1
def Slopes.UE (G : Slopes) (p : Part) (x : Option Rat) : Option Rat → Prop
  | none => ∃ X, x = some X ∧ G.L p.1 p.2.1 X
  | some e => p.2.1 < e ∧ e ≤ p.2.2 ∧ (∀ X, x = some X → ∀ t, p.2.1 ≤ t → t < e → ¬ G.L p.1 t X) ∧ (∀ t, e < t → t ≤ p.2.2 → ∃ X, x = some X ∧ G.L p.1 t X)
def Slopes.NS (G : Slopes) (parts : List Part) (x : Option Rat) : Option (Rat × Part × Rat) → Prop
  | none => ∀ p ∈ parts, G.UE p x none
  | some (v, p, e) => p ∈ parts ∧ G.UE p x (some e) ∧ v = G.rv p.1 e ∧ ∀ p' ∈ parts, ∀ e', G.UE p' x (some e') → v ≤ G.rv p'.1 e'
def Slopes.Steps (G : Slopes) (parts : List Part) : Option Rat → List (Rat × Part × Rat) → Prop
  | x, [] => G.NS parts x none
  | x, s :: ss => G.NS parts x (some s) ∧ Slopes.Steps G parts (some s.1) ss
def Slopes.Seen (G : Slopes) (Y : List Rat) (i : Nat) (t : Rat) : Prop := ∃ y ∈ Y, G.L i t y ∧ G.R i t y
section
variable {G : Slopes} {parts : List Part}
theorem UE_some_none (ok : G.Ok) {p : Part} {x : Option Rat} {e : Rat} (hp : G.PartOk p) (h : G.UE p x none) (h' : G.UE p x (some e)) : False := by
  obtain ⟨X, rfl, l⟩ := h
  exact h'.2.2.1 X rfl p.2.1 (by grind) h'.1 l
theorem steps_see (ok : G.Ok) (hp : ∀ p ∈ parts, G.PartOk p) (hue : ∀ p ∈ parts, ∀ x, ∃ o, G.UE p x o) : ∀ (ss : List (Rat × Part × Rat)) (x : Option Rat) (Y : List Rat), G.Steps parts x ss →
    (∀ p ∈ parts, ∀ t, p.2.1 ≤ t → t ≤ p.2.2 → ∀ X, x = some X → G.L p.1 t X → G.Seen Y p.1 t) → ∀ p ∈ parts, ∀ t, p.2.1 ≤ t → t ≤ p.2.2 → G.Seen (Y ++ ss.map (·.1)) p.1 t
  | [], x, Y, h, inv, p, hm, t, t1, t2 => by
    obtain ⟨X, rfl, l⟩ := h p hm
    have P := hp p hm
    have := inv p hm t t1 t2 X rfl (ok.lt _ _ _ _ P.1 P.2.1 t1 (by have := P.2.2.2; grind) l)
    simpa using this
  | s :: ss, x, Y, h, inv, p, hm, t, t1, t2 => by
    obtain ⟨h1, h2⟩ := h
    have := steps_see ok hp hue ss (some s.1) (Y ++ [s.1]) h2 ?_ p hm t t1 t2
    · simpa using this
    · intro p hm t t1 t2 X eX l
      cases eX
      have P := hp p hm
      by_cases z : ∃ X, x = some X ∧ G.L p.1 t X
      · obtain ⟨X, e, l0⟩ := z
        obtain ⟨y, hy, q⟩ := inv p hm t t1 t2 X e l0
        exact ⟨y, List.mem_append_left _ hy, q⟩
      · refine ⟨s.1, List.mem_append_right _ (by simp), l, ?_⟩
        obtain ⟨o, ho⟩ := hue p hm x
        cases o with
        | none =>
          obtain ⟨X, e, l0⟩ := ho
          exact absurd ⟨X, e, ok.lt _ _ _ _ P.1 P.2.1 t1 (by have := P.2.2.2; grind) l0⟩ z
        | some e =>
          have te : t ≤ e := by
            by_cases q : t ≤ e
            · exact q
            · exact absurd (ho.2.2.2 t (by grind) t2) z
          obtain ⟨v, p', e'⟩ := s
          have hv := h1.2.2.2 p hm e ho
          have e1 := ho.2.1
          have P3 := P.2.2.2
          have P2 := P.2.1
          have := (ok.rv p.1 e v P.1 (by grind) (by grind)).mpr hv
          exact ok.rt _ _ _ _ P.1 (by grind) te (by grind) this
theorem min_of (Y : List Rat) (v : Rat) : (∀ y ∈ Y, y ≤ v) ∨ ∃ y ∈ Y, v < y ∧ ∀ z ∈ Y, v < z → y ≤ z := by
  induction Y with
  | nil => exact .inl fun _ h => nomatch h
  | cons a Y ih =>
    by_cases ha : a ≤ v
    · rcases ih with h | ⟨y, hy, h1, h2⟩
      · exact .inl fun y hy => by
          rcases List.mem_cons.mp hy with rfl | hy
          · exact ha
          · exact h y hy
      · refine .inr ⟨y, List.mem_cons_of_mem _ hy, h1, fun z hz hv => ?_⟩
        rcases List.mem_cons.mp hz with rfl | hz
        · grind
        · exact h2 z hz hv
    · rcases ih with h | ⟨y, hy, h1, h2⟩
      · refine .inr ⟨a, List.mem_cons_self, by grind, fun z hz hv => ?_⟩
        rcases List.mem_cons.mp hz with rfl | hz
        · grind
        · have := h z hz; grind
      · by_cases q : a ≤ y
        · refine .inr ⟨a, List.mem_cons_self, by grind, fun z hz hv => ?_⟩
          rcases List.mem_cons.mp hz with rfl | hz
          · grind
          · have := h2 z hz hv; grind
        · refine .inr ⟨y, List.mem_cons_of_mem _ hy, h1, fun z hz hv => ?_⟩
          rcases List.mem_cons.mp hz with rfl | hz
          · grind
          · exact h2 z hz hv
theorem one_between (ok : G.Ok) {Y : List Rat} {x : Option Rat} {p : Part} {e : Rat} (hp : G.PartOk p) (ue : G.UE p x (some e)) (see : ∀ t, p.2.1 ≤ t → t ≤ p.2.2 → G.Seen Y p.1 t) :
    ∃ y ∈ Y, (∀ X, x = some X → X < y) ∧ y ≤ G.rv p.1 e := by
  obtain ⟨i, a, b⟩ := p
  obtain ⟨hi, ha, hab, hb⟩ := hp
  obtain ⟨u1, u2, u3, u4⟩ := ue
  simp only at *
  have seen : ∀ t, a ≤ t → t < e → ∃ y ∈ Y, (∀ X, x = some X → X < y) ∧ G.R i t y := fun t t1 t2 => by
    obtain ⟨y, hy, l, r⟩ := see t t1 (by grind)
    refine ⟨y, hy, fun X e => ?_, r⟩
    by_cases z : X < y
    · exact z
    · exact absurd (ok.lx i t y X hi (by grind) l) (u3 X e t t1 t2)
  by_cases goal : ∃ y ∈ Y, (∀ X, x = some X → X < y) ∧ y ≤ G.rv i e
  · exact goal
  exfalso
  rcases min_of Y (G.rv i e) with h | ⟨y0, hy0, h1, h2⟩
  · obtain ⟨y, hy, q, r⟩ := seen a (by grind) u1
    exact goal ⟨y, hy, q, h y hy⟩
  · -- all spots before e lie in reach of y0
    have r0 : ∀ t, a ≤ t → t < e → G.R i t y0 := fun t t1 t2 => by
      obtain ⟨y, hy, q, r⟩ := seen t t1 t2
      have hv : G.rv i e < y := by
        by_cases z : G.rv i e < y
        · exact z
        · exact absurd ⟨y, hy, q, by grind⟩ goal
      have le := h2 y hy hv
      have := (ok.rv i t y hi (by grind) (by grind)).mp r
      exact (ok.rv i t y0 hi (by grind) (by grind)).mpr (by grind)
    rcases ok.lr i y0 hi with n | ⟨b0, b1, b2, b3⟩
    · exact n a ha (by grind) (r0 a (by grind) u1)
    · by_cases z : b0 < e
      · let t := if a ≤ (b0 + e) / 2 then (b0 + e) / 2 else a
        have ht : a ≤ t ∧ t < e ∧ b0 < t := by
          show a ≤ (if a ≤ (b0 + e) / 2 then (b0 + e) / 2 else a) ∧ (if a ≤ (b0 + e) / 2 then (b0 + e) / 2 else a) < e ∧ b0 < (if a ≤ (b0 + e) / 2 then (b0 + e) / 2 else a)
          split <;> grind
        have := (b3 t (by grind) (by grind)).mp (r0 t ht.1 ht.2.1)
        grind
      · have := (b3 e (by grind) (by grind)).mpr (by grind)
        have := (ok.rv i e y0 hi (by grind) (by grind)).mp this
        grind
theorem steps_least (ok : G.Ok) (hp : ∀ p ∈ parts, G.PartOk p) {Y : List Rat} (see : ∀ p ∈ parts, ∀ t, p.2.1 ≤ t → t ≤ p.2.2 → G.Seen Y p.1 t) : ∀ (ss : List (Rat × Part × Rat)) (x : Option Rat) (Z : List Rat),
    (∀ y ∈ Y, (∀ X, x = some X → X < y) → y ∈ Z) → G.Steps parts x ss → ss.length ≤ Z.length
  | [], _, Z, _, _ => Nat.zero_le _
  | (v, p, e) :: ss, x, Z, hz, h => by
    obtain ⟨⟨hm, ue, hv, _⟩, h2⟩ := h
    obtain ⟨y, hy, q1, q2⟩ := one_between ok (hp p hm) ue (see p hm)
    have hyZ := hz y hy q1
    have := steps_least ok hp see ss (some v) (Z.filter fun z => decide (v < z)) (fun z hzY hzv => by
      have hvz := hzv v rfl
      refine List.mem_filter.mpr ⟨hz z hzY fun X e => ?_, by simpa using hvz⟩
      have := q1 X e
      grind) h2
    have hlt : (Z.filter fun z => decide (v < z)).length < Z.length := by
      have : ¬ (v < y) := by grind
      exact List.length_filter_lt_length_iff_exists.mpr ⟨y, hyZ, by simpa using this⟩
    simp only [List.length_cons]
    omega
theorem fewest_least (ok : G.Ok) (hp : ∀ p ∈ parts, G.PartOk p) {Y : List Rat} (see : ∀ p ∈ parts, ∀ t, p.2.1 ≤ t → t ≤ p.2.2 → G.Seen Y p.1 t) {ss : List (Rat × Part × Rat)} (h : G.Steps parts none ss) : ss.length ≤ Y.length :=
  steps_least ok hp see ss none Y (fun y hy _ => hy) h
theorem cover_sees (ok : G.Ok) (hp : ∀ p ∈ parts, G.PartOk p) (hue : ∀ p ∈ parts, ∀ x, ∃ o, G.UE p x o) {ss : List (Rat × Part × Rat)} (h : G.Steps parts none ss) : ∀ p ∈ parts, ∀ t, p.2.1 ≤ t → t ≤ p.2.2 → G.Seen (ss.map (·.1)) p.1 t := by
  have := steps_see ok hp hue ss none [] h (fun _ _ _ _ _ X e => nomatch e)
  simpa using this
end
end RM
end
section
namespace RM
section
variable {S : Sd} {t t' X a b : Rat}
theorem div_root {u v : Rat} (h : v ≠ 0) : u + (-u / v) * v = 0 := by grind
def Vc (S : Sd) (X : Rat) (c : Pt) (t : Rat) : Prop := (S.s t).2 < c.2 → turn c (X, S.h) (S.s t) ≤ 0
theorem vc_start (ok : S.Ok) (hf : S.f ≤ X) (ho : S.q.2 < S.p.2 → turn S.p (X, S.h) S.q ≤ 0) {c : Pt} (hc : c ∈ S.K) :
    (∀ t, 0 ≤ t → t ≤ 1 → ¬ Vc S X c t) ∨ ∃ a, 0 ≤ a ∧ a ≤ 1 ∧ ∀ t, 0 ≤ t → t ≤ 1 → (Vc S X c t ↔ a ≤ t) := by
  obtain ⟨k1, k2, k3⟩ := ok.k c hc
  by_cases hX : c.1 ≤ X
  · refine .inr ⟨0, by grind, by grind, fun t t0 t1 => ⟨fun _ => t0, fun _ hy => ?_⟩⟩
    have := s_x0 ok t0
    exact near c hX hy k3 (by grind)
  have key : ∀ t, 0 ≤ t → t ≤ 1 → (Vc S X c t ↔ turn c (X, S.h) (S.s t) ≤ 0) := fun t t0 t1 => by
    refine ⟨fun v => ?_, fun h _ => h⟩
    by_cases z : (S.s t).2 < c.2
    · exact v z
    · have := s_x0 ok t0
      have e1 := mn (show 0 ≤ c.1 - X by grind) (show 0 ≤ (S.s t).2 - c.2 by grind)
      have e2 := mp (show 0 < S.h - c.2 by grind) (show 0 < (S.s t).1 - c.1 by grind)
      unfold turn
      grind
  let S1 : Sd := { S with K := [c] }
  have ok1 : S1.Ok := ⟨fun k hk => by
    have : k = c := by simpa [S1] using hk
    subst this; exact ⟨k1, k2, k3⟩, ok.x, ok.p, ok.q, ok.f⟩
  have leq : ∀ t, 0 ≤ t → t ≤ 1 → (LeX S1 t X ↔ turn c (X, S.h) (S.s t) ≤ 0) := fun t t0 t1 => by
    rw [← key t t0 t1]
    exact ⟨fun l => l.k c (by simp [S1]), fun v => ⟨hf, ho, fun k hk => by
      have : k = c := by simpa [S1] using hk
      subst this; exact v⟩⟩
  have mono : ∀ t t', 0 ≤ t → t ≤ t' → t' ≤ 1 → turn c (X, S.h) (S.s t) ≤ 0 → turn c (X, S.h) (S.s t') ≤ 0 := fun t t' h0 h h1 q =>
    (leq t' (by grind) h1).mp (((leq t h0 (by grind)).mpr q).later ok1 h0 h h1)
  by_cases z1 : turn c (X, S.h) (S.s 1) ≤ 0
  · by_cases z0 : turn c (X, S.h) (S.s 0) ≤ 0
    · exact .inr ⟨0, by grind, by grind, fun t t0 t1 => ⟨fun _ => t0, fun _ => (key t t0 t1).mpr (mono 0 t (by grind) t0 t1 z0)⟩⟩
    · have h0 := z0
      have h1 := z1
      rw [turn_lin] at h0 h1
      have lin := fun t => turn_lin (S := S) c (X, S.h) t
      generalize turn c (X, S.h) S.p = u at *
      generalize turn c (X, S.h) S.q = v at *
      have huv : v - u < 0 := by grind
      have e : u + (-u / (v - u)) * (v - u) = 0 := div_root (by grind)
      generalize -u / (v - u) = r at e
      have r0 : 0 < r := by
        have : 0 < r * (-(v - u)) := by grind
        exact mpp (by grind) this
      have r1 : r ≤ 1 := by
        have : 0 ≤ (1 - r) * (-(v - u)) := by grind
        have := mnp (show 0 < -(v - u) by grind) this
        grind
      refine .inr ⟨r, by grind, r1, fun t t0 t1 => ?_⟩
      rw [key t t0 t1, lin]
      constructor
      · intro q
        have : 0 ≤ (t - r) * (-(v - u)) := by grind
        have := mnp (show 0 < -(v - u) by grind) this
        grind
      · intro q
        have := mn (show 0 ≤ t - r by grind) (show 0 ≤ -(v - u) by grind)
        grind
  · exact .inl fun t t0 t1 v => z1 (mono t 1 t0 t1 (by grind) ((key t t0 t1).mp v))
theorem first_exists (ok : S.Ok) (X : Rat) : ∃ o, FLs S X o := by
  by_cases hf : S.f ≤ X
  · by_cases ho : S.q.2 < S.p.2 → turn S.p (X, S.h) S.q ≤ 0
    · have : ∀ K : List Pt, (∀ c ∈ K, c ∈ S.K) → (∀ t, 0 ≤ t → t ≤ 1 → ¬ ∀ c ∈ K, Vc S X c t) ∨ ∃ a, 0 ≤ a ∧ a ≤ 1 ∧ ∀ t, 0 ≤ t → t ≤ 1 → ((∀ c ∈ K, Vc S X c t) ↔ a ≤ t) := by
        intro K
        induction K with
        | nil => exact fun _ => .inr ⟨0, by grind, by grind, fun t t0 t1 => ⟨fun _ => t0, fun _ _ h => nomatch h⟩⟩
        | cons c K ih =>
          intro hK
          have ih := ih fun k hk => hK k (List.mem_cons_of_mem _ hk)
          rcases vc_start ok hf ho (hK c List.mem_cons_self) with h | ⟨a, a0, a1, h⟩
          · exact .inl fun t t0 t1 q => h t t0 t1 (q c List.mem_cons_self)
          · rcases ih with g | ⟨b, b0, b1, g⟩
            · exact .inl fun t t0 t1 q => g t t0 t1 fun k hk => q k (List.mem_cons_of_mem _ hk)
            · refine .inr ⟨if a ≤ b then b else a, by split <;> grind, by split <;> grind, fun t t0 t1 => ?_⟩
              have e : (∀ k ∈ c :: K, Vc S X k t) ↔ Vc S X c t ∧ ∀ k ∈ K, Vc S X k t := by simp
              rw [e, h t t0 t1, g t t0 t1]
              split <;> grind
      have eq : ∀ t, LeX S t X ↔ ∀ c ∈ S.K, Vc S X c t := fun t => ⟨fun l => l.k, fun v => ⟨hf, ho, v⟩⟩
      rcases this S.K (fun _ h => h) with h | ⟨a, a0, a1, h⟩
      · exact ⟨none, fun t t0 t1 l => h t t0 t1 ((eq t).mp l)⟩
      · exact ⟨some a, a0, a1, fun t t0 t1 => (eq t).trans (h t t0 t1)⟩
    · exact ⟨none, fun t t0 t1 l => ho l.o⟩
  · exact ⟨none, fun t t0 t1 l => hf l.f⟩
end
abbrev Ridge := List Pt
def at_ (r : Ridge) (i : Nat) : Pt := r.getD i (0, 0)
def mir (p : Pt) : Pt := (-p.1, p.2)
theorem turn_mir (a b c : Pt) : turn (mir a) (mir b) (mir c) = - turn a b c := by unfold turn mir; grind
def spotB (a b : Pt) (t : Rat) : Pt := (a.1 + t * (b.1 - a.1), a.2 + t * (b.2 - a.2))
def spotOf (r : Ridge) (i : Nat) (t : Rat) : Pt := spotB (at_ r i) (at_ r (i + 1)) t
def place (s c : Pt) (h : Rat) : Rat := s.1 + (h - s.2) / (c.2 - s.2) * (c.1 - s.1)
theorem place_turn {s c : Pt} {h X : Rat} (hy : c.2 - s.2 ≠ 0) : (place s c h - X) * (c.2 - s.2) = turn c (X, h) s := by
  have e : (h - s.2) / (c.2 - s.2) * (c.2 - s.2) = h - s.2 := by grind
  unfold place turn
  generalize (h - s.2) / (c.2 - s.2) = v at e
  grind
theorem place_le {s c : Pt} {h X : Rat} (hy : s.2 < c.2) : place s c h ≤ X ↔ turn c (X, h) s ≤ 0 := by
  have e := place_turn (s := s) (c := c) (h := h) (X := X) (by grind)
  constructor
  · intro q
    have := mn (show 0 ≤ X - place s c h by grind) (show 0 ≤ c.2 - s.2 by grind)
    grind
  · intro q
    have : 0 ≤ X - place s c h := mnp (show 0 < c.2 - s.2 by grind) (by grind)
    grind
theorem place_mir {s c : Pt} {h : Rat} : place (mir s) (mir c) h = - place s c h := by unfold place mir; grind
theorem le_place {s c : Pt} {h X : Rat} (hy : s.2 < c.2) : X ≤ place s c h ↔ turn (mir c) (-X, h) (mir s) ≤ 0 := by
  have := place_le (s := mir s) (c := mir c) (h := h) (X := -X) hy
  rw [place_mir] at this
  rw [← this]
  constructor <;> intro <;> grind
structure Good (r : Ridge) (h : Rat) : Prop where
  two : 2 ≤ r.length
  asc : r.Pairwise fun a b => a.1 < b.1
  low : ∀ c ∈ r, c.2 < h
def Lf (r : Ridge) (h : Rat) (i : Nat) : Sd := ⟨(at_ r 0).1, h, r.take i, at_ r i, at_ r (i + 1)⟩
def Rt (r : Ridge) (h : Rat) (i : Nat) : Sd := ⟨-(at_ r (r.length - 1)).1, h, (r.drop (i + 2)).map mir, mir (at_ r (i + 1)), mir (at_ r i)⟩
section
variable {r : Ridge} {h : Rat} {i j k : Nat} {t X : Rat}
theorem at_get (hi : i < r.length) : at_ r i = r[i] := by simp [at_, List.getD_eq_getElem?_getD, hi]
theorem at_mem (hi : i < r.length) : at_ r i ∈ r := by rw [at_get hi]; exact List.getElem_mem hi
theorem Good.lt (g : Good r h) (hij : i < j) (hj : j < r.length) : (at_ r i).1 < (at_ r j).1 := by
  rw [at_get (by omega), at_get hj]
  exact List.pairwise_iff_getElem.mp g.asc i j (by omega) hj hij
theorem Good.le (g : Good r h) (hij : i ≤ j) (hj : j < r.length) : (at_ r i).1 ≤ (at_ r j).1 := by
  rcases Nat.lt_or_eq_of_le hij with q | q
  · have := g.lt q hj; grind
  · subst q; grind
theorem mem_take {c : Pt} : c ∈ r.take i ↔ ∃ k, k < i ∧ k < r.length ∧ c = at_ r k := by
  constructor
  · intro h
    obtain ⟨k, hk, e⟩ := List.mem_iff_getElem.mp h
    rw [List.length_take] at hk
    refine ⟨k, by omega, by omega, ?_⟩
    rw [at_get (by omega), ← e, List.getElem_take]
  · rintro ⟨k, h1, h2, rfl⟩
    rw [at_get h2]
    exact List.mem_iff_getElem.mpr ⟨k, by rw [List.length_take]; omega, by rw [List.getElem_take]⟩
theorem mem_drop {c : Pt} : c ∈ r.drop i ↔ ∃ k, i ≤ k ∧ k < r.length ∧ c = at_ r k := by
  constructor
  · intro h
    obtain ⟨k, hk, e⟩ := List.mem_iff_getElem.mp h
    rw [List.length_drop] at hk
    refine ⟨i + k, by omega, by omega, ?_⟩
    rw [at_get (by omega), ← e, List.getElem_drop]
  · rintro ⟨k, h1, h2, rfl⟩
    rw [at_get h2]
    exact List.mem_iff_getElem.mpr ⟨k - i, by rw [List.length_drop]; omega, by rw [List.getElem_drop]; congr 1; omega⟩
theorem lf_ok (g : Good r h) (hi : i + 1 < r.length) : (Lf r h i).Ok where
  k := fun c hc => by
    obtain ⟨k, h1, h2, rfl⟩ := mem_take.mp hc
    exact ⟨g.le (Nat.zero_le _) h2, g.lt h1 (by omega), g.low _ (at_mem h2)⟩
  x := g.lt (by omega) hi
  p := g.low _ (at_mem (by omega))
  q := g.low _ (at_mem hi)
  f := g.le (Nat.zero_le _) (by omega)
theorem rt_ok (g : Good r h) (hi : i + 1 < r.length) : (Rt r h i).Ok where
  k := fun c hc => by
    obtain ⟨d, hd, rfl⟩ := List.mem_map.mp hc
    obtain ⟨k, h1, h2, rfl⟩ := mem_drop.mp hd
    have e1 := g.le (show k ≤ r.length - 1 by omega) (by omega)
    have e2 := g.lt (show i + 1 < k by omega) h2
    exact ⟨by show -_ ≤ -_; grind, by show -_ < -_; grind, g.low (at_ r k) (at_mem h2)⟩
  x := by
    have := g.lt (show i < i + 1 by omega) hi
    show -_ < -_; grind
  p := g.low (at_ r (i + 1)) (at_mem hi)
  q := g.low (at_ r i) (at_mem (by omega))
  f := by
    have e1 := g.le (show i + 1 ≤ r.length - 1 by omega) (by omega)
    show -_ ≤ -_; grind
theorem lf_s : (Lf r h i).s t = spotOf r i t := rfl
theorem rt_s : (Rt r h i).s (1 - t) = mir (spotOf r i t) := by
  unfold Sd.s Rt spotOf spotB mir
  simp only [Prod.mk.injEq]
  constructor <;> grind
def SL (r : Ridge) (h : Rat) (i : Nat) (t X : Rat) : Prop := LeX (Lf r h i) t X
def SRt (r : Ridge) (h : Rat) (i : Nat) (t X : Rat) : Prop := LeX (Rt r h i) (1 - t) (-X)
end
end RM
end
section
namespace RM
def minQ (x : Rat) : List Rat → Rat
  | [] => x
  | y :: ys => minQ (if y < x then y else x) ys
def maxQ (x : Rat) : List Rat → Rat
  | [] => x
  | y :: ys => maxQ (if x < y then y else x) ys
theorem maxQ_le {X : Rat} : ∀ {ys : List Rat} {x : Rat}, maxQ x ys ≤ X ↔ x ≤ X ∧ ∀ y ∈ ys, y ≤ X
  | [], x => by simp [maxQ]
  | y :: ys, x => by
    unfold maxQ
    rw [maxQ_le, List.forall_mem_cons]
    split
    · constructor
      · rintro ⟨a, b⟩; exact ⟨by grind, a, b⟩
      · rintro ⟨a, b, c⟩; exact ⟨b, c⟩
    · constructor
      · rintro ⟨a, b⟩; exact ⟨a, by grind, b⟩
      · rintro ⟨a, b, c⟩; exact ⟨a, c⟩
theorem le_minQ {X : Rat} : ∀ {ys : List Rat} {x : Rat}, X ≤ minQ x ys ↔ X ≤ x ∧ ∀ y ∈ ys, X ≤ y
  | [], x => by simp [minQ]
  | y :: ys, x => by
    unfold minQ
    rw [le_minQ, List.forall_mem_cons]
    split
    · constructor
      · rintro ⟨a, b⟩; exact ⟨by grind, a, b⟩
      · rintro ⟨a, b, c⟩; exact ⟨b, c⟩
    · constructor
      · rintro ⟨a, b⟩; exact ⟨a, by grind, b⟩
      · rintro ⟨a, b, c⟩; exact ⟨a, c⟩
theorem maxQ_mem : ∀ (ys : List Rat) (x : Rat), maxQ x ys = x ∨ maxQ x ys ∈ ys
  | [], x => .inl rfl
  | y :: ys, x => by
    unfold maxQ
    rcases maxQ_mem ys (if x < y then y else x) with h | h
    · split at h
      · right; rename_i q; rw [if_pos q, h]; exact List.mem_cons_self
      · left; rename_i q; rw [if_neg q, h]
    · exact .inr (List.mem_cons_of_mem _ h)
theorem minQ_mem : ∀ (ys : List Rat) (x : Rat), minQ x ys = x ∨ minQ x ys ∈ ys
  | [], x => .inl rfl
  | y :: ys, x => by
    unfold minQ
    rcases minQ_mem ys (if y < x then y else x) with h | h
    · split at h
      · right; rename_i q; rw [if_pos q, h]; exact List.mem_cons_self
      · left; rename_i q; rw [if_neg q, h]
    · exact .inr (List.mem_cons_of_mem _ h)
def lefts (r : Ridge) (h : Rat) (s : Pt) : List (Rat × Nat) := r.zipIdx.filterMap fun c => if s.2 < c.1.2 ∧ c.1.1 < s.1 then some (place s c.1 h, c.2) else none
def rights (r : Ridge) (h : Rat) (s : Pt) : List (Rat × Nat) := r.zipIdx.filterMap fun c => if s.2 < c.1.2 ∧ s.1 < c.1.1 then some (place s c.1 h, c.2) else none
def reachL (r : Ridge) (h : Rat) (s : Pt) : Rat := maxQ (at_ r 0).1 ((lefts r h s).map (·.1))
def reachR (r : Ridge) (h : Rat) (s : Pt) : Rat := minQ (at_ r (r.length - 1)).1 ((rights r h s).map (·.1))
def own (r : Ridge) (h : Rat) (i : Nat) : Rat := place (at_ r i) (at_ r (i + 1)) h
def slopeL (r : Ridge) (h : Rat) (i : Nat) (t : Rat) : Rat := if (at_ r (i + 1)).2 < (at_ r i).2 then maxQ (reachL r h (spotOf r i t)) [own r h i] else reachL r h (spotOf r i t)
def slopeR (r : Ridge) (h : Rat) (i : Nat) (t : Rat) : Rat := if (at_ r i).2 < (at_ r (i + 1)).2 then minQ (reachR r h (spotOf r i t)) [own r h i] else reachR r h (spotOf r i t)
section
variable {r : Ridge} {h : Rat} {i j k : Nat} {t X : Rat} {s : Pt}
theorem mem_lefts {c : Rat × Nat} : c ∈ lefts r h s ↔ c.2 < r.length ∧ s.2 < (at_ r c.2).2 ∧ (at_ r c.2).1 < s.1 ∧ c.1 = place s (at_ r c.2) h := by
  unfold lefts
  rw [List.mem_filterMap]
  constructor
  · rintro ⟨⟨p, k⟩, hm, e⟩
    have hm := List.mem_zipIdx hm
    obtain ⟨_, h2, h3⟩ := hm
    have h2 : k < r.length := by omega
    have ep : at_ r k = p := by rw [at_get h2]; simp at h3; exact h3.symm
    dsimp only at e
    split at e
    · rename_i q
      cases e
      dsimp only
      rw [ep]
      exact ⟨h2, q.1, q.2, rfl⟩
    · cases e
  · rintro ⟨h1, h2, h3, h4⟩
    refine ⟨(at_ r c.2, c.2), ?_, ?_⟩
    · rw [List.mk_mem_zipIdx_iff_getElem?]
      rw [at_get h1, List.getElem?_eq_getElem h1]
    · dsimp only
      rw [if_pos ⟨h2, h3⟩, ← h4]
theorem mem_rights {c : Rat × Nat} : c ∈ rights r h s ↔ c.2 < r.length ∧ s.2 < (at_ r c.2).2 ∧ s.1 < (at_ r c.2).1 ∧ c.1 = place s (at_ r c.2) h := by
  unfold rights
  rw [List.mem_filterMap]
  constructor
  · rintro ⟨⟨p, k⟩, hm, e⟩
    have hm := List.mem_zipIdx hm
    obtain ⟨_, h2, h3⟩ := hm
    have h2 : k < r.length := by omega
    have ep : at_ r k = p := by rw [at_get h2]; simp at h3; exact h3.symm
    dsimp only at e
    split at e
    · rename_i q
      cases e
      dsimp only
      rw [ep]
      exact ⟨h2, q.1, q.2, rfl⟩
    · cases e
  · rintro ⟨h1, h2, h3, h4⟩
    refine ⟨(at_ r c.2, c.2), ?_, ?_⟩
    · rw [List.mk_mem_zipIdx_iff_getElem?]
      rw [at_get h1, List.getElem?_eq_getElem h1]
    · dsimp only
      rw [if_pos ⟨h2, h3⟩, ← h4]
theorem reachL_le : reachL r h s ≤ X ↔ (at_ r 0).1 ≤ X ∧ ∀ k, k < r.length → s.2 < (at_ r k).2 → (at_ r k).1 < s.1 → place s (at_ r k) h ≤ X := by
  unfold reachL
  rw [maxQ_le]
  refine and_congr Iff.rfl ⟨fun q k h1 h2 h3 => q _ (List.mem_map.mpr ⟨(_, k), mem_lefts.mpr ⟨h1, h2, h3, rfl⟩, rfl⟩), fun q y hy => ?_⟩
  obtain ⟨c, hc, rfl⟩ := List.mem_map.mp hy
  obtain ⟨h1, h2, h3, h4⟩ := mem_lefts.mp hc
  rw [h4]
  exact q _ h1 h2 h3
theorem le_reachR : X ≤ reachR r h s ↔ X ≤ (at_ r (r.length - 1)).1 ∧ ∀ k, k < r.length → s.2 < (at_ r k).2 → s.1 < (at_ r k).1 → X ≤ place s (at_ r k) h := by
  unfold reachR
  rw [le_minQ]
  refine and_congr Iff.rfl ⟨fun q k h1 h2 h3 => q _ (List.mem_map.mpr ⟨(_, k), mem_rights.mpr ⟨h1, h2, h3, rfl⟩, rfl⟩), fun q y hy => ?_⟩
  obtain ⟨c, hc, rfl⟩ := List.mem_map.mp hy
  obtain ⟨h1, h2, h3, h4⟩ := mem_rights.mp hc
  rw [h4]
  exact q _ h1 h2 h3
theorem own_le (d : (at_ r (i + 1)).2 < (at_ r i).2) : own r h i ≤ X ↔ turn (at_ r i) (X, h) (at_ r (i + 1)) ≤ 0 := by
  have e := place_turn (s := at_ r i) (c := at_ r (i + 1)) (h := h) (X := X) (by grind)
  have e2 : turn (at_ r (i + 1)) (X, h) (at_ r i) = - turn (at_ r i) (X, h) (at_ r (i + 1)) := by unfold turn; grind
  rw [e2] at e
  have d' : 0 < (at_ r i).2 - (at_ r (i + 1)).2 := by grind
  unfold own
  constructor
  · intro q
    have := mn (show 0 ≤ X - place (at_ r i) (at_ r (i + 1)) h by grind) (show 0 ≤ (at_ r i).2 - (at_ r (i + 1)).2 by grind)
    grind
  · intro q
    have : 0 ≤ X - place (at_ r i) (at_ r (i + 1)) h := mnp d' (by grind)
    grind
theorem le_own (d : (at_ r i).2 < (at_ r (i + 1)).2) : X ≤ own r h i ↔ turn (mir (at_ r (i + 1))) (-X, h) (mir (at_ r i)) ≤ 0 := by
  exact le_place d
theorem spot_x (g : Good r h) (hi : i + 1 < r.length) (h0 : 0 ≤ t) (h1 : t ≤ 1) : (at_ r i).1 ≤ (spotOf r i t).1 ∧ (spotOf r i t).1 ≤ (at_ r (i + 1)).1 := by
  exact ⟨s_x0 (lf_ok g hi) h0, s_x1 (lf_ok g hi) h1⟩
theorem slopeL_le (g : Good r h) (hi : i + 1 < r.length) (h0 : 0 ≤ t) (h1 : t ≤ 1) : slopeL r h i t ≤ X ↔ SL r h i t X := by
  have dx := g.lt (show i < i + 1 by omega) hi
  obtain ⟨x0, x1⟩ := spot_x g hi h0 h1
  have split_ : slopeL r h i t ≤ X ↔ reachL r h (spotOf r i t) ≤ X ∧ ((at_ r (i + 1)).2 < (at_ r i).2 → own r h i ≤ X) := by
    unfold slopeL
    split
    · rename_i d
      rw [maxQ_le]
      simp [d]
    · rename_i d
      simp [d]
  rw [split_, reachL_le]
  constructor
  · rintro ⟨⟨q1, q2⟩, q3⟩
    refine ⟨q1, fun d => (own_le d).mp (q3 d), fun c hc hy => ?_⟩
    obtain ⟨k, h1, h2, rfl⟩ := mem_take.mp hc
    have := g.lt h1 (by omega)
    exact (place_le hy).mp (q2 k h2 hy (by show _ < (spotOf r i t).1; grind))
  · intro l
    refine ⟨⟨l.f, fun k hk hy hx => ?_⟩, fun d => (own_le d).mpr (l.o d)⟩
    by_cases ki : k < i
    · exact (place_le hy).mpr (l.k _ (mem_take.mpr ⟨k, ki, hk, rfl⟩) hy)
    · by_cases ke : k = i
      · subst ke
        rw [place_le hy]
        have e : turn (at_ r k) (X, h) (spotOf r k t) = t * turn (at_ r k) (X, h) (at_ r (k + 1)) := by unfold turn spotOf spotB; grind
        rw [e]
        have d : (at_ r (k + 1)).2 < (at_ r k).2 := by
          by_cases z : (at_ r (k + 1)).2 < (at_ r k).2
          · exact z
          · have := mn h0 (show 0 ≤ (at_ r (k + 1)).2 - (at_ r k).2 by grind)
            have hy : (at_ r k).2 + t * ((at_ r (k + 1)).2 - (at_ r k).2) < (at_ r k).2 := hy
            grind
        have := mn h0 (show 0 ≤ - turn (at_ r k) (X, h) (at_ r (k + 1)) by have := l.o d; have this : turn (at_ r k) (X, h) (at_ r (k + 1)) ≤ 0 := this; grind)
        grind
      · have := g.le (show i + 1 ≤ k by omega) hk
        grind
theorem le_slopeR (g : Good r h) (hi : i + 1 < r.length) (h0 : 0 ≤ t) (h1 : t ≤ 1) : X ≤ slopeR r h i t ↔ SRt r h i t X := by
  have dx := g.lt (show i < i + 1 by omega) hi
  obtain ⟨x0, x1⟩ := spot_x g hi h0 h1
  have split_ : X ≤ slopeR r h i t ↔ X ≤ reachR r h (spotOf r i t) ∧ ((at_ r i).2 < (at_ r (i + 1)).2 → X ≤ own r h i) := by
    unfold slopeR
    split
    · rename_i d
      rw [le_minQ]
      simp [d]
    · rename_i d
      simp [d]
  rw [split_, le_reachR]
  constructor
  · rintro ⟨⟨q1, q2⟩, q3⟩
    have hf : -(at_ r (r.length - 1)).1 ≤ -X := by grind
    have ho : (at_ r i).2 < (at_ r (i + 1)).2 → turn (mir (at_ r (i + 1))) (-X, h) (mir (at_ r i)) ≤ 0 := fun d => (le_own d).mp (q3 d)
    suffices hk : ∀ c ∈ (r.drop (i + 2)).map mir, (mir (spotOf r i t)).2 < c.2 → turn c (-X, h) (mir (spotOf r i t)) ≤ 0 by
      refine LeX.mk hf ho ?_
      rw [rt_s]
      exact hk
    intro c hc hy
    obtain ⟨d, hd, rfl⟩ := List.mem_map.mp hc
    obtain ⟨k, h1, h2, rfl⟩ := mem_drop.mp hd
    have := g.lt (show i + 1 < k by omega) h2
    have hy' : (spotOf r i t).2 < (at_ r k).2 := hy
    exact (le_place hy').mp (q2 k h2 hy' (by grind))
  · intro l
    obtain ⟨lf, lo, lk⟩ := l
    rw [rt_s] at lk
    simp only [Rt] at lf lo lk
    replace lo : (at_ r i).2 < (at_ r (i + 1)).2 → turn (mir (at_ r (i + 1))) (-X, h) (mir (at_ r i)) ≤ 0 := lo
    refine ⟨⟨by grind, fun k hk hy hx => ?_⟩, fun d => (le_own d).mpr (lo d)⟩
    by_cases ki : i + 2 ≤ k
    · exact (le_place hy).mpr (lk _ (List.mem_map.mpr ⟨_, mem_drop.mpr ⟨k, ki, hk, rfl⟩, rfl⟩) hy)
    · by_cases ke : k = i + 1
      · subst ke
        rw [le_place hy]
        have e : turn (mir (at_ r (i + 1))) (-X, h) (mir (spotOf r i t)) = (1 - t) * turn (mir (at_ r (i + 1))) (-X, h) (mir (at_ r i)) := by unfold turn spotOf spotB mir; grind
        rw [e]
        have d : (at_ r i).2 < (at_ r (i + 1)).2 := by
          by_cases z : (at_ r i).2 < (at_ r (i + 1)).2
          · exact z
          · have := mn (show 0 ≤ 1 - t by grind) (show 0 ≤ (at_ r i).2 - (at_ r (i + 1)).2 by grind)
            have hy : (at_ r i).2 + t * ((at_ r (i + 1)).2 - (at_ r i).2) < (at_ r (i + 1)).2 := hy
            grind
        have := mn (show 0 ≤ 1 - t by grind) (show 0 ≤ - turn (mir (at_ r (i + 1))) (-X, h) (mir (at_ r i)) by have := lo d; grind)
        grind
      · have := g.le (show k ≤ i by omega) (by omega)
        grind
def GS (r : Ridge) (h : Rat) : Slopes := ⟨r.length - 1, SL r h, SRt r h, slopeR r h⟩
theorem gs_ok (g : Good r h) : (GS r h).Ok where
  lt := fun i t t' X hi h0 h h1 l => LeX.later (lf_ok g (by have : i < r.length - 1 := hi; omega)) l h0 h h1
  lx := fun i t X X' hi h l => LeX.more l h
  rt := fun i t t' X hi h0 h h1 l => LeX.later (rt_ok g (by have : i < r.length - 1 := hi; omega)) l (by grind) (by grind) (by grind)
  rv := fun i t X hi h0 h1 => (le_slopeR g (by have : i < r.length - 1 := hi; omega) h0 h1).symm
  lr := fun i X hi => by
    obtain ⟨o, ho⟩ := first_exists (rt_ok g (show i + 1 < r.length by have : i < r.length - 1 := hi; omega)) (-X)
    cases o with
    | none => exact .inl fun t h0 h1 => ho (1 - t) (by grind) (by grind)
    | some a =>
      obtain ⟨a0, a1, ha⟩ := ho
      exact .inr ⟨1 - a, by grind, by grind, fun t h0 h1 => (ha (1 - t) (by grind) (by grind)).trans (by constructor <;> intro <;> grind)⟩
theorem ue_exists (g : Good r h) (p : Part) (hp : (GS r h).PartOk p) (x : Option Rat) : ∃ o, (GS r h).UE p x o := by
  obtain ⟨i, a, b⟩ := p
  obtain ⟨hi, ha, hab, hb⟩ := hp
  simp only at *
  have hi' : i + 1 < r.length := by have : i < r.length - 1 := hi; omega
  cases x with
  | none => exact ⟨some b, hab, by grind, fun _ e => (nomatch e), fun t h1 h2 => by grind⟩
  | some X =>
    by_cases z : SL r h i a X
    · exact ⟨none, X, rfl, z⟩
    · obtain ⟨o, ho⟩ := first_exists (lf_ok g hi') X
      cases o with
      | none => exact ⟨some b, hab, by grind, fun Y e t h1 h2 => by cases e; exact ho t (by grind) (by grind), fun t h1 h2 => by grind⟩
      | some e =>
        obtain ⟨e0, e1, he⟩ := ho
        have ae : a < e := by
          by_cases q : e ≤ a
          · exact absurd ((he a ha (by grind)).mpr q) z
          · grind
        refine ⟨some (if e ≤ b then e else b), by show a < _; split <;> grind, by show _ ≤ b; split <;> grind, fun Y q t h1 h2 l => ?_, fun t h1 h2 => ⟨X, rfl, (he t (by grind) (by grind)).mpr ?_⟩⟩
        · cases q
          have := (he t (by grind) (by split at h2 <;> grind)).mp l
          split at h2 <;> grind
        · have h1 : (if e ≤ b then e else b) < t := h1
          split at h1 <;> grind
theorem sl_left (g : Good r h) (hi : i + 1 < r.length) (h0 : 0 ≤ t) : SL r h i t (at_ r i).1 := LeX.at_p (lf_ok g hi) h0
theorem slopeR_ge (g : Good r h) (hi : i + 1 < r.length) (h0 : 0 ≤ t) (h1 : t ≤ 1) : (at_ r (i + 1)).1 ≤ slopeR r h i t :=
  (le_slopeR g hi h0 h1).mpr (LeX.at_p (rt_ok g hi) (by grind))
end
end RM
end
section
namespace RM
def share (r : Ridge) (i : Nat) (s : Pt) : Rat := (s.1 - (at_ r i).1) / ((at_ r (i + 1)).1 - (at_ r i).1)
def crossP (a b c d : Pt) : Option Pt := if turn c d a = turn c d b then none else some (spotB a b (turn c d a / (turn c d a - turn c d b)))
def crossT (r : Ridge) (i : Nat) (a b : Pt) : Option Rat := (crossP a b (at_ r i) (at_ r (i + 1))).map (share r i)
section
variable {r : Ridge} {h : Rat} {i j k : Nat} {t X lo hi m : Rat} {a b : Pt}
theorem div_mul {u v : Rat} (h : v ≠ 0) : u / v * v = u := by grind
theorem crossT_none (dx : (at_ r i).1 < (at_ r (i + 1)).1) : crossT r i a b = none ↔ turn (at_ r i) (at_ r (i + 1)) a = turn (at_ r i) (at_ r (i + 1)) b := by
  unfold crossT crossP
  split
  · rename_i e; simp [e]
  · rename_i e; simp [e]
theorem crossP_on {c d p : Pt} (e : crossP a b c d = some p) : turn c d p = 0 ∧ turn a b p = 0 ∧ turn c d a ≠ turn c d b := by
  unfold crossP at e
  split at e
  · cases e
  · rename_i ne
    cases e
    have ev := div_mul (u := turn c d a) (v := turn c d a - turn c d b) (by grind)
    generalize turn c d a / (turn c d a - turn c d b) = v at ev
    refine ⟨?_, by unfold turn spotB; grind, ne⟩
    have : turn c d (spotB a b v) = turn c d a - v * (turn c d a - turn c d b) := by unfold turn spotB; grind
    grind
theorem share_on {p : Pt} (dx : (at_ r i).1 < (at_ r (i + 1)).1) (h : turn (at_ r i) (at_ r (i + 1)) p = 0) : spotOf r i (share r i p) = p := by
  have ev := div_mul (u := p.1 - (at_ r i).1) (v := (at_ r (i + 1)).1 - (at_ r i).1) (by grind)
  unfold share spotOf spotB
  generalize (p.1 - (at_ r i).1) / ((at_ r (i + 1)).1 - (at_ r i).1) = v at ev
  have h1 : (at_ r i).1 + v * ((at_ r (i + 1)).1 - (at_ r i).1) = p.1 := by grind
  have h2 : (at_ r i).2 + v * ((at_ r (i + 1)).2 - (at_ r i).2) = p.2 := by
    have : ((at_ r i).2 + v * ((at_ r (i + 1)).2 - (at_ r i).2) - p.2) * ((at_ r (i + 1)).1 - (at_ r i).1) = 0 := by
      unfold turn at h
      grind
    have := Rat.mul_eq_zero.mp this
    rcases this with q | q <;> grind
  rw [h1, h2]
theorem crossT_some (dx : (at_ r i).1 < (at_ r (i + 1)).1) (e : crossT r i a b = some t) : turn a b (spotOf r i t) = 0 ∧ ∀ t', turn a b (spotOf r i t') = 0 → t' = t := by
  unfold crossT at e
  obtain ⟨p, hp, rfl⟩ := Option.map_eq_some_iff.mp e
  obtain ⟨h1, h2, h3⟩ := crossP_on hp
  have hs := share_on dx h1
  refine ⟨by rw [hs]; exact h2, fun t' h' => ?_⟩
  have e0 : turn a b (spotOf r i (share r i p)) = 0 := by rw [hs]; exact h2
  generalize share r i p = t at e0
  have e1 : turn a b (spotOf r i t') - turn a b (spotOf r i t) = (t' - t) * (turn (at_ r i) (at_ r (i + 1)) a - turn (at_ r i) (at_ r (i + 1)) b) := by unfold turn spotOf spotB; grind
  have : (t' - t) * (turn (at_ r i) (at_ r (i + 1)) a - turn (at_ r i) (at_ r (i + 1)) b) = 0 := by grind
  rcases Rat.mul_eq_zero.mp this with q | q <;> grind
theorem crossT_of (dx : (at_ r i).1 < (at_ r (i + 1)).1) (ht : turn a b (spotOf r i t) = 0) (ne : turn (at_ r i) (at_ r (i + 1)) a ≠ turn (at_ r i) (at_ r (i + 1)) b) : crossT r i a b = some t := by
  cases e : crossT r i a b with
  | none => exact absurd ((crossT_none dx).mp e) ne
  | some t' => rw [(crossT_some dx e).2 t ht]
theorem turn_swap (a b c : Pt) : turn b a c = - turn a b c := by unfold turn; grind
theorem crossT_symm (dx : (at_ r i).1 < (at_ r (i + 1)).1) : crossT r i a b = crossT r i b a := by
  cases e : crossT r i a b with
  | none => exact ((crossT_none dx).mpr ((crossT_none dx).mp e).symm).symm
  | some t =>
    obtain ⟨h1, h2⟩ := crossT_some dx e
    refine (crossT_of dx (by rw [turn_swap, h1]; grind) fun q => ?_).symm
    have := (crossT_none (a := a) (b := b) dx).mpr q.symm
    rw [this] at e; cases e
structure TSp (r : Ridge) (i : Nat) (spots : List Pt) (ts : List Rat) : Prop where
  asc : ts.Pairwise (· < ·)
  rng : ∀ t ∈ ts, 0 ≤ t ∧ t ≤ 1
  has0 : 0 ∈ ts
  has1 : 1 ∈ ts
  all : ∀ a ∈ spots, ∀ b ∈ spots, ∀ t, crossT r i a b = some t → 0 < t → t < 1 → t ∈ ts
  only : ∀ t ∈ ts, t = 0 ∨ t = 1 ∨ ∃ a ∈ spots, ∃ b ∈ spots, crossT r i a b = some t
def spotsL (r : Ridge) (h : Rat) (i : Nat) : List Pt := r.take i ++ [((at_ r 0).1, h)]
def spotsR (r : Ridge) (h : Rat) (i : Nat) : List Pt := r.drop (i + 2) ++ [((at_ r (r.length - 1)).1, h)]
theorem noin_L (g : Good r h) (hi1 : i + 1 < r.length) {ts : List Rat} (ok : TSp r i (spotsL r h i) ts) (l0 : lo ∈ ts) (h1 : hi ∈ ts) (non : ∀ t ∈ ts, lo < t → t < hi → False) : NoIn (Lf r h i) lo hi := by
  have dx := g.lt (show i < i + 1 by omega) hi1
  intro a ha b hb t t1 t2 e
  have conv : ∀ c, c ∈ (Lf r h i).F :: (Lf r h i).K → c ∈ spotsL r h i := fun c hc => by
    rcases List.mem_cons.mp hc with rfl | hc
    · exact List.mem_append_right _ (by simp [Sd.F, Lf])
    · exact List.mem_append_left _ hc
  have e1 : turn a b (Lf r h i).q - turn a b (Lf r h i).p = turn (at_ r i) (at_ r (i + 1)) a - turn (at_ r i) (at_ r (i + 1)) b := by
    show turn a b (at_ r (i + 1)) - turn a b (at_ r i) = _
    unfold turn; grind
  by_cases z : turn (at_ r i) (at_ r (i + 1)) a = turn (at_ r i) (at_ r (i + 1)) b
  · grind
  · exfalso
    have := crossT_of dx (show turn a b (spotOf r i t) = 0 from e) z
    have b0 := (ok.rng _ l0).1
    have b1 := (ok.rng _ h1).2
    exact non t (ok.all a (conv a ha) b (conv b hb) t this (by grind) (by grind)) t1 t2
theorem noin_R (g : Good r h) (hi1 : i + 1 < r.length) {ts : List Rat} (ok : TSp r i (spotsR r h i) ts) (l0 : lo ∈ ts) (h1 : hi ∈ ts) (non : ∀ t ∈ ts, lo < t → t < hi → False) : NoIn (Rt r h i) (1 - hi) (1 - lo) := by
  have dx := g.lt (show i < i + 1 by omega) hi1
  intro a ha b hb u t1 t2 e
  have conv : ∀ c, c ∈ (Rt r h i).F :: (Rt r h i).K → ∃ d, d ∈ spotsR r h i ∧ c = mir d := fun c hc => by
    rcases List.mem_cons.mp hc with rfl | hc
    · exact ⟨((at_ r (r.length - 1)).1, h), List.mem_append_right _ (by simp), by simp [Sd.F, Rt, mir]⟩
    · obtain ⟨d, hd, rfl⟩ := List.mem_map.mp hc
      exact ⟨d, List.mem_append_left _ hd, rfl⟩
  obtain ⟨a', ha', rfl⟩ := conv a ha
  obtain ⟨b', hb', rfl⟩ := conv b hb
  have eu : u = 1 - (1 - u) := by grind
  rw [eu, rt_s, turn_mir] at e
  have e1 : turn (mir a') (mir b') (Rt r h i).q - turn (mir a') (mir b') (Rt r h i).p = turn (at_ r i) (at_ r (i + 1)) a' - turn (at_ r i) (at_ r (i + 1)) b' := by
    show turn (mir a') (mir b') (mir (at_ r i)) - turn (mir a') (mir b') (mir (at_ r (i + 1))) = _
    rw [turn_mir, turn_mir]
    unfold turn; grind
  by_cases z : turn (at_ r i) (at_ r (i + 1)) a' = turn (at_ r i) (at_ r (i + 1)) b'
  · grind
  · exfalso
    have := crossT_of (t := 1 - u) dx (by grind) z
    have b0 := (ok.rng _ l0).1
    have b1 := (ok.rng _ h1).2
    exact non (1 - u) (ok.all a' ha' b' hb' (1 - u) this (by grind) (by grind)) (by grind) (by grind)
def BarL (r : Ridge) (h : Rat) (s : Pt) : Option Nat → Prop
  | none => ∀ c ∈ lefts r h s, c.1 ≠ reachL r h s
  | some k => (reachL r h s, k) ∈ lefts r h s ∧ ∀ c ∈ lefts r h s, c.1 = reachL r h s → c.2 ≤ k
def BarR (r : Ridge) (h : Rat) (s : Pt) : Option Nat → Prop
  | none => ∀ c ∈ rights r h s, c.1 ≠ reachR r h s
  | some k => (reachR r h s, k) ∈ rights r h s ∧ ∀ c ∈ rights r h s, c.1 = reachR r h s → k ≤ c.2
theorem pc_left (g : Good r h) (hi1 : i + 1 < r.length) (n : NoIn (Lf r h i) lo hi) (l0 : 0 ≤ lo) (m1 : lo < m) (m2 : m < hi) (h1 : hi ≤ 1) {o : Option Nat} (hb : BarL r h (spotOf r i m) o) :
    PcOk (Lf r h i) lo hi (o.map (at_ r)) ∧ ∀ k, o = some k → k ≤ i := by
  have dx := g.lt (show i < i + 1 by omega) hi1
  have ok := lf_ok g hi1
  obtain ⟨x0, x1⟩ := spot_x (t := m) g hi1 (by grind) (by grind)
  have le : ∀ k, k < r.length → (spotOf r i m).2 < (at_ r k).2 → (at_ r k).1 < (spotOf r i m).1 → place (spotOf r i m) (at_ r k) h ≤ reachL r h (spotOf r i m) := (reachL_le.mp (by grind : reachL r h (spotOf r i m) ≤ reachL r h (spotOf r i m))).2
  have lf : (at_ r 0).1 ≤ reachL r h (spotOf r i m) := (reachL_le.mp (by grind : reachL r h (spotOf r i m) ≤ reachL r h (spotOf r i m))).1
  have xi : (at_ r i).1 < (spotOf r i m).1 := by
    have := mp (show 0 < m by grind) (show 0 < (at_ r (i + 1)).1 - (at_ r i).1 by grind)
    show (at_ r i).1 < (at_ r i).1 + m * ((at_ r (i + 1)).1 - (at_ r i).1)
    grind
  have own_in : (at_ r (i + 1)).2 < (at_ r i).2 → (spotOf r i m).2 < (at_ r i).2 := fun d => by
    have := mp (show 0 < m by grind) (show 0 < (at_ r i).2 - (at_ r (i + 1)).2 by grind)
    show (at_ r i).2 + m * ((at_ r (i + 1)).2 - (at_ r i).2) < (at_ r i).2
    grind
  have own_t : ∀ X, turn (at_ r i) (X, h) (spotOf r i m) = m * turn (at_ r i) (X, h) (at_ r (i + 1)) := fun X => by unfold turn spotOf spotB; grind
  have own_le0 : (at_ r (i + 1)).2 < (at_ r i).2 → turn (at_ r i) (reachL r h (spotOf r i m), h) (at_ r (i + 1)) ≤ 0 := fun d => by
    have h2 := (place_le (own_in d)).mp (le i (by omega) (own_in d) xi)
    rw [own_t] at h2
    exact mnn (show 0 < m by grind) (by grind)
  have hkle : ∀ c ∈ (Lf r h i).K, ((Lf r h i).s m).2 < c.2 → turn c (reachL r h (spotOf r i m), h) ((Lf r h i).s m) ≤ 0 := fun c hc hy => by
    obtain ⟨k, k1, k2, rfl⟩ := mem_take.mp hc
    have := g.lt k1 (by omega)
    exact (place_le hy).mp (le k k2 hy (by grind))
  cases o with
  | none =>
    refine ⟨?_, fun k e => nomatch e⟩
    have eq : reachL r h (spotOf r i m) = (at_ r 0).1 := by
      rcases maxQ_mem ((lefts r h (spotOf r i m)).map (·.1)) (at_ r 0).1 with e | e
      · exact e
      · obtain ⟨c, hc, e⟩ := List.mem_map.mp e
        exact absurd e (hb c hc)
    rw [eq] at own_le0 hkle
    exact .wall fun t X t1 t2 => piece_none ok n l0 m1 m2 h1 own_le0 hkle t1 t2
  | some k =>
    obtain ⟨hm, hmax⟩ := hb
    obtain ⟨k1, k2, k3, k4⟩ := mem_lefts.mp hm
    simp only at k1 k2 k3 k4
    have ki : k ≤ i := by
      by_cases z : k ≤ i
      · exact z
      · have := g.le (show i + 1 ≤ k by omega) k1
        grind
    refine ⟨?_, fun j e => by cases e; exact ki⟩
    show PcOk (Lf r h i) lo hi (some (at_ r k))
    have e0 : turn (at_ r k) (reachL r h (spotOf r i m), h) (spotOf r i m) = 0 := by
      have := place_turn (s := spotOf r i m) (c := at_ r k) (h := h) (X := reachL r h (spotOf r i m)) (by grind)
      rw [← k4] at this
      grind
    rcases Nat.lt_or_eq_of_le ki with q | q
    · have hK : at_ r k ∈ (Lf r h i).K := mem_take.mpr ⟨k, q, k1, rfl⟩
      exact .bar _ hK fun t t1 t2 => ⟨(piece_some (X := 0) ok n hK l0 m1 m2 h1 k2 e0 lf own_le0 hkle t1 t2).1, fun X => (piece_some ok n hK l0 m1 m2 h1 k2 e0 lf own_le0 hkle t1 t2).2⟩
    · subst q
      have d : (at_ r (k + 1)).2 < (at_ r k).2 := by
        by_cases z : (at_ r (k + 1)).2 < (at_ r k).2
        · exact z
        · have := mn (show 0 ≤ m by grind) (show 0 ≤ (at_ r (k + 1)).2 - (at_ r k).2 by grind)
          have k2 : (at_ r k).2 + m * ((at_ r (k + 1)).2 - (at_ r k).2) < (at_ r k).2 := k2
          grind
      rw [own_t] at e0
      have e1 : turn (at_ r k) (reachL r h (spotOf r k m), h) (at_ r (k + 1)) = 0 := by
        rcases Rat.mul_eq_zero.mp e0 with q | q
        · grind
        · exact q
      refine .own d fun t X t1 t2 => ?_
      rw [piece_own ok l0 m1 m2 h1 d lf e1 hkle t1 t2]
      have e2 : turn (at_ r k) (X, h) (at_ r (k + 1)) = (X - reachL r h (spotOf r k m)) * ((at_ r (k + 1)).2 - (at_ r k).2) := by
        unfold turn at e1 ⊢; grind
      show _ ↔ turn (at_ r k) (X, h) (at_ r (k + 1)) ≤ 0
      rw [e2]
      constructor
      · intro q
        have := mn (show 0 ≤ X - reachL r h (spotOf r k m) by grind) (show 0 ≤ (at_ r k).2 - (at_ r (k + 1)).2 by grind)
        grind
      · intro q
        have : 0 ≤ X - reachL r h (spotOf r k m) := mnp (show 0 < (at_ r k).2 - (at_ r (k + 1)).2 by grind) (by grind)
        grind
end
end RM
end
section
namespace RM
section
variable {r : Ridge} {h : Rat} {i j k : Nat} {t X lo hi m : Rat} {a b : Pt}
theorem pc_right (g : Good r h) (hi1 : i + 1 < r.length) (n : NoIn (Rt r h i) (1 - hi) (1 - lo)) (l0 : 0 ≤ lo) (m1 : lo < m) (m2 : m < hi) (h1 : hi ≤ 1) {o : Option Nat} (hb : BarR r h (spotOf r i m) o) :
    PcOk (Rt r h i) (1 - hi) (1 - lo) (o.map fun k => mir (at_ r k)) ∧ ∀ k, o = some k → i + 1 ≤ k ∧ k < r.length := by
  have dx := g.lt (show i < i + 1 by omega) hi1
  have ok := rt_ok g hi1
  obtain ⟨x0, x1⟩ := spot_x (t := m) g hi1 (by grind) (by grind)
  have le : ∀ k, k < r.length → (spotOf r i m).2 < (at_ r k).2 → (spotOf r i m).1 < (at_ r k).1 → reachR r h (spotOf r i m) ≤ place (spotOf r i m) (at_ r k) h := (le_reachR.mp (by grind : reachR r h (spotOf r i m) ≤ reachR r h (spotOf r i m))).2
  have lf0 : reachR r h (spotOf r i m) ≤ (at_ r (r.length - 1)).1 := (le_reachR.mp (by grind : reachR r h (spotOf r i m) ≤ reachR r h (spotOf r i m))).1
  have lf : (Rt r h i).f ≤ -reachR r h (spotOf r i m) := by show -(at_ r (r.length - 1)).1 ≤ _; grind
  have xi : (spotOf r i m).1 < (at_ r (i + 1)).1 := by
    have := mp (show 0 < 1 - m by grind) (show 0 < (at_ r (i + 1)).1 - (at_ r i).1 by grind)
    show (at_ r i).1 + m * ((at_ r (i + 1)).1 - (at_ r i).1) < (at_ r (i + 1)).1
    grind
  have own_in : (at_ r i).2 < (at_ r (i + 1)).2 → (spotOf r i m).2 < (at_ r (i + 1)).2 := fun d => by
    have := mp (show 0 < 1 - m by grind) (show 0 < (at_ r (i + 1)).2 - (at_ r i).2 by grind)
    show (at_ r i).2 + m * ((at_ r (i + 1)).2 - (at_ r i).2) < (at_ r (i + 1)).2
    grind
  have own_t : ∀ X, turn (mir (at_ r (i + 1))) (X, h) (mir (spotOf r i m)) = (1 - m) * turn (mir (at_ r (i + 1))) (X, h) (mir (at_ r i)) := fun X => by unfold turn spotOf spotB mir; grind
  have own_le0 : (at_ r i).2 < (at_ r (i + 1)).2 → turn (mir (at_ r (i + 1))) (-reachR r h (spotOf r i m), h) (mir (at_ r i)) ≤ 0 := fun d => by
    have h2 := (le_place (own_in d)).mp (le (i + 1) (by omega) (own_in d) xi)
    rw [own_t] at h2
    exact mnn (show 0 < 1 - m by grind) (by grind)
  have hkle : ∀ c ∈ (Rt r h i).K, ((Rt r h i).s (1 - m)).2 < c.2 → turn c (-reachR r h (spotOf r i m), h) ((Rt r h i).s (1 - m)) ≤ 0 := by
    rw [rt_s]
    intro c hc hy
    obtain ⟨d, hd, rfl⟩ := List.mem_map.mp hc
    obtain ⟨k, k1, k2, rfl⟩ := mem_drop.mp hd
    have := g.lt (show i + 1 < k by omega) k2
    have hy' : (spotOf r i m).2 < (at_ r k).2 := hy
    exact (le_place hy').mp (le k k2 hy' (by grind))
  cases o with
  | none =>
    refine ⟨?_, fun k e => nomatch e⟩
    have eq : reachR r h (spotOf r i m) = (at_ r (r.length - 1)).1 := by
      rcases minQ_mem ((rights r h (spotOf r i m)).map (·.1)) (at_ r (r.length - 1)).1 with e | e
      · exact e
      · obtain ⟨c, hc, e⟩ := List.mem_map.mp e
        exact absurd e (hb c hc)
    rw [eq] at own_le0 hkle
    exact .wall fun t X t1 t2 => piece_none ok n (m := 1 - m) (by grind) (by grind) (by grind) (by grind) own_le0 hkle t1 t2
  | some k =>
    obtain ⟨hm, hmin⟩ := hb
    obtain ⟨k1, k2, k3, k4⟩ := mem_rights.mp hm
    simp only at k1 k2 k3 k4
    have ki : i + 1 ≤ k := by
      by_cases z : i + 1 ≤ k
      · exact z
      · have := g.le (show k ≤ i by omega) (by omega)
        grind
    refine ⟨?_, fun j e => by cases e; exact ⟨ki, k1⟩⟩
    show PcOk (Rt r h i) (1 - hi) (1 - lo) (some (mir (at_ r k)))
    have e0 : turn (mir (at_ r k)) (-reachR r h (spotOf r i m), h) (mir (spotOf r i m)) = 0 := by
      have := place_turn (s := mir (spotOf r i m)) (c := mir (at_ r k)) (h := h) (X := -reachR r h (spotOf r i m)) (by show (at_ r k).2 - (spotOf r i m).2 ≠ 0; grind)
      rw [place_mir, ← k4] at this
      grind
    rcases Nat.lt_or_eq_of_le ki with q | q
    · have hK : mir (at_ r k) ∈ (Rt r h i).K := List.mem_map.mpr ⟨_, mem_drop.mpr ⟨k, by omega, k1, rfl⟩, rfl⟩
      have k2' : ((Rt r h i).s (1 - m)).2 < (mir (at_ r k)).2 := by rw [rt_s]; exact k2
      have e0' : turn (mir (at_ r k)) (-reachR r h (spotOf r i m), (Rt r h i).h) ((Rt r h i).s (1 - m)) = 0 := by rw [rt_s]; exact e0
      exact .bar _ hK fun t t1 t2 => ⟨(piece_some (X := 0) ok n hK (m := 1 - m) (by grind) (by grind) (by grind) (by grind) k2' e0' lf own_le0 hkle t1 t2).1, fun X => (piece_some ok n hK (m := 1 - m) (by grind) (by grind) (by grind) (by grind) k2' e0' lf own_le0 hkle t1 t2).2⟩
    · subst q
      have d : (at_ r i).2 < (at_ r (i + 1)).2 := by
        by_cases z : (at_ r i).2 < (at_ r (i + 1)).2
        · exact z
        · have := mn (show 0 ≤ 1 - m by grind) (show 0 ≤ (at_ r i).2 - (at_ r (i + 1)).2 by grind)
          have k2 : (at_ r i).2 + m * ((at_ r (i + 1)).2 - (at_ r i).2) < (at_ r (i + 1)).2 := k2
          grind
      rw [own_t] at e0
      have e1 : turn (mir (at_ r (i + 1))) (-reachR r h (spotOf r i m), h) (mir (at_ r i)) = 0 := by
        rcases Rat.mul_eq_zero.mp e0 with q | q
        · grind
        · exact q
      refine .own d fun t X t1 t2 => ?_
      rw [piece_own ok (m := 1 - m) (by grind) (by grind) (by grind) (by grind) d lf e1 hkle t1 t2]
      have e2 : turn (mir (at_ r (i + 1))) (X, h) (mir (at_ r i)) = (X + reachR r h (spotOf r i m)) * ((at_ r i).2 - (at_ r (i + 1)).2) := by
        unfold turn mir at e1 ⊢; grind
      show _ ↔ turn (mir (at_ r (i + 1))) (X, h) (mir (at_ r i)) ≤ 0
      rw [e2]
      constructor
      · intro q
        have := mn (show 0 ≤ X + reachR r h (spotOf r i m) by grind) (show 0 ≤ (at_ r (i + 1)).2 - (at_ r i).2 by grind)
        grind
      · intro q
        have : 0 ≤ X + reachR r h (spotOf r i m) := mnp (show 0 < (at_ r (i + 1)).2 - (at_ r i).2 by grind) (by grind)
        grind
def Chain {κ : Type} (P : Rat → Rat → κ → Prop) : Rat → List (Rat × Rat × κ) → Rat → Prop
  | x, [], y => x = y
  | x, (a, b, k) :: ps, y => a = x ∧ a < b ∧ P a b k ∧ Chain P b ps y
theorem Chain.snoc {κ : Type} {P : Rat → Rat → κ → Prop} : ∀ {ps : List (Rat × Rat × κ)} {x y z : Rat} {k : κ}, Chain P x ps y → y < z → P y z k → Chain P x (ps ++ [(y, z, k)]) z
  | [], x, y, z, k, h, l, p => by
    have h : x = y := h
    subst h
    exact ⟨rfl, l, p, rfl⟩
  | (a, b, c) :: ps, x, y, z, k, h, l, p => ⟨h.1, h.2.1, h.2.2.1, Chain.snoc h.2.2.2 l p⟩
theorem Chain.split {κ : Type} {P : Rat → Rat → κ → Prop} : ∀ {ps qs : List (Rat × Rat × κ)} {x z : Rat}, Chain P x (ps ++ qs) z → ∃ y, Chain P x ps y ∧ Chain P y qs z
  | [], qs, x, z, h => ⟨x, rfl, h⟩
  | (a, b, c) :: ps, qs, x, z, h => by
    obtain ⟨y, h1, h2⟩ := Chain.split h.2.2.2
    exact ⟨y, ⟨h.1, h.2.1, h.2.2.1, h1⟩, h2⟩
theorem Chain.app {κ : Type} {P : Rat → Rat → κ → Prop} : ∀ {ps qs : List (Rat × Rat × κ)} {x y z : Rat}, Chain P x ps y → Chain P y qs z → Chain P x (ps ++ qs) z
  | [], qs, x, y, z, h, h' => by have h : x = y := h; subst h; exact h'
  | (a, b, c) :: ps, qs, x, y, z, h, h' => ⟨h.1, h.2.1, h.2.2.1, Chain.app h.2.2.2 h'⟩
theorem Chain.le {κ : Type} {P : Rat → Rat → κ → Prop} : ∀ {ps : List (Rat × Rat × κ)} {x y : Rat}, Chain P x ps y → x ≤ y
  | [], x, y, h => by have h : x = y := h; grind
  | (a, b, c) :: ps, x, y, h => by
    have := Chain.le h.2.2.2
    have h1 := h.1
    have h2 := h.2.1
    grind
theorem Chain.mem {κ : Type} {P : Rat → Rat → κ → Prop} : ∀ {ps : List (Rat × Rat × κ)} {x y : Rat}, Chain P x ps y → ∀ p ∈ ps, x ≤ p.1 ∧ p.1 < p.2.1 ∧ p.2.1 ≤ y ∧ P p.1 p.2.1 p.2.2
  | [], x, y, h, p, hp => nomatch hp
  | (a, b, c) :: ps, x, y, h, p, hp => by
    obtain ⟨h1, h2, h3, h4⟩ := h
    have l := Chain.le h4
    rcases List.mem_cons.mp hp with rfl | hp
    · exact ⟨by grind, h2, l, h3⟩
    · have := Chain.mem h4 p hp
      grind
theorem Chain.imp {κ : Type} {P Q : Rat → Rat → κ → Prop} (i : ∀ a b k, P a b k → Q a b k) : ∀ {ps : List (Rat × Rat × κ)} {x y : Rat}, Chain P x ps y → Chain Q x ps y
  | [], x, y, h => h
  | (a, b, c) :: ps, x, y, h => ⟨h.1, h.2.1, i _ _ _ h.2.2.1, Chain.imp i h.2.2.2⟩
def PcL (r : Ridge) (h : Rat) (i : Nat) (a b : Rat) (o : Option Nat) : Prop := PcOk (Lf r h i) a b (o.map (at_ r)) ∧ ∀ k, o = some k → k ≤ i
def PcR (r : Ridge) (h : Rat) (i : Nat) (a b : Rat) (o : Option Nat) : Prop := PcOk (Rt r h i) (1 - b) (1 - a) (o.map fun k => mir (at_ r k)) ∧ ∀ k, o = some k → i + 1 ≤ k ∧ k < r.length
theorem PcL.join (g : Good r h) (hi1 : i + 1 < r.length) {a b c : Rat} {o : Option Nat} (h1 : PcL r h i a b o) (h2 : PcL r h i b c o) : PcL r h i a c o := ⟨h1.1.join (lf_ok g hi1) h2.1, h1.2⟩
theorem PcR.join (g : Good r h) (hi1 : i + 1 < r.length) {a b c : Rat} {o : Option Nat} (h1 : PcR r h i a b o) (h2 : PcR r h i b c o) : PcR r h i a c o := ⟨h2.1.join (rt_ok g hi1) h1.1, h1.2⟩
theorem over_L (g : Good r h) (hi1 : i + 1 < r.length) {a b : Rat} {o : Option Nat} (p : PcL r h i a b o) (hab : a ≤ b) (la : ¬ SL r h i a X) (lb : SL r h i b X) :
    ∃ k t, o = some k ∧ k < r.length ∧ crossT r i (X, h) (at_ r k) = some t ∧ a < t ∧ t ≤ b ∧ SL r h i t X ∧ ∀ t', a ≤ t' → t' < t → ¬ SL r h i t' X := by
  have dx := g.lt (show i < i + 1 by omega) hi1
  obtain ⟨c, e, hc, ne, q⟩ := p.1.change hab la lb
  cases o with
  | none => cases e
  | some k =>
    cases e
    have hk := p.2 k rfl
    cases ec : crossT r i (X, h) (at_ r k) with
    | none => exact absurd ((crossT_none dx).mp ec) ne
    | some t =>
      obtain ⟨e1, _⟩ := crossT_some dx ec
      have := q t (by show turn (at_ r k) (X, h) (spotOf r i t) = 0; rw [turn_swap, e1]; grind)
      exact ⟨k, t, rfl, by omega, ec, this⟩
theorem over_R (g : Good r h) (hi1 : i + 1 < r.length) {a b : Rat} {o : Option Nat} (p : PcR r h i a b o) (hab : a ≤ b) (la : SRt r h i a X) (lb : ¬ SRt r h i b X) :
    ∃ k t, o = some k ∧ k < r.length ∧ crossT r i (X, h) (at_ r k) = some t ∧ a ≤ t ∧ t < b ∧ SRt r h i t X ∧ ∀ t', t < t' → t' ≤ b → ¬ SRt r h i t' X := by
  have dx := g.lt (show i < i + 1 by omega) hi1
  obtain ⟨c, e, hc, ne, q⟩ := p.1.change (X := -X) (by grind) lb la
  cases o with
  | none => cases e
  | some k =>
    cases e
    have hk := p.2 k rfl
    have sw : ∀ c, turn (Rt r h i).p (Rt r h i).q (mir c) = turn (at_ r i) (at_ r (i + 1)) c := fun c => by
      show turn (mir (at_ r (i + 1))) (mir (at_ r i)) (mir c) = _
      rw [turn_mir]; unfold turn; grind
    have ne' : turn (at_ r i) (at_ r (i + 1)) (X, h) ≠ turn (at_ r i) (at_ r (i + 1)) (at_ r k) := by
      rw [← sw, ← sw]; exact ne
    cases ec : crossT r i (X, h) (at_ r k) with
    | none => exact absurd ((crossT_none dx).mp ec) ne'
    | some t =>
      obtain ⟨e1, _⟩ := crossT_some dx ec
      have := q (1 - t) (by
        rw [rt_s]
        show turn (mir (at_ r k)) (mir (X, h)) (mir (spotOf r i t)) = 0
        rw [turn_mir, turn_swap, e1]; grind)
      obtain ⟨q1, q2, q3, q4⟩ := this
      refine ⟨k, t, rfl, hk.2, ec, by grind, by grind, q3, fun t' h1 h2 => q4 (1 - t') (by grind) (by grind)⟩
def LLs (r : Ridge) (h : Rat) (i : Nat) (X : Rat) : Option Rat → Prop
  | none => ∀ t, 0 ≤ t → t ≤ 1 → ¬ SRt r h i t X
  | some b => 0 ≤ b ∧ b ≤ 1 ∧ ∀ t, 0 ≤ t → t ≤ 1 → (SRt r h i t X ↔ t ≤ b)
theorem LLs.of (g : Good r h) (hi1 : i + 1 < r.length) {b : Rat} (h0 : 0 ≤ b) (h1 : b ≤ 1) (l : SRt r h i b X) (n : ∀ t, b < t → t ≤ 1 → ¬ SRt r h i t X) : LLs r h i X (some b) :=
  ⟨h0, h1, fun t t0 t1 => ⟨fun lt => by
    by_cases z : t ≤ b
    · exact z
    · exact absurd lt (n t (by grind) t1), fun q => LeX.later (rt_ok g hi1) l (by grind) (by grind) (by grind)⟩⟩
theorem LLs.uniq {o o' : Option Rat} (h1 : LLs r h i X o) (h2 : LLs r h i X o') : o = o' := by
  cases o with
  | none =>
    cases o' with
    | none => rfl
    | some a => exact absurd ((h2.2.2 a h2.1 h2.2.1).mpr (by grind)) (h1 a h2.1 h2.2.1)
  | some a =>
    cases o' with
    | none => exact absurd ((h1.2.2 a h1.1 h1.2.1).mpr (by grind)) (h2 a h1.1 h1.2.1)
    | some b =>
      have e1 := (h1.2.2 b h2.1 h2.2.1).mp ((h2.2.2 b h2.1 h2.2.1).mpr (by grind))
      have e2 := (h2.2.2 a h1.1 h1.2.1).mp ((h1.2.2 a h1.1 h1.2.1).mpr (by grind))
      have : a = b := by grind
      rw [this]
end
end RM
end
section
set_option maxRecDepth 100000
set_option maxHeartbeats 1000000
set_option exponentiation.threshold 10
namespace DL
open PySem PySem.Spec PyProof.Rows L2 RM
local macro_rules | `(tactic| walk_at "ev") => `(tactic| simp only [dSeq, dNext, dRet, dRetVar, dRetN, dIfS, dSet, dAsg, dPar2, dPar3, dAug, dMeth, dVar, dC, dBin, dUn, dChain, dTest, dAnd, dOr, dNot, dAndV, dOrV, dNotV, dIf, dNil, dCons, dTup, dLst, dCB, dCall, dItems, dItemsF, dFor, dLc, dYes,
  oI, oIC, oIB, oNeg, oAdd, oIsN, oNotN, oIx, cLen, cTuple, cList, cAbs, cInt, TV.view, TV.fz, TV.sv, TV.items, TV.fixd, TV.asD, TV.isN, TV.res, TV.isOwn, TV.isDct, fzs, frz, startE, wipeE,
  List.map_cons, List.map_nil, List.length_cons, List.length_nil, List.cons_append, List.nil_append, List.getElem?_cons_succ, List.getElem?_cons_zero, List.set_cons_succ, List.set_cons_zero, List.replicate, Nat.reduceAdd, Nat.reduceSub, Nat.zero_add,
  Option.some.injEq, exists_eq_left', exists_eq_left, exists_and_left, TV.fr.injEq, PyData.bool.injEq, PyData.int.injEq, dgN, dgNil, dgCons, dgT, true_and, and_true, reduceCtorEq, false_and, and_false, ↓reduceIte, if_true, if_false, Bool.not_true, Bool.not_false, decide_eq_true_eq, Bool.false_eq_true])
def C_common : DC := fun ds P => ∃ a b, ds = [.int a, .int b] ∧ P (.fr (.int (Int.gcd a b)))
def C_fraction : DC := fun ds P => ∃ u e, ds = [.int u, .int e] ∧ e ≠ 0 ∧ e.natAbs < 2 ^ 8900 ∧ P (.fr (encQ (Rat.divInt u e)))
abbrev Sm (x : Rat) : Prop := B 4400 x
def C_added : DC := fun ds P => ∃ x y, ds = [encQ x, encQ y] ∧ Sm x ∧ Sm y ∧ P (.fr (encQ (x + y)))
def C_lessened : DC := fun ds P => ∃ x y, ds = [encQ x, encQ y] ∧ Sm x ∧ Sm y ∧ P (.fr (encQ (x - y)))
def C_multiplied : DC := fun ds P => ∃ x y, ds = [encQ x, encQ y] ∧ Sm x ∧ Sm y ∧ P (.fr (encQ (x * y)))
def C_divided : DC := fun ds P => ∃ x y, ds = [encQ x, encQ y] ∧ Sm x ∧ Sm y ∧ y ≠ 0 ∧ P (.fr (encQ (x / y)))
def cmpQ (x y : Rat) : Int := if x = y then 0 else if y < x then 1 else -1
def C_compared : DC := fun ds P => ∃ x y, ds = [encQ x, encQ y] ∧ Sm x ∧ Sm y ∧ P (.fr (.int (cmpQ x y)))
def C_least_of : DC := fun ds P => ∃ x xs, ds = [.tuple ((x :: xs).map encQ)] ∧ (∀ y ∈ x :: xs, Sm y) ∧ P (.fr (encQ (minQ x xs)))
def C_greatest_of : DC := fun ds P => ∃ x xs, ds = [.tuple ((x :: xs).map encQ)] ∧ (∀ y ∈ x :: xs, Sm y) ∧ P (.fr (encQ (maxQ x xs)))
def C_between : DC := fun ds P => ∃ x y t, ds = [encQ x, encQ y, encQ t] ∧ (∃ j k l, B j x ∧ B k y ∧ B l t ∧ j + k + l + 1 ≤ 4400) ∧ P (.fr (encQ (x + t * (y - x))))
def d_common : DSt := (dSeq (dPar2 false false 0 1 (dCons (dCB cAbs (dCons (dVar 0) dNil)) (dCons (dCB cAbs (dCons (dVar 1) dNil)) dNil)))
  (dSeq (dWhile (dTest (dBin oGt (dVar 1) (dC (.int 0)))) (dPar2 false false 0 1 (dCons (dVar 1) (dCons (dBin oMod (dVar 0) (dVar 1)) dNil))))
  (dRetVar 0)))
def d_fraction : DSt := (dSeq (dSet false 2 (dIf (dTest (dBin oGt (dVar 1) (dC (.int 0)))) (dCall C_common (dCons (dVar 0) (dCons (dVar 1) dNil))) (dUn oNeg (dCall C_common (dCons (dVar 0) (dCons (dVar 1) dNil))))))
  (dRet (dTup (dCons (dBin oDiv (dVar 0) (dVar 2)) (dCons (dBin oDiv (dVar 1) (dVar 2)) dNil)))))
def d_added : DSt := (dRet (dCall C_fraction (dCons (dBin oAdd (dBin oMul (dBin oIx (dVar 0) (dC (.int 0))) (dBin oIx (dVar 1) (dC (.int 1)))) (dBin oMul (dBin oIx (dVar 1) (dC (.int 0))) (dBin oIx (dVar 0) (dC (.int 1))))) (dCons (dBin oMul (dBin oIx (dVar 0) (dC (.int 1))) (dBin oIx (dVar 1) (dC (.int 1)))) dNil))))
def d_lessened : DSt := (dRet (dCall C_fraction (dCons (dBin oSub (dBin oMul (dBin oIx (dVar 0) (dC (.int 0))) (dBin oIx (dVar 1) (dC (.int 1)))) (dBin oMul (dBin oIx (dVar 1) (dC (.int 0))) (dBin oIx (dVar 0) (dC (.int 1))))) (dCons (dBin oMul (dBin oIx (dVar 0) (dC (.int 1))) (dBin oIx (dVar 1) (dC (.int 1)))) dNil))))
def d_multiplied : DSt := (dRet (dCall C_fraction (dCons (dBin oMul (dBin oIx (dVar 0) (dC (.int 0))) (dBin oIx (dVar 1) (dC (.int 0)))) (dCons (dBin oMul (dBin oIx (dVar 0) (dC (.int 1))) (dBin oIx (dVar 1) (dC (.int 1)))) dNil))))
def d_divided : DSt := (dRet (dCall C_fraction (dCons (dBin oMul (dBin oIx (dVar 0) (dC (.int 0))) (dBin oIx (dVar 1) (dC (.int 1)))) (dCons (dBin oMul (dBin oIx (dVar 0) (dC (.int 1))) (dBin oIx (dVar 1) (dC (.int 0)))) dNil))))
def d_compared : DSt := (dSeq (dSet false 2 (dBin oSub (dBin oMul (dBin oIx (dVar 0) (dC (.int 0))) (dBin oIx (dVar 1) (dC (.int 1)))) (dBin oMul (dBin oIx (dVar 1) (dC (.int 0))) (dBin oIx (dVar 0) (dC (.int 1))))))
  (dRet (dIf (dTest (dBin oEq (dVar 2) (dC (.int 0)))) (dC (.int 0)) (dIf (dTest (dBin oGt (dVar 2) (dC (.int 0)))) (dC (.int 1)) (dUn oNeg (dC (.int 1)))))))
def d_least_of : DSt := (dSeq (dSet false 1 (dBin oIx (dVar 0) (dC (.int 0))))
  (dSeq (dFor (dItemsF (dVar 0)) (dgN 2) (dSet false 1 (dIf (dTest (dBin oLt (dCall C_compared (dCons (dVar 2) (dCons (dVar 1) dNil))) (dC (.int 0)))) (dVar 2) (dVar 1))))
  (dRetVar 1)))
def d_greatest_of : DSt := (dSeq (dSet false 1 (dBin oIx (dVar 0) (dC (.int 0))))
  (dSeq (dFor (dItemsF (dVar 0)) (dgN 2) (dSet false 1 (dIf (dTest (dBin oGt (dCall C_compared (dCons (dVar 2) (dCons (dVar 1) dNil))) (dC (.int 0)))) (dVar 2) (dVar 1))))
  (dRetVar 1)))
def d_between : DSt := (dRet (dCall C_added (dCons (dVar 0) (dCons (dCall C_multiplied (dCons (dVar 2) (dCons (dCall C_lessened (dCons (dVar 1) (dCons (dVar 0) dNil))) dNil))) dNil))))
theorem gcd_mod (p q : Int) : Int.gcd q (p % q) = Int.gcd p q := by
  have e : p = q * (p / q) + p % q := (Int.mul_ediv_add_emod p q).symm
  conv => rhs; rw [e, Int.gcd_comm]
  rw [Int.gcd_mul_left_add_right]
theorem lfQ (x : Rat) : lf (encQ x) = true := rfl
theorem log2_lt {a k : Nat} (h : a < 2 ^ k) (hk : 0 < k) : a.log2 < k := by
  by_cases h0 : a = 0
  · subst h0; simpa using hk
  · exact (Nat.log2_lt h0).mpr h
theorem at0 {x : Rat} : atI [PyData.int x.num, .int (x.den : Int)] 0 = some (.int x.num) := rfl
theorem at1 {x : Rat} : atI [PyData.int x.num, .int (x.den : Int)] 1 = some (.int (x.den : Int)) := rfl
theorem sem_common : SemA C_common 2 2 d_common where
  len := by rintro ds P ⟨a, b, rfl, _⟩; rfl
  sem := by
    rintro ds P ⟨a, b, rfl, h⟩
    unfold d_common
    walk_at "ev"
    refine ⟨fun m env => ∃ p q : Int, env = [some (.fr (.int p)), some (.fr (.int q))] ∧ 0 ≤ p ∧ 0 ≤ q ∧ Int.gcd p q = Int.gcd a b ∧ m = q.toNat, ⟨_, _, _, rfl, ?_, ?_, ?_, rfl⟩, ?_⟩
    · split <;> omega
    · split <;> omega
    · have e : ∀ x : Int, (if x < 0 then -x else x) = (x.natAbs : Int) := fun x => by split <;> omega
      rw [e, e]
      rfl
    · rintro m env ⟨p, q, rfl, hp, hq, hg, rfl⟩
      walk_at "ev"
      split
      · rename_i h0
        refine ⟨by omega, _, ?_, _, _, rfl, hq, ?_, ?_, rfl⟩
        · rw [Int.fmod_eq_emod_of_nonneg p hq]
          have := Int.emod_lt_of_pos p h0
          have := Int.emod_nonneg p (show q ≠ 0 by omega)
          omega
        · rw [Int.fmod_eq_emod_of_nonneg p hq]
          exact Int.emod_nonneg p (by omega)
        · rw [Int.fmod_eq_emod_of_nonneg p hq, ← hg]
          rw [Int.gcd_comm p q]
          rw [Int.gcd_comm q p]; exact gcd_mod p q
      · rename_i h0
        have : q = 0 := by omega
        subst this
        refine ⟨rfl, ?_⟩
        have e : (Int.gcd a b : Int) = p := by rw [← hg]; simp; omega
        rw [e] at h
        exact h
theorem natAbs_gcd_pos {u e : Int} (h : e ≠ 0) : 0 < Int.gcd u e := Int.gcd_pos_of_ne_zero_right u h
theorem frac_pos {u e g : Int} (hg : g = Int.gcd u e) (h : 0 < e) : encQ (Rat.divInt u e) = .tuple [.int (u.fdiv g), .int (e.fdiv g)] := by
  have g0 : 0 < Int.gcd u e := natAbs_gcd_pos (by omega)
  have hd1 : g ∣ u := by rw [hg]; exact Int.gcd_dvd_left ..
  have hd2 : g ∣ e := by rw [hg]; exact Int.gcd_dvd_right ..
  unfold encQ
  rw [Rat.num_divInt, Rat.den_divInt, if_neg (by omega), Int.sign_eq_one_of_pos h, Int.one_mul, Int.gcd_comm e u, Int.fdiv_eq_ediv_of_dvd hd1, Int.fdiv_eq_ediv_of_dvd hd2, ← hg]
  have : ((e.natAbs / Int.gcd u e : Nat) : Int) = e / g := by
    rw [Int.natCast_ediv, ← hg]
    congr 1
    omega
  rw [this]
theorem frac_neg {u e g : Int} (hg : g = -(Int.gcd u e : Int)) (h : e < 0) : encQ (Rat.divInt u e) = .tuple [.int (u.fdiv g), .int (e.fdiv g)] := by
  have g0 : 0 < Int.gcd u e := natAbs_gcd_pos (by omega)
  have hd1 : g ∣ u := by rw [hg, Int.neg_dvd]; exact Int.gcd_dvd_left ..
  have hd2 : g ∣ e := by rw [hg, Int.neg_dvd]; exact Int.gcd_dvd_right ..
  unfold encQ
  rw [Rat.num_divInt, Rat.den_divInt, if_neg (by omega), Int.sign_eq_neg_one_of_neg h, Int.gcd_comm e u, Int.fdiv_eq_ediv_of_dvd hd1, Int.fdiv_eq_ediv_of_dvd hd2, hg, Int.ediv_neg, Int.ediv_neg]
  have e1 : -1 * u / (Int.gcd u e : Int) = -(u / (Int.gcd u e : Int)) := by
    rw [Int.neg_one_mul, Int.neg_ediv_of_dvd (Int.gcd_dvd_left ..)]
  have e2 : ((e.natAbs / Int.gcd u e : Nat) : Int) = -(e / (Int.gcd u e : Int)) := by
    rw [Int.natCast_ediv, ← Int.neg_ediv_of_dvd (Int.gcd_dvd_right ..)]
    congr 1
    omega
  rw [e1, e2]
theorem sem_fraction : SemA C_fraction 3 2 d_fraction where
  len := by rintro ds P ⟨a, b, rfl, _⟩; rfl
  sem := by
    rintro ds P ⟨u, e, rfl, h0, hs, h⟩
    unfold d_fraction C_common
    have g0 : 0 < Int.gcd u e := natAbs_gcd_pos h0
    have gl : Int.gcd u e ≤ e.natAbs := Nat.le_of_dvd (by omega) (by have := Int.gcd_dvd_natAbs_right u e; exact this)
    have lg : (Int.gcd u e).log2 < 9000 := log2_lt (Nat.lt_of_le_of_lt gl (Nat.lt_of_lt_of_le hs (Nat.pow_le_pow_right (by decide) (by decide)))) (by decide)
    walk_at "ev"
    split
    · refine ⟨_, _, rfl, ?_⟩
      refine ⟨⟨by omega, by simpa using lg⟩, ⟨by omega, by simpa using lg⟩, by decide, rfl, ?_⟩
      rw [← frac_pos rfl (by assumption)]
      exact h
    · refine ⟨_, _, rfl, ?_⟩
      refine ⟨⟨by omega, by simpa using lg⟩, ⟨by omega, by simpa using lg⟩, by decide, rfl, ?_⟩
      rw [← frac_neg rfl (by omega)]
      exact h
theorem wm {x y : Int} {a b : Nat} (hx : x.natAbs < 2 ^ a) (hy : y.natAbs < 2 ^ b) (h : a + b ≤ 1000000 := by decide) (ha : 0 < a := by decide) (hb : 0 < b := by decide) : CMulW x y := wide_mul hx hy ha hb h
theorem Sm.d {x : Rat} (h : Sm x) : ((x.den : Int)).natAbs < 2 ^ 4400 := by simpa using h.2
theorem sem_added : SemA C_added 2 2 d_added where
  len := by rintro ds P ⟨a, b, rfl, _⟩; rfl
  sem := by
    rintro ds P ⟨x, y, rfl, hx, hy, h⟩
    unfold d_added C_fraction encQ
    have hx0 := x.den_nz
    have hy0 := y.den_nz
    walk_at "ev"
    simp only [at0, at1]
    refine ⟨wm hx.1 hy.d, wm hy.1 hx.d, wm hx.d hy.d, _, _, rfl, Int.mul_ne_zero (by omega) (by omega), ?_, ?_⟩
    · rw [Int.natAbs_mul]; exact Nat.lt_of_lt_of_le (mul_lt2 hx.d hy.d) (Nat.pow_le_pow_right (by decide) (by decide))
    · refine ⟨rfl, ?_⟩
      have e : x + y = Rat.divInt (x.num * y.den + y.num * x.den) (x.den * y.den) := by
        rw [← Rat.divInt_add_divInt _ _ (by omega) (by omega), Rat.num_divInt_den, Rat.num_divInt_den]
      rw [← e]
      exact h
theorem sem_lessened : SemA C_lessened 2 2 d_lessened where
  len := by rintro ds P ⟨a, b, rfl, _⟩; rfl
  sem := by
    rintro ds P ⟨x, y, rfl, hx, hy, h⟩
    unfold d_lessened C_fraction encQ
    have hx0 := x.den_nz
    have hy0 := y.den_nz
    walk_at "ev"
    simp only [at0, at1]
    refine ⟨wm hx.1 hy.d, wm hy.1 hx.d, wm hx.d hy.d, _, _, rfl, Int.mul_ne_zero (by omega) (by omega), ?_, ?_⟩
    · rw [Int.natAbs_mul]; exact Nat.lt_of_lt_of_le (mul_lt2 hx.d hy.d) (Nat.pow_le_pow_right (by decide) (by decide))
    · refine ⟨rfl, ?_⟩
      have e : x - y = Rat.divInt (x.num * y.den - y.num * x.den) (x.den * y.den) := by
        rw [← Rat.divInt_sub_divInt _ _ (by omega) (by omega), Rat.num_divInt_den, Rat.num_divInt_den]
      rw [← e]
      exact h
theorem sem_multiplied : SemA C_multiplied 2 2 d_multiplied where
  len := by rintro ds P ⟨a, b, rfl, _⟩; rfl
  sem := by
    rintro ds P ⟨x, y, rfl, hx, hy, h⟩
    unfold d_multiplied C_fraction encQ
    have hx0 := x.den_nz
    have hy0 := y.den_nz
    walk_at "ev"
    simp only [at0, at1]
    refine ⟨wm hx.1 hy.1, wm hx.d hy.d, _, _, rfl, Int.mul_ne_zero (by omega) (by omega), ?_, ?_⟩
    · rw [Int.natAbs_mul]; exact Nat.lt_of_lt_of_le (mul_lt2 hx.d hy.d) (Nat.pow_le_pow_right (by decide) (by decide))
    · refine ⟨rfl, ?_⟩
      rw [← rat_mul_eq]
      exact h
theorem sem_divided : SemA C_divided 2 2 d_divided where
  len := by rintro ds P ⟨a, b, rfl, _⟩; rfl
  sem := by
    rintro ds P ⟨x, y, rfl, hx, hy, hn, h⟩
    unfold d_divided C_fraction encQ
    have hx0 := x.den_nz
    have hy0 : y.num ≠ 0 := fun z => hn (Rat.num_eq_zero.mp z)
    walk_at "ev"
    simp only [at0, at1]
    refine ⟨wm hx.1 hy.d, wm hx.d hy.1, _, _, rfl, Int.mul_ne_zero (by omega) hy0, ?_, ?_⟩
    · rw [Int.natAbs_mul]; exact Nat.lt_of_lt_of_le (mul_lt2 hx.d hy.1) (Nat.pow_le_pow_right (by decide) (by decide))
    · refine ⟨rfl, ?_⟩
      rw [← rat_div_eq]
      exact h
theorem cmp_num (x y : Rat) : (x.num * y.den - y.num * x.den = 0 ↔ x = y) ∧ (0 < x.num * y.den - y.num * x.den ↔ y < x) := by
  constructor
  · constructor
    · intro h
      have h1 : x ≤ y := by rw [Rat.le_iff]; omega
      have h2 : y ≤ x := by rw [Rat.le_iff]; omega
      exact Rat.le_antisymm h1 h2
    · rintro rfl; omega
  · rw [Rat.lt_iff]; omega
theorem sem_compared : SemA C_compared 3 2 d_compared where
  len := by rintro ds P ⟨a, b, rfl, _⟩; rfl
  sem := by
    rintro ds P ⟨x, y, rfl, hx, hy, h⟩
    unfold d_compared encQ
    have c := cmp_num x y
    walk_at "ev"
    simp only [at0, at1]
    refine ⟨wm hx.1 hy.d, wm hy.1 hx.d, ?_⟩
    unfold oEq
    walk_at "ev"
    refine ⟨rfl, rfl, ?_⟩
    unfold cmpQ at h
    simp only [c.1]
    split
    · rename_i e; rw [if_pos e] at h; exact ⟨rfl, h⟩
    · rename_i e
      rw [if_neg e] at h
      simp only [c.2]
      split
      · rename_i e'; rw [if_pos e'] at h; exact ⟨rfl, h⟩
      · rename_i e'; rw [if_neg e'] at h; exact ⟨rfl, h⟩
theorem cmp_lt {x y : Rat} : cmpQ x y < 0 ↔ x < y := by unfold cmpQ; grind
theorem cmp_gt {x y : Rat} : 0 < cmpQ x y ↔ y < x := by unfold cmpQ; grind
theorem cmp_le {x y : Rat} : cmpQ x y ≤ 0 ↔ x ≤ y := by unfold cmpQ; grind
theorem cmp_ge {x y : Rat} : 0 ≤ cmpQ x y ↔ y ≤ x := by unfold cmpQ; grind
theorem cmp_eq {x y : Rat} : cmpQ x y = 0 ↔ x = y := by unfold cmpQ; grind
end DL
end
section
set_option maxRecDepth 100000
set_option maxHeartbeats 1000000
set_option exponentiation.threshold 10
namespace DL
open PySem PySem.Spec PyProof.Rows L2 RM
local macro_rules | `(tactic| walk_at "bsyn") => `(tactic| first | assumption | exact B.add (by walk_at "bsyn") (by walk_at "bsyn") | exact B.sub (by walk_at "bsyn") (by walk_at "bsyn") | exact B.mul (by walk_at "bsyn") (by walk_at "bsyn") | exact B.div (by walk_at "bsyn") (by walk_at "bsyn") | exact B.neg (by walk_at "bsyn"))
local macro_rules | `(tactic| walk_at "bb") => `(tactic| exact B.mono (by walk_at "bsyn") (by decide))
def encP (p : Pt) : D := .tuple [encQ p.1, encQ p.2]
def encR (r : Ridge) : D := .tuple (r.map encP)
def encO : Option Rat → D
  | none => .none
  | some x => encQ x
def encON : Option Nat → D
  | none => .none
  | some k => .int k
theorem isN_n : TV.isN (.fr .none) = true := rfl
theorem isN_P {p : Pt} : TV.isN (.fr (encP p)) = false := rfl
theorem isN_Q {x : Rat} : TV.isN (.fr (encQ x)) = false := rfl
theorem isN_t {ds : List D} : TV.isN (.fr (.tuple ds)) = false := rfl
theorem isN_i {x : Int} : TV.isN (.fr (.int x)) = false := rfl
local macro_rules | `(tactic| walk_at "ev") => `(tactic| simp only [dSeq, dNext, dBreak, dCont, dRet, dRetVar, dRetN, dIfS, dSet, dAsg, dPar2, dPar3, dAug, dMeth, dVar, dC, dBin, dUn, dChain, dTest, dAnd, dOr, dNot, dAndV, dOrV, dNotV, dIf, dNil, dCons, dTup, dLst, dCB, dCall, dItems, dItemsF, dFor, dLc, dYes, dStar, dSetIx, dPopIx, dEnum, dZip, dDict, dPut, dKeys, dRev, dIsTuple, dIsInt, dIsBool, dIsTy, dNoPart, dPart, dSl, dTruth, dLc2, dIr1, dIr2, dSrc, dSrcPut, dCells, dDrain, oI, oIC, oIB, oNeg, oAdd, oIsN, oNotN, cLen, cTuple, cList, cAbs, cInt, TV.view, TV.fz, TV.sv, TV.items, TV.fixd, TV.itm, TV.asD, isN_n, isN_P, isN_Q, isN_t, isN_i, TV.res, TV.isOwn, TV.isDct, fzs, frz, startE, wipeE, fApp, fIns, isT, oLt, oLe, oGt, oGe, oSub, oMul, oDiv, oMod, oMulK, List.map_cons, List.map_nil, List.length_cons, List.length_nil, List.cons_append, List.nil_append, List.getElem?_cons_succ, List.getElem?_cons_zero, List.set_cons_succ, List.set_cons_zero, List.replicate, Nat.reduceAdd, Nat.reduceSub, Nat.zero_add, List.cons.injEq, Option.some.injEq, exists_eq_left', exists_eq_left, exists_and_left, TV.fr.injEq, PyData.bool.injEq, PyData.int.injEq, dgN, dgNil, dgCons, dgT, true_and, and_true, reduceCtorEq, false_and, and_false, ↓reduceIte, if_true, if_false, Bool.not_true, Bool.not_false, decide_eq_true_eq, Bool.false_eq_true, cmp_lt, cmp_gt, cmp_le, cmp_ge, cmp_eq, gt_iff_lt, ge_iff_le])
theorem E_added {x y : Rat} {P : TV → Prop} : C_added [encQ x, encQ y] P = (Sm x ∧ Sm y ∧ P (.fr (encQ (x + y)))) := by
  refine propext ⟨?_, fun ⟨h1, h2, h3⟩ => ⟨x, y, rfl, h1, h2, h3⟩⟩
  rintro ⟨x', y', e, h1, h2, h3⟩
  simp only [List.cons.injEq, and_true] at e
  rw [encQ_inj e.1, encQ_inj e.2]
  exact ⟨h1, h2, h3⟩
theorem E_lessened {x y : Rat} {P : TV → Prop} : C_lessened [encQ x, encQ y] P = (Sm x ∧ Sm y ∧ P (.fr (encQ (x - y)))) := by
  refine propext ⟨?_, fun ⟨h1, h2, h3⟩ => ⟨x, y, rfl, h1, h2, h3⟩⟩
  rintro ⟨x', y', e, h1, h2, h3⟩
  simp only [List.cons.injEq, and_true] at e
  rw [encQ_inj e.1, encQ_inj e.2]
  exact ⟨h1, h2, h3⟩
theorem E_multiplied {x y : Rat} {P : TV → Prop} : C_multiplied [encQ x, encQ y] P = (Sm x ∧ Sm y ∧ P (.fr (encQ (x * y)))) := by
  refine propext ⟨?_, fun ⟨h1, h2, h3⟩ => ⟨x, y, rfl, h1, h2, h3⟩⟩
  rintro ⟨x', y', e, h1, h2, h3⟩
  simp only [List.cons.injEq, and_true] at e
  rw [encQ_inj e.1, encQ_inj e.2]
  exact ⟨h1, h2, h3⟩
theorem E_divided {x y : Rat} {P : TV → Prop} : C_divided [encQ x, encQ y] P = (Sm x ∧ Sm y ∧ y ≠ 0 ∧ P (.fr (encQ (x / y)))) := by
  refine propext ⟨?_, fun ⟨h1, h2, h3, h4⟩ => ⟨x, y, rfl, h1, h2, h3, h4⟩⟩
  rintro ⟨x', y', e, h1, h2, h3⟩
  simp only [List.cons.injEq, and_true] at e
  rw [encQ_inj e.1, encQ_inj e.2]
  exact ⟨h1, h2, h3⟩
theorem E_compared {x y : Rat} {P : TV → Prop} : C_compared [encQ x, encQ y] P = (Sm x ∧ Sm y ∧ P (.fr (.int (cmpQ x y)))) := by
  refine propext ⟨?_, fun ⟨h1, h2, h3⟩ => ⟨x, y, rfl, h1, h2, h3⟩⟩
  rintro ⟨x', y', e, h1, h2, h3⟩
  simp only [List.cons.injEq, and_true] at e
  rw [encQ_inj e.1, encQ_inj e.2]
  exact ⟨h1, h2, h3⟩
theorem E_between {x y t : Rat} {P : TV → Prop} : C_between [encQ x, encQ y, encQ t] P = ((∃ j k l, B j x ∧ B k y ∧ B l t ∧ j + k + l + 1 ≤ 4400) ∧ P (.fr (encQ (x + t * (y - x))))) := by
  refine propext ⟨?_, fun ⟨h1, h2⟩ => ⟨x, y, t, rfl, h1, h2⟩⟩
  rintro ⟨x', y', t', e, h1, h2⟩
  simp only [List.cons.injEq, and_true] at e
  rw [encQ_inj e.1, encQ_inj e.2.1, encQ_inj e.2.2]
  exact ⟨h1, h2⟩
theorem B.sm {k : Nat} {x : Rat} (h : B k x) (l : k ≤ 4400) : Sm x := h.mono l
theorem sem_between : SemA C_between 3 3 d_between where
  len := by rintro ds P ⟨x, y, t, rfl, _⟩; rfl
  sem := by
    rintro ds P ⟨x, y, t, rfl, ⟨j, k, l, hx, hy, ht, hl⟩, h⟩
    unfold d_between
    walk_at "ev"
    rw [E_lessened]
    refine ⟨hy.sm (by omega), hx.sm (by omega), ?_⟩
    walk_at "ev"
    rw [E_multiplied]
    have h1 := (hy.sub hx).mono (show k + j + 1 ≤ j + k + 1 by omega)
    refine ⟨ht.sm (by omega), h1.sm (by omega), ?_⟩
    walk_at "ev"
    rw [E_added]
    exact ⟨hx.sm (by omega), (ht.mul h1).sm (by omega), rfl, h⟩
theorem atI_nat {α : Type} (xs : List α) (k : Nat) : atI xs (k : Int) = xs[k]? := by
  unfold atI ixN
  rw [if_pos (Int.natCast_nonneg k)]
  by_cases h : k < xs.length
  · rw [if_pos (by omega)]; simp
  · rw [if_neg (by omega)]; simp; omega
theorem atI_last {α : Type} (xs : List α) : atI xs (-1) = xs.getLast? := by
  unfold atI ixN
  rw [if_neg (by decide)]
  by_cases h : 0 < xs.length
  · rw [if_pos (by omega), List.getLast?_eq_getElem?]
    show xs[(-1 + (xs.length : Int)).toNat]? = _
    congr 1; omega
  · have : xs = [] := List.length_eq_zero_iff.mp (by omega)
    subst this; rfl
section
variable {a b c d : D} {l : List D} {P : TV → Prop}
theorem ix_t0 : oIx (.fr (.tuple (a :: l))) (.fr (.int 0)) P = P (.fr a) := by
  have : atI (a :: l) 0 = some a := atI_nat (a :: l) 0
  simp only [oIx, TV.items, this]
theorem ix_t1 : oIx (.fr (.tuple (a :: b :: l))) (.fr (.int 1)) P = P (.fr b) := by
  have : atI (a :: b :: l) 1 = some b := atI_nat (a :: b :: l) 1
  simp only [oIx, TV.items, this]
theorem ix_t2 : oIx (.fr (.tuple (a :: b :: c :: l))) (.fr (.int 2)) P = P (.fr c) := by
  have : atI (a :: b :: c :: l) 2 = some c := atI_nat (a :: b :: c :: l) 2
  simp only [oIx, TV.items, this]
theorem ix_t3 : oIx (.fr (.tuple (a :: b :: c :: d :: l))) (.fr (.int 3)) P = P (.fr d) := by
  have : atI (a :: b :: c :: d :: l) 3 = some d := atI_nat (a :: b :: c :: d :: l) 3
  simp only [oIx, TV.items, this]
end
section
variable {p : Pt} {r : Ridge} {i : Nat} {P : TV → Prop}
theorem ix_P0 : oIx (.fr (encP p)) (.fr (.int 0)) P = P (.fr (encQ p.1)) := ix_t0
theorem ix_P1 : oIx (.fr (encP p)) (.fr (.int 1)) P = P (.fr (encQ p.2)) := ix_t1
theorem ix_R : oIx (.fr (encR r)) (.fr (.int (i : Int))) P = (i < r.length ∧ P (.fr (encP (at_ r i)))) := by
  unfold oIx encR
  simp only [TV.items, atI_nat, List.getElem?_map]
  by_cases h : i < r.length
  · rw [List.getElem?_eq_getElem h]
    simp only [Option.map_some, at_get h, h, true_and]
  · rw [List.getElem?_eq_none (by omega)]
    simp only [Option.map_none, h, false_and]
theorem ix_R0 : oIx (.fr (encR r)) (.fr (.int 0)) P = (0 < r.length ∧ P (.fr (encP (at_ r 0)))) := ix_R (i := 0)
theorem ix_R1 : oIx (.fr (encR r)) (.fr (.int ((i : Int) + 1))) P = (i + 1 < r.length ∧ P (.fr (encP (at_ r (i + 1))))) := ix_R (i := i + 1)
theorem ix_Rl : oIx (.fr (encR r)) (.fr (.int (-1))) P = (0 < r.length ∧ P (.fr (encP (at_ r (r.length - 1))))) := by
  unfold oIx encR
  simp only [TV.items, atI_last, List.getLast?_eq_getElem?, List.getElem?_map, List.length_map]
  by_cases h : 0 < r.length
  · rw [List.getElem?_eq_getElem (by omega)]
    simp only [Option.map_some, at_get (show r.length - 1 < r.length by omega), h, true_and]
  · rw [List.getElem?_eq_none (by omega)]
    simp only [Option.map_none, h, false_and]
end
theorem forL_inv {α : Type} {g : DGx} {b : DSt} {DD : DEnds} (enc : α → D) (I : List α → DEnv → Prop) (xs : List α) {env : DEnv}
    (step : ∀ (pre : List α) (a : α) (post : List α) (env : DEnv) (K : DEnv → Prop), xs = pre ++ a :: post → I pre env → (∀ env', I (pre ++ [a]) env' → K env') → g (enc a) env fun env' => b { DD with nx := K, ct := K, bk := DD.nx } env')
    (h0 : I [] env) (hd : ∀ env', I xs env' → DD.nx env') : forL g b DD (xs.map enc) env := by
  have key : ∀ (post pre : List α) (env : DEnv), xs = pre ++ post → I pre env → forL g b DD (post.map enc) env := by
    intro post
    induction post with
    | nil =>
      intro pre env e i
      rw [List.append_nil] at e
      subst e
      exact hd env i
    | cons a post ih =>
      intro pre env e i
      show g (enc a) env _
      refine step pre a post env (fun env' => forL g b DD (post.map enc) env') e i fun env' i' => ih (pre ++ [a]) env' (by rw [e]; simp) i'
  exact key xs [] env rfl h0
theorem lcL_fm {α β : Type} (f : α → Option β) (enc : α → D) (enc' : β → D) {g : DGx} {tt : DTx} {te : DEx} {env : DEnv} {P : List D → Prop} (xs : List α)
    (step : ∀ a ∈ xs, ∀ Y : Option D → Prop, Y ((f a).map enc') → g (enc a) env fun env' => tt env' fun b => if b = true then te env' fun t => ∃ y, t.fz = some y ∧ Y (some y) else Y none)
    (hl : xs.length ≤ 16777216) (h : P ((xs.filterMap f).map enc')) : lcL g tt te env P (xs.map enc) [] := by
  have hsz : sizeLine = 16777216 := sizeLine_eq
  have key : ∀ (ys : List α) (acc : List D), (∀ a ∈ ys, a ∈ xs) → acc.length + ys.length ≤ sizeLine → P (acc ++ (ys.filterMap f).map enc') → lcL g tt te env P (ys.map enc) acc := by
    intro ys
    induction ys with
    | nil => intro acc _ _ h; simpa [lcL] using h
    | cons a ys ih =>
      intro acc hm hl h
      simp only [List.length_cons] at hl
      have st := step a (hm a List.mem_cons_self) (fun o => match o with
        | some y => acc.length < sizeLine ∧ lcL g tt te env P (ys.map enc) (acc ++ [y])
        | none => lcL g tt te env P (ys.map enc) acc)
      refine st ?_
      cases e : f a with
      | none =>
        refine ih acc (fun b hb => hm b (List.mem_cons_of_mem _ hb)) (by omega) ?_
        rw [List.filterMap_cons_none e] at h
        exact h
      | some b =>
        refine ⟨by omega, ih (acc ++ [enc' b]) (fun b hb => hm b (List.mem_cons_of_mem _ hb)) (by simp; omega) ?_⟩
        rw [List.filterMap_cons_some e] at h
        simpa using h
  exact key xs [] (fun _ h => h) (by simp; omega) (by simpa using h)
theorem minQ_snoc : ∀ (ys : List Rat) (x a : Rat), minQ x (ys ++ [a]) = if a < minQ x ys then a else minQ x ys
  | [], x, a => rfl
  | y :: ys, x, a => by show minQ _ (ys ++ [a]) = _; rw [minQ_snoc]; rfl
theorem maxQ_snoc : ∀ (ys : List Rat) (x a : Rat), maxQ x (ys ++ [a]) = if maxQ x ys < a then a else maxQ x ys
  | [], x, a => rfl
  | y :: ys, x, a => by show maxQ _ (ys ++ [a]) = _; rw [maxQ_snoc]; rfl
theorem min_sm {p : Rat → Prop} {ys : List Rat} {x : Rat} (hx : p x) (hy : ∀ y ∈ ys, p y) : p (minQ x ys) := by
  rcases minQ_mem ys x with e | e
  · rw [e]; exact hx
  · exact hy _ e
theorem max_sm {p : Rat → Prop} {ys : List Rat} {x : Rat} (hx : p x) (hy : ∀ y ∈ ys, p y) : p (maxQ x ys) := by
  rcases maxQ_mem ys x with e | e
  · rw [e]; exact hx
  · exact hy _ e
theorem lf_encQ (x : Rat) : TV.lf (.fr (encQ x)) = true := rfl
theorem sem_least_of : SemA C_least_of 3 1 d_least_of where
  len := by rintro ds P ⟨x, xs, rfl, _⟩; rfl
  sem := by
    rintro ds P ⟨x, xs, rfl, hs, h⟩
    unfold d_least_of
    rw [List.map_cons]
    walk_at "ev"
    rw [ix_t0]
    walk_at "ev"
    rw [← List.map_cons]
    refine forL_inv encQ (fun pre env => ∃ v w, env = [v, some (.fr (encQ (minQ x pre))), w]) (x :: xs) ?_ ⟨_, _, rfl⟩ ?_
    · rintro pre a post env K e ⟨v, w, rfl⟩ hK
      walk_at "ev"
      rw [E_compared]
      have sa : Sm a := hs a (by rw [e]; simp)
      have sm : Sm (minQ x pre) := min_sm (p := Sm) (hs x List.mem_cons_self) fun y hy => hs y (by rw [e]; simp [hy])
      refine ⟨sa, sm, ?_⟩
      walk_at "ev"
      by_cases z : a < minQ x pre
      · simp only [z, if_true]
        simp only [minQ_snoc, if_pos z] at hK
        exact hK _ ⟨_, _, rfl⟩
      · simp only [z, if_false]
        simp only [minQ_snoc, if_neg z] at hK
        exact hK _ ⟨_, _, rfl⟩
    · rintro env ⟨v, w, rfl⟩
      walk_at "ev"
      have : minQ x (x :: xs) = minQ x xs := by show minQ (if x < x then x else x) xs = _; split <;> rfl
      rw [this]
      exact ⟨lf_encQ _, h⟩
theorem sem_greatest_of : SemA C_greatest_of 3 1 d_greatest_of where
  len := by rintro ds P ⟨x, xs, rfl, _⟩; rfl
  sem := by
    rintro ds P ⟨x, xs, rfl, hs, h⟩
    unfold d_greatest_of
    rw [List.map_cons]
    walk_at "ev"
    rw [ix_t0]
    walk_at "ev"
    rw [← List.map_cons]
    refine forL_inv encQ (fun pre env => ∃ v w, env = [v, some (.fr (encQ (maxQ x pre))), w]) (x :: xs) ?_ ⟨_, _, rfl⟩ ?_
    · rintro pre a post env K e ⟨v, w, rfl⟩ hK
      walk_at "ev"
      rw [E_compared]
      have sa : Sm a := hs a (by rw [e]; simp)
      have sm : Sm (maxQ x pre) := max_sm (p := Sm) (hs x List.mem_cons_self) fun y hy => hs y (by rw [e]; simp [hy])
      refine ⟨sa, sm, ?_⟩
      walk_at "ev"
      by_cases z : maxQ x pre < a
      · simp only [z, if_true]
        simp only [maxQ_snoc, if_pos z] at hK
        exact hK _ ⟨_, _, rfl⟩
      · simp only [z, if_false]
        simp only [maxQ_snoc, if_neg z] at hK
        exact hK _ ⟨_, _, rfl⟩
    · rintro env ⟨v, w, rfl⟩
      walk_at "ev"
      have : maxQ x (x :: xs) = maxQ x xs := by show maxQ (if x < x then x else x) xs = _; split <;> rfl
      rw [this]
      exact ⟨lf_encQ _, h⟩
end DL
end
section
set_option maxRecDepth 100000
set_option maxHeartbeats 1000000
set_option exponentiation.threshold 10
namespace DL
open PySem PySem.Spec PyProof.Rows L2 RM
local macro_rules | `(tactic| walk_at "bsyn") => `(tactic| first | assumption | exact B.add (by walk_at "bsyn") (by walk_at "bsyn") | exact B.sub (by walk_at "bsyn") (by walk_at "bsyn") | exact B.mul (by walk_at "bsyn") (by walk_at "bsyn") | exact B.div (by walk_at "bsyn") (by walk_at "bsyn") | exact B.neg (by walk_at "bsyn"))
local macro_rules | `(tactic| walk_at "bb") => `(tactic| exact B.mono (by walk_at "bsyn") (by decide))
abbrev Cb (x : Rat) : Prop := B 30 x
abbrev Xb (x : Rat) : Prop := B 900 x
abbrev Tb (x : Rat) : Prop := B 970 x
structure Cp (p : Pt) : Prop where
  x : Cb p.1
  y : Cb p.2
def Cr (r : Ridge) : Prop := ∀ p ∈ r, Cp p
def encOP : Option Pt → D
  | none => .none
  | some p => encP p
def encPK (c : Rat × Nat) : D := .tuple [encQ c.1, .int (c.2 : Nat)]
def C_turned_by : DC := fun ds P => ∃ a b c, ds = [encP a, encP b, encP c] ∧ (Cp a ∧ Cp b ∧ Xb c.1 ∧ Cb c.2) ∧ P (.fr (encQ (turn a b c)))
def C_place_at : DC := fun ds P => ∃ a b y, ds = [encP a, encP b, encQ y] ∧ (B 1100 a.1 ∧ B 1100 a.2 ∧ Cp b ∧ Cb y ∧ b.2 - a.2 ≠ 0) ∧ P (.fr (encQ (place a b y)))
def C_spot_between : DC := fun ds P => ∃ a b t, ds = [encP a, encP b, encQ t] ∧ (B 900 a.1 ∧ B 900 a.2 ∧ Cp b ∧ B 2500 t) ∧ P (.fr (encP (spotB a b t)))
def C_crossing : DC := fun ds P => ∃ a b c d, ds = [encP a, encP b, encP c, encP d] ∧ (Xb a.1 ∧ Cb a.2 ∧ Cp b ∧ Cp c ∧ Cp d) ∧ P (.fr (encOP (crossP a b c d)))
def C_slopes_of : DC := fun ds P => ∃ r, ds = [encR r] ∧ P (.fr (.int ((r.length : Int) - 1)))
def C_spot_of : DC := fun ds P => ∃ r i t, ds = [encR r, PyData.tuple [.int (i : Nat), encQ t]] ∧ (Cr r ∧ i + 1 < r.length ∧ Tb t) ∧ P (.fr (encP (spotOf r i t)))
def C_line_of : DC := fun ds P => ∃ r, ds = [encR r] ∧ 0 < r.length ∧ P (.fr (.tuple [encQ (at_ r 0).1, encQ (at_ r (r.length - 1)).1]))
def C_is_under : DC := fun ds P => ∃ x y, ds = [encQ x, encQ y] ∧ (Sm x ∧ Sm y) ∧ P (.fr (.bool (decide (x < y))))
structure SgOk (r : Ridge) (h : Rat) (i : Nat) (t : Rat) : Prop where
  cr : Cr r
  ch : Cb h
  ci : i + 1 < r.length
  ct : Tb t
  cl : r.length ≤ 1000
def C_sight_places : DC := fun ds P => ∃ r h i t, ds = [encR r, encQ h, PyData.tuple [.int (i : Nat), encQ t]] ∧ SgOk r h i t ∧ P (.fr (.tuple [.list ((lefts r h (spotOf r i t)).map encPK), .list ((rights r h (spotOf r i t)).map encPK)]))
def C_reach : DC := fun ds P => ∃ r h i t, ds = [encR r, encQ h, PyData.tuple [.int (i : Nat), encQ t]] ∧ SgOk r h i t ∧ P (.fr (.tuple [encQ (reachL r h (spotOf r i t)), encQ (reachR r h (spotOf r i t))]))
def C_bar_corners : DC := fun ds P => ∃ r h i t, ds = [encR r, encQ h, PyData.tuple [.int (i : Nat), encQ t]] ∧ SgOk r h i t ∧ ∀ o o', BarL r h (spotOf r i t) o → BarR r h (spotOf r i t) o' → P (.fr (.tuple [encON o, encON o']))
def C_own_sight : DC := fun ds P => ∃ r h i, ds = [encR r, encQ h, .int (i : Nat)] ∧ (Cr r ∧ Cb h ∧ i + 1 < r.length) ∧ P (.fr (if (at_ r i).2 = (at_ r (i + 1)).2 then .none else encQ (own r h i)))
def C_slope_reach : DC := fun ds P => ∃ r h i t, ds = [encR r, encQ h, .int (i : Nat), encQ t] ∧ SgOk r h i t ∧ P (.fr (.tuple [encQ (slopeL r h i t), encQ (slopeR r h i t)]))
def C_share_on_slope : DC := fun ds P => ∃ r i p, ds = [encR r, .int (i : Nat), encP p] ∧ (Cr r ∧ i + 1 < r.length ∧ (at_ r (i + 1)).1 - (at_ r i).1 ≠ 0 ∧ B 4310 p.1) ∧ P (.fr (encQ (share r i p)))
def d_turned_by : DSt := (dSeq (dSet false 3 (dCall C_multiplied (dCons (dCall C_lessened (dCons (dBin oIx (dVar 1) (dC (.int 0))) (dCons (dBin oIx (dVar 0) (dC (.int 0))) dNil))) (dCons (dCall C_lessened (dCons (dBin oIx (dVar 2) (dC (.int 1))) (dCons (dBin oIx (dVar 0) (dC (.int 1))) dNil))) dNil))))
  (dRet (dCall C_lessened (dCons (dVar 3) (dCons (dCall C_multiplied (dCons (dCall C_lessened (dCons (dBin oIx (dVar 1) (dC (.int 1))) (dCons (dBin oIx (dVar 0) (dC (.int 1))) dNil))) (dCons (dCall C_lessened (dCons (dBin oIx (dVar 2) (dC (.int 0))) (dCons (dBin oIx (dVar 0) (dC (.int 0))) dNil))) dNil))) dNil)))))
def d_place_at : DSt := (dRet (dCall C_between (dCons (dBin oIx (dVar 0) (dC (.int 0))) (dCons (dBin oIx (dVar 1) (dC (.int 0))) (dCons (dCall C_divided (dCons (dCall C_lessened (dCons (dVar 2) (dCons (dBin oIx (dVar 0) (dC (.int 1))) dNil))) (dCons (dCall C_lessened (dCons (dBin oIx (dVar 1) (dC (.int 1))) (dCons (dBin oIx (dVar 0) (dC (.int 1))) dNil))) dNil))) dNil)))))
def d_crossing : DSt := (dSeq (dPar2 false false 4 5 (dCons (dCall C_turned_by (dCons (dVar 2) (dCons (dVar 3) (dCons (dVar 0) dNil)))) (dCons (dCall C_turned_by (dCons (dVar 2) (dCons (dVar 3) (dCons (dVar 1) dNil)))) dNil)))
  (dSeq (dIfS (dTest (dBin oEq (dVar 4) (dVar 5))) (dRet (dC .none)) dNext)
  (dRet (dCall C_spot_between (dCons (dVar 0) (dCons (dVar 1) (dCons (dCall C_divided (dCons (dVar 4) (dCons (dCall C_lessened (dCons (dVar 4) (dCons (dVar 5) dNil))) dNil))) dNil)))))))
def d_spot_between : DSt := (dRet (dTup (dCons (dCall C_between (dCons (dBin oIx (dVar 0) (dC (.int 0))) (dCons (dBin oIx (dVar 1) (dC (.int 0))) (dCons (dVar 2) dNil)))) (dCons (dCall C_between (dCons (dBin oIx (dVar 0) (dC (.int 1))) (dCons (dBin oIx (dVar 1) (dC (.int 1))) (dCons (dVar 2) dNil)))) dNil))))
def d_slopes_of : DSt := (dRet (dBin oSub (dCB cLen (dCons (dVar 0) dNil)) (dC (.int 1))))
def d_spot_of : DSt := (dSeq (dAsg (dgT 2 (dgCons (dgN 2) (dgCons (dgN 3) dgNil))) (dVar 1))
  (dRet (dCall C_spot_between (dCons (dBin oIx (dVar 0) (dVar 2)) (dCons (dBin oIx (dVar 0) (dBin oAdd (dVar 2) (dC (.int 1)))) (dCons (dVar 3) dNil))))))
def d_line_of : DSt := (dRet (dTup (dCons (dBin oIx (dBin oIx (dVar 0) (dC (.int 0))) (dC (.int 0))) (dCons (dBin oIx (dBin oIx (dVar 0) (dUn oNeg (dC (.int 1)))) (dC (.int 0))) dNil))))
def d_is_under : DSt := (dRet (dBin oLt (dCall C_compared (dCons (dVar 0) (dCons (dVar 1) dNil))) (dC (.int 0))))
def d_sight_places : DSt := (dSeq (dPar3 false true true 3 4 5 (dCons (dCall C_spot_of (dCons (dVar 0) (dCons (dVar 2) dNil))) (dCons (dLst dNil) (dCons (dLst dNil) dNil))))
  (dSeq (dFor (dEnum true (dCons (dVar 0) dNil)) (dgT 2 (dgCons (dgN 6) (dgCons (dgN 7) dgNil))) (dIfS (dTest (dCall C_is_under (dCons (dBin oIx (dVar 3) (dC (.int 1))) (dCons (dBin oIx (dVar 7) (dC (.int 1))) dNil)))) (dIfS (dTest (dCall C_is_under (dCons (dBin oIx (dVar 7) (dC (.int 0))) (dCons (dBin oIx (dVar 3) (dC (.int 0))) dNil)))) (dMeth 4 (dCons (dTup (dCons (dCall C_place_at (dCons (dVar 3) (dCons (dVar 7) (dCons (dVar 1) dNil)))) (dCons (dVar 6) dNil))) dNil) fApp) (dIfS (dTest (dCall C_is_under (dCons (dBin oIx (dVar 3) (dC (.int 0))) (dCons (dBin oIx (dVar 7) (dC (.int 0))) dNil)))) (dMeth 5 (dCons (dTup (dCons (dCall C_place_at (dCons (dVar 3) (dCons (dVar 7) (dCons (dVar 1) dNil)))) (dCons (dVar 6) dNil))) dNil) fApp) dNext)) dNext))
  (dRet (dTup (dCons (dVar 4) (dCons (dVar 5) dNil))))))
def d_reach : DSt := (dSeq (dAsg (dgT 2 (dgCons (dgN 3) (dgCons (dgN 4) dgNil))) (dCall C_sight_places (dCons (dVar 0) (dCons (dVar 1) (dCons (dVar 2) dNil)))))
  (dSeq (dAsg (dgT 2 (dgCons (dgN 5) (dgCons (dgN 6) dgNil))) (dCall C_line_of (dCons (dVar 0) dNil)))
  (dSeq (dSet false 7 (dCall C_greatest_of (dCons (dTup (dCons (dVar 5) (dStar (dLc (dItems (dVar 3)) (dgT 2 (dgCons (dgN 8) (dgCons (dgN 9) dgNil))) dYes (dVar 8) [8, 9]) dNil))) dNil)))
  (dRet (dTup (dCons (dVar 7) (dCons (dCall C_least_of (dCons (dTup (dCons (dVar 6) (dStar (dLc (dItems (dVar 4)) (dgT 2 (dgCons (dgN 8) (dgCons (dgN 9) dgNil))) dYes (dVar 8) [8, 9]) dNil))) dNil)) dNil)))))))
def d_bar_corners : DSt := (dSeq (dAsg (dgT 2 (dgCons (dgN 3) (dgCons (dgN 4) dgNil))) (dCall C_sight_places (dCons (dVar 0) (dCons (dVar 1) (dCons (dVar 2) dNil)))))
  (dSeq (dAsg (dgT 2 (dgCons (dgN 5) (dgCons (dgN 6) dgNil))) (dCall C_reach (dCons (dVar 0) (dCons (dVar 1) (dCons (dVar 2) dNil)))))
  (dSeq (dSet false 7 (dLc (dItems (dVar 3)) (dgT 2 (dgCons (dgN 9) (dgCons (dgN 10) dgNil))) (dTest (dBin oEq (dCall C_compared (dCons (dVar 9) (dCons (dVar 5) dNil))) (dC (.int 0)))) (dVar 10) [9, 10]))
  (dSeq (dSet false 8 (dLc (dItems (dVar 4)) (dgT 2 (dgCons (dgN 9) (dgCons (dgN 10) dgNil))) (dTest (dBin oEq (dCall C_compared (dCons (dVar 9) (dCons (dVar 6) dNil))) (dC (.int 0)))) (dVar 10) [9, 10]))
  (dRet (dTup (dCons (dIf (dTruth (dVar 7)) (dCB cMax (dCons (dVar 7) dNil)) (dC .none)) (dCons (dIf (dTruth (dVar 8)) (dCB cMin (dCons (dVar 8) dNil)) (dC .none)) dNil))))))))
def d_own_sight : DSt := (dSeq (dIfS (dTest (dBin oEq (dCall C_compared (dCons (dBin oIx (dBin oIx (dVar 0) (dVar 2)) (dC (.int 1))) (dCons (dBin oIx (dBin oIx (dVar 0) (dBin oAdd (dVar 2) (dC (.int 1)))) (dC (.int 1))) dNil))) (dC (.int 0)))) (dRet (dC .none)) dNext)
  (dRet (dCall C_place_at (dCons (dBin oIx (dVar 0) (dVar 2)) (dCons (dBin oIx (dVar 0) (dBin oAdd (dVar 2) (dC (.int 1)))) (dCons (dVar 1) dNil))))))
def d_slope_reach : DSt := (dSeq (dAsg (dgT 2 (dgCons (dgN 4) (dgCons (dgN 5) dgNil))) (dCall C_reach (dCons (dVar 0) (dCons (dVar 1) (dCons (dTup (dCons (dVar 2) (dCons (dVar 3) dNil))) dNil)))))
  (dSeq (dPar2 false false 6 7 (dCons (dCall C_own_sight (dCons (dVar 0) (dCons (dVar 1) (dCons (dVar 2) dNil)))) (dCons (dCall C_compared (dCons (dBin oIx (dBin oIx (dVar 0) (dBin oAdd (dVar 2) (dC (.int 1)))) (dC (.int 1))) (dCons (dBin oIx (dBin oIx (dVar 0) (dVar 2)) (dC (.int 1))) dNil))) dNil)))
  (dSeq (dIfS (dTest (dBin oLt (dVar 7) (dC (.int 0)))) (dSet false 4 (dCall C_greatest_of (dCons (dTup (dCons (dVar 4) (dCons (dVar 6) dNil))) dNil))) (dIfS (dTest (dBin oGt (dVar 7) (dC (.int 0)))) (dSet false 5 (dCall C_least_of (dCons (dTup (dCons (dVar 5) (dCons (dVar 6) dNil))) dNil))) dNext))
  (dRet (dTup (dCons (dVar 4) (dCons (dVar 5) dNil)))))))
def d_share_on_slope : DSt := (dRet (dCall C_divided (dCons (dCall C_lessened (dCons (dBin oIx (dVar 2) (dC (.int 0))) (dCons (dBin oIx (dBin oIx (dVar 0) (dVar 1)) (dC (.int 0))) dNil))) (dCons (dCall C_lessened (dCons (dBin oIx (dBin oIx (dVar 0) (dBin oAdd (dVar 1) (dC (.int 1)))) (dC (.int 0))) (dCons (dBin oIx (dBin oIx (dVar 0) (dVar 1)) (dC (.int 0))) dNil))) dNil))))
theorem encP_inj {p q : Pt} (h : encP p = encP q) : p = q := by
  unfold encP at h
  simp only [PyData.tuple.injEq, List.cons.injEq, and_true] at h
  exact Prod.ext (encQ_inj h.1) (encQ_inj h.2)
theorem map_inj {α : Type} {f : α → D} (hf : ∀ {a b}, f a = f b → a = b) : ∀ {xs ys : List α}, xs.map f = ys.map f → xs = ys
  | [], [], _ => rfl
  | [], _ :: _, h => by cases h
  | _ :: _, [], h => by cases h
  | x :: xs, y :: ys, h => by
    simp only [List.map_cons, List.cons.injEq] at h
    rw [hf h.1, map_inj hf h.2]
theorem encR_inj {r r' : Ridge} (h : encR r = encR r') : r = r' := by
  unfold encR at h
  exact map_inj (f := encP) encP_inj (by injection h)
section
variable {a b c d : Pt} {x y t h : Rat} {r : Ridge} {i : Nat} {P : TV → Prop}
theorem E_turned_by : C_turned_by [encP a, encP b, encP c] P = ((Cp a ∧ Cp b ∧ Xb c.1 ∧ Cb c.2) ∧ P (.fr (encQ (turn a b c)))) := by
  refine propext ⟨?_, fun h => ⟨a, b, c, rfl, h⟩⟩
  rintro ⟨a', b', c', e, h⟩
  simp only [List.cons.injEq, and_true] at e
  rw [encP_inj e.1, encP_inj e.2.1, encP_inj e.2.2]
  exact h
theorem E_place_at : C_place_at [encP a, encP b, encQ y] P = ((B 1100 a.1 ∧ B 1100 a.2 ∧ Cp b ∧ Cb y ∧ b.2 - a.2 ≠ 0) ∧ P (.fr (encQ (place a b y)))) := by
  refine propext ⟨?_, fun h => ⟨a, b, y, rfl, h⟩⟩
  rintro ⟨a', b', c', e, h⟩
  simp only [List.cons.injEq, and_true] at e
  rw [encP_inj e.1, encP_inj e.2.1, encQ_inj e.2.2]
  exact h
theorem E_spot_between : C_spot_between [encP a, encP b, encQ t] P = ((B 900 a.1 ∧ B 900 a.2 ∧ Cp b ∧ B 2500 t) ∧ P (.fr (encP (spotB a b t)))) := by
  refine propext ⟨?_, fun h => ⟨a, b, t, rfl, h⟩⟩
  rintro ⟨a', b', c', e, h⟩
  simp only [List.cons.injEq, and_true] at e
  rw [encP_inj e.1, encP_inj e.2.1, encQ_inj e.2.2]
  exact h
theorem E_crossing : C_crossing [encP a, encP b, encP c, encP d] P = ((Xb a.1 ∧ Cb a.2 ∧ Cp b ∧ Cp c ∧ Cp d) ∧ P (.fr (encOP (crossP a b c d)))) := by
  refine propext ⟨?_, fun h => ⟨a, b, c, d, rfl, h⟩⟩
  rintro ⟨a', b', c', d', e, h⟩
  simp only [List.cons.injEq, and_true] at e
  rw [encP_inj e.1, encP_inj e.2.1, encP_inj e.2.2.1, encP_inj e.2.2.2]
  exact h
theorem E_slopes_of : C_slopes_of [encR r] P = P (.fr (.int ((r.length : Int) - 1))) := by
  refine propext ⟨?_, fun h => ⟨r, rfl, h⟩⟩
  rintro ⟨a', e, h⟩
  simp only [List.cons.injEq, and_true] at e
  rw [encR_inj e]
  exact h
theorem E_spot_of : C_spot_of [encR r, PyData.tuple [.int (i : Nat), encQ t]] P = ((Cr r ∧ i + 1 < r.length ∧ Tb t) ∧ P (.fr (encP (spotOf r i t)))) := by
  refine propext ⟨?_, fun h => ⟨r, i, t, rfl, h⟩⟩
  rintro ⟨a', b', c', e, h⟩
  simp only [List.cons.injEq, and_true, PyData.tuple.injEq, PyData.int.injEq] at e
  have : i = b' := by omega
  subst this
  rw [encR_inj e.1, encQ_inj e.2.2]
  exact h
theorem E_line_of : C_line_of [encR r] P = (0 < r.length ∧ P (.fr (.tuple [encQ (at_ r 0).1, encQ (at_ r (r.length - 1)).1]))) := by
  refine propext ⟨?_, fun h => ⟨r, rfl, h⟩⟩
  rintro ⟨a', e, h⟩
  simp only [List.cons.injEq, and_true] at e
  rw [encR_inj e]
  exact h
theorem E_is_under : C_is_under [encQ x, encQ y] P = ((Sm x ∧ Sm y) ∧ P (.fr (.bool (decide (x < y))))) := by
  refine propext ⟨?_, fun h => ⟨x, y, rfl, h⟩⟩
  rintro ⟨x', y', e, h⟩
  simp only [List.cons.injEq, and_true] at e
  rw [encQ_inj e.1, encQ_inj e.2]
  exact h
theorem E_share_on_slope {p : Pt} : C_share_on_slope [encR r, .int (i : Nat), encP p] P = ((Cr r ∧ i + 1 < r.length ∧ (at_ r (i + 1)).1 - (at_ r i).1 ≠ 0 ∧ B 4310 p.1) ∧ P (.fr (encQ (share r i p)))) := by
  refine propext ⟨?_, fun h => ⟨r, i, p, rfl, h⟩⟩
  rintro ⟨a', b', c', e, h⟩
  simp only [List.cons.injEq, PyData.int.injEq, and_true] at e
  have : i = b' := by omega
  subst this
  rw [encR_inj e.1, encP_inj e.2.2]
  exact h
theorem oEq_int {a b : Int} : oEq (.fr (.int a)) (.fr (.int b)) P = P (.fr (.bool (decide (a = b)))) := by
  unfold oEq
  simp only [TV.asD, PyData.int.injEq]
  have : pl 20 (.int a) = true := rfl
  have : pl 20 (.int b) = true := rfl
  by_cases h : a = b <;> simp [*]
theorem oNe_int {a b : Int} : oNe (.fr (.int a)) (.fr (.int b)) P = P (.fr (.bool (decide (a ≠ b)))) := by
  unfold oNe
  simp only [TV.asD, PyData.int.injEq]
  have : pl 20 (.int a) = true := rfl
  have : pl 20 (.int b) = true := rfl
  by_cases h : a = b <;> simp [*]
theorem pl_Q (x : Rat) : pl 20 (encQ x) = true := rfl
theorem encQ_eq {x y : Rat} : encQ x = encQ y ↔ x = y := ⟨encQ_inj, fun h => by rw [h]⟩
theorem oEq_Q : oEq (.fr (encQ x)) (.fr (encQ y)) P = P (.fr (.bool (decide (x = y)))) := by
  unfold oEq
  by_cases h : x = y <;> simp [TV.asD, pl_Q, encQ_eq, h]
theorem oNe_Q : oNe (.fr (encQ x)) (.fr (encQ y)) P = P (.fr (.bool (decide (x ≠ y)))) := by
  unfold oNe
  by_cases h : x = y <;> simp [TV.asD, pl_Q, encQ_eq, h]
theorem Cr.at (h : Cr r) (hi : i < r.length) : Cp (at_ r i) := h _ (at_mem hi)
end
local macro_rules | `(tactic| walk_at "ev") => `(tactic| simp only [dSeq, dNext, dBreak, dCont, dRet, dRetVar, dRetN, dIfS, dSet, dAsg, dPar2, dPar3, dAug, dMeth, dVar, dC, dBin, dUn, dChain, dTest, dAnd, dOr, dNot, dAndV, dOrV, dNotV, dIf, dNil, dCons, dTup, dLst, dCB, dCall, dItems, dItemsF, dFor, dLc, dYes, dStar, dSetIx, dPopIx, dEnum, dZip, dDict, dPut, dKeys, dRev, dIsTuple, dIsInt, dIsBool, dIsTy, dNoPart, dPart, dSl, dTruth, dLc2, dIr1, dIr2, dSrc, dSrcPut, dCells, dDrain, oI, oIC, oIB, oNeg, oAdd, oIsN, oNotN, cLen, cTuple, cList, cAbs, cInt, TV.view, TV.fz, TV.sv, TV.items, TV.fixd, TV.itm, TV.asD, isN_n, isN_P, isN_Q, isN_t, isN_i, TV.res, TV.isOwn, TV.isDct, fzs, frz, startE, wipeE, fApp, fIns, isT, oLt, oLe, oGt, oGe, oSub, oMul, oDiv, oMod, oMulK, List.map_cons, List.map_nil, List.length_cons, List.length_nil, List.cons_append, List.nil_append, List.getElem?_cons_succ, List.getElem?_cons_zero, List.set_cons_succ, List.set_cons_zero, List.replicate, Nat.reduceAdd, Nat.reduceSub, Nat.zero_add, List.cons.injEq, Option.some.injEq, exists_eq_left', exists_eq_left, exists_and_left, TV.fr.injEq, PyData.bool.injEq, PyData.int.injEq, dgN, dgNil, dgCons, dgT, true_and, and_true, reduceCtorEq, false_and, and_false, ↓reduceIte, if_true, if_false, Bool.not_true, Bool.not_false, decide_eq_true_eq, Bool.false_eq_true, cmp_lt, cmp_gt, cmp_le, cmp_ge, cmp_eq, gt_iff_lt, ge_iff_le, E_added, E_lessened, E_multiplied, E_divided, E_compared, E_between, ix_t0, ix_t1, ix_t2, ix_P0, ix_P1, ix_R, ix_R0, ix_R1, ix_Rl, E_turned_by, E_place_at, E_spot_between, E_crossing, E_slopes_of, E_spot_of, E_line_of, E_is_under, E_share_on_slope])
theorem sem_turned_by : SemA C_turned_by 4 3 d_turned_by where
  len := by rintro ds P ⟨x, y, t, rfl, _⟩; rfl
  sem := by
    rintro ds P ⟨a, b, c, rfl, ⟨⟨a1, a2⟩, ⟨b1, b2⟩, c1, c2⟩, h⟩
    unfold d_turned_by
    walk_at "ev"
    refine ⟨by walk_at "bb", by walk_at "bb", by walk_at "bb", by walk_at "bb", by walk_at "bb", by walk_at "bb", by walk_at "bb", by walk_at "bb", by walk_at "bb", by walk_at "bb", by walk_at "bb", by walk_at "bb", by walk_at "bb", by walk_at "bb", rfl, h⟩
theorem sem_place_at : SemA C_place_at 3 3 d_place_at where
  len := by rintro ds P ⟨x, y, t, rfl, _⟩; rfl
  sem := by
    rintro ds P ⟨a, b, y, rfl, ⟨a1, a2, ⟨b1, b2⟩, y1, ne⟩, h⟩
    unfold d_place_at
    walk_at "ev"
    refine ⟨by walk_at "bb", by walk_at "bb", by walk_at "bb", by walk_at "bb", by walk_at "bb", by walk_at "bb", ne, ⟨_, by assumption, _, by assumption, _, by walk_at "bsyn", by decide⟩, rfl, h⟩
theorem sem_spot_between : SemA C_spot_between 3 3 d_spot_between where
  len := by rintro ds P ⟨x, y, t, rfl, _⟩; rfl
  sem := by
    rintro ds P ⟨a, b, y, rfl, ⟨a1, a2, ⟨b1, b2⟩, y1⟩, h⟩
    unfold d_spot_between
    walk_at "ev"
    refine ⟨⟨_, by assumption, _, by assumption, _, by assumption, by decide⟩, ⟨_, by assumption, _, by assumption, _, by assumption, by decide⟩, by show 2 ≤ sizeLine; decide, rfl, h⟩
theorem sem_slopes_of : SemA C_slopes_of 1 1 d_slopes_of where
  len := by rintro ds P ⟨x, rfl, _⟩; rfl
  sem := by
    rintro ds P ⟨r, rfl, h⟩
    unfold d_slopes_of encR
    walk_at "ev"
    simp only [List.length_map]
    exact ⟨rfl, h⟩
theorem sem_is_under : SemA C_is_under 2 2 d_is_under where
  len := by rintro ds P ⟨x, y, rfl, _⟩; rfl
  sem := by
    rintro ds P ⟨x, y, rfl, ⟨hx, hy⟩, h⟩
    unfold d_is_under
    walk_at "ev"
    exact ⟨hx, hy, rfl, h⟩
theorem sem_line_of : SemA C_line_of 1 1 d_line_of where
  len := by rintro ds P ⟨x, rfl, _⟩; rfl
  sem := by
    rintro ds P ⟨r, rfl, h0, h⟩
    unfold d_line_of
    walk_at "ev"
    exact ⟨h0, h0, by show 2 ≤ sizeLine; decide, rfl, h⟩
end DL
end
section
set_option maxRecDepth 100000
set_option maxHeartbeats 1000000
set_option exponentiation.threshold 10
namespace DL
open PySem PySem.Spec PyProof.Rows L2 RM
local macro_rules | `(tactic| walk_at "bsyn") => `(tactic| first | assumption | exact B.add (by walk_at "bsyn") (by walk_at "bsyn") | exact B.sub (by walk_at "bsyn") (by walk_at "bsyn") | exact B.mul (by walk_at "bsyn") (by walk_at "bsyn") | exact B.div (by walk_at "bsyn") (by walk_at "bsyn") | exact B.neg (by walk_at "bsyn"))
local macro_rules | `(tactic| walk_at "bb") => `(tactic| exact B.mono (by walk_at "bsyn") (by decide))
theorem dNum_zip {α : Type} (f : α → D) : ∀ (xs : List α) (k : Nat), dNum k (xs.map f) = (xs.zipIdx k).map fun c => .tuple [.int ((c.2 : Nat) : Int), f c.1]
  | [], k => rfl
  | x :: xs, k => by
    show PyData.tuple [.int (k : Nat), f x] :: dNum (k + 1) (xs.map f) = _
    rw [dNum_zip f xs (k + 1)]
    rfl
theorem dNum_R (r : Ridge) : dNum 0 (r.map encP) = (r.zipIdx).map fun c => .tuple [.int ((c.2 : Nat) : Int), encP c.1] := dNum_zip encP r 0
theorem zip_mem {r : Ridge} {p : Pt} {k : Nat} (h : (p, k) ∈ r.zipIdx) : p ∈ r ∧ k < r.length := by
  have := List.mem_zipIdx h
  exact ⟨by rw [this.2.2]; exact List.getElem_mem _, by omega⟩
theorem E_own_sight {r : Ridge} {h : Rat} {i : Nat} {P : TV → Prop} : C_own_sight [encR r, encQ h, .int (i : Nat)] P = ((Cr r ∧ Cb h ∧ i + 1 < r.length) ∧ P (.fr (if (at_ r i).2 = (at_ r (i + 1)).2 then .none else encQ (own r h i)))) := by
  refine propext ⟨?_, fun h' => ⟨r, h, i, rfl, h'⟩⟩
  rintro ⟨a', b', c', e, h⟩
  simp only [List.cons.injEq, PyData.int.injEq, and_true] at e
  have : i = c' := by omega
  subst this
  rw [encR_inj e.1, encQ_inj e.2.1]
  exact h
theorem E_sight_places {r : Ridge} {h : Rat} {i : Nat} {t : Rat} {P : TV → Prop} : C_sight_places [encR r, encQ h, .tuple [.int (i : Nat), encQ t]] P = (SgOk r h i t ∧ P (.fr (.tuple [.list ((lefts r h (spotOf r i t)).map encPK), .list ((rights r h (spotOf r i t)).map encPK)]))) := by
  refine propext ⟨?_, fun h' => ⟨r, h, i, t, rfl, h'⟩⟩
  rintro ⟨a', b', c', d', e, h⟩
  simp only [List.cons.injEq, PyData.int.injEq, PyData.tuple.injEq, and_true] at e
  have : i = c' := by omega
  subst this
  rw [encR_inj e.1, encQ_inj e.2.1, encQ_inj e.2.2.2]
  exact h
theorem E_reach {r : Ridge} {h : Rat} {i : Nat} {t : Rat} {P : TV → Prop} : C_reach [encR r, encQ h, .tuple [.int (i : Nat), encQ t]] P = (SgOk r h i t ∧ P (.fr (.tuple [encQ (reachL r h (spotOf r i t)), encQ (reachR r h (spotOf r i t))]))) := by
  refine propext ⟨?_, fun h' => ⟨r, h, i, t, rfl, h'⟩⟩
  rintro ⟨a', b', c', d', e, h⟩
  simp only [List.cons.injEq, PyData.int.injEq, PyData.tuple.injEq, and_true] at e
  have : i = c' := by omega
  subst this
  rw [encR_inj e.1, encQ_inj e.2.1, encQ_inj e.2.2.2]
  exact h
local macro_rules | `(tactic| walk_at "ev") => `(tactic| simp only [dSeq, dNext, dBreak, dCont, dRet, dRetVar, dRetN, dIfS, dSet, dAsg, dPar2, dPar3, dAug, dMeth, dVar, dC, dBin, dUn, dChain, dTest, dAnd, dOr, dNot, dAndV, dOrV, dNotV, dIf, dNil, dCons, dTup, dLst, dCB, dCall, dItems, dItemsF, dFor, dLc, dYes, dStar, dSetIx, dPopIx, dEnum, dZip, dDict, dPut, dKeys, dRev, dIsTuple, dIsInt, dIsBool, dIsTy, dNoPart, dPart, dSl, dTruth, dLc2, dIr1, dIr2, dSrc, dSrcPut, dCells, dDrain, oI, oIC, oIB, oNeg, oAdd, oIsN, oNotN, cLen, cTuple, cList, cAbs, cInt, TV.view, TV.fz, TV.sv, TV.items, TV.fixd, TV.itm, TV.asD, isN_n, isN_P, isN_Q, isN_t, isN_i, TV.res, TV.isOwn, TV.isDct, fzs, frz, startE, wipeE, fApp, fIns, isT, oLt, oLe, oGt, oGe, oSub, oMul, oDiv, oMod, oMulK, List.map_cons, List.map_nil, List.length_cons, List.length_nil, List.cons_append, List.nil_append, List.getElem?_cons_succ, List.getElem?_cons_zero, List.set_cons_succ, List.set_cons_zero, List.replicate, Nat.reduceAdd, Nat.reduceSub, Nat.zero_add, List.cons.injEq, Option.some.injEq, exists_eq_left', exists_eq_left, exists_and_left, TV.fr.injEq, PyData.bool.injEq, PyData.int.injEq, dgN, dgNil, dgCons, dgT, true_and, and_true, reduceCtorEq, false_and, and_false, ↓reduceIte, if_true, if_false, Bool.not_true, Bool.not_false, decide_eq_true_eq, Bool.false_eq_true, cmp_lt, cmp_gt, cmp_le, cmp_ge, cmp_eq, gt_iff_lt, ge_iff_le, E_added, E_lessened, E_multiplied, E_divided, E_compared, E_between, ix_t0, ix_t1, ix_t2, ix_t3, ix_P0, ix_P1, ix_R, ix_R0, ix_R1, ix_Rl, E_turned_by, E_place_at, E_spot_between, E_crossing, E_slopes_of, E_spot_of, E_line_of, E_is_under, E_share_on_slope, oEq_int, oNe_int, oEq_Q, oNe_Q, E_own_sight, E_sight_places, E_reach])
theorem sem_spot_of : SemA C_spot_of 4 2 d_spot_of where
  len := by rintro ds P ⟨x, y, t, rfl, _⟩; rfl
  sem := by
    rintro ds P ⟨r, i, t, rfl, ⟨hr, hi, ht⟩, h⟩
    obtain ⟨p1, p2⟩ := hr.at (show i < r.length by omega)
    obtain ⟨q1, q2⟩ := hr.at hi
    unfold d_spot_of
    walk_at "ev"
    exact ⟨by omega, hi, ⟨by walk_at "bb", by walk_at "bb", ⟨by assumption, by assumption⟩, by walk_at "bb"⟩, rfl, h⟩
theorem sem_crossing : SemA C_crossing 6 4 d_crossing where
  len := by rintro ds P ⟨x, y, t, u, rfl, _⟩; rfl
  sem := by
    rintro ds P ⟨a, b, c, d, rfl, ⟨a1, a2, ⟨b1, b2⟩, ⟨c1, c2⟩, ⟨d1, d2⟩⟩, h⟩
    unfold d_crossing
    walk_at "ev"
    refine ⟨⟨⟨c1, c2⟩, ⟨d1, d2⟩, a1, a2⟩, ⟨⟨c1, c2⟩, ⟨d1, d2⟩, b1.mono (by decide), b2⟩, ?_⟩
    have B1 : B 1115 (turn c d a) := by unfold turn; walk_at "bb"
    have B2 : B 245 (turn c d b) := by unfold turn; walk_at "bb"
    unfold crossP at h
    split
    · rename_i e
      rw [if_pos e] at h
      exact ⟨rfl, h⟩
    · rename_i e
      rw [if_neg e] at h
      refine ⟨by walk_at "bb", by walk_at "bb", by walk_at "bb", by walk_at "bb", by grind, ⟨by walk_at "bb", by walk_at "bb", ⟨b1, b2⟩, ?_⟩, rfl, h⟩
      have : B (1115 + (1115 + 245 + 1)) (turn c d a / (turn c d a - turn c d b)) := by walk_at "bsyn"
      exact this.mono (by decide)
theorem sem_share_on_slope : SemA C_share_on_slope 3 3 d_share_on_slope where
  len := by rintro ds P ⟨x, y, t, rfl, _⟩; rfl
  sem := by
    rintro ds P ⟨r, i, p, rfl, ⟨hr, hi, dx, hp⟩, h⟩
    obtain ⟨p1, p2⟩ := hr.at (show i < r.length by omega)
    obtain ⟨q1, q2⟩ := hr.at hi
    unfold d_share_on_slope
    walk_at "ev"
    exact ⟨by omega, by walk_at "bb", by walk_at "bb", by omega, by omega, by walk_at "bb", by walk_at "bb", by walk_at "bb", by walk_at "bb", dx, rfl, h⟩
theorem sem_own_sight : SemA C_own_sight 3 3 d_own_sight where
  len := by rintro ds P ⟨x, y, t, rfl, _⟩; rfl
  sem := by
    rintro ds P ⟨r, h, i, rfl, ⟨hr, hh, hi⟩, hP⟩
    obtain ⟨p1, p2⟩ := hr.at (show i < r.length by omega)
    obtain ⟨q1, q2⟩ := hr.at hi
    unfold d_own_sight
    walk_at "ev"
    refine ⟨by omega, by omega, by walk_at "bb", by walk_at "bb", ?_⟩
    split
    · rename_i e; rw [if_pos e] at hP; exact ⟨rfl, hP⟩
    · rename_i e
      rw [if_neg e] at hP
      exact ⟨by omega, by omega, ⟨by walk_at "bb", by walk_at "bb", ⟨by assumption, by assumption⟩, by assumption, by grind⟩, rfl, hP⟩
theorem spot_b {r : Ridge} {i : Nat} {t : Rat} (hr : Cr r) (hi : i + 1 < r.length) (ht : Tb t) : B 1062 (spotOf r i t).1 ∧ B 1062 (spotOf r i t).2 := by
  obtain ⟨p1, p2⟩ := hr.at (show i < r.length by omega)
  obtain ⟨q1, q2⟩ := hr.at hi
  unfold spotOf spotB
  exact ⟨by walk_at "bb", by walk_at "bb"⟩
theorem place_b {s c : Pt} {h : Rat} (s1 : B 1062 s.1) (s2 : B 1062 s.2) (hc : Cp c) (hh : Cb h) : B 4342 (place s c h) := by
  obtain ⟨c1, c2⟩ := hc
  unfold place
  walk_at "bb"
theorem lefts_b {r : Ridge} {h : Rat} {i : Nat} {t : Rat} (ok : SgOk r h i t) : ∀ c ∈ lefts r h (spotOf r i t), B 4342 c.1 := fun c hc => by
  obtain ⟨h1, h2, h3, h4⟩ := mem_lefts.mp hc
  obtain ⟨s1, s2⟩ := spot_b ok.cr ok.ci ok.ct
  rw [h4]
  exact place_b s1 s2 (ok.cr.at h1) ok.ch
theorem rights_b {r : Ridge} {h : Rat} {i : Nat} {t : Rat} (ok : SgOk r h i t) : ∀ c ∈ rights r h (spotOf r i t), B 4342 c.1 := fun c hc => by
  obtain ⟨h1, h2, h3, h4⟩ := mem_rights.mp hc
  obtain ⟨s1, s2⟩ := spot_b ok.cr ok.ci ok.ct
  rw [h4]
  exact place_b s1 s2 (ok.cr.at h1) ok.ch
theorem reachL_b {r : Ridge} {h : Rat} {i : Nat} {t : Rat} (ok : SgOk r h i t) : B 4342 (reachL r h (spotOf r i t)) := by
  have := ok.ci
  refine max_sm (p := B 4342) ((ok.cr.at (by omega)).x.mono (by decide)) fun y hy => ?_
  obtain ⟨c, hc, rfl⟩ := List.mem_map.mp hy
  exact lefts_b ok c hc
theorem reachR_b {r : Ridge} {h : Rat} {i : Nat} {t : Rat} (ok : SgOk r h i t) : B 4342 (reachR r h (spotOf r i t)) := by
  have := ok.ci
  refine min_sm (p := B 4342) ((ok.cr.at (by omega)).x.mono (by decide)) fun y hy => ?_
  obtain ⟨c, hc, rfl⟩ := List.mem_map.mp hy
  exact rights_b ok c hc
theorem fm_snoc {α β : Type} (f : α → Option β) (pre : List α) (a : α) : (pre ++ [a]).filterMap f = pre.filterMap f ++ (f a).toList := by
  rw [List.filterMap_append]
  cases h : f a <;> simp [h]
theorem lf_map {α : Type} {f : α → D} (h : ∀ a, lf (f a) = true) : ∀ xs : List α, lf.lfs (xs.map f) = true
  | [] => rfl
  | x :: xs => by show (lf (f x) && lf.lfs (xs.map f)) = true; rw [h, lf_map h xs]; rfl
theorem lf_encP (p : Pt) : lf (encP p) = true := rfl
theorem lf_encR (r : Ridge) : lf (encR r) = true := lf_map lf_encP r
theorem lfs_cons {d : D} {ds : List D} (h : lf d = true) (h' : lf.lfs ds = true) : lf.lfs (d :: ds) = true := by show (lf d && lf.lfs ds) = true; rw [h, h']; rfl
theorem fm_len {α β : Type} (f : α → Option β) (xs : List α) : (xs.filterMap f).length ≤ xs.length := List.length_filterMap_le f xs
theorem sem_sight_places : SemB C_sight_places 8 3 d_sight_places where
  len := by rintro ds P ⟨x, y, t, u, rfl, _⟩; rfl
  nol := by rintro ds P ⟨x, y, t, u, rfl, _⟩; exact lfs_cons (lf_encR _) rfl
  sem := by
    rintro ds P ⟨r, h, i, t, rfl, ok, hP⟩
    obtain ⟨s1, s2⟩ := spot_b ok.cr ok.ci ok.ct
    unfold d_sight_places
    walk_at "ev"
    refine ⟨⟨ok.cr, ok.ci, ok.ct⟩, Nat.zero_le _, Nat.zero_le _, ?_⟩
    unfold encR
    walk_at "ev"
    rw [dNum_R]
    let fL : Pt × Nat → Option (Rat × Nat) := fun c => if (spotOf r i t).2 < c.1.2 ∧ c.1.1 < (spotOf r i t).1 then some (place (spotOf r i t) c.1 h, c.2) else none
    let fR : Pt × Nat → Option (Rat × Nat) := fun c => if (spotOf r i t).2 < c.1.2 ∧ (spotOf r i t).1 < c.1.1 then some (place (spotOf r i t) c.1 h, c.2) else none
    refine forL_inv _ (fun pre env => ∃ u v, env = [some (.fr (encR r)), some (.fr (encQ h)), some (.fr (.tuple [.int (i : Nat), encQ t])), some (.fr (encP (spotOf r i t))), some (.own ((pre.filterMap fL).map encPK)), some (.own ((pre.filterMap fR).map encPK)), u, v]) r.zipIdx ?_ ⟨_, _, rfl⟩ ?_
    · rintro pre ⟨c, k⟩ post env K e ⟨u, v, rfl⟩ hK
      obtain ⟨hc, hk⟩ := zip_mem (show (c, k) ∈ r.zipIdx by rw [e]; simp)
      obtain ⟨c1, c2⟩ := ok.cr c hc
      have hl : pre.length < 1000 := by
        have := congrArg List.length e
        rw [List.length_zipIdx, List.length_append, List.length_cons] at this
        have := ok.cl
        omega
      have l1 := fm_len fL pre
      have l2 := fm_len fR pre
      have hsz : sizeLine = 16777216 := sizeLine_eq
      simp only [fm_snoc] at hK
      walk_at "ev"
      refine ⟨⟨by walk_at "bb", by walk_at "bb"⟩, ?_⟩
      split
      · rename_i h1
        refine ⟨⟨by walk_at "bb", by walk_at "bb"⟩, ?_⟩
        split
        · rename_i h2
          have eL : fL (c, k) = some (place (spotOf r i t) c h, k) := if_pos ⟨h1, h2⟩
          have eR : fR (c, k) = none := if_neg (by grind)
          simp only [eL, eR, Option.toList, List.append_nil, List.map_append, List.map_cons, List.map_nil, encPK] at hK
          refine ⟨⟨by walk_at "bb", by walk_at "bb", ⟨c1, c2⟩, ok.ch, by grind⟩, by show 2 ≤ sizeLine; decide, by simp; omega, hK _ ⟨_, _, rfl⟩⟩
        · rename_i h2
          refine ⟨⟨by walk_at "bb", by walk_at "bb"⟩, ?_⟩
          have eL : fL (c, k) = none := if_neg (by grind)
          split
          · rename_i h3
            have eR : fR (c, k) = some (place (spotOf r i t) c h, k) := if_pos ⟨h1, h3⟩
            simp only [eL, eR, Option.toList, List.append_nil, List.map_append, List.map_cons, List.map_nil, encPK] at hK
            refine ⟨⟨by walk_at "bb", by walk_at "bb", ⟨c1, c2⟩, ok.ch, by grind⟩, by show 2 ≤ sizeLine; decide, by simp; omega, hK _ ⟨_, _, rfl⟩⟩
          · rename_i h3
            have eR : fR (c, k) = none := if_neg (by grind)
            simp only [eL, eR, Option.toList, List.append_nil, List.map_append, List.map_cons, List.map_nil, encPK] at hK
            exact hK _ ⟨_, _, rfl⟩
      · rename_i h1
        have eL : fL (c, k) = none := if_neg (by grind)
        have eR : fR (c, k) = none := if_neg (by grind)
        simp only [eL, eR, Option.toList, List.append_nil, List.map_append, List.map_cons, List.map_nil, encPK] at hK
        exact hK _ ⟨_, _, rfl⟩
    · rintro env ⟨u, v, rfl⟩
      walk_at "ev"
      exact ⟨by show 2 ≤ sizeLine; decide, hP⟩
end DL
end
section
set_option maxRecDepth 100000
set_option maxHeartbeats 1000000
set_option exponentiation.threshold 10
namespace DL
open PySem PySem.Spec PyProof.Rows L2 RM
local macro_rules | `(tactic| walk_at "bsyn") => `(tactic| first | assumption | exact B.add (by walk_at "bsyn") (by walk_at "bsyn") | exact B.sub (by walk_at "bsyn") (by walk_at "bsyn") | exact B.mul (by walk_at "bsyn") (by walk_at "bsyn") | exact B.div (by walk_at "bsyn") (by walk_at "bsyn") | exact B.neg (by walk_at "bsyn"))
local macro_rules | `(tactic| walk_at "bb") => `(tactic| exact B.mono (by walk_at "bsyn") (by decide))
theorem E_bar_corners {r : Ridge} {h : Rat} {i : Nat} {t : Rat} {P : TV → Prop} : C_bar_corners [encR r, encQ h, .tuple [.int (i : Nat), encQ t]] P = (SgOk r h i t ∧ ∀ o o', BarL r h (spotOf r i t) o → BarR r h (spotOf r i t) o' → P (.fr (.tuple [encON o, encON o']))) := by
  refine propext ⟨?_, fun h' => ⟨r, h, i, t, rfl, h'⟩⟩
  rintro ⟨a', b', c', d', e, h⟩
  simp only [List.cons.injEq, PyData.int.injEq, PyData.tuple.injEq, and_true] at e
  have : i = c' := by omega
  subst this
  rw [encR_inj e.1, encQ_inj e.2.1, encQ_inj e.2.2.2]
  exact h
theorem E_slope_reach {r : Ridge} {h : Rat} {i : Nat} {t : Rat} {P : TV → Prop} : C_slope_reach [encR r, encQ h, .int (i : Nat), encQ t] P = (SgOk r h i t ∧ P (.fr (.tuple [encQ (slopeL r h i t), encQ (slopeR r h i t)]))) := by
  refine propext ⟨?_, fun h' => ⟨r, h, i, t, rfl, h'⟩⟩
  rintro ⟨a', b', c', d', e, h⟩
  simp only [List.cons.injEq, PyData.int.injEq, PyData.tuple.injEq, and_true] at e
  have : i = c' := by omega
  subst this
  rw [encR_inj e.1, encQ_inj e.2.1, encQ_inj e.2.2.2]
  exact h
theorem E_greatest2 {x y : Rat} {P : TV → Prop} : C_greatest_of [.tuple [encQ x, encQ y]] P = ((Sm x ∧ Sm y) ∧ P (.fr (encQ (maxQ x [y])))) := by
  refine propext ⟨?_, fun ⟨⟨h1, h2⟩, h3⟩ => ⟨x, [y], rfl, by simp [h1, h2], h3⟩⟩
  rintro ⟨x', xs, e, h1, h2⟩
  have e' : [x, y].map encQ = (x' :: xs).map encQ := by injection (List.cons.inj e).1
  have := map_inj (f := encQ) encQ_inj e'
  cases this
  exact ⟨by simpa using h1, h2⟩
theorem E_least2 {x y : Rat} {P : TV → Prop} : C_least_of [.tuple [encQ x, encQ y]] P = ((Sm x ∧ Sm y) ∧ P (.fr (encQ (minQ x [y])))) := by
  refine propext ⟨?_, fun ⟨⟨h1, h2⟩, h3⟩ => ⟨x, [y], rfl, by simp [h1, h2], h3⟩⟩
  rintro ⟨x', xs, e, h1, h2⟩
  have e' : [x, y].map encQ = (x' :: xs).map encQ := by injection (List.cons.inj e).1
  have := map_inj (f := encQ) encQ_inj e'
  cases this
  exact ⟨by simpa using h1, h2⟩
theorem lefts_len {r : Ridge} {h : Rat} {s : Pt} : (lefts r h s).length ≤ r.length := by
  have := fm_len (fun c : Pt × Nat => if s.2 < c.1.2 ∧ c.1.1 < s.1 then some (place s c.1 h, c.2) else none) r.zipIdx
  rw [List.length_zipIdx] at this
  exact this
theorem rights_len {r : Ridge} {h : Rat} {s : Pt} : (rights r h s).length ≤ r.length := by
  have := fm_len (fun c : Pt × Nat => if s.2 < c.1.2 ∧ s.1 < c.1.1 then some (place s c.1 h, c.2) else none) r.zipIdx
  rw [List.length_zipIdx] at this
  exact this
theorem fzs_map : ∀ ds : List D, fzs (ds.map TV.fr) = some ds
  | [] => rfl
  | d :: ds => by simp [fzs, TV.fz, fzs_map ds]
theorem fm_fst {α β : Type} (l : List (α × β)) : l.filterMap (fun c => some c.1) = l.map (·.1) := by rw [← List.filterMap_eq_map]; rfl
theorem E_greatest {x : Rat} {xs : List Rat} {P : TV → Prop} : C_greatest_of [.tuple (encQ x :: xs.map encQ)] P = ((Sm x ∧ ∀ y ∈ xs, Sm y) ∧ P (.fr (encQ (maxQ x xs)))) := by
  refine propext ⟨?_, fun ⟨⟨h1, h2⟩, h3⟩ => ⟨x, xs, rfl, by simp [h1]; exact h2, h3⟩⟩
  rintro ⟨x', xs', e, h1, h2⟩
  have e' : (x :: xs).map encQ = (x' :: xs').map encQ := by injection (List.cons.inj e).1
  have := map_inj (f := encQ) encQ_inj e'
  cases this
  exact ⟨by simpa using h1, h2⟩
theorem E_least {x : Rat} {xs : List Rat} {P : TV → Prop} : C_least_of [.tuple (encQ x :: xs.map encQ)] P = ((Sm x ∧ ∀ y ∈ xs, Sm y) ∧ P (.fr (encQ (minQ x xs)))) := by
  refine propext ⟨?_, fun ⟨⟨h1, h2⟩, h3⟩ => ⟨x, xs, rfl, by simp [h1]; exact h2, h3⟩⟩
  rintro ⟨x', xs', e, h1, h2⟩
  have e' : (x :: xs).map encQ = (x' :: xs').map encQ := by injection (List.cons.inj e).1
  have := map_inj (f := encQ) encQ_inj e'
  cases this
  exact ⟨by simpa using h1, h2⟩
theorem intsD_map : ∀ ns : List Int, intsD (ns.map .int) = some ns
  | [] => rfl
  | n :: ns => by simp [intsD, intsD_map ns]
theorem cMax_list {ns : List Int} {G : TV → Prop} (h0 : ns ≠ []) (h : ∀ m, m ∈ ns → (∀ y ∈ ns, y ≤ m) → G (.fr (.int m))) : cMax [.fr (.list (ns.map .int))] G :=
  ⟨_, ns, rfl, intsD_map ns, List.length_pos_iff.mpr h0, h⟩
theorem cMin_list {ns : List Int} {G : TV → Prop} (h0 : ns ≠ []) (h : ∀ m, m ∈ ns → (∀ y ∈ ns, m ≤ y) → G (.fr (.int m))) : cMin [.fr (.list (ns.map .int))] G :=
  ⟨_, ns, rfl, intsD_map ns, List.length_pos_iff.mpr h0, h⟩
theorem ne_emp {ns : List Int} : (!(ns.map PyData.int).isEmpty) = true ↔ ns ≠ [] := by cases ns <;> simp
theorem barL_none {r : Ridge} {h : Rat} {s : Pt} (e : (lefts r h s).filterMap (fun c => if c.1 = reachL r h s then some (c.2 : Int) else none) = []) : BarL r h s none := fun c hc q => by
  have : ((c.2 : Nat) : Int) ∈ (lefts r h s).filterMap (fun c => if c.1 = reachL r h s then some (c.2 : Int) else none) := List.mem_filterMap.mpr ⟨c, hc, if_pos q⟩
  rw [e] at this
  exact nomatch this
theorem barR_none {r : Ridge} {h : Rat} {s : Pt} (e : (rights r h s).filterMap (fun c => if c.1 = reachR r h s then some (c.2 : Int) else none) = []) : BarR r h s none := fun c hc q => by
  have : ((c.2 : Nat) : Int) ∈ (rights r h s).filterMap (fun c => if c.1 = reachR r h s then some (c.2 : Int) else none) := List.mem_filterMap.mpr ⟨c, hc, if_pos q⟩
  rw [e] at this
  exact nomatch this
theorem barL_some {r : Ridge} {h : Rat} {s : Pt} {m : Int} (hm : m ∈ (lefts r h s).filterMap (fun c => if c.1 = reachL r h s then some (c.2 : Int) else none))
    (hx : ∀ y ∈ (lefts r h s).filterMap (fun c => if c.1 = reachL r h s then some (c.2 : Int) else none), y ≤ m) : ∃ k : Nat, m = (k : Int) ∧ BarL r h s (some k) := by
  obtain ⟨c, hc, e⟩ := List.mem_filterMap.mp hm
  split at e
  · rename_i q
    cases e
    refine ⟨c.2, rfl, by rw [← q]; exact hc, fun d hd qd => ?_⟩
    have := hx _ (List.mem_filterMap.mpr ⟨d, hd, if_pos qd⟩)
    omega
  · cases e
theorem barR_some {r : Ridge} {h : Rat} {s : Pt} {m : Int} (hm : m ∈ (rights r h s).filterMap (fun c => if c.1 = reachR r h s then some (c.2 : Int) else none))
    (hx : ∀ y ∈ (rights r h s).filterMap (fun c => if c.1 = reachR r h s then some (c.2 : Int) else none), m ≤ y) : ∃ k : Nat, m = (k : Int) ∧ BarR r h s (some k) := by
  obtain ⟨c, hc, e⟩ := List.mem_filterMap.mp hm
  split at e
  · rename_i q
    cases e
    refine ⟨c.2, rfl, by rw [← q]; exact hc, fun d hd qd => ?_⟩
    have := hx _ (List.mem_filterMap.mpr ⟨d, hd, if_pos qd⟩)
    omega
  · cases e
local macro_rules | `(tactic| walk_at "ev") => `(tactic| simp only [dSeq, dNext, dBreak, dCont, dRet, dRetVar, dRetN, dIfS, dSet, dAsg, dPar2, dPar3, dAug, dMeth, dVar, dC, dBin, dUn, dChain, dTest, dAnd, dOr, dNot, dAndV, dOrV, dNotV, dIf, dNil, dCons, dTup, dLst, dCB, dCall, dItems, dItemsF, dFor, dLc, dYes, dStar, dSetIx, dPopIx, dEnum, dZip, dDict, dPut, dKeys, dRev, dIsTuple, dIsInt, dIsBool, dIsTy, dNoPart, dPart, dSl, dTruth, dLc2, dIr1, dIr2, dSrc, dSrcPut, dCells, dDrain, oI, oIC, oIB, oNeg, oAdd, oIsN, oNotN, cLen, cTuple, cList, cAbs, cInt, TV.view, TV.fz, TV.sv, TV.items, TV.fixd, TV.itm, TV.asD, isN_n, isN_P, isN_Q, isN_t, isN_i, TV.res, TV.isOwn, TV.isDct, fzs, frz, startE, wipeE, fApp, fIns, isT, oLt, oLe, oGt, oGe, oSub, oMul, oDiv, oMod, oMulK, List.map_cons, List.map_nil, List.length_cons, List.length_nil, List.cons_append, List.nil_append, List.getElem?_cons_succ, List.getElem?_cons_zero, List.set_cons_succ, List.set_cons_zero, List.replicate, Nat.reduceAdd, Nat.reduceSub, Nat.zero_add, List.cons.injEq, Option.some.injEq, exists_eq_left', exists_eq_left, exists_and_left, TV.fr.injEq, PyData.bool.injEq, PyData.int.injEq, dgN, dgNil, dgCons, dgT, true_and, and_true, reduceCtorEq, false_and, and_false, ↓reduceIte, if_true, if_false, Bool.not_true, Bool.not_false, decide_eq_true_eq, Bool.false_eq_true, cmp_lt, cmp_gt, cmp_le, cmp_ge, cmp_eq, gt_iff_lt, ge_iff_le, E_added, E_lessened, E_multiplied, E_divided, E_compared, E_between, ix_t0, ix_t1, ix_t2, ix_t3, ix_P0, ix_P1, ix_R, ix_R0, ix_R1, ix_Rl, E_turned_by, E_place_at, E_spot_between, E_crossing, E_slopes_of, E_spot_of, E_line_of, E_is_under, E_share_on_slope, oEq_int, oNe_int, oEq_Q, oNe_Q, E_own_sight, E_sight_places, E_reach, E_bar_corners, E_slope_reach, E_greatest2, E_least2, E_greatest, E_least])
theorem sem_reach : SemA C_reach 10 3 d_reach where
  len := by rintro ds P ⟨x, y, t, u, rfl, _⟩; rfl
  sem := by
    rintro ds P ⟨r, h, i, t, rfl, ok, hP⟩
    have hl := ok.cl
    have l1 := @lefts_len r h (spotOf r i t)
    have l2 := @rights_len r h (spotOf r i t)
    have hi := ok.ci
    have hsz : sizeLine = 16777216 := sizeLine_eq
    obtain ⟨p1, p2⟩ := ok.cr.at (show 0 < r.length by omega)
    obtain ⟨q1, q2⟩ := ok.cr.at (show r.length - 1 < r.length by omega)
    unfold d_reach
    walk_at "ev"
    refine ⟨ok, by omega, ?_⟩
    refine lcL_fm (fun c => some c.1) encPK encQ _ ?_ (by omega) ?_
    · intro c hc Y hY
      unfold encPK
      walk_at "ev"
      exact hY
    simp only [fm_fst, List.append_nil, fzs_map]
    walk_at "ev"
    refine ⟨by simp; omega, ⟨by walk_at "bb", ?_⟩, ?_⟩
    · intro y hy
      obtain ⟨c, hc, rfl⟩ := List.mem_map.mp hy
      exact (lefts_b ok c hc).mono (by decide)
    refine lcL_fm (fun c => some c.1) encPK encQ _ ?_ (by omega) ?_
    · intro c hc Y hY
      unfold encPK
      walk_at "ev"
      exact hY
    simp only [fm_fst, List.append_nil, fzs_map]
    walk_at "ev"
    refine ⟨by simp; omega, ⟨by walk_at "bb", ?_⟩, by show 2 ≤ sizeLine; decide, rfl, hP⟩
    intro y hy
    obtain ⟨c, hc, rfl⟩ := List.mem_map.mp hy
    exact (rights_b ok c hc).mono (by decide)
theorem sem_bar_corners : SemA C_bar_corners 11 3 d_bar_corners where
  len := by rintro ds P ⟨x, y, t, u, rfl, _⟩; rfl
  sem := by
    rintro ds P ⟨r, h, i, t, rfl, ok, hP⟩
    have hl := ok.cl
    have l1 := @lefts_len r h (spotOf r i t)
    have l2 := @rights_len r h (spotOf r i t)
    have bL := reachL_b ok
    have bR := reachR_b ok
    unfold d_bar_corners
    walk_at "ev"
    refine ⟨ok, ok, ?_⟩
    let fl : Rat × Nat → Option Int := fun c => if c.1 = reachL r h (spotOf r i t) then some (c.2 : Int) else none
    let fr : Rat × Nat → Option Int := fun c => if c.1 = reachR r h (spotOf r i t) then some (c.2 : Int) else none
    refine lcL_fm fl encPK PyData.int _ ?_ (by omega) ?_
    · intro c hc Y hY
      have := lefts_b ok c hc
      unfold encPK
      walk_at "ev"
      refine ⟨by walk_at "bb", by walk_at "bb", ?_⟩
      split
      · rename_i e; rw [show fl c = some (c.2 : Int) from if_pos e] at hY; exact hY
      · rename_i e; rw [show fl c = none from if_neg e] at hY; exact hY
    refine lcL_fm fr encPK PyData.int _ ?_ (by omega) ?_
    · intro c hc Y hY
      have := rights_b ok c hc
      unfold encPK
      walk_at "ev"
      refine ⟨by walk_at "bb", by walk_at "bb", ?_⟩
      split
      · rename_i e; rw [show fr c = some (c.2 : Int) from if_pos e] at hY; exact hY
      · rename_i e; rw [show fr c = none from if_neg e] at hY; exact hY
    have two : (2 : Nat) ≤ sizeLine := by decide
    by_cases eL : (lefts r h (spotOf r i t)).filterMap fl = []
    · rw [if_neg (fun z => ne_emp.mp z eL)]
      by_cases eR : (rights r h (spotOf r i t)).filterMap fr = []
      · rw [if_neg (fun z => ne_emp.mp z eR)]
        exact ⟨two, rfl, hP none none (barL_none eL) (barR_none eR)⟩
      · rw [if_pos (ne_emp.mpr eR)]
        refine cMin_list eR fun m hm hx => ?_
        obtain ⟨k, rfl, hk⟩ := barR_some hm hx
        exact ⟨_, rfl, two, rfl, hP none (some k) (barL_none eL) hk⟩
    · rw [if_pos (ne_emp.mpr eL)]
      refine cMax_list eL fun m hm hx => ?_
      obtain ⟨k, rfl, hk⟩ := barL_some hm hx
      by_cases eR : (rights r h (spotOf r i t)).filterMap fr = []
      · rw [if_neg (fun z => ne_emp.mp z eR)]
        exact ⟨_, rfl, two, rfl, hP (some k) none hk (barR_none eR)⟩
      · rw [if_pos (ne_emp.mpr eR)]
        refine cMin_list eR fun m hm hx => ?_
        obtain ⟨k', rfl, hk'⟩ := barR_some hm hx
        exact ⟨_, rfl, two, rfl, hP (some k) (some k') hk hk'⟩
theorem slopeL_b {r : Ridge} {h : Rat} {i : Nat} {t : Rat} (ok : SgOk r h i t) : B 4342 (slopeL r h i t) := by
  have := ok.ci
  obtain ⟨p1, p2⟩ := ok.cr.at (show i < r.length by omega)
  unfold slopeL
  split
  · refine max_sm (p := B 4342) (reachL_b ok) fun y hy => ?_
    have : y = own r h i := by simpa using hy
    subst this
    exact place_b (p1.mono (by decide)) (p2.mono (by decide)) (ok.cr.at ok.ci) ok.ch
  · exact reachL_b ok
theorem slopeR_b {r : Ridge} {h : Rat} {i : Nat} {t : Rat} (ok : SgOk r h i t) : B 4342 (slopeR r h i t) := by
  have := ok.ci
  obtain ⟨p1, p2⟩ := ok.cr.at (show i < r.length by omega)
  unfold slopeR
  split
  · refine min_sm (p := B 4342) (reachR_b ok) fun y hy => ?_
    have : y = own r h i := by simpa using hy
    subst this
    exact place_b (p1.mono (by decide)) (p2.mono (by decide)) (ok.cr.at ok.ci) ok.ch
  · exact reachR_b ok
theorem sem_slope_reach : SemA C_slope_reach 8 4 d_slope_reach where
  len := by rintro ds P ⟨x, y, t, u, rfl, _⟩; rfl
  sem := by
    rintro ds P ⟨r, h, i, t, rfl, ok, hP⟩
    have hi := ok.ci
    have bL := reachL_b ok
    have bR := reachR_b ok
    obtain ⟨p1, p2⟩ := ok.cr.at (show i < r.length by omega)
    obtain ⟨q1, q2⟩ := ok.cr.at hi
    have bO : B 4342 (own r h i) := place_b (p1.mono (by decide)) (p2.mono (by decide)) (ok.cr.at ok.ci) ok.ch
    unfold d_slope_reach
    walk_at "ev"
    refine ⟨by show 2 ≤ sizeLine; decide, ok, ⟨ok.cr, ok.ch, ok.ci⟩, by omega, by omega, by walk_at "bb", by walk_at "bb", ?_⟩
    unfold slopeL slopeR at hP
    split
    · rename_i e
      rw [if_pos e, if_neg (by grind)] at hP
      rw [if_neg (by grind)]
      walk_at "ev"
      exact ⟨by show 2 ≤ sizeLine; decide, ⟨by walk_at "bb", by walk_at "bb"⟩, by show 2 ≤ sizeLine; decide, rfl, hP⟩
    · rename_i e
      rw [if_neg e] at hP
      split
      · rename_i e2
        rw [if_pos e2] at hP
        rw [if_neg (by grind)]
        walk_at "ev"
        exact ⟨by show 2 ≤ sizeLine; decide, ⟨by walk_at "bb", by walk_at "bb"⟩, by show 2 ≤ sizeLine; decide, rfl, hP⟩
      · rename_i e2
        rw [if_neg e2] at hP
        exact ⟨by show 2 ≤ sizeLine; decide, rfl, hP⟩
end DL
end
section
set_option maxRecDepth 100000
set_option maxHeartbeats 1000000
set_option exponentiation.threshold 10
namespace DL
open PySem PySem.Spec PyProof.Rows L2 RM
local macro_rules | `(tactic| walk_at "bsyn") => `(tactic| first | assumption | exact B.add (by walk_at "bsyn") (by walk_at "bsyn") | exact B.sub (by walk_at "bsyn") (by walk_at "bsyn") | exact B.mul (by walk_at "bsyn") (by walk_at "bsyn") | exact B.div (by walk_at "bsyn") (by walk_at "bsyn") | exact B.neg (by walk_at "bsyn"))
local macro_rules | `(tactic| walk_at "bb") => `(tactic| exact B.mono (by walk_at "bsyn") (by decide))
def C_ascending_fractions : DC := fun ds P => ∃ xs : List Rat, ds = [.list (xs.map encQ)] ∧ ((∀ x ∈ xs, Sm x) ∧ xs.length ≤ 16000000) ∧ ∀ ys : List Rat, ys.Perm xs → ys.Pairwise (· ≤ ·) → P (.own (ys.map encQ))
structure TsOk (r : Ridge) (i : Nat) (spots : List Pt) : Prop where
  cr : Cr r
  cs : ∀ p ∈ spots, Cp p
  ci : i + 1 < r.length
  dx : (at_ r i).1 < (at_ r (i + 1)).1
  cl : spots.length ≤ 1000
def C_turning_shares : DC := fun ds P => ∃ r i spots, ds = [encR r, .int (i : Nat), .list (spots.map encP)] ∧ TsOk r i spots ∧ ∀ ts, TSp r i spots ts → ts.length ≤ 2000000 → P (.own (ts.map encQ))
def d_ascending_fractions : DSt := (dSeq (dSet true 1 (dLst dNil))
  (dSeq (dFor (dItemsF (dVar 0)) (dgN 3) (dSeq (dSet false 2 (dCB cLen (dCons (dVar 1) dNil)))
  (dSeq (dWhile (dAnd (dTest (dBin oGt (dVar 2) (dC (.int 0)))) (dTest (dCall C_is_under (dCons (dVar 3) (dCons (dBin oIx (dVar 1) (dBin oSub (dVar 2) (dC (.int 1)))) dNil))))) (dAug 2 (fun i j => i - j) (dC (.int 1))))
  (dMeth 1 (dCons (dVar 2) (dCons (dVar 3) dNil)) fIns))))
  (dRetVar 1)))
def d_turning_shares : DSt := (dSeq (dDict 3 (dTup (dCons (dC (.int 0)) (dCons (dC (.int 1)) dNil))) (dTup (dCons (dC (.int 1)) (dCons (dC (.int 1)) dNil))))
  (dSeq (dFor (dEnum true (dCons (dVar 2) dNil)) (dgT 2 (dgCons (dgN 7) (dgCons (dgN 8) dgNil))) (dFor (dItemsF (dSl (dVar 2) dNoPart (dPart (dVar 7)))) (dgN 6) (dSeq (dSet false 4 (dCall C_crossing (dCons (dVar 8) (dCons (dVar 6) (dCons (dBin oIx (dVar 0) (dVar 1)) (dCons (dBin oIx (dVar 0) (dBin oAdd (dVar 1) (dC (.int 1)))) dNil))))))
  (dIfS (dTest (dBin oNotN (dVar 4) (dC .none))) (dSeq (dSet false 5 (dCall C_share_on_slope (dCons (dVar 0) (dCons (dVar 1) (dCons (dVar 4) dNil)))))
  (dIfS (dAnd (dTest (dCall C_is_under (dCons (dTup (dCons (dC (.int 0)) (dCons (dC (.int 1)) dNil))) (dCons (dVar 5) dNil)))) (dTest (dCall C_is_under (dCons (dVar 5) (dCons (dTup (dCons (dC (.int 1)) (dCons (dC (.int 1)) dNil))) dNil))))) (dPut 3 (dVar 5)) dNext)) dNext))))
  (dRet (dCall C_ascending_fractions (dCons (dKeys 3) dNil)))))
theorem lit0 : PyData.tuple [.int 0, .int 1] = encQ 0 := rfl
theorem lit1 : PyData.tuple [.int 1, .int 1] = encQ 1 := rfl
theorem lit2 : PyData.tuple [.int 2, .int 1] = encQ 2 := rfl
theorem cut_to {α : Type} (xs : List α) (k : Nat) : cut xs none (some (k : Int)) = xs.take k := by
  unfold cut
  rw [HT.sIx_none, HT.sIx_nat, List.drop_zero, Nat.sub_zero]
  rcases Nat.le_total k xs.length with h | h
  · rw [Nat.min_eq_left h]
  · rw [Nat.min_eq_right h, List.take_of_length_le h, List.take_of_length_le (Nat.le_refl _)]
theorem cut_from {α : Type} (xs : List α) (k : Nat) : cut xs (some (k : Int)) none = xs.drop k := by
  unfold cut
  rw [HT.sIx_none, HT.sIx_nat]
  rcases Nat.le_total k xs.length with h | h
  · rw [Nat.min_eq_left h, List.take_of_length_le (by rw [List.length_drop]; exact Nat.le_refl _)]
  · rw [Nat.min_eq_right h, Nat.sub_self, List.take_zero, List.drop_of_length_le h]
theorem cut_from1 {α : Type} (xs : List α) : cut xs (some 1) none = xs.drop 1 := cut_from xs 1
theorem cut_from2 {α : Type} (xs : List α) (i : Nat) : cut xs (some ((i : Int) + 2)) none = xs.drop (i + 2) := cut_from xs (i + 2)
theorem E_ascending_fractions {xs : List Rat} {P : TV → Prop} : C_ascending_fractions [.list (xs.map encQ)] P = (((∀ x ∈ xs, Sm x) ∧ xs.length ≤ 16000000) ∧ ∀ ys : List Rat, ys.Perm xs → ys.Pairwise (· ≤ ·) → P (.own (ys.map encQ))) := by
  refine propext ⟨?_, fun h => ⟨xs, rfl, h⟩⟩
  rintro ⟨xs', e, h⟩
  have e' : xs.map encQ = xs'.map encQ := by injection (List.cons.inj e).1
  have := map_inj (f := encQ) encQ_inj e'
  cases this
  exact h
theorem Sm0 : Sm 0 := ⟨by show 0 < _; exact pow_pos2 _, by show 1 < 2 ^ 4400; exact Nat.one_lt_two_pow (by decide)⟩
theorem Bn (k : Nat) (h : 1 < k) : B k 0 ∧ B k 1 ∧ B k 2 := by
  have h4 : 4 ≤ 2 ^ k := by
    have := Nat.pow_le_pow_right (show 0 < 2 by decide) (show 2 ≤ k by omega)
    exact this
  refine ⟨⟨by show 0 < _; omega, by show 1 < _; omega⟩, ⟨by show 1 < _; omega, by show 1 < _; omega⟩, ⟨by show 2 < _; omega, by show 1 < _; omega⟩⟩
def kq (x : Rat) : List Int := [x.num, (x.den : Int)]
theorem kq_enc (x : Rat) : intT (kq x) = encQ x := rfl
theorem kq_inj {x y : Rat} (h : kq x = kq y) : x = y := encQ_inj (by rw [← kq_enc, ← kq_enc, h])
def putQ (xs : List Rat) (x : Rat) : List Rat := if x ∈ xs then xs else xs ++ [x]
theorem putL_q (xs : List Rat) (x : Rat) : putL (xs.map kq) (kq x) = (putQ xs x).map kq := by
  have : kq x ∈ xs.map kq ↔ x ∈ xs := by
    constructor
    · intro h
      obtain ⟨y, hy, e⟩ := List.mem_map.mp h
      rw [← kq_inj e]; exact hy
    · exact fun h => List.mem_map.mpr ⟨x, h, rfl⟩
  unfold putL putQ
  by_cases h : x ∈ xs
  · rw [if_pos (this.mpr h), if_pos h]
  · rw [if_neg (fun z => h (this.mp z)), if_neg h, List.map_append]; rfl
theorem putQ_mem {xs : List Rat} {x y : Rat} : y ∈ putQ xs x ↔ y ∈ xs ∨ y = x := by
  unfold putQ
  split
  · constructor
    · exact .inl
    · rintro (h | rfl) <;> assumption
  · simp
theorem putQ_nodup {xs : List Rat} {x : Rat} (h : xs.Nodup) : (putQ xs x).Nodup := by
  unfold putQ
  split
  · exact h
  · rename_i hx
    rw [List.nodup_append]
    exact ⟨h, by simp, fun a ha b hb e => by
      have : b = x := by simpa using hb
      subst this; subst e; exact hx ha⟩
theorem putQ_len {xs : List Rat} {x : Rat} : (putQ xs x).length ≤ xs.length + 1 := by
  unfold putQ
  split <;> simp
local macro_rules | `(tactic| walk_at "ev") => `(tactic| simp only [dSeq, dNext, dBreak, dCont, dRet, dRetVar, dRetN, dIfS, dSet, dAsg, dPar2, dPar3, dAug, dMeth, dVar, dC, dBin, dUn, dChain, dTest, dAnd, dOr, dNot, dAndV, dOrV, dNotV, dIf, dNil, dCons, dTup, dLst, dCB, dCall, dItems, dItemsF, dFor, dLc, dYes, dStar, dSetIx, dPopIx, dEnum, dZip, dDict, dPut, dKeys, dRev, dIsTuple, dIsInt, dIsBool, dIsTy, dNoPart, dPart, dSl, dTruth, dLc2, dIr1, dIr2, dSrc, dSrcPut, dCells, dDrain, oI, oIC, oIB, oNeg, oAdd, oIsN, oNotN, cLen, cTuple, cList, cAbs, cInt, TV.view, TV.fz, TV.sv, TV.items, TV.fixd, TV.itm, TV.asD, isN_n, isN_P, isN_Q, isN_t, isN_i, TV.res, TV.isOwn, TV.isDct, fzs, frz, startE, wipeE, fApp, fIns, isT, oLt, oLe, oGt, oGe, oSub, oMul, oDiv, oMod, oMulK, List.map_cons, List.map_nil, List.length_cons, List.length_nil, List.cons_append, List.nil_append, List.getElem?_cons_succ, List.getElem?_cons_zero, List.set_cons_succ, List.set_cons_zero, List.replicate, Nat.reduceAdd, Nat.reduceSub, Nat.zero_add, List.cons.injEq, Option.some.injEq, exists_eq_left', exists_eq_left, exists_and_left, TV.fr.injEq, PyData.bool.injEq, PyData.int.injEq, dgN, dgNil, dgCons, dgT, true_and, and_true, reduceCtorEq, false_and, and_false, ↓reduceIte, if_true, if_false, Bool.not_true, Bool.not_false, decide_eq_true_eq, Bool.false_eq_true, cmp_lt, cmp_gt, cmp_le, cmp_ge, cmp_eq, gt_iff_lt, ge_iff_le, E_added, E_lessened, E_multiplied, E_divided, E_compared, E_between, ix_t0, ix_t1, ix_t2, ix_t3, ix_P0, ix_P1, ix_R, ix_R0, ix_R1, ix_Rl, E_turned_by, E_place_at, E_spot_between, E_crossing, E_slopes_of, E_spot_of, E_line_of, E_is_under, E_share_on_slope, oEq_int, oNe_int, oEq_Q, oNe_Q, E_own_sight, E_sight_places, E_reach, E_bar_corners, E_slope_reach, E_greatest2, E_least2, E_greatest, E_least, lit0, lit1, lit2, cut_to, cut_from1, cut_from2, E_ascending_fractions])
theorem atI_pred {α : Type} {xs : List α} {m : Nat} (h0 : 0 < m) : atI xs ((m : Int) - 1) = xs[m - 1]? := by
  have : (m : Int) - 1 = ((m - 1 : Nat) : Int) := by omega
  rw [this, atI_nat]
theorem ins_sorted {ys : List Rat} {x : Rat} {m : Nat} (ho : ys.Pairwise (· ≤ ·)) (hm : m ≤ ys.length) (h1 : m = 0 ∨ ∃ y, ys[m - 1]? = some y ∧ ¬ x < y) (h2 : ∀ (j : Nat), m ≤ j → ∀ (y : Rat), ys[j]? = some y → x < y) :
    (ys.take m ++ [x] ++ ys.drop m).Pairwise (· ≤ ·) := by
  have le1 : ∀ y ∈ ys.take m, y ≤ x := fun y hy => by
    obtain ⟨j, hj, e⟩ := List.mem_iff_getElem.mp hy
    rw [List.length_take] at hj
    rw [List.getElem_take] at e
    rcases h1 with h1 | ⟨z, hz, hzx⟩
    · omega
    · obtain ⟨hl, ez⟩ := List.getElem?_eq_some_iff.mp hz
      by_cases q : j = m - 1
      · subst q; rw [← e, ez]; grind
      · have := List.pairwise_iff_getElem.mp ho j (m - 1) (by omega) hl (by omega)
        rw [e, ez] at this
        grind
  have ge : ∀ y ∈ ys.drop m, x ≤ y := fun y hy => by
    obtain ⟨j, hj, e⟩ := List.mem_iff_getElem.mp hy
    rw [List.getElem_drop] at e
    rw [List.length_drop] at hj
    have := h2 (m + j) (by omega) y (by rw [List.getElem?_eq_getElem (by omega), e])
    grind
  rw [List.pairwise_append, List.pairwise_append]
  refine ⟨⟨ho.sublist (List.take_sublist _ _), List.pairwise_singleton _ _, fun a ha b hb => ?_⟩, ho.sublist (List.drop_sublist _ _), fun a ha b hb => ?_⟩
  · have : b = x := by simpa using hb
    subst this; exact le1 a ha
  · rcases List.mem_append.mp ha with ha | ha
    · have := le1 a ha
      have := ge b hb
      grind
    · have : a = x := by simpa using ha
      subst this; exact ge b hb
theorem sem_ascending_fractions : SemA C_ascending_fractions 4 1 d_ascending_fractions where
  len := by rintro ds P ⟨x, rfl, _⟩; rfl
  sem := by
    rintro ds P ⟨xs, rfl, ⟨hs, hl⟩, hP⟩
    have hsz : sizeLine = 16777216 := sizeLine_eq
    unfold d_ascending_fractions
    walk_at "ev"
    refine ⟨Nat.zero_le _, ?_⟩
    refine forL_inv encQ (fun pre env => ∃ a ys u v, env = [a, some (.own (ys.map encQ)), u, v] ∧ ys.Perm pre ∧ ys.Pairwise (· ≤ ·)) xs ?_ ⟨_, [], _, _, rfl, .refl _, .nil⟩ ?_
    · rintro pre x post env K e ⟨a, ys, u, v, rfl, hp, ho⟩ hK
      have sx : Sm x := hs x (by rw [e]; simp)
      have sy : ∀ y ∈ ys, Sm y := fun y hy => hs y (by rw [e]; exact List.mem_append_left _ (hp.mem_iff.mp hy))
      have hlen : ys.length < 16000000 := by
        have := congrArg List.length e
        rw [List.length_append, List.length_cons] at this
        have := hp.length_eq
        omega
      walk_at "ev"
      refine ⟨fun m env => ∃ at_ : Nat, env = [a, some (.own (ys.map encQ)), some (.fr (.int (at_ : Int))), some (.fr (encQ x))] ∧ m = at_ ∧ at_ ≤ ys.length ∧ (∀ j, at_ ≤ j → ∀ y, ys[j]? = some y → x < y), ⟨_, ys.length, by simp, rfl, Nat.le_refl _, fun j hj y hy => ?_⟩, ?_⟩
      · rw [List.getElem?_eq_none hj] at hy; cases hy
      · rintro m env ⟨n, rfl, rfl, hn, hgt⟩
        walk_at "ev"
        have ins : (m = 0 ∨ ∃ y, ys[m - 1]? = some y ∧ ¬ x < y) → ∃ x_2,
                (if 0 ≤ (m : Int) ∧ (m : Int) < 2 ^ 63 then
                      some
                        (List.take (m : Int).toNat (List.map encQ ys) ++ [encQ x] ++ List.drop (m : Int).toNat (List.map encQ ys))
                    else none) =
                    some x_2 ∧
                  x_2.length ≤ sizeLine ∧ K [a, some (TV.own x_2), some (TV.fr (PyData.int (m : Int))), some (TV.fr (encQ x))] := fun h1 => by
          have hs := ins_sorted ho hn h1 hgt
          rw [if_pos (by omega)]
          refine ⟨_, rfl, by simp; omega, ?_⟩
          refine hK _ ⟨a, ys.take m ++ [x] ++ ys.drop m, some (.fr (.int (m : Int))), some (.fr (encQ x)), ?_, ?_, hs⟩
          · simp [List.map_take, List.map_drop]
          · have p1 : (ys.take m ++ [x] ++ ys.drop m).Perm (x :: ys) := by
              have : (ys.take m ++ [x] ++ ys.drop m).Perm (x :: (ys.take m ++ ys.drop m)) := by
                rw [List.append_assoc]
                exact List.perm_middle
              rw [List.take_append_drop] at this
              exact this
            have p2 : (pre ++ [x]).Perm (x :: pre) := List.perm_append_comm
            exact p1.trans ((hp.cons x).trans p2.symm)
        by_cases h0 : 0 < m
        · rw [if_pos (by omega)]
          have hy : ys[m - 1]? = some ys[m - 1] := List.getElem?_eq_getElem (by omega)
          have ea : atI (ys.map encQ) ((m : Int) - 1) = some (encQ ys[m - 1]) := by rw [atI_pred h0, List.getElem?_map, hy]; rfl
          simp only [oIx, TV.items, ea]
          rw [E_is_under]
          refine ⟨⟨sx, sy _ (List.getElem_mem _)⟩, _, rfl, ?_⟩
          by_cases hx : x < ys[m - 1]
          · rw [if_pos (by simpa using hx)]
            refine ⟨m - 1, by omega, m - 1, by omega, rfl, by omega, fun j hj y e => ?_⟩
            by_cases q : j = m - 1
            · subst q
              rw [hy] at e; cases e; exact hx
            · exact hgt j (by omega) y e
          · rw [if_neg (by simpa using hx)]
            exact ins (.inr ⟨_, hy, hx⟩)
        · rw [if_neg (by omega)]
          exact ins (.inl (by omega))
    · rintro env ⟨a, ys, u, v, rfl, hp, ho⟩
      walk_at "ev"
      exact ⟨lf_map lfQ ys, hP ys hp ho⟩
end DL
end
section
set_option maxRecDepth 100000
set_option maxHeartbeats 1000000
set_option exponentiation.threshold 10
namespace DL
open PySem PySem.Spec PyProof.Rows L2 RM
local macro_rules | `(tactic| walk_at "bsyn") => `(tactic| first | assumption | exact B.add (by walk_at "bsyn") (by walk_at "bsyn") | exact B.sub (by walk_at "bsyn") (by walk_at "bsyn") | exact B.mul (by walk_at "bsyn") (by walk_at "bsyn") | exact B.div (by walk_at "bsyn") (by walk_at "bsyn") | exact B.neg (by walk_at "bsyn"))
local macro_rules | `(tactic| walk_at "bb") => `(tactic| exact B.mono (by walk_at "bsyn") (by decide))
theorem dNum_P (l : List Pt) : dNum 0 (l.map encP) = (l.zipIdx).map fun c => .tuple [.int ((c.2 : Nat) : Int), encP c.1] := dNum_zip encP l 0
theorem share_b {r : Ridge} {i : Nat} {a b p : Pt} (hr : Cr r) (hi : i + 1 < r.length) (ha : Cp a) (hb : Cp b) (e : crossP a b (at_ r i) (at_ r (i + 1)) = some p) : B 828 p.1 ∧ B 920 (share r i p) := by
  obtain ⟨p1, p2⟩ := hr.at (show i < r.length by omega)
  obtain ⟨q1, q2⟩ := hr.at hi
  obtain ⟨a1, a2⟩ := ha
  obtain ⟨b1, b2⟩ := hb
  unfold crossP at e
  split at e
  · cases e
  · cases e
    have h1 : B 245 (turn (at_ r i) (at_ r (i + 1)) a) := by unfold turn; walk_at "bb"
    have h2 : B 245 (turn (at_ r i) (at_ r (i + 1)) b) := by unfold turn; walk_at "bb"
    have h3 : B 828 (spotB a b (turn (at_ r i) (at_ r (i + 1)) a / (turn (at_ r i) (at_ r (i + 1)) a - turn (at_ r i) (at_ r (i + 1)) b))).1 := by unfold spotB; walk_at "bb"
    refine ⟨h3, ?_⟩
    unfold share
    walk_at "bb"
theorem crossT_self {r : Ridge} {i : Nat} {a : Pt} : crossT r i a a = none := by simp [crossT, crossP]
structure FdOk (r : Ridge) (i : Nat) (spots : List Pt) (xs : List Rat) : Prop where
  nd : xs.Nodup
  rng : ∀ t ∈ xs, 0 ≤ t ∧ t ≤ 1
  sm : ∀ t ∈ xs, B 920 t
  has0 : 0 ∈ xs
  has1 : 1 ∈ xs
  only : ∀ t ∈ xs, t = 0 ∨ t = 1 ∨ ∃ a ∈ spots, ∃ b ∈ spots, crossT r i a b = some t
theorem FdOk.put {r : Ridge} {i : Nat} {spots : List Pt} {xs : List Rat} (h : FdOk r i spots xs) {a b : Pt} {t : Rat} (ha : a ∈ spots) (hb : b ∈ spots) (e : crossT r i a b = some t) (h0 : 0 < t) (h1 : t < 1) (s : B 920 t) : FdOk r i spots (putQ xs t) where
  nd := putQ_nodup h.nd
  rng := fun x hx => by
    rcases putQ_mem.mp hx with hx | rfl
    · exact h.rng x hx
    · exact ⟨by grind, by grind⟩
  sm := fun x hx => by
    rcases putQ_mem.mp hx with hx | rfl
    · exact h.sm x hx
    · exact s
  has0 := putQ_mem.mpr (.inl h.has0)
  has1 := putQ_mem.mpr (.inl h.has1)
  only := fun x hx => by
    rcases putQ_mem.mp hx with hx | rfl
    · exact h.only x hx
    · exact .inr (.inr ⟨a, ha, b, hb, e⟩)
theorem sorted_lt {xs ys : List Rat} (hp : ys.Perm xs) (hn : xs.Nodup) (ho : ys.Pairwise (· ≤ ·)) : ys.Pairwise (· < ·) := by
  have hn' : ys.Nodup := hp.nodup_iff.mpr hn
  have := ho.and hn'
  exact this.imp fun {a b} h => by
    have := h.1
    have := h.2
    grind
theorem C_own_list {xs : List Rat} : (xs.map kq).map intT = xs.map encQ := by rw [List.map_map]; rfl
local macro_rules | `(tactic| walk_at "ev") => `(tactic| simp only [dSeq, dNext, dBreak, dCont, dRet, dRetVar, dRetN, dIfS, dSet, dAsg, dPar2, dPar3, dAug, dMeth, dVar, dC, dBin, dUn, dChain, dTest, dAnd, dOr, dNot, dAndV, dOrV, dNotV, dIf, dNil, dCons, dTup, dLst, dCB, dCall, dItems, dItemsF, dFor, dLc, dYes, dStar, dSetIx, dPopIx, dEnum, dZip, dDict, dPut, dKeys, dRev, dIsTuple, dIsInt, dIsBool, dIsTy, dNoPart, dPart, dSl, dTruth, dLc2, dIr1, dIr2, dSrc, dSrcPut, dCells, dDrain, oI, oIC, oIB, oNeg, oAdd, oIsN, oNotN, cLen, cTuple, cList, cAbs, cInt, TV.view, TV.fz, TV.sv, TV.items, TV.fixd, TV.itm, TV.asD, isN_n, isN_P, isN_Q, isN_t, isN_i, TV.res, TV.isOwn, TV.isDct, fzs, frz, startE, wipeE, fApp, fIns, isT, oLt, oLe, oGt, oGe, oSub, oMul, oDiv, oMod, oMulK, List.map_cons, List.map_nil, List.length_cons, List.length_nil, List.cons_append, List.nil_append, List.getElem?_cons_succ, List.getElem?_cons_zero, List.set_cons_succ, List.set_cons_zero, List.replicate, Nat.reduceAdd, Nat.reduceSub, Nat.zero_add, List.cons.injEq, Option.some.injEq, exists_eq_left', exists_eq_left, exists_and_left, TV.fr.injEq, PyData.bool.injEq, PyData.int.injEq, dgN, dgNil, dgCons, dgT, true_and, and_true, reduceCtorEq, false_and, and_false, ↓reduceIte, if_true, if_false, Bool.not_true, Bool.not_false, decide_eq_true_eq, Bool.false_eq_true, cmp_lt, cmp_gt, cmp_le, cmp_ge, cmp_eq, gt_iff_lt, ge_iff_le, E_added, E_lessened, E_multiplied, E_divided, E_compared, E_between, ix_t0, ix_t1, ix_t2, ix_t3, ix_P0, ix_P1, ix_R, ix_R0, ix_R1, ix_Rl, E_turned_by, E_place_at, E_spot_between, E_crossing, E_slopes_of, E_spot_of, E_line_of, E_is_under, E_share_on_slope, oEq_int, oNe_int, oEq_Q, oNe_Q, E_own_sight, E_sight_places, E_reach, E_bar_corners, E_slope_reach, E_greatest2, E_least2, E_greatest, E_least, lit0, lit1, lit2, cut_to, cut_from1, cut_from2, E_ascending_fractions])
theorem sem_turning_shares : SemA C_turning_shares 9 3 d_turning_shares where
  len := by rintro ds P ⟨x, y, z, rfl, _⟩; rfl
  sem := by
    rintro ds P ⟨r, i, spots, rfl, ok, hP⟩
    have hsz : sizeLine = 16777216 := sizeLine_eq
    have hi := ok.ci
    have two : (2 : Nat) ≤ sizeLine := by decide
    unfold d_turning_shares
    walk_at "ev"
    refine ⟨two, kq 0, rfl, two, kq 1, rfl, ?_⟩
    rw [show putL (putL [] (kq 0)) (kq 1) = [(0 : Rat), 1].map kq from rfl, dNum_P]
    refine forL_inv _ (fun pre env => ∃ xs u v w x y, env = [some (.fr (encR r)), some (.fr (.int (i : Nat))), some (.fr (.list (spots.map encP))), some (.dct (xs.map kq)), u, v, w, x, y] ∧ FdOk r i spots xs ∧ xs.length ≤ 2 + 1000 * pre.length ∧
      ∀ c ∈ pre, ∀ b ∈ spots.take c.2, ∀ t, crossT r i c.1 b = some t → 0 < t → t < 1 → t ∈ xs) spots.zipIdx ?_ ⟨[0, 1], _, _, _, _, _, rfl, ?_, by simp, fun c hc => nomatch hc⟩ ?_
    · rintro pre ⟨c, k⟩ post env K e ⟨xs, u, v, w, x, y, rfl, fd, hl, hall⟩ hK
      walk_at "ev"
      refine .inl ⟨_, rfl, ?_⟩
      try rw [cut_to]
      rw [← List.map_take]
      have hk : (c, k) ∈ spots.zipIdx := by rw [e]; simp
      have hkm := List.mem_zipIdx hk
      have hc : c ∈ spots := by rw [hkm.2.2]; exact List.getElem_mem _
      have ho : ∀ b ∈ spots.take k, b ∈ spots := fun b hb => List.mem_of_mem_take hb
      have hlp : pre.length < 1000 := by
        have := congrArg List.length e
        rw [List.length_zipIdx, List.length_append, List.length_cons] at this
        have := ok.cl
        omega
      have hlk : (spots.take k).length ≤ 1000 := by
        rw [List.length_take]
        have := ok.cl
        omega
      refine forL_inv _ (fun pre2 env => ∃ xs u v w, env = [some (.fr (encR r)), some (.fr (.int (i : Nat))), some (.fr (.list (spots.map encP))), some (.dct (xs.map kq)), u, v, w, some (.fr (.int (k : Nat))), some (.fr (encP c))] ∧ FdOk r i spots xs ∧ xs.length ≤ 2 + 1000 * pre.length + pre2.length ∧
        (∀ c ∈ pre, ∀ b ∈ spots.take c.2, ∀ t, crossT r i c.1 b = some t → 0 < t → t < 1 → t ∈ xs) ∧ ∀ b ∈ pre2, ∀ t, crossT r i c b = some t → 0 < t → t < 1 → t ∈ xs) (spots.take k) ?_ ⟨xs, _, _, _, rfl, fd, by simpa using hl, hall, fun _ h => nomatch h⟩ ?_
      · rintro pre2 o post2 env K2 e2 ⟨xs, u, v, w, rfl, fd, hl, hall, hall2⟩ hK2
        have hom : o ∈ spots := ho o (by rw [e2]; simp)
        have hl2 : pre2.length < 1000 := by
          have := congrArg List.length e2
          rw [List.length_append, List.length_cons] at this
          omega
        walk_at "ev"
        have cc := ok.cs c hc
        refine ⟨by omega, hi, ⟨cc.x.mono (by decide), cc.y, ok.cs o hom, ok.cr.at (by omega), ok.cr.at hi⟩, ?_⟩
        cases ec : crossP c o (at_ r i) (at_ r (i + 1)) with
        | none =>
          have eT : crossT r i c o = none := by simp [crossT, ec]
          simp only [encOP]
          walk_at "ev"
          refine hK2 _ ⟨xs, _, _, _, rfl, fd, by simp; omega, hall, fun b hb t et => ?_⟩
          rcases List.mem_append.mp hb with hb | hb
          · exact hall2 b hb t et
          · have : b = o := by simpa using hb
            subst this; rw [eT] at et; cases et
        | some p =>
          have eT : crossT r i c o = some (share r i p) := by simp [crossT, ec]
          obtain ⟨b1, b2⟩ := share_b ok.cr hi cc (ok.cs o hom) ec
          have dx := ok.dx
          simp only [encOP]
          walk_at "ev"
          have skip : ¬ (0 < share r i p ∧ share r i p < 1) → ∀ b ∈ pre2 ++ [o], ∀ t, crossT r i c b = some t → 0 < t → t < 1 → t ∈ xs := fun hn b hb t et h0 h1 => by
            rcases List.mem_append.mp hb with hb | hb
            · exact hall2 b hb t et h0 h1
            · have : b = o := by simpa using hb
              subst this; rw [eT] at et; cases et; exact absurd ⟨h0, h1⟩ hn
          refine ⟨⟨ok.cr, hi, by grind, b1.mono (by decide)⟩, two, ⟨Sm0, b2.mono (by decide)⟩, ?_⟩
          split
          · rename_i h0
            refine ⟨two, ⟨b2.mono (by decide), (Bn 4400 (by decide)).2.1⟩, ?_⟩
            split
            · rename_i h1
              refine ⟨kq (share r i p), rfl, by rw [List.length_map]; omega, ?_⟩
              rw [putL_q]
              have pl := @putQ_len xs (share r i p)
              refine hK2 _ ⟨putQ xs (share r i p), _, _, _, rfl, fd.put hc hom eT h0 h1 b2, by simp; omega, fun c' hc' b hb t et q0 q1 => putQ_mem.mpr (.inl (hall c' hc' b hb t et q0 q1)), fun b hb t et q0 q1 => ?_⟩
              rcases List.mem_append.mp hb with hb | hb
              · exact putQ_mem.mpr (.inl (hall2 b hb t et q0 q1))
              · have : b = o := by simpa using hb
                subst this; rw [eT] at et; cases et; exact putQ_mem.mpr (.inr rfl)
            · rename_i h1
              exact hK2 _ ⟨xs, _, _, _, rfl, fd, by simp; omega, hall, skip fun z => h1 z.2⟩
          · rename_i h0
            exact hK2 _ ⟨xs, _, _, _, rfl, fd, by simp; omega, hall, skip fun z => h0 z.1⟩
      · rintro env ⟨xs, u, v, w, rfl, fd, hl, hall, hall2⟩
        refine hK _ ⟨xs, _, _, _, _, _, rfl, fd, ?_, ?_⟩
        · rw [List.length_append]; simp; omega
        · intro c' hc' b hb t et h0 h1
          rcases List.mem_append.mp hc' with hc' | hc'
          · exact hall c' hc' b hb t et h0 h1
          · have : c' = (c, k) := by simpa using hc'
            subst this; exact hall2 b hb t et h0 h1
    · refine ⟨by decide, ?_, ?_, by simp, by simp, ?_⟩
      · intro t ht
        have : t = 0 ∨ t = 1 := by simpa using ht
        rcases this with rfl | rfl <;> constructor <;> grind
      · intro t ht
        have : t = 0 ∨ t = 1 := by simpa using ht
        rcases this with rfl | rfl
        · exact (Bn 920 (by decide)).1
        · exact (Bn 920 (by decide)).2.1
      · intro t ht
        have : t = 0 ∨ t = 1 := by simpa using ht
        rcases this with rfl | rfl
        · exact .inl rfl
        · exact .inr (.inl rfl)
    · rintro env ⟨xs, u, v, w, x, y, rfl, fd, hl, hall⟩
      walk_at "ev"
      rw [C_own_list, E_ascending_fractions]
      refine ⟨⟨fun t ht => (fd.sm t ht).mono (by decide), by rw [List.length_zipIdx] at hl; have := ok.cl; omega⟩, fun ys hp ho => ?_⟩
      walk_at "ev"
      refine ⟨lf_map lfQ ys, hP ys ⟨sorted_lt hp fd.nd ho, fun t ht => fd.rng t (hp.mem_iff.mp ht), hp.mem_iff.mpr fd.has0, hp.mem_iff.mpr fd.has1, ?_, fun t ht => fd.only t (hp.mem_iff.mp ht)⟩ (by rw [hp.length_eq]; rw [List.length_zipIdx] at hl; have := ok.cl; omega)⟩
      intro a ha b hb t et h0 h1
      refine hp.mem_iff.mpr ?_
      obtain ⟨ja, hja, ea⟩ := List.mem_iff_getElem.mp ha
      obtain ⟨jb, hjb, eb⟩ := List.mem_iff_getElem.mp hb
      have zm : ∀ (j : Nat) (h : j < spots.length), (spots[j], j) ∈ spots.zipIdx := fun j h => by
        rw [List.mk_mem_zipIdx_iff_getElem?, List.getElem?_eq_getElem h]
      have tm : ∀ (j j' : Nat) (h : j < spots.length), j < j' → spots[j] ∈ spots.take j' := fun j j' h hj =>
        List.mem_iff_getElem.mpr ⟨j, by rw [List.length_take]; omega, by rw [List.getElem_take]⟩
      rcases Nat.lt_trichotomy ja jb with q | q | q
      · refine hall _ (zm jb hjb) a (by rw [← ea]; exact tm ja jb hja q) t ?_ h0 h1
        rw [eb, crossT_symm ok.dx]; exact et
      · subst q
        rw [ea] at eb; subst eb
        rw [crossT_self] at et; cases et
      · refine hall _ (zm ja hja) b (by rw [← eb]; exact tm jb ja hjb q) t ?_ h0 h1
        rw [ea]; exact et
end DL
end
section
set_option maxRecDepth 100000
set_option maxHeartbeats 1000000
set_option exponentiation.threshold 10
namespace DL
open PySem PySem.Spec PyProof.Rows L2 RM
local macro_rules | `(tactic| walk_at "bsyn") => `(tactic| first | assumption | exact B.add (by walk_at "bsyn") (by walk_at "bsyn") | exact B.sub (by walk_at "bsyn") (by walk_at "bsyn") | exact B.mul (by walk_at "bsyn") (by walk_at "bsyn") | exact B.div (by walk_at "bsyn") (by walk_at "bsyn") | exact B.neg (by walk_at "bsyn"))
local macro_rules | `(tactic| walk_at "bb") => `(tactic| exact B.mono (by walk_at "bsyn") (by decide))
def OnG (M : Int) (m : Nat) (v : Rat) : Prop := ∃ n : Int, v * (M : Rat) = (n : Rat) ∧ n.natAbs < 2 ^ m
structure Grd (m : Nat) (r : Ridge) (h : Rat) : Prop where
  g : ∃ M : Int, M ≠ 0 ∧ M.natAbs < 2 ^ m ∧ OnG M m h ∧ ∀ c ∈ r, OnG M m c.1 ∧ OnG M m c.2
theorem B.of_eq {k : Nat} {u e : Int} {x : Rat} (he : e ≠ 0) (hx : x * (e : Rat) = (u : Rat)) (h1 : u.natAbs < 2 ^ k) (h2 : e.natAbs < 2 ^ k) : B k x := by
  have he' : (e : Rat) ≠ 0 := by
    intro z
    exact he (by exact_mod_cast z)
  have : x = Rat.divInt u e := by
    rw [Rat.divInt_eq_div, ← hx]
    grind
  rw [this]
  exact .of_div he h1 h2
theorem num_den (x : Rat) : x * ((x.den : Int) : Rat) = (x.num : Rat) := by
  have := Rat.num_divInt_den x
  rw [Rat.divInt_eq_div] at this
  have d1 : ((x.den : Int) : Rat) ≠ 0 := by
    intro h
    have := x.den_nz
    have : (x.den : Int) = 0 := by exact_mod_cast h
    omega
  generalize ((x.den : Int) : Rat) = d at *
  generalize (x.num : Rat) = n at *
  subst this
  grind
theorem ab_sub {a b : Int} {j : Nat} (ha : a.natAbs < 2 ^ j) (hb : b.natAbs < 2 ^ j) : (a - b).natAbs < 2 ^ (j + 1) := by
  rw [Nat.pow_succ]; omega
theorem ab_add {a b : Int} {j : Nat} (ha : a.natAbs < 2 ^ j) (hb : b.natAbs < 2 ^ j) : (a + b).natAbs < 2 ^ (j + 1) := by
  rw [Nat.pow_succ]; omega
theorem ab_mul {a b : Int} {j k : Nat} (ha : a.natAbs < 2 ^ j) (hb : b.natAbs < 2 ^ k) : (a * b).natAbs < 2 ^ (j + k) := by
  rw [Int.natAbs_mul]; exact mul_lt2 ha hb
theorem ab_le {a : Int} {j k : Nat} (ha : a.natAbs < 2 ^ j) (h : j ≤ k) : a.natAbs < 2 ^ k := Nat.lt_of_lt_of_le ha (Nat.pow_le_pow_right (by decide) h)
theorem crossT_bits {M : Int} {m k : Nat} {r : Ridge} {i : Nat} {c : Pt} {X h t : Rat} (hM : M ≠ 0) (gh : OnG M m h) (gc1 : OnG M m c.1) (gc2 : OnG M m c.2) (gp1 : OnG M m (at_ r i).1) (gp2 : OnG M m (at_ r i).2) (gq1 : OnG M m (at_ r (i + 1)).1) (gq2 : OnG M m (at_ r (i + 1)).2)
    (gM : M.natAbs < 2 ^ m) (dx : (at_ r i).1 < (at_ r (i + 1)).1) {u d : Int} (hd : d ≠ 0) (hX : X * (d : Rat) = (u : Rat)) (hu : u.natAbs < 2 ^ k) (hdk : d.natAbs < 2 ^ k) (e : crossT r i (X, h) c = some t) : B (k + 2 * m + 3) t := by
  obtain ⟨nh, eh, bh⟩ := gh
  obtain ⟨n1, e1, b1⟩ := gc1
  obtain ⟨n2, e2, b2⟩ := gc2
  obtain ⟨p1, ep1, bp1⟩ := gp1
  obtain ⟨p2, ep2, bp2⟩ := gp2
  obtain ⟨q1, eq1, bq1⟩ := gq1
  obtain ⟨q2, eq2, bq2⟩ := gq2
  have ne : turn (at_ r i) (at_ r (i + 1)) (X, h) ≠ turn (at_ r i) (at_ r (i + 1)) c := fun z => by
    rw [(crossT_none dx).mpr z] at e; cases e
  have e0 := (crossT_some dx e).1
  let N : Int := (u * M - n1 * d) * (p2 - n2) - (nh - n2) * d * (p1 - n1)
  let D : Int := (nh - n2) * d * (q1 - p1) - (u * M - n1 * d) * (q2 - p2)
  have hN : (turn c (X, h) (at_ r i)) * ((M : Rat) * M * d) = (N : Rat) := by
    have : (N : Rat) = ((u : Rat) * M - n1 * d) * ((p2 : Rat) - n2) - ((nh : Rat) - n2) * d * ((p1 : Rat) - n1) := by push_cast [N]; rfl
    rw [this]
    unfold turn
    rw [← hX, ← e1, ← e2, ← ep1, ← ep2, ← eh]
    grind
  have hD : (turn (at_ r i) (at_ r (i + 1)) (X, h) - turn (at_ r i) (at_ r (i + 1)) c) * ((M : Rat) * M * d) = (D : Rat) := by
    have : (D : Rat) = ((nh : Rat) - n2) * d * ((q1 : Rat) - p1) - ((u : Rat) * M - n1 * d) * ((q2 : Rat) - p2) := by push_cast [D]; rfl
    rw [this]
    unfold turn
    rw [← hX, ← e1, ← e2, ← ep1, ← ep2, ← eh, ← eq1, ← eq2]
    grind
  have hM' : (M : Rat) ≠ 0 := by
    intro z; exact hM (by exact_mod_cast z)
  have hd' : (d : Rat) ≠ 0 := by
    intro z; exact hd (by exact_mod_cast z)
  have hD0 : D ≠ 0 := by
    intro z
    rw [z] at hD
    have : (turn (at_ r i) (at_ r (i + 1)) (X, h) - turn (at_ r i) (at_ r (i + 1)) c) * ((M : Rat) * M * d) = 0 := by rw [hD]; rfl
    rcases Rat.mul_eq_zero.mp this with q | q
    · exact ne (by grind)
    · rcases Rat.mul_eq_zero.mp q with q | q
      · rcases Rat.mul_eq_zero.mp q with q | q <;> exact hM' q
      · exact hd' q
  have key : t * (D : Rat) = (N : Rat) := by
    rw [← hD, ← hN]
    have : t * (turn (at_ r i) (at_ r (i + 1)) (X, h) - turn (at_ r i) (at_ r (i + 1)) c) = turn c (X, h) (at_ r i) := by
      unfold turn spotOf spotB at *
      grind
    rw [← this]
    grind
  have f1 : (u * M - n1 * d).natAbs < 2 ^ (k + m + 1) := ab_sub (ab_mul hu gM) (by have := ab_mul b1 hdk; rw [Nat.add_comm] at this; exact this)
  have f2 : ((nh - n2) * d).natAbs < 2 ^ (k + m + 1) := by
    have := ab_mul (ab_sub bh b2) hdk
    exact ab_le this (by omega)
  refine .of_eq hD0 key ?_ ?_
  · exact ab_le (ab_sub (ab_mul f1 (ab_sub bp2 b2)) (ab_mul f2 (ab_sub bp1 b1))) (by omega)
  · exact ab_le (ab_sub (ab_mul f2 (ab_sub bq1 bp1)) (ab_mul f1 (ab_sub bq2 bp2))) (by omega)
theorem place_bits {M : Int} {m k : Nat} {p q c : Pt} {h t : Rat} (hM : M ≠ 0) (gM : M.natAbs < 2 ^ m) (gh : OnG M m h) (gc1 : OnG M m c.1) (gc2 : OnG M m c.2) (gp1 : OnG M m p.1) (gp2 : OnG M m p.2) (gq1 : OnG M m q.1) (gq2 : OnG M m q.2)
    (ht : B k t) (ne : c.2 - (spotB p q t).2 ≠ 0) : B (k + 2 * m + 4) (place (spotB p q t) c h) := by
  obtain ⟨nh, eh, bh⟩ := gh
  obtain ⟨n1, e1, b1⟩ := gc1
  obtain ⟨n2, e2, b2⟩ := gc2
  obtain ⟨p1, ep1, bp1⟩ := gp1
  obtain ⟨p2, ep2, bp2⟩ := gp2
  obtain ⟨q1, eq1, bq1⟩ := gq1
  obtain ⟨q2, eq2, bq2⟩ := gq2
  have et := num_den t
  have hd : (t.den : Int) ≠ 0 := by have := t.den_nz; omega
  have bd : ((t.den : Int)).natAbs < 2 ^ k := by simpa using ht.2
  have bu := ht.1
  generalize (t.den : Int) = d at *
  generalize t.num = u at *
  let s1 : Int := p1 * d + u * (q1 - p1)
  let s2 : Int := p2 * d + u * (q2 - p2)
  have es1 : (spotB p q t).1 * ((M : Rat) * d) = (s1 : Rat) := by
    have : (s1 : Rat) = (p1 : Rat) * d + u * ((q1 : Rat) - p1) := by push_cast [s1]; rfl
    rw [this, ← et, ← ep1, ← eq1]; unfold spotB; grind
  have es2 : (spotB p q t).2 * ((M : Rat) * d) = (s2 : Rat) := by
    have : (s2 : Rat) = (p2 : Rat) * d + u * ((q2 : Rat) - p2) := by push_cast [s2]; rfl
    rw [this, ← et, ← ep2, ← eq2]; unfold spotB; grind
  have bs1 : (s1 - n1 * d).natAbs < 2 ^ (k + m + 2) := by
    have : s1 - n1 * d = (p1 - n1) * d + u * (q1 - p1) := by show p1 * d + u * (q1 - p1) - n1 * d = _; grind
    rw [this]
    refine ab_le (ab_add (ab_le (ab_mul (ab_sub bp1 b1) bd) (show m + 1 + k ≤ k + m + 1 by omega)) (ab_le (ab_mul bu (ab_sub bq1 bp1)) (show k + (m + 1) ≤ k + m + 1 by omega))) (by omega)
  have bs2 : (s2 - n2 * d).natAbs < 2 ^ (k + m + 2) := by
    have : s2 - n2 * d = (p2 - n2) * d + u * (q2 - p2) := by show p2 * d + u * (q2 - p2) - n2 * d = _; grind
    rw [this]
    refine ab_le (ab_add (ab_le (ab_mul (ab_sub bp2 b2) bd) (show m + 1 + k ≤ k + m + 1 by omega)) (ab_le (ab_mul bu (ab_sub bq2 bp2)) (show k + (m + 1) ≤ k + m + 1 by omega))) (by omega)
  have hM' : (M : Rat) ≠ 0 := by
    intro z; exact hM (by exact_mod_cast z)
  have hd' : (d : Rat) ≠ 0 := by
    intro z; exact hd (by exact_mod_cast z)
  let N : Int := n1 * (s2 - n2 * d) + (nh - n2) * (s1 - n1 * d)
  let D : Int := M * (s2 - n2 * d)
  have eT := place_turn (s := spotB p q t) (c := c) (h := h) (X := place (spotB p q t) c h) ne
  generalize place (spotB p q t) c h = X at *
  generalize spotB p q t = s at *
  have eT' : turn c (X, h) s = 0 := by grind
  have h1 : (D : Rat) = (M : Rat) * ((s2 : Rat) - n2 * d) := by push_cast [D]; rfl
  have h2 : (N : Rat) = (n1 : Rat) * ((s2 : Rat) - n2 * d) + ((nh : Rat) - n2) * ((s1 : Rat) - n1 * d) := by push_cast [N]; rfl
  have key : X * (D : Rat) = (N : Rat) := by
    rw [h1, h2, ← es1, ← es2, ← e1, ← e2, ← eh]
    unfold turn at eT'
    grind
  have hD0 : D ≠ 0 := by
    intro z
    have z' : (D : Rat) = 0 := by rw [z]; rfl
    rw [h1, ← es2, ← e2] at z'
    have : (M : Rat) * (M * (d * (c.2 - s.2))) = 0 := by grind
    rcases Rat.mul_eq_zero.mp this with q | this
    · exact hM' q
    · rcases Rat.mul_eq_zero.mp this with q | this
      · exact hM' q
      · rcases Rat.mul_eq_zero.mp this with q | this
        · exact hd' q
        · exact ne this
  refine .of_eq hD0 key ?_ ?_
  · exact ab_add (ab_le (ab_mul b1 bs2) (show m + (k + m + 2) ≤ k + 2 * m + 3 by omega)) (ab_le (ab_mul (ab_sub bh b2) bs1) (show m + 1 + (k + m + 2) ≤ k + 2 * m + 3 by omega))
  · exact ab_le (ab_mul gM bs2) (by omega)
structure Wd (r : Ridge) (h : Rat) : Prop where
  good : Good r h
  len : r.length ≤ 1000
  grd : ∃ m, Grd m r h ∧ m ≤ 30 ∧ 200 + r.length * (4 * m + 7) ≤ 900
theorem OnG.b {M : Int} {m : Nat} {v : Rat} (hM : M ≠ 0) (gM : M.natAbs < 2 ^ m) (g : OnG M m v) : B m v := by
  obtain ⟨n, e, b⟩ := g
  exact .of_eq hM e b gM
section
variable {r : Ridge} {h : Rat} {i k : Nat} {t X : Rat}
theorem Grd.cr {m : Nat} (g : Grd m r h) (hm : m ≤ 30) : Cr r := fun p hp => by
  obtain ⟨M, hM, gM, gh, gc⟩ := g.g
  exact ⟨((gc p hp).1.b hM gM).mono hm, ((gc p hp).2.b hM gM).mono hm⟩
theorem Grd.ch {m : Nat} (g : Grd m r h) (hm : m ≤ 30) : Cb h := by
  obtain ⟨M, hM, gM, gh, gc⟩ := g.g
  exact (gh.b hM gM).mono hm
theorem Wd.cr (w : Wd r h) : Cr r := let ⟨_, g, hm, _⟩ := w.grd; g.cr hm
theorem Wd.ch (w : Wd r h) : Cb h := let ⟨_, g, hm, _⟩ := w.grd; g.ch hm
theorem Wd.sg (w : Wd r h) (hi : i + 1 < r.length) (ht : Tb t) : SgOk r h i t := ⟨w.cr, w.ch, hi, ht, w.len⟩
theorem spots_on {M : Int} {m : Nat} (gh : OnG M m h) (gc : ∀ c ∈ r, OnG M m c.1 ∧ OnG M m c.2) (hi : i + 1 < r.length) : ∀ c, c ∈ spotsL r h i ∨ c ∈ spotsR r h i → OnG M m c.1 ∧ OnG M m c.2 := by
  rintro c (hc | hc)
  · rcases List.mem_append.mp hc with hc | hc
    · exact gc c (List.mem_of_mem_take hc)
    · have : c = ((at_ r 0).1, h) := by simpa using hc
      subst this; exact ⟨(gc _ (at_mem (by omega))).1, gh⟩
  · rcases List.mem_append.mp hc with hc | hc
    · exact gc c (List.mem_of_mem_drop hc)
    · have : c = ((at_ r (r.length - 1)).1, h) := by simpa using hc
      subst this; exact ⟨(gc _ (at_mem (by omega))).1, gh⟩
theorem Wd.ts_bits (w : Wd r h) (hi : i + 1 < r.length) {spots : List Pt} (hs : ∀ c ∈ spots, c ∈ spotsL r h i ∨ c ∈ spotsR r h i) {ts : List Rat} (ok : TSp r i spots ts) : ∀ t ∈ ts, B 93 t := fun t ht => by
  obtain ⟨m, g, hm, _⟩ := w.grd
  obtain ⟨M, hM, gM, gh, gc⟩ := g.g
  rcases ok.only t ht with rfl | rfl | ⟨a, ha, b, hb, e⟩
  · exact (Bn 93 (by decide)).1
  · exact (Bn 93 (by decide)).2.1
  · have ga := spots_on gh gc hi a (hs a ha)
    have gb := spots_on gh gc hi b (hs b hb)
    have gp := gc _ (at_mem (show i < r.length by omega))
    have gq := gc _ (at_mem hi)
    obtain ⟨n, en, bn⟩ := ga.1
    have := crossT_bits (X := a.1) (h := a.2) hM ga.2 gb.1 gb.2 gp.1 gp.2 gq.1 gq.2 gM (w.good.lt (by omega) hi) hM en bn gM e
    exact this.mono (by omega)
theorem Wd.over_bits (w : Wd r h) (hi : i + 1 < r.length) (hk : k < r.length) {m j : Nat} (g : Grd m r h) (hX : B j X) (e : crossT r i (X, h) (at_ r k) = some t) : B (j + 2 * m + 3) t := by
  obtain ⟨M, hM, gM, gh, gc⟩ := g.g
  have gp := gc _ (at_mem (show i < r.length by omega))
  have gq := gc _ (at_mem hi)
  have gk := gc _ (at_mem hk)
  exact crossT_bits hM gh gk.1 gk.2 gp.1 gp.2 gq.1 gq.2 gM (w.good.lt (by omega) hi) (by have := X.den_nz; omega) (num_den X) hX.1 (by simpa using hX.2) e
theorem Wd.reach_bits (w : Wd r h) (hi : i + 1 < r.length) {m j : Nat} (g : Grd m r h) (hj : 1 < j) (ht : B j t) : B (j + 2 * m + 4) (slopeL r h i t) ∧ B (j + 2 * m + 4) (slopeR r h i t) := by
  obtain ⟨M, hM, gM, gh, gc⟩ := g.g
  have gp := gc _ (at_mem (show i < r.length by omega))
  have gq := gc _ (at_mem hi)
  have pb : ∀ k, k < r.length → (spotOf r i t).2 < (at_ r k).2 → B (j + 2 * m + 4) (place (spotOf r i t) (at_ r k) h) := fun k hk hy => by
    have gk := gc _ (at_mem hk)
    exact place_bits hM gM gh gk.1 gk.2 gp.1 gp.2 gq.1 gq.2 ht (by show (at_ r k).2 - (spotOf r i t).2 ≠ 0; grind)
  have ob : (at_ r (i + 1)).2 ≠ (at_ r i).2 → B (j + 2 * m + 4) (own r h i) := fun ne => by
    have e0 : spotB (at_ r i) (at_ r (i + 1)) 0 = at_ r i := by unfold spotB; simp [Rat.add_zero]
    have := place_bits (t := 0) (k := j) hM gM gh gq.1 gq.2 gp.1 gp.2 gq.1 gq.2 (Bn j hj).1 (by rw [e0]; grind)
    rw [e0] at this
    exact this
  have fb : ∀ k, k < r.length → B (j + 2 * m + 4) (at_ r k).1 := fun k hk => ((gc _ (at_mem hk)).1.b hM gM).mono (by omega)
  have rl : B (j + 2 * m + 4) (reachL r h (spotOf r i t)) := max_sm (p := B _) (fb 0 (by omega)) fun y hy => by
    obtain ⟨c, hc, rfl⟩ := List.mem_map.mp hy
    obtain ⟨h1, h2, h3, h4⟩ := mem_lefts.mp hc
    rw [h4]; exact pb _ h1 h2
  have rr : B (j + 2 * m + 4) (reachR r h (spotOf r i t)) := min_sm (p := B _) (fb _ (by omega)) fun y hy => by
    obtain ⟨c, hc, rfl⟩ := List.mem_map.mp hy
    obtain ⟨h1, h2, h3, h4⟩ := mem_rights.mp hc
    rw [h4]; exact pb _ h1 h2
  constructor
  · unfold slopeL
    split
    · rename_i d
      exact max_sm (p := B _) rl fun y hy => by
        have : y = own r h i := by simpa using hy
        subst this; exact ob (by grind)
    · exact rl
  · unfold slopeR
    split
    · rename_i d
      exact min_sm (p := B _) rr fun y hy => by
        have : y = own r h i := by simpa using hy
        subst this; exact ob (by grind)
    · exact rr
end
def Pcs (side : Nat) (r : Ridge) (h : Rat) (i : Nat) : Rat → Rat → Option Nat → Prop := if side = 0 then PcL r h i else PcR r h i
def spotsS (side : Nat) (r : Ridge) (h : Rat) (i : Nat) : List Pt := if side = 0 then spotsL r h i else spotsR r h i
def encPc (p : Rat × Rat × Option Nat) : D := .tuple [encQ p.1, encQ p.2.1, encON p.2.2]
def C_pieces_by : DC := fun ds P => ∃ (r : Ridge) (h : Rat) (i : Nat) (ts : List Rat) (side : Nat), ds = [encR r, encQ h, .int (i : Nat), .list (ts.map encQ), .int (side : Nat)] ∧ (Wd r h ∧ i + 1 < r.length ∧ side ≤ 1 ∧ TSp r i (spotsS side r h i) ts ∧ ts.length ≤ 2000000) ∧
  ∀ ps, Chain (Pcs side r h i) 0 ps 1 → (∀ p ∈ ps, B 93 p.1 ∧ B 93 p.2.1) → ps.length ≤ ts.length → P (.fr (.tuple (ps.map encPc)))
local macro_rules | `(tactic| walk_at "ev") => `(tactic| simp only [dSeq, dNext, dBreak, dCont, dRet, dRetVar, dRetN, dIfS, dSet, dAsg, dPar2, dPar3, dAug, dMeth, dVar, dC, dBin, dUn, dChain, dTest, dAnd, dOr, dNot, dAndV, dOrV, dNotV, dIf, dNil, dCons, dTup, dLst, dCB, dCall, dItems, dItemsF, dFor, dLc, dYes, dStar, dSetIx, dPopIx, dEnum, dZip, dDict, dPut, dKeys, dRev, dIsTuple, dIsInt, dIsBool, dIsTy, dNoPart, dPart, dSl, dTruth, dLc2, dIr1, dIr2, dSrc, dSrcPut, dCells, dDrain, oI, oIC, oIB, oNeg, oAdd, oIsN, oNotN, cLen, cTuple, cList, cAbs, cInt, TV.view, TV.fz, TV.sv, TV.items, TV.fixd, TV.itm, TV.asD, isN_n, isN_P, isN_Q, isN_t, isN_i, TV.res, TV.isOwn, TV.isDct, fzs, frz, startE, wipeE, fApp, fIns, isT, oLt, oLe, oGt, oGe, oSub, oMul, oDiv, oMod, oMulK, List.map_cons, List.map_nil, List.length_cons, List.length_nil, List.cons_append, List.nil_append, List.getElem?_cons_succ, List.getElem?_cons_zero, List.set_cons_succ, List.set_cons_zero, List.replicate, Nat.reduceAdd, Nat.reduceSub, Nat.zero_add, List.cons.injEq, Option.some.injEq, exists_eq_left', exists_eq_left, exists_and_left, TV.fr.injEq, PyData.bool.injEq, PyData.int.injEq, dgN, dgNil, dgCons, dgT, true_and, and_true, reduceCtorEq, false_and, and_false, ↓reduceIte, if_true, if_false, Bool.not_true, Bool.not_false, decide_eq_true_eq, Bool.false_eq_true, cmp_lt, cmp_gt, cmp_le, cmp_ge, cmp_eq, gt_iff_lt, ge_iff_le, E_added, E_lessened, E_multiplied, E_divided, E_compared, E_between, ix_t0, ix_t1, ix_t2, ix_t3, ix_P0, ix_P1, ix_R, ix_R0, ix_R1, ix_Rl, E_turned_by, E_place_at, E_spot_between, E_crossing, E_slopes_of, E_spot_of, E_line_of, E_is_under, E_share_on_slope, oEq_int, oNe_int, oEq_Q, oNe_Q, E_own_sight, E_sight_places, E_reach, E_bar_corners, E_slope_reach, E_greatest2, E_least2, E_greatest, E_least, lit0, lit1, lit2, cut_to, cut_from1, cut_from2, E_ascending_fractions])
end DL
end
section
set_option maxRecDepth 100000
set_option maxHeartbeats 1000000
set_option exponentiation.threshold 10
namespace DL
open PySem PySem.Spec PyProof.Rows L2 RM
local macro_rules | `(tactic| walk_at "bsyn") => `(tactic| first | assumption | exact B.add (by walk_at "bsyn") (by walk_at "bsyn") | exact B.sub (by walk_at "bsyn") (by walk_at "bsyn") | exact B.mul (by walk_at "bsyn") (by walk_at "bsyn") | exact B.div (by walk_at "bsyn") (by walk_at "bsyn") | exact B.neg (by walk_at "bsyn"))
local macro_rules | `(tactic| walk_at "bb") => `(tactic| exact B.mono (by walk_at "bsyn") (by decide))
def d_pieces_by : DSt := (dSeq (dSet true 5 (dLst dNil))
  (dSeq (dFor (dZip true (dCons (dVar 3) (dCons (dSl (dVar 3) (dPart (dC (.int 1))) dNoPart) dNil))) (dgT 2 (dgCons (dgN 8) (dgCons (dgN 9) dgNil))) (dSeq (dSet false 6 (dCall C_divided (dCons (dCall C_added (dCons (dVar 8) (dCons (dVar 9) dNil))) (dCons (dTup (dCons (dC (.int 2)) (dCons (dC (.int 1)) dNil))) dNil))))
  (dSeq (dSet false 7 (dBin oIx (dCall C_bar_corners (dCons (dVar 0) (dCons (dVar 1) (dCons (dTup (dCons (dVar 2) (dCons (dVar 6) dNil))) dNil)))) (dVar 4)))
  (dIfS (dAnd (dTruth (dVar 5)) (dTest (dBin oEq (dBin oIx (dBin oIx (dVar 5) (dUn oNeg (dC (.int 1)))) (dC (.int 2))) (dVar 7)))) (dSetIx 5 (dTup (dCons (dBin oIx (dBin oIx (dVar 5) (dUn oNeg (dC (.int 1)))) (dC (.int 0))) (dCons (dVar 9) (dCons (dVar 7) dNil)))) (dUn oNeg (dC (.int 1)))) (dMeth 5 (dCons (dTup (dCons (dVar 8) (dCons (dVar 9) (dCons (dVar 7) dNil)))) dNil) fApp)))))
  (dRet (dCB cTuple (dCons (dVar 5) dNil)))))
theorem encON_inj {o o' : Option Nat} (h : encON o = encON o') : o = o' := by
  cases o <;> cases o' <;> simp [encON] at h ⊢
  omega
theorem encON_eq {o o' : Option Nat} : encON o = encON o' ↔ o = o' := ⟨encON_inj, fun h => by rw [h]⟩
theorem pl_ON (o : Option Nat) : pl 20 (encON o) = true := by cases o <;> rfl
theorem oEq_ON {o o' : Option Nat} {P : TV → Prop} : oEq (.fr (encON o)) (.fr (encON o')) P = P (.fr (.bool (decide (o = o')))) := by
  unfold oEq
  by_cases h : o = o' <;> simp [TV.asD, pl_ON, encON_eq, h]
theorem ix_pair {a b : D} {side : Nat} (hs : side ≤ 1) {P : TV → Prop} : oIx (.fr (.tuple [a, b])) (.fr (.int (side : Nat))) P = P (.fr (if side = 0 then a else b)) := by
  rcases Nat.le_one_iff_eq_zero_or_eq_one.mp hs with rfl | rfl
  · exact ix_t0
  · exact ix_t1
theorem zip_pairs {α : Type} (f : α → D) : ∀ ts : List α, dZp (ts.map f) ((ts.map f).drop 1) = (ts.zip (ts.drop 1)).map fun c => .tuple [f c.1, f c.2]
  | [] => rfl
  | [a] => rfl
  | a :: b :: ts => by
    have := zip_pairs f (b :: ts)
    simp only [List.map_cons, List.drop_succ_cons, List.drop_zero] at this ⊢
    simp only [dZp, List.zip_cons_cons, List.map_cons, this]
theorem zip_split {ts : List Rat} (asc : ts.Pairwise (· < ·)) {pre post : List (Rat × Rat)} {a b : Rat} (e : ts.zip (ts.drop 1) = pre ++ (a, b) :: post) :
    a ∈ ts ∧ b ∈ ts ∧ a < b ∧ (∀ t ∈ ts, a < t → t < b → False) ∧ ts[pre.length]? = some a ∧ ts[pre.length + 1]? = some b := by
  have g : (ts.zip (ts.drop 1))[pre.length]? = some (a, b) := by rw [e]; simp
  rw [List.getElem?_zip_eq_some] at g
  obtain ⟨g1, g2⟩ := g
  have g1 : ts[pre.length]? = some a := g1
  rw [List.getElem?_drop] at g2
  have g2 : ts[pre.length + 1]? = some b := by rw [Nat.add_comm]; exact g2
  obtain ⟨l1, e1⟩ := List.getElem?_eq_some_iff.mp g1
  obtain ⟨l2, e2⟩ := List.getElem?_eq_some_iff.mp g2
  refine ⟨by rw [← e1]; exact List.getElem_mem _, by rw [← e2]; exact List.getElem_mem _, ?_, fun t ht h1 h2 => ?_, g1, g2⟩
  · have := List.pairwise_iff_getElem.mp asc pre.length (pre.length + 1) l1 l2 (by omega)
    rw [e1, e2] at this; exact this
  · obtain ⟨j, hj, ej⟩ := List.mem_iff_getElem.mp ht
    rcases Nat.lt_trichotomy j pre.length with q | q | q
    · have := List.pairwise_iff_getElem.mp asc j pre.length hj l1 q
      rw [ej, e1] at this; grind
    · subst q; rw [ej] at e1; grind
    · by_cases q2 : j = pre.length + 1
      · subst q2; rw [ej] at e2; grind
      · have := List.pairwise_iff_getElem.mp asc (pre.length + 1) j l2 hj (by omega)
        rw [ej, e2] at this; grind
theorem pcs_mid {r : Ridge} {h : Rat} {i side : Nat} {ts : List Rat} (w : Wd r h) (hi : i + 1 < r.length) (hs : side ≤ 1) (ok : TSp r i (spotsS side r h i) ts) {a b : Rat} (ha : a ∈ ts) (hb : b ∈ ts) (ab : a < b) (non : ∀ t ∈ ts, a < t → t < b → False)
    {o o' : Option Nat} (h1 : BarL r h (spotOf r i ((a + b) / 2)) o) (h2 : BarR r h (spotOf r i ((a + b) / 2)) o') : Pcs side r h i a b (if side = 0 then o else o') := by
  have a0 := (ok.rng a ha).1
  have b1 := (ok.rng b hb).2
  have m1 : a < (a + b) / 2 := by grind
  have m2 : (a + b) / 2 < b := by grind
  rcases Nat.le_one_iff_eq_zero_or_eq_one.mp hs with rfl | rfl
  · exact pc_left w.good hi (noin_L w.good hi ok ha hb non) a0 m1 m2 b1 h1
  · exact pc_right w.good hi (noin_R w.good hi ok ha hb non) a0 m1 m2 b1 h2
theorem pcs_join {r : Ridge} {h : Rat} {i side : Nat} (w : Wd r h) (hi : i + 1 < r.length) (hs : side ≤ 1) {a b c : Rat} {o : Option Nat} (h1 : Pcs side r h i a b o) (h2 : Pcs side r h i b c o) : Pcs side r h i a c o := by
  rcases Nat.le_one_iff_eq_zero_or_eq_one.mp hs with rfl | rfl
  · exact PcL.join w.good hi h1 h2
  · exact PcR.join w.good hi h1 h2
theorem spotsS_LR {r : Ridge} {h : Rat} {i side : Nat} (hs : side ≤ 1) : ∀ c ∈ spotsS side r h i, c ∈ spotsL r h i ∨ c ∈ spotsR r h i := fun c hc => by
  rcases Nat.le_one_iff_eq_zero_or_eq_one.mp hs with rfl | rfl
  · exact .inl hc
  · exact .inr hc
theorem ix_Pc0 {p : Rat × Rat × Option Nat} {P : TV → Prop} : oIx (.fr (encPc p)) (.fr (.int 0)) P = P (.fr (encQ p.1)) := ix_t0
theorem ix_Pc1 {p : Rat × Rat × Option Nat} {P : TV → Prop} : oIx (.fr (encPc p)) (.fr (.int 1)) P = P (.fr (encQ p.2.1)) := ix_t1
theorem ix_Pc2 {p : Rat × Rat × Option Nat} {P : TV → Prop} : oIx (.fr (encPc p)) (.fr (.int 2)) P = P (.fr (encON p.2.2)) := ix_t2
theorem ix_rdlast {l : List D} {d : D} {P : TV → Prop} : oIx (.rd (l ++ [d])) (.fr (.int (-1))) P = P (.fr d) := by
  have : atI (l ++ [d]) (-1) = some d := by rw [atI_last]; simp
  simp only [oIx, TV.items, this]
theorem ixN_last (n : Nat) : ixN (n + 1) (-1) = some n := by
  unfold ixN
  rw [if_neg (by decide), if_pos (by omega)]
  congr 1
  omega
theorem set_last {l : List D} {d e : D} : (l ++ [d]).set l.length e = l ++ [e] := by simp
local macro_rules | `(tactic| walk_at "ev") => `(tactic| simp only [dSeq, dNext, dBreak, dCont, dRet, dRetVar, dRetN, dIfS, dSet, dAsg, dPar2, dPar3, dAug, dMeth, dVar, dC, dBin, dUn, dChain, dTest, dAnd, dOr, dNot, dAndV, dOrV, dNotV, dIf, dNil, dCons, dTup, dLst, dCB, dCall, dItems, dItemsF, dFor, dLc, dYes, dStar, dSetIx, dPopIx, dEnum, dZip, dDict, dPut, dKeys, dRev, dIsTuple, dIsInt, dIsBool, dIsTy, dNoPart, dPart, dSl, dTruth, dLc2, dIr1, dIr2, dSrc, dSrcPut, dCells, dDrain, oI, oIC, oIB, oNeg, oAdd, oIsN, oNotN, cLen, cTuple, cList, cAbs, cInt, TV.view, TV.fz, TV.sv, TV.items, TV.fixd, TV.itm, TV.asD, isN_n, isN_P, isN_Q, isN_t, isN_i, TV.res, TV.isOwn, TV.isDct, fzs, frz, startE, wipeE, fApp, fIns, isT, oLt, oLe, oGt, oGe, oSub, oMul, oDiv, oMod, oMulK, List.map_cons, List.map_nil, List.length_cons, List.length_nil, List.cons_append, List.nil_append, List.getElem?_cons_succ, List.getElem?_cons_zero, List.set_cons_succ, List.set_cons_zero, List.replicate, Nat.reduceAdd, Nat.reduceSub, Nat.zero_add, List.cons.injEq, Option.some.injEq, exists_eq_left', exists_eq_left, exists_and_left, TV.fr.injEq, PyData.bool.injEq, PyData.int.injEq, dgN, dgNil, dgCons, dgT, true_and, and_true, reduceCtorEq, false_and, and_false, ↓reduceIte, if_true, if_false, Bool.not_true, Bool.not_false, decide_eq_true_eq, Bool.false_eq_true, cmp_lt, cmp_gt, cmp_le, cmp_ge, cmp_eq, gt_iff_lt, ge_iff_le, E_added, E_lessened, E_multiplied, E_divided, E_compared, E_between, ix_t0, ix_t1, ix_t2, ix_t3, ix_P0, ix_P1, ix_R, ix_R0, ix_R1, ix_Rl, E_turned_by, E_place_at, E_spot_between, E_crossing, E_slopes_of, E_spot_of, E_line_of, E_is_under, E_share_on_slope, oEq_int, oNe_int, oEq_Q, oNe_Q, E_own_sight, E_sight_places, E_reach, E_bar_corners, E_slope_reach, E_greatest2, E_least2, E_greatest, E_least, lit0, lit1, lit2, cut_to, cut_from1, cut_from2, E_ascending_fractions, oEq_ON, ix_Pc0, ix_Pc1, ix_Pc2, ix_rdlast])
theorem sem_pieces_by : SemA C_pieces_by 10 5 d_pieces_by where
  len := by rintro ds P ⟨r, h, i, ts, side, rfl, _⟩; rfl
  sem := by
    rintro ds P ⟨r, h, i, ts, side, rfl, ⟨w, hi, hs, ok, htl⟩, hP⟩
    have hsz : sizeLine = 16777216 := sizeLine_eq
    have two : (2 : Nat) ≤ sizeLine := by decide
    have three : (3 : Nat) ≤ sizeLine := by decide
    have tb := w.ts_bits hi (spotsS_LR hs) ok
    have b2 := (Bn 93 (by decide)).2.2
    unfold d_pieces_by
    walk_at "ev"
    refine ⟨Nat.zero_le _, .inl ⟨_, rfl, _, _, ⟨rfl, rfl⟩, rfl, _, rfl, _, rfl, ?_⟩⟩
    rw [zip_pairs]
    have l0 : ts[0]? = some 0 := by
      obtain ⟨j, hj, ej⟩ := List.mem_iff_getElem.mp ok.has0
      rcases Nat.eq_zero_or_pos j with q | q
      · subst q; rw [List.getElem?_eq_getElem hj, ej]
      · have := List.pairwise_iff_getElem.mp ok.asc 0 j (by omega) hj q
        have := (ok.rng ts[0] (List.getElem_mem _)).1
        grind
    have l1 : ts[ts.length - 1]? = some 1 := by
      obtain ⟨j, hj, ej⟩ := List.mem_iff_getElem.mp ok.has1
      by_cases q : j = ts.length - 1
      · subst q; rw [List.getElem?_eq_getElem hj, ej]
      · have := List.pairwise_iff_getElem.mp ok.asc j (ts.length - 1) hj (by omega) (by omega)
        have := (ok.rng ts[ts.length - 1] (List.getElem_mem _)).2
        grind
    refine forL_inv _ (fun pre env => ∃ ps y u v w x, env = [some (.fr (encR r)), some (.fr (encQ h)), some (.fr (.int (i : Nat))), some (.fr (.list (ts.map encQ))), some (.fr (.int (side : Nat))), some (.own (ps.map encPc)), u, v, w, x] ∧ Chain (Pcs side r h i) 0 ps y ∧
      ts[pre.length]? = some y ∧ (∀ p ∈ ps, B 93 p.1 ∧ B 93 p.2.1) ∧ ps.length ≤ pre.length) (ts.zip (ts.drop 1)) ?_ ⟨[], 0, _, _, _, _, rfl, rfl, l0, (fun _ h => nomatch h), Nat.le_refl _⟩ ?_
    · rintro pre ⟨a, b⟩ post env K e ⟨ps, y, u, v, z, x, rfl, ch, hy, hb, hl⟩ hK
      obtain ⟨ha, hb', ab, non, g1, g2⟩ := zip_split ok.asc e
      have ey : y = a := by rw [g1] at hy; cases hy; rfl
      subst ey
      have ba := tb y ha
      have bb := tb b hb'
      have hlen : pre.length < ts.length := (List.getElem?_eq_some_iff.mp g1).1
      walk_at "ev"
      refine ⟨by walk_at "bb", by walk_at "bb", two, by walk_at "bb", by walk_at "bb", by decide, two, w.sg hi (by walk_at "bb"), fun o o' h1 h2 => ?_⟩
      rw [ix_pair hs]
      have pc := pcs_mid w hi hs ok ha hb' ab non h1 h2
      have eo : (if side = 0 then encON o else encON o') = encON (if side = 0 then o else o') := by split <;> rfl
      rw [eo]
      generalize (if side = 0 then o else o') = o at pc
      walk_at "ev"
      have app : (ps.map encPc ++ [PyData.tuple [encQ y, encQ b, encON o]]).length ≤ sizeLine ∧ ∀ u v z x, K [some (.fr (encR r)), some (.fr (encQ h)), some (.fr (.int (i : Nat))), some (.fr (.list (ts.map encQ))), some (.fr (.int (side : Nat))), some (.own (ps.map encPc ++ [PyData.tuple [encQ y, encQ b, encON o]])), u, v, z, x] := by
        refine ⟨by simp; omega, fun u v z x => hK _ ⟨ps ++ [(y, b, o)], b, u, v, z, x, by simp [encPc], ch.snoc ab pc, by simpa using g2, ?_, by simp; omega⟩⟩
        intro p hp
        rcases List.mem_append.mp hp with hp | hp
        · exact hb p hp
        · have : p = (y, b, o) := by simpa using hp
          subst this; exact ⟨ba, bb⟩
      rcases List.eq_nil_or_concat ps with e0 | ⟨qs, p, e0⟩
      · subst e0
        simp only [List.map_nil, List.isEmpty_nil, Bool.not_true, Bool.false_eq_true, if_false]
        exact ⟨three, app.1, app.2 _ _ _ _⟩
      · subst e0
        simp only [List.concat_eq_append, List.map_append, List.map_cons, List.map_nil] at app ⊢
        have e1 : (!(List.map encPc qs ++ [encPc p]).isEmpty) = true := by simp
        rw [if_pos e1]
        walk_at "ev"
        split
        · rename_i eo2
          subst eo2
          rw [show (List.map encPc qs ++ [encPc p]).length = (qs.map encPc).length + 1 by simp, ixN_last]
          simp only [set_last]
          refine ⟨three, hK _ ⟨qs ++ [(p.1, b, p.2.2)], b, _, _, _, _, by rw [List.map_append]; rfl, ?_, by simpa using g2, ?_, by simp at hl ⊢; omega⟩⟩
          · rw [List.concat_eq_append] at ch
            obtain ⟨y1, c1, c2⟩ := ch.split
            obtain ⟨d1, d2, d3, d4⟩ := c2
            have d4 : p.2.1 = y := d4
            subst d1
            exact c1.snoc (by grind) (pcs_join w hi hs d3 (by rw [d4]; exact pc))
          · intro p' hp'
            rcases List.mem_append.mp hp' with hp' | hp'
            · exact hb p' (by simp [hp'])
            · have : p' = (p.1, b, p.2.2) := by simpa using hp'
              subst this; exact ⟨(hb p (by simp)).1, bb⟩
        · exact ⟨three, app.1, app.2 _ _ _ _⟩
    · rintro env ⟨ps, y, u, v, z, x, rfl, ch, hy, hb, hl⟩
      walk_at "ev"
      have lz : (ts.zip (ts.drop 1)).length = ts.length - 1 := by rw [List.length_zip, List.length_drop]; omega
      rw [lz, l1] at hy
      cases hy
      refine ⟨lf_map (fun p => ?_) ps, hP ps ch hb (by omega)⟩
      obtain ⟨a, b, o⟩ := p
      cases o <;> rfl
end DL
end
section
set_option maxRecDepth 100000
set_option maxHeartbeats 1000000
set_option exponentiation.threshold 10
namespace DL
open PySem PySem.Spec PyProof.Rows L2 RM
local macro_rules | `(tactic| walk_at "bsyn") => `(tactic| first | assumption | exact B.add (by walk_at "bsyn") (by walk_at "bsyn") | exact B.sub (by walk_at "bsyn") (by walk_at "bsyn") | exact B.mul (by walk_at "bsyn") (by walk_at "bsyn") | exact B.div (by walk_at "bsyn") (by walk_at "bsyn") | exact B.neg (by walk_at "bsyn"))
local macro_rules | `(tactic| walk_at "bb") => `(tactic| exact B.mono (by walk_at "bsyn") (by decide))
def C_left_pieces : DC := fun ds P => ∃ (r : Ridge) (h : Rat) (i : Nat), ds = [encR r, encQ h, .int (i : Nat)] ∧ (Wd r h ∧ i + 1 < r.length) ∧ ∀ ps, Chain (PcL r h i) 0 ps 1 → (∀ p ∈ ps, B 93 p.1 ∧ B 93 p.2.1) → ps.length ≤ 2000000 → P (.fr (.tuple (ps.map encPc)))
def C_right_pieces : DC := fun ds P => ∃ (r : Ridge) (h : Rat) (i : Nat), ds = [encR r, encQ h, .int (i : Nat)] ∧ (Wd r h ∧ i + 1 < r.length) ∧ ∀ ps, Chain (PcR r h i) 0 ps 1 → (∀ p ∈ ps, B 93 p.1 ∧ B 93 p.2.1) → ps.length ≤ 2000000 → P (.fr (.tuple (ps.map encPc)))
def C_share_seen : DC := fun ds P => ∃ (r : Ridge) (h : Rat) (i : Nat) (x : Rat) (k : Nat) (t : Rat), ds = [encR r, encQ h, .int (i : Nat), encQ x, encON (some k)] ∧ (Wd r h ∧ i + 1 < r.length ∧ Xb x ∧ k < r.length ∧ crossT r i (x, h) (at_ r k) = some t) ∧ P (.fr (encQ t))
def C_first_left : DC := fun ds P => ∃ (r : Ridge) (h : Rat) (i : Nat) (x : Rat), ds = [encR r, encQ h, .int (i : Nat), encQ x] ∧ (Wd r h ∧ i + 1 < r.length ∧ Xb x) ∧ ∀ o, FLs (Lf r h i) x o → (∀ t, o = some t → ∀ m j, Grd m r h → m ≤ 30 → 93 ≤ j → B j x → B (j + 2 * m + 3) t) → P (.fr (encO o))
def C_last_right : DC := fun ds P => ∃ (r : Ridge) (h : Rat) (i : Nat) (x : Rat), ds = [encR r, encQ h, .int (i : Nat), encQ x] ∧ (Wd r h ∧ i + 1 < r.length ∧ Xb x) ∧ ∀ o, LLs r h i x o → (∀ t, o = some t → ∀ m j, Grd m r h → m ≤ 30 → 93 ≤ j → B j x → B (j + 2 * m + 3) t) → P (.fr (encO o))
def d_left_pieces : DSt := (dSeq (dSet false 3 (dLst (dStar (dSl (dVar 0) dNoPart (dPart (dVar 2))) (dCons (dTup (dCons (dBin oIx (dCall C_line_of (dCons (dVar 0) dNil)) (dC (.int 0))) (dCons (dVar 1) dNil))) dNil))))
  (dRet (dCall C_pieces_by (dCons (dVar 0) (dCons (dVar 1) (dCons (dVar 2) (dCons (dCall C_turning_shares (dCons (dVar 0) (dCons (dVar 2) (dCons (dVar 3) dNil)))) (dCons (dC (.int 0)) dNil))))))))
def d_right_pieces : DSt := (dSeq (dSet false 3 (dLst (dStar (dSl (dVar 0) (dPart (dBin oAdd (dVar 2) (dC (.int 2)))) dNoPart) (dCons (dTup (dCons (dBin oIx (dCall C_line_of (dCons (dVar 0) dNil)) (dC (.int 1))) (dCons (dVar 1) dNil))) dNil))))
  (dRet (dCall C_pieces_by (dCons (dVar 0) (dCons (dVar 1) (dCons (dVar 2) (dCons (dCall C_turning_shares (dCons (dVar 0) (dCons (dVar 2) (dCons (dVar 3) dNil)))) (dCons (dC (.int 1)) dNil))))))))
def d_share_seen : DSt := (dRet (dCall C_share_on_slope (dCons (dVar 0) (dCons (dVar 2) (dCons (dCall C_crossing (dCons (dTup (dCons (dVar 3) (dCons (dVar 1) dNil))) (dCons (dBin oIx (dVar 0) (dVar 4)) (dCons (dBin oIx (dVar 0) (dVar 2)) (dCons (dBin oIx (dVar 0) (dBin oAdd (dVar 2) (dC (.int 1)))) dNil))))) dNil)))))
def d_first_left : DSt := (dSeq (dFor (dItemsF (dCall C_left_pieces (dCons (dVar 0) (dCons (dVar 1) (dCons (dVar 2) dNil))))) (dgT 3 (dgCons (dgN 4) (dgCons (dgN 5) (dgCons (dgN 6) dgNil)))) (dIfS (dTest (dBin oLe (dCall C_compared (dCons (dBin oIx (dCall C_slope_reach (dCons (dVar 0) (dCons (dVar 1) (dCons (dVar 2) (dCons (dVar 5) dNil))))) (dC (.int 0))) (dCons (dVar 3) dNil))) (dC (.int 0)))) (dSeq (dIfS (dTest (dBin oLe (dCall C_compared (dCons (dBin oIx (dCall C_slope_reach (dCons (dVar 0) (dCons (dVar 1) (dCons (dVar 2) (dCons (dVar 4) dNil))))) (dC (.int 0))) (dCons (dVar 3) dNil))) (dC (.int 0)))) (dRetVar 4) dNext)
  (dRet (dCall C_share_seen (dCons (dVar 0) (dCons (dVar 1) (dCons (dVar 2) (dCons (dVar 3) (dCons (dVar 6) dNil)))))))) dNext))
  (dRet (dC .none)))
def d_last_right : DSt := (dSeq (dFor (dItemsF (dRev (dCall C_right_pieces (dCons (dVar 0) (dCons (dVar 1) (dCons (dVar 2) dNil)))))) (dgT 3 (dgCons (dgN 4) (dgCons (dgN 5) (dgCons (dgN 6) dgNil)))) (dIfS (dTest (dBin oGe (dCall C_compared (dCons (dBin oIx (dCall C_slope_reach (dCons (dVar 0) (dCons (dVar 1) (dCons (dVar 2) (dCons (dVar 4) dNil))))) (dC (.int 1))) (dCons (dVar 3) dNil))) (dC (.int 0)))) (dSeq (dIfS (dTest (dBin oGe (dCall C_compared (dCons (dBin oIx (dCall C_slope_reach (dCons (dVar 0) (dCons (dVar 1) (dCons (dVar 2) (dCons (dVar 5) dNil))))) (dC (.int 1))) (dCons (dVar 3) dNil))) (dC (.int 0)))) (dRetVar 5) dNext)
  (dRet (dCall C_share_seen (dCons (dVar 0) (dCons (dVar 1) (dCons (dVar 2) (dCons (dVar 3) (dCons (dVar 6) dNil)))))))) dNext))
  (dRet (dC .none)))
section
variable {r : Ridge} {h x : Rat} {i : Nat} {P : TV → Prop}
theorem E_left_pieces : C_left_pieces [encR r, encQ h, .int (i : Nat)] P = ((Wd r h ∧ i + 1 < r.length) ∧ ∀ ps, Chain (PcL r h i) 0 ps 1 → (∀ p ∈ ps, B 93 p.1 ∧ B 93 p.2.1) → ps.length ≤ 2000000 → P (.fr (.tuple (ps.map encPc)))) := by
  refine propext ⟨?_, fun h' => ⟨r, h, i, rfl, h'⟩⟩
  rintro ⟨a', b', c', e, h⟩
  simp only [List.cons.injEq, PyData.int.injEq, and_true] at e
  have : i = c' := by omega
  subst this
  rw [encR_inj e.1, encQ_inj e.2.1]
  exact h
theorem E_right_pieces : C_right_pieces [encR r, encQ h, .int (i : Nat)] P = ((Wd r h ∧ i + 1 < r.length) ∧ ∀ ps, Chain (PcR r h i) 0 ps 1 → (∀ p ∈ ps, B 93 p.1 ∧ B 93 p.2.1) → ps.length ≤ 2000000 → P (.fr (.tuple (ps.map encPc)))) := by
  refine propext ⟨?_, fun h' => ⟨r, h, i, rfl, h'⟩⟩
  rintro ⟨a', b', c', e, h⟩
  simp only [List.cons.injEq, PyData.int.injEq, and_true] at e
  have : i = c' := by omega
  subst this
  rw [encR_inj e.1, encQ_inj e.2.1]
  exact h
end
local macro_rules | `(tactic| walk_at "ev") => `(tactic| simp only [dSeq, dNext, dBreak, dCont, dRet, dRetVar, dRetN, dIfS, dSet, dAsg, dPar2, dPar3, dAug, dMeth, dVar, dC, dBin, dUn, dChain, dTest, dAnd, dOr, dNot, dAndV, dOrV, dNotV, dIf, dNil, dCons, dTup, dLst, dCB, dCall, dItems, dItemsF, dFor, dLc, dYes, dStar, dSetIx, dPopIx, dEnum, dZip, dDict, dPut, dKeys, dRev, dIsTuple, dIsInt, dIsBool, dIsTy, dNoPart, dPart, dSl, dTruth, dLc2, dIr1, dIr2, dSrc, dSrcPut, dCells, dDrain, oI, oIC, oIB, oNeg, oAdd, oIsN, oNotN, cLen, cTuple, cList, cAbs, cInt, TV.view, TV.fz, TV.sv, TV.items, TV.fixd, TV.itm, TV.asD, isN_n, isN_P, isN_Q, isN_t, isN_i, TV.res, TV.isOwn, TV.isDct, fzs, frz, startE, wipeE, fApp, fIns, isT, oLt, oLe, oGt, oGe, oSub, oMul, oDiv, oMod, oMulK, List.map_cons, List.map_nil, List.length_cons, List.length_nil, List.cons_append, List.nil_append, List.getElem?_cons_succ, List.getElem?_cons_zero, List.set_cons_succ, List.set_cons_zero, List.replicate, Nat.reduceAdd, Nat.reduceSub, Nat.zero_add, List.cons.injEq, Option.some.injEq, exists_eq_left', exists_eq_left, exists_and_left, TV.fr.injEq, PyData.bool.injEq, PyData.int.injEq, dgN, dgNil, dgCons, dgT, true_and, and_true, reduceCtorEq, false_and, and_false, ↓reduceIte, if_true, if_false, Bool.not_true, Bool.not_false, decide_eq_true_eq, Bool.false_eq_true, cmp_lt, cmp_gt, cmp_le, cmp_ge, cmp_eq, gt_iff_lt, ge_iff_le, E_added, E_lessened, E_multiplied, E_divided, E_compared, E_between, ix_t0, ix_t1, ix_t2, ix_t3, ix_P0, ix_P1, ix_R, ix_R0, ix_R1, ix_Rl, E_turned_by, E_place_at, E_spot_between, E_crossing, E_slopes_of, E_spot_of, E_line_of, E_is_under, E_share_on_slope, oEq_int, oNe_int, oEq_Q, oNe_Q, E_own_sight, E_sight_places, E_reach, E_bar_corners, E_slope_reach, E_greatest2, E_least2, E_greatest, E_least, lit0, lit1, lit2, cut_to, cut_from1, cut_from2, E_ascending_fractions, oEq_ON, ix_Pc0, ix_Pc1, ix_Pc2, ix_rdlast])
theorem spotsL_ok {r : Ridge} {h : Rat} {i : Nat} (w : Wd r h) (hi : i + 1 < r.length) : TsOk r i (spotsL r h i) where
  cr := w.cr
  cs := fun p hp => by
    rcases List.mem_append.mp hp with hp | hp
    · exact w.cr p (List.mem_of_mem_take hp)
    · have : p = ((at_ r 0).1, h) := by simpa using hp
      subst this; exact ⟨(w.cr.at (by omega)).x, w.ch⟩
  ci := hi
  dx := w.good.lt (by omega) hi
  cl := by
    have := w.len
    unfold spotsL
    rw [List.length_append, List.length_take]; simp; omega
theorem spotsR_ok {r : Ridge} {h : Rat} {i : Nat} (w : Wd r h) (hi : i + 1 < r.length) : TsOk r i (spotsR r h i) where
  cr := w.cr
  cs := fun p hp => by
    rcases List.mem_append.mp hp with hp | hp
    · exact w.cr p (List.mem_of_mem_drop hp)
    · have : p = ((at_ r (r.length - 1)).1, h) := by simpa using hp
      subst this; exact ⟨(w.cr.at (by omega)).x, w.ch⟩
  ci := hi
  dx := w.good.lt (by omega) hi
  cl := by
    have := w.len
    unfold spotsR
    rw [List.length_append, List.length_drop]; simp; omega
theorem lf_Pc (ps : List (Rat × Rat × Option Nat)) : TV.lf (.fr (.tuple (ps.map encPc))) = true := lf_map (fun p => by obtain ⟨a, b, o⟩ := p; cases o <;> rfl) ps
theorem sem_left_pieces : SemA C_left_pieces 4 3 d_left_pieces where
  len := by rintro ds P ⟨r, h, i, rfl, _⟩; rfl
  sem := by
    rintro ds P ⟨r, h, i, rfl, ⟨w, hi⟩, hP⟩
    have hsz : sizeLine = 16777216 := sizeLine_eq
    have two : (2 : Nat) ≤ sizeLine := by decide
    have sp := spotsL_ok w hi
    have cl := sp.cl
    unfold d_left_pieces
    walk_at "ev"
    have ef : fzs (List.map TV.fr (List.take i (r.map encP)) ++ [TV.fr (encP ((at_ r 0).1, h))]) = some ((spotsL r h i).map encP) := by
      rw [← fzs_map]
      congr 1
      simp [spotsL, List.map_take]
    refine .inr ⟨_, rfl, by omega, two, _, ef, by simp; omega, r, i, spotsL r h i, rfl, sp, fun ts ok hl => ⟨r, h, i, ts, 0, rfl, ⟨w, hi, by omega, ok, hl⟩, fun ps ch hb hl2 => ⟨lf_Pc ps, hP ps ch hb (by omega)⟩⟩⟩
theorem sem_right_pieces : SemA C_right_pieces 4 3 d_right_pieces where
  len := by rintro ds P ⟨r, h, i, rfl, _⟩; rfl
  sem := by
    rintro ds P ⟨r, h, i, rfl, ⟨w, hi⟩, hP⟩
    have hsz : sizeLine = 16777216 := sizeLine_eq
    have two : (2 : Nat) ≤ sizeLine := by decide
    have sp := spotsR_ok w hi
    have cl := sp.cl
    unfold d_right_pieces
    walk_at "ev"
    have ef : fzs (List.map TV.fr (List.drop (i + 2) (r.map encP)) ++ [TV.fr (encP ((at_ r (r.length - 1)).1, h))]) = some ((spotsR r h i).map encP) := by
      rw [← fzs_map]
      congr 1
      simp [spotsR, List.map_drop]
    refine .inr ⟨_, rfl, by omega, two, _, ef, by simp; omega, r, i, spotsR r h i, rfl, sp, fun ts ok hl => ⟨r, h, i, ts, 1, rfl, ⟨w, hi, by omega, ok, hl⟩, fun ps ch hb hl2 => ⟨lf_Pc ps, hP ps ch hb (by omega)⟩⟩⟩
theorem sem_share_seen : SemA C_share_seen 5 5 d_share_seen where
  len := by rintro ds P ⟨r, h, i, x, k, t, rfl, _⟩; rfl
  sem := by
    rintro ds P ⟨r, h, i, x, k, t, rfl, ⟨w, hi, hx, hk, e⟩, hP⟩
    have two : (2 : Nat) ≤ sizeLine := by decide
    have ck := w.cr.at hk
    have cp := w.cr.at (show i < r.length by omega)
    have cq := w.cr.at hi
    have hh := w.ch
    have dx := w.good.lt (show i < i + 1 by omega) hi
    obtain ⟨p, ep, et⟩ := Option.map_eq_some_iff.mp e
    unfold d_share_seen encON
    walk_at "ev"
    refine ⟨two, hk, by omega, hi, ?_⟩
    refine ⟨(x, h), at_ r k, at_ r i, at_ r (i + 1), rfl, ⟨hx, hh, ck, cp, cq⟩, ?_⟩
    rw [ep]
    simp only [encOP]
    walk_at "ev"
    refine ⟨⟨w.cr, hi, by grind, ?_⟩, rfl, by rw [et]; exact hP⟩
    unfold crossP at ep
    split at ep
    · cases ep
    · cases ep
      obtain ⟨p1, p2⟩ := cp
      obtain ⟨q1, q2⟩ := cq
      obtain ⟨k1, k2⟩ := ck
      have xx : B 900 (x, h).1 := hx
      have xy : B 30 (x, h).2 := hh
      have h1 : B 1115 (turn (at_ r i) (at_ r (i + 1)) (x, h)) := by unfold turn; walk_at "bb"
      have h2 : B 245 (turn (at_ r i) (at_ r (i + 1)) (at_ r k)) := by unfold turn; walk_at "bb"
      unfold spotB
      walk_at "bb"
end DL
end
section
set_option maxRecDepth 100000
set_option maxHeartbeats 1000000
set_option exponentiation.threshold 10
namespace DL
open PySem PySem.Spec PyProof.Rows L2 RM
local macro_rules | `(tactic| walk_at "bsyn") => `(tactic| first | assumption | exact B.add (by walk_at "bsyn") (by walk_at "bsyn") | exact B.sub (by walk_at "bsyn") (by walk_at "bsyn") | exact B.mul (by walk_at "bsyn") (by walk_at "bsyn") | exact B.div (by walk_at "bsyn") (by walk_at "bsyn") | exact B.neg (by walk_at "bsyn"))
local macro_rules | `(tactic| walk_at "bb") => `(tactic| exact B.mono (by walk_at "bsyn") (by decide))
theorem chain_end {κ : Type} {Q : Rat → Rat → κ → Prop} : ∀ {ps : List (Rat × Rat × κ)} {x y : Rat}, Chain Q x ps y → (ps = [] ∧ x = y) ∨ ∃ p ∈ ps, p.2.1 = y
  | [], x, y, h => .inl ⟨rfl, h⟩
  | (a, b, k) :: ps, x, y, h => by
    rcases chain_end h.2.2.2 with ⟨h1, h2⟩ | ⟨p, hp, e⟩
    · exact .inr ⟨_, List.mem_cons_self, h2⟩
    · exact .inr ⟨p, List.mem_cons_of_mem _ hp, e⟩
theorem chain_start {κ : Type} {Q : Rat → Rat → κ → Prop} : ∀ {ps : List (Rat × Rat × κ)} {x y : Rat}, Chain Q x ps y → (ps = [] ∧ x = y) ∨ ∃ p ∈ ps, p.1 = x
  | [], x, y, h => .inl ⟨rfl, h⟩
  | (a, b, k) :: ps, x, y, h => .inr ⟨_, List.mem_cons_self, h.1⟩
local macro_rules | `(tactic| walk_at "ev") => `(tactic| simp only [dSeq, dNext, dBreak, dCont, dRet, dRetVar, dRetN, dIfS, dSet, dAsg, dPar2, dPar3, dAug, dMeth, dVar, dC, dBin, dUn, dChain, dTest, dAnd, dOr, dNot, dAndV, dOrV, dNotV, dIf, dNil, dCons, dTup, dLst, dCB, dCall, dItems, dItemsF, dFor, dLc, dYes, dStar, dSetIx, dPopIx, dEnum, dZip, dDict, dPut, dKeys, dRev, dIsTuple, dIsInt, dIsBool, dIsTy, dNoPart, dPart, dSl, dTruth, dLc2, dIr1, dIr2, dSrc, dSrcPut, dCells, dDrain, oI, oIC, oIB, oNeg, oAdd, oIsN, oNotN, cLen, cTuple, cList, cAbs, cInt, TV.view, TV.fz, TV.sv, TV.items, TV.fixd, TV.itm, TV.asD, isN_n, isN_P, isN_Q, isN_t, isN_i, TV.res, TV.isOwn, TV.isDct, fzs, frz, startE, wipeE, fApp, fIns, isT, oLt, oLe, oGt, oGe, oSub, oMul, oDiv, oMod, oMulK, List.map_cons, List.map_nil, List.length_cons, List.length_nil, List.cons_append, List.nil_append, List.getElem?_cons_succ, List.getElem?_cons_zero, List.set_cons_succ, List.set_cons_zero, List.replicate, Nat.reduceAdd, Nat.reduceSub, Nat.zero_add, List.cons.injEq, Option.some.injEq, exists_eq_left', exists_eq_left, exists_and_left, TV.fr.injEq, PyData.bool.injEq, PyData.int.injEq, dgN, dgNil, dgCons, dgT, true_and, and_true, reduceCtorEq, false_and, and_false, ↓reduceIte, if_true, if_false, Bool.not_true, Bool.not_false, decide_eq_true_eq, Bool.false_eq_true, cmp_lt, cmp_gt, cmp_le, cmp_ge, cmp_eq, gt_iff_lt, ge_iff_le, E_added, E_lessened, E_multiplied, E_divided, E_compared, E_between, ix_t0, ix_t1, ix_t2, ix_t3, ix_P0, ix_P1, ix_R, ix_R0, ix_R1, ix_Rl, E_turned_by, E_place_at, E_spot_between, E_crossing, E_slopes_of, E_spot_of, E_line_of, E_is_under, E_share_on_slope, oEq_int, oNe_int, oEq_Q, oNe_Q, E_own_sight, E_sight_places, E_reach, E_bar_corners, E_slope_reach, E_greatest2, E_least2, E_greatest, E_least, lit0, lit1, lit2, cut_to, cut_from1, cut_from2, E_ascending_fractions, oEq_ON, ix_Pc0, ix_Pc1, ix_Pc2, ix_rdlast, E_left_pieces, E_right_pieces])
theorem sem_first_left : SemA C_first_left 7 4 d_first_left where
  len := by rintro ds P ⟨r, h, i, x, rfl, _⟩; rfl
  sem := by
    rintro ds P ⟨r, h, i, x, rfl, ⟨w, hi, hx⟩, hP⟩
    have ok := lf_ok w.good hi
    unfold d_first_left
    walk_at "ev"
    refine ⟨⟨w, hi⟩, fun ps ch hb hl => ?_⟩
    refine forL_inv encPc (fun pre env => ∃ u v z, env = [some (.fr (encR r)), some (.fr (encQ h)), some (.fr (.int (i : Nat))), some (.fr (encQ x)), u, v, z] ∧ ∀ p ∈ pre, ¬ SL r h i p.2.1 x) ps ?_ ⟨_, _, _, rfl, fun _ h => nomatch h⟩ ?_
    · rintro pre ⟨a, b, k⟩ post env K e ⟨u, v, z, rfl, hn⟩ hK
      have ch' := ch
      rw [e] at ch'
      obtain ⟨y, c1, c2⟩ := ch'.split
      obtain ⟨rfl, ab, pc, c3⟩ := c2
      have a0 := c1.le
      have b1 := c3.le
      obtain ⟨ba, bb⟩ := hb (a, b, k) (by rw [e]; simp)
      simp only at ba bb
      have oa := w.sg (t := a) hi (ba.mono (by decide))
      have ob := w.sg (t := b) hi (bb.mono (by decide))
      unfold encPc
      walk_at "ev"
      refine ⟨ob, (slopeL_b ob).mono (by decide), hx.mono (by decide), ?_⟩
      split
      · rename_i lb
        rw [slopeL_le w.good hi (by grind) b1] at lb
        refine ⟨oa, (slopeL_b oa).mono (by decide), hx.mono (by decide), ?_⟩
        split
        · rename_i la
          rw [slopeL_le w.good hi a0 (by grind)] at la
          refine ⟨lfQ a, hP (some a) ?_ fun t et m j _ _ hj _ => by cases et; exact ba.mono (by omega)⟩
          rcases chain_end c1 with ⟨_, e0⟩ | ⟨p, hp, e0⟩
          · exact FLs.of ok a0 (by grind) la fun t t0 t1 => by grind
          · exact absurd (by rw [e0]; exact la) (hn p hp)
        · rename_i la
          rw [slopeL_le w.good hi a0 (by grind)] at la
          obtain ⟨k', t, rfl, hk, ec, q1, q2, q3, q4⟩ := over_L w.good hi pc (by grind) la lb
          refine ⟨r, h, i, x, k', t, rfl, ⟨w, hi, hx, hk, ec⟩, ?_⟩
          walk_at "ev"
          refine ⟨lfQ t, hP (some t) ?_ fun t' et m j g hm hj bx => by cases et; exact w.over_bits hi hk g bx ec⟩
          refine FLs.of ok (by grind) (by grind) q3 fun t' t0 t1 l => ?_
          by_cases q : a ≤ t'
          · exact q4 t' q t1 l
          · exact la (LeX.later ok l t0 (by grind) (by grind))
      · rename_i lb
        rw [slopeL_le w.good hi (by grind) b1] at lb
        refine hK _ ⟨_, _, _, rfl, fun p hp => ?_⟩
        rcases List.mem_append.mp hp with hp | hp
        · exact hn p hp
        · have : p = (a, b, k) := by simpa using hp
          subst this; exact lb
    · rintro env ⟨u, v, z, rfl, hn⟩
      walk_at "ev"
      refine ⟨rfl, hP none (fun t t0 t1 l => ?_) fun t et => nomatch et⟩
      rcases chain_end ch with ⟨_, e0⟩ | ⟨p, hp, e0⟩
      · grind
      · exact hn p hp (by rw [e0]; exact LeX.later ok l t0 t1 (by grind))
theorem rev_map {α : Type} (f : α → D) (l : List α) : (l.map f).reverse = l.reverse.map f := by simp
theorem sem_last_right : SemA C_last_right 7 4 d_last_right where
  len := by rintro ds P ⟨r, h, i, x, rfl, _⟩; rfl
  sem := by
    rintro ds P ⟨r, h, i, x, rfl, ⟨w, hi, hx⟩, hP⟩
    have ok := rt_ok w.good hi
    unfold d_last_right
    walk_at "ev"
    refine ⟨⟨w, hi⟩, fun ps ch hb hl => ?_⟩
    rw [rev_map]
    refine forL_inv encPc (fun pre env => ∃ u v z, env = [some (.fr (encR r)), some (.fr (encQ h)), some (.fr (.int (i : Nat))), some (.fr (encQ x)), u, v, z] ∧ ∀ p ∈ pre, ¬ SRt r h i p.1 x) ps.reverse ?_ ⟨_, _, _, rfl, fun _ h => nomatch h⟩ ?_
    · rintro pre ⟨a, b, k⟩ post env K e ⟨u, v, z, rfl, hn⟩ hK
      have e' : ps = post.reverse ++ (a, b, k) :: pre.reverse := by
        have := congrArg List.reverse e
        simpa using this
      have ch' := ch
      rw [e'] at ch'
      obtain ⟨y, c1, c2⟩ := ch'.split
      obtain ⟨rfl, ab, pc, c3⟩ := c2
      have a0 := c1.le
      have b1 := c3.le
      obtain ⟨ba, bb⟩ := hb (a, b, k) (by rw [e']; simp)
      simp only at ba bb
      have oa := w.sg (t := a) hi (ba.mono (by decide))
      have ob := w.sg (t := b) hi (bb.mono (by decide))
      unfold encPc
      walk_at "ev"
      refine ⟨oa, (slopeR_b oa).mono (by decide), hx.mono (by decide), ?_⟩
      split
      · rename_i la
        rw [le_slopeR w.good hi a0 (by grind)] at la
        refine ⟨ob, (slopeR_b ob).mono (by decide), hx.mono (by decide), ?_⟩
        split
        · rename_i lb
          rw [le_slopeR w.good hi (by grind) b1] at lb
          refine ⟨lfQ b, hP (some b) ?_ fun t et m j _ _ hj _ => by cases et; exact bb.mono (by omega)⟩
          rcases chain_start c3 with ⟨_, e0⟩ | ⟨p, hp, e0⟩
          · exact LLs.of w.good hi (by grind) b1 lb fun t t0 t1 => by grind
          · exact absurd (by rw [e0]; exact lb) (hn p (by simpa using hp))
        · rename_i lb
          rw [le_slopeR w.good hi (by grind) b1] at lb
          obtain ⟨k', t, rfl, hk, ec, q1, q2, q3, q4⟩ := over_R w.good hi pc (by grind) la lb
          refine ⟨r, h, i, x, k', t, rfl, ⟨w, hi, hx, hk, ec⟩, ?_⟩
          walk_at "ev"
          refine ⟨lfQ t, hP (some t) ?_ fun t' et m j g hm hj bx => by cases et; exact w.over_bits hi hk g bx ec⟩
          refine LLs.of w.good hi (by grind) (by grind) q3 fun t' t0 t1 l => ?_
          by_cases q : t' ≤ b
          · exact q4 t' t0 q l
          · exact lb (LeX.later ok l (by grind) (by grind) (by grind))
      · rename_i la
        rw [le_slopeR w.good hi a0 (by grind)] at la
        refine hK _ ⟨_, _, _, rfl, fun p hp => ?_⟩
        rcases List.mem_append.mp hp with hp | hp
        · exact hn p hp
        · have : p = (a, b, k) := by simpa using hp
          subst this; exact la
    · rintro env ⟨u, v, z, rfl, hn⟩
      walk_at "ev"
      refine ⟨rfl, hP none (fun t t0 t1 l => ?_) fun t et => nomatch et⟩
      rcases chain_start ch with ⟨_, e0⟩ | ⟨p, hp, e0⟩
      · grind
      · exact hn p (by simpa using hp) (by rw [e0]; exact LeX.later ok l (by grind) (by grind) (by grind))
end DL
end
section
set_option maxRecDepth 100000
set_option maxHeartbeats 1000000
set_option exponentiation.threshold 10
namespace DL
open PySem PySem.Spec PyProof.Rows L2 RM
local macro_rules | `(tactic| walk_at "bsyn") => `(tactic| first | assumption | exact B.add (by walk_at "bsyn") (by walk_at "bsyn") | exact B.sub (by walk_at "bsyn") (by walk_at "bsyn") | exact B.mul (by walk_at "bsyn") (by walk_at "bsyn") | exact B.div (by walk_at "bsyn") (by walk_at "bsyn") | exact B.neg (by walk_at "bsyn"))
local macro_rules | `(tactic| walk_at "bb") => `(tactic| exact B.mono (by walk_at "bsyn") (by decide))
def SeenT (r : Ridge) (h : Rat) (i : Nat) (x t : Rat) : Prop := SL r h i t x ∧ SRt r h i t x
def SPs (r : Ridge) (h : Rat) (i : Nat) (x : Rat) : Option (Rat × Rat) → Prop
  | none => ∀ t, 0 ≤ t → t ≤ 1 → ¬ SeenT r h i x t
  | some (a, b) => 0 ≤ a ∧ a ≤ b ∧ b ≤ 1 ∧ ∀ t, 0 ≤ t → t ≤ 1 → (SeenT r h i x t ↔ a ≤ t ∧ t ≤ b)
def encOI : Option (Rat × Rat) → D
  | none => .none
  | some (a, b) => .tuple [encQ a, encQ b]
def DrB (r : Ridge) (h x t : Rat) : Prop := ∀ m j, Grd m r h → m ≤ 30 → 93 ≤ j → B j x → B (j + 2 * m + 3) t
def C_seen_part : DC := fun ds P => ∃ (r : Ridge) (h : Rat) (i : Nat) (x : Rat), ds = [encR r, encQ h, .int (i : Nat), encQ x] ∧ (Wd r h ∧ i + 1 < r.length ∧ Xb x) ∧ ∀ o, SPs r h i x o → (∀ a b, o = some (a, b) → DrB r h x a ∧ DrB r h x b) → P (.fr (encOI o))
def C_ascending : DC := fun ds P => ∃ xs : List Rat, (ds = [.list (xs.map encQ)] ∨ ds = [.tuple (xs.map encQ)]) ∧ ((∀ x ∈ xs, Sm x) ∧ xs.length ≤ 16000000) ∧ ∀ ys : List Rat, ys.Pairwise (· < ·) → (∀ y, y ∈ ys ↔ y ∈ xs) → ys.length ≤ xs.length → P (.own (ys.map encQ))
def C_is_part_within : DC := fun ds P => ∃ a b c e, ds = [.tuple [encQ a, encQ b], .tuple [encQ c, encQ e]] ∧ (Sm a ∧ Sm b ∧ Sm c ∧ Sm e) ∧ P (.fr (.bool (decide (c ≤ a ∧ b ≤ e))))
def d_seen_part : DSt := (dSeq (dPar2 false false 4 5 (dCons (dCall C_first_left (dCons (dVar 0) (dCons (dVar 1) (dCons (dVar 2) (dCons (dVar 3) dNil))))) (dCons (dCall C_last_right (dCons (dVar 0) (dCons (dVar 1) (dCons (dVar 2) (dCons (dVar 3) dNil))))) dNil)))
  (dSeq (dIfS (dOr (dTest (dBin oIsN (dVar 4) (dC .none))) (dOr (dTest (dBin oIsN (dVar 5) (dC .none))) (dTest (dCall C_is_under (dCons (dVar 5) (dCons (dVar 4) dNil)))))) (dRet (dC .none)) dNext)
  (dRet (dTup (dCons (dVar 4) (dCons (dVar 5) dNil))))))
def d_ascending : DSt := (dSeq (dPar2 false true 1 2 (dCons (dCB cList (dCons (dVar 0) dNil)) (dCons (dLst dNil) dNil)))
  (dSeq (dWhile (dTruth (dVar 1)) (dSeq (dSet false 3 (dCall C_least_of (dCons (dCB cTuple (dCons (dVar 1) dNil)) dNil)))
  (dSeq (dMeth 2 (dCons (dVar 3) dNil) fApp)
  (dSet false 1 (dLc (dItems (dVar 1)) (dgN 4) (dTest (dBin oNe (dVar 4) (dVar 3))) (dVar 4) [4])))))
  (dRetVar 2)))
def d_is_part_within : DSt := (dRet (dAndV (dBin oLe (dCall C_compared (dCons (dBin oIx (dVar 1) (dC (.int 0))) (dCons (dBin oIx (dVar 0) (dC (.int 0))) dNil))) (dC (.int 0))) (dBin oLe (dCall C_compared (dCons (dBin oIx (dVar 0) (dC (.int 1))) (dCons (dBin oIx (dVar 1) (dC (.int 1))) dNil))) (dC (.int 0)))))
section
variable {r : Ridge} {h x : Rat} {i : Nat} {P : TV → Prop}
theorem E_first_left : C_first_left [encR r, encQ h, .int (i : Nat), encQ x] P = ((Wd r h ∧ i + 1 < r.length ∧ Xb x) ∧ ∀ o, FLs (Lf r h i) x o → (∀ t, o = some t → DrB r h x t) → P (.fr (encO o))) := by
  refine propext ⟨?_, fun h' => ⟨r, h, i, x, rfl, h'⟩⟩
  rintro ⟨a', b', c', d', e, h⟩
  simp only [List.cons.injEq, PyData.int.injEq, and_true] at e
  have : i = c' := by omega
  subst this
  rw [encR_inj e.1, encQ_inj e.2.1, encQ_inj e.2.2.2]
  exact h
theorem E_last_right : C_last_right [encR r, encQ h, .int (i : Nat), encQ x] P = ((Wd r h ∧ i + 1 < r.length ∧ Xb x) ∧ ∀ o, LLs r h i x o → (∀ t, o = some t → DrB r h x t) → P (.fr (encO o))) := by
  refine propext ⟨?_, fun h' => ⟨r, h, i, x, rfl, h'⟩⟩
  rintro ⟨a', b', c', d', e, h⟩
  simp only [List.cons.injEq, PyData.int.injEq, and_true] at e
  have : i = c' := by omega
  subst this
  rw [encR_inj e.1, encQ_inj e.2.1, encQ_inj e.2.2.2]
  exact h
end
theorem isN_O {o : Option Rat} : TV.isN (.fr (encO o)) = o.isNone := by cases o <;> rfl
theorem DrB.b (w : Wd r h) (hx : Xb x) {t : Rat} (d : DrB r h x t) : B 963 t := by
  obtain ⟨m, g, hm, _⟩ := w.grd
  exact (d m 900 g hm (by decide) hx).mono (by omega)
local macro_rules | `(tactic| walk_at "ev") => `(tactic| simp only [dSeq, dNext, dBreak, dCont, dRet, dRetVar, dRetN, dIfS, dSet, dAsg, dPar2, dPar3, dAug, dMeth, dVar, dC, dBin, dUn, dChain, dTest, dAnd, dOr, dNot, dAndV, dOrV, dNotV, dIf, dNil, dCons, dTup, dLst, dCB, dCall, dItems, dItemsF, dFor, dLc, dYes, dStar, dSetIx, dPopIx, dEnum, dZip, dDict, dPut, dKeys, dRev, dIsTuple, dIsInt, dIsBool, dIsTy, dNoPart, dPart, dSl, dTruth, dLc2, dIr1, dIr2, dSrc, dSrcPut, dCells, dDrain, oI, oIC, oIB, oNeg, oAdd, oIsN, oNotN, cLen, cTuple, cList, cAbs, cInt, TV.view, TV.fz, TV.sv, TV.items, TV.fixd, TV.itm, TV.asD, isN_n, isN_P, isN_Q, isN_t, isN_i, TV.res, TV.isOwn, TV.isDct, fzs, frz, startE, wipeE, fApp, fIns, isT, oLt, oLe, oGt, oGe, oSub, oMul, oDiv, oMod, oMulK, List.map_cons, List.map_nil, List.length_cons, List.length_nil, List.cons_append, List.nil_append, List.getElem?_cons_succ, List.getElem?_cons_zero, List.set_cons_succ, List.set_cons_zero, List.replicate, Nat.reduceAdd, Nat.reduceSub, Nat.zero_add, List.cons.injEq, Option.some.injEq, exists_eq_left', exists_eq_left, exists_and_left, TV.fr.injEq, PyData.bool.injEq, PyData.int.injEq, dgN, dgNil, dgCons, dgT, true_and, and_true, reduceCtorEq, false_and, and_false, ↓reduceIte, if_true, if_false, Bool.not_true, Bool.not_false, decide_eq_true_eq, Bool.false_eq_true, cmp_lt, cmp_gt, cmp_le, cmp_ge, cmp_eq, gt_iff_lt, ge_iff_le, E_added, E_lessened, E_multiplied, E_divided, E_compared, E_between, ix_t0, ix_t1, ix_t2, ix_t3, ix_P0, ix_P1, ix_R, ix_R0, ix_R1, ix_Rl, E_turned_by, E_place_at, E_spot_between, E_crossing, E_slopes_of, E_spot_of, E_line_of, E_is_under, E_share_on_slope, oEq_int, oNe_int, oEq_Q, oNe_Q, E_own_sight, E_sight_places, E_reach, E_bar_corners, E_slope_reach, E_greatest2, E_least2, E_greatest, E_least, lit0, lit1, lit2, cut_to, cut_from1, cut_from2, E_ascending_fractions, oEq_ON, ix_Pc0, ix_Pc1, ix_Pc2, ix_rdlast, E_left_pieces, E_right_pieces, E_first_left, E_last_right, isN_O, Option.isNone_none, Option.isNone_some])
theorem sem_seen_part : SemA C_seen_part 6 4 d_seen_part where
  len := by rintro ds P ⟨r, h, i, x, rfl, _⟩; rfl
  sem := by
    rintro ds P ⟨r, h, i, x, rfl, ⟨w, hi, hx⟩, hP⟩
    have two : (2 : Nat) ≤ sizeLine := by decide
    unfold d_seen_part
    walk_at "ev"
    refine ⟨⟨w, hi, hx⟩, fun o ho bo => ⟨⟨w, hi, hx⟩, fun o' ho' bo' => ?_⟩⟩
    cases o with
    | none =>
      simp only [encO]
      walk_at "ev"
      exact ⟨rfl, hP none (fun t t0 t1 s => ho t t0 t1 s.1) fun a b e => nomatch e⟩
    | some a =>
      cases o' with
      | none =>
        simp only [encO]
        walk_at "ev"
        exact ⟨rfl, hP none (fun t t0 t1 s => ho' t t0 t1 s.2) fun a b e => nomatch e⟩
      | some b =>
        have ba := (bo a rfl).b w hx
        have bb := (bo' b rfl).b w hx
        obtain ⟨a0, a1, ha⟩ := ho
        obtain ⟨b0, b1, hb⟩ := ho'
        simp only [encO]
        walk_at "ev"
        refine ⟨⟨by walk_at "bb", by walk_at "bb"⟩, ?_⟩
        split
        · rename_i lt
          refine ⟨rfl, hP none (fun t t0 t1 s => ?_) fun a b e => nomatch e⟩
          have := (ha t t0 t1).mp s.1
          have := (hb t t0 t1).mp s.2
          grind
        · rename_i lt
          refine ⟨two, rfl, hP (some (a, b)) ⟨a0, by grind, b1, fun t t0 t1 => ?_⟩ fun a' b' e => by cases e; exact ⟨bo a rfl, bo' b rfl⟩⟩
          unfold SeenT
          exact and_congr (ha t t0 t1) (hb t t0 t1)
theorem sem_is_part_within : SemA C_is_part_within 2 2 d_is_part_within where
  len := by rintro ds P ⟨a, b, c, e, rfl, _⟩; rfl
  sem := by
    rintro ds P ⟨a, b, c, e, rfl, ⟨ha, hb, hc, he⟩, hP⟩
    unfold d_is_part_within
    walk_at "ev"
    refine ⟨hc, ha, ?_⟩
    by_cases h1 : c ≤ a
    · rw [if_pos h1]
      refine ⟨hb, he, rfl, ?_⟩
      simpa [h1] using hP
    · rw [if_neg h1]
      refine ⟨rfl, ?_⟩
      simpa [h1] using hP
theorem sem_ascending : SemA C_ascending 5 1 d_ascending where
  len := by rintro ds P ⟨x, rfl | rfl, _⟩ <;> rfl
  sem := by
    rintro ds P ⟨xs, hd, ⟨hs, hl⟩, hP⟩
    have hsz : sizeLine = 16777216 := sizeLine_eq
    suffices key : ∀ d0 : D, (dWhile (dTruth (dVar 1)) (dSeq (dSet false 3 (dCall C_least_of (dCons (dCB cTuple (dCons (dVar 1) dNil)) dNil)))
        (dSeq (dMeth 2 (dCons (dVar 3) dNil) fApp) (dSet false 1 (dLc (dItems (dVar 1)) (dgN 4) (dTest (dBin oNe (dVar 4) (dVar 3))) (dVar 4) [4]))))) { nx := dRetVar 2 { nx := fun _ => P (.fr .none), rt := fun t => t.lf = true ∧ P t }, rt := fun t => t.lf = true ∧ P t }
          [some (.fr d0), some (.fr (.list (xs.map encQ))), some (.own []), none, none] by
      rcases hd with rfl | rfl
      · unfold d_ascending
        simp only [dSeq, dPar2, dCB, dCons, dNil, dVar, startE, List.map_cons, List.map_nil, List.cons_append, List.nil_append, List.length_cons, List.length_nil, List.replicate, List.getElem?_cons_zero, TV.view, cList, TV.items, dLst, fzs, TV.sv, List.set_cons_succ, List.set_cons_zero, Bool.false_eq_true, if_false, if_true, Option.some.injEq, exists_eq_left', Nat.reduceAdd, Nat.reduceSub]
        exact ⟨Nat.zero_le _, key _⟩
      · unfold d_ascending
        simp only [dSeq, dPar2, dCB, dCons, dNil, dVar, startE, List.map_cons, List.map_nil, List.cons_append, List.nil_append, List.length_cons, List.length_nil, List.replicate, List.getElem?_cons_zero, TV.view, cList, TV.items, dLst, fzs, TV.sv, List.set_cons_succ, List.set_cons_zero, Bool.false_eq_true, if_false, if_true, Option.some.injEq, exists_eq_left', Nat.reduceAdd, Nat.reduceSub]
        exact ⟨Nat.zero_le _, key _⟩
    intro d0
    refine ⟨fun m env => ∃ (left ys : List Rat) (u v : Option TV), env = [some (.fr d0), some (.fr (.list (left.map encQ))), some (.own (ys.map encQ)), u, v] ∧ m = left.length ∧ ys.Pairwise (· < ·) ∧ (∀ y ∈ ys, ∀ z ∈ left, y < z) ∧ (∀ y, y ∈ xs ↔ y ∈ ys ∨ y ∈ left) ∧ ys.length + left.length ≤ xs.length,
      ⟨_, xs, [], _, _, rfl, rfl, .nil, (fun _ h => nomatch h), (fun y => by simp), by simp⟩, ?_⟩
    rintro m env ⟨left, ys, u, v, rfl, rfl, asc, lt, mem, hlen⟩
    walk_at "ev"
    cases left with
    | nil =>
      simp only [List.map_nil, List.isEmpty_nil, Bool.not_true, Bool.false_eq_true, if_false]
      exact ⟨lf_map lfQ ys, hP ys asc (fun y => by rw [mem]; simp) (by simpa using hlen)⟩
    | cons l ls =>
      have sl : ∀ x ∈ l :: ls, Sm x := fun x hx => hs x ((mem x).mpr (.inr hx))
      have hl2 : ys.length + (ls.length + 1) ≤ xs.length := hlen
      rw [List.map_cons]
      simp only [List.isEmpty_cons, Bool.not_false, if_true]
      rw [E_least]
      have le := (le_minQ (X := minQ l ls) (x := l) (ys := ls)).mp (by grind)
      have hm : minQ l ls ∈ l :: ls := by
        rcases minQ_mem ls l with e | e
        · rw [e]; exact List.mem_cons_self
        · exact List.mem_cons_of_mem _ e
      have sm : Sm (minQ l ls) := sl _ hm
      refine ⟨⟨sl l List.mem_cons_self, fun y hy => sl y (List.mem_cons_of_mem _ hy)⟩, ?_⟩
      walk_at "ev"
      refine ⟨by simp; omega, ?_⟩
      rw [← List.map_cons]
      let f : Rat → Option Rat := fun x => if x ≠ minQ l ls then some x else none
      refine lcL_fm f encQ encQ (l :: ls) ?_ (by simp; omega) ?_
      · intro x hx Y hY
        walk_at "ev"
        by_cases e : x = minQ l ls
        · rw [show f x = none from if_neg (by simpa using e)] at hY
          simp only [e, ne_eq, not_true_eq_false, if_false]
          exact hY
        · rw [show f x = some x from if_pos e] at hY
          simp only [e, ne_eq, not_false_eq_true, if_true]
          exact hY
      · have mf : ∀ x, x ∈ (l :: ls).filterMap f ↔ x ∈ l :: ls ∧ x ≠ minQ l ls := fun x => by
          rw [List.mem_filterMap]
          constructor
          · rintro ⟨y, hy, e⟩
            by_cases q : y = minQ l ls
            · rw [show f y = none from if_neg (by simpa using q)] at e; cases e
            · rw [show f y = some y from if_pos q] at e; cases e; exact ⟨hy, q⟩
          · rintro ⟨h1, h2⟩
            exact ⟨x, h1, if_pos h2⟩
        have lt2 : ((l :: ls).filterMap f).length < (l :: ls).length := by
          rcases Nat.lt_or_eq_of_le (fm_len f (l :: ls)) with q | q
          · exact q
          · exfalso
            have : ∀ (zs : List Rat), (zs.filterMap f).length = zs.length → ∀ z ∈ zs, (f z).isSome = true := by
              intro zs
              induction zs with
              | nil => exact fun _ _ h => nomatch h
              | cons z zs ih =>
                intro hl w hw
                cases e : f z with
                | none =>
                  rw [List.filterMap_cons_none e] at hl
                  have := fm_len f zs
                  simp at hl
                  omega
                | some y =>
                  rw [List.filterMap_cons_some e] at hl
                  rcases List.mem_cons.mp hw with rfl | hw
                  · rw [e]; rfl
                  · exact ih (by simpa using hl) w hw
            have := this _ q _ hm
            rw [show f (minQ l ls) = none from if_neg (by simp)] at this
            cases this
        refine ⟨_, lt2, (l :: ls).filterMap f, ys ++ [minQ l ls], _, _, ⟨rfl, by simp, rfl, rfl⟩, rfl, ?_, ?_, ?_, ?_⟩
        · rw [List.pairwise_append]
          refine ⟨asc, List.pairwise_singleton _ _, fun a ha b hb => ?_⟩
          have : b = minQ l ls := by simpa using hb
          subst this; exact lt a ha _ hm
        · intro y hy z hz
          obtain ⟨z1, z2⟩ := (mf z).mp hz
          rcases List.mem_append.mp hy with hy | hy
          · exact lt y hy z z1
          · have : y = minQ l ls := by simpa using hy
            subst this
            rcases List.mem_cons.mp z1 with rfl | z1
            · have := le.1; grind
            · have := le.2 z z1; grind
        · intro y
          rw [mem, mf]
          constructor
          · rintro (q | q)
            · exact .inl (List.mem_append_left _ q)
            · by_cases e : y = minQ l ls
              · exact .inl (List.mem_append_right _ (by simp [e]))
              · exact .inr ⟨q, e⟩
          · rintro (q | q)
            · rcases List.mem_append.mp q with q | q
              · exact .inl q
              · have : y = minQ l ls := by simpa using q
                subst this; exact .inr hm
            · exact .inr q.1
        · simp only [List.length_append, List.length_cons, List.length_nil] at *
          omega
end DL
end
section
set_option maxRecDepth 100000
set_option maxHeartbeats 1000000
set_option exponentiation.threshold 10
namespace DL
open PySem PySem.Spec PyProof.Rows L2 RM
local macro_rules | `(tactic| walk_at "bsyn") => `(tactic| first | assumption | exact B.add (by walk_at "bsyn") (by walk_at "bsyn") | exact B.sub (by walk_at "bsyn") (by walk_at "bsyn") | exact B.mul (by walk_at "bsyn") (by walk_at "bsyn") | exact B.div (by walk_at "bsyn") (by walk_at "bsyn") | exact B.neg (by walk_at "bsyn"))
local macro_rules | `(tactic| walk_at "bb") => `(tactic| exact B.mono (by walk_at "bsyn") (by decide))
def IsSeq (d : D) (ds : List D) : Prop := d = .tuple ds ∨ d = .list ds
structure LyOk (r : Ridge) (h : Rat) (i : Nat) (xs : List Rat) (a b : Rat) (lot : List Nat) : Prop where
  asc : lot.Pairwise (· < ·)
  rng : ∀ k ∈ lot, k < xs.length
  all : ∀ k x, xs[k]? = some x → k ∈ lot → ∀ t, a ≤ t → t ≤ b → SeenT r h i x t
  non : ∀ k x, xs[k]? = some x → k ∉ lot → ∀ t t', a ≤ t → t < t' → t' ≤ b → ¬ (SeenT r h i x t ∧ SeenT r h i x t')
def EnB (r : Ridge) (h : Rat) (xs : List Rat) (t : Rat) : Prop := t = 0 ∨ t = 1 ∨ ∃ x ∈ xs, DrB r h x t
def Diff (ls : List (Rat × Rat × List Nat)) : Prop := ∀ k p q, ls[k]? = some p → ls[k + 1]? = some q → p.2.2 ≠ q.2.2
structure LYs (r : Ridge) (h : Rat) (i : Nat) (xs : List Rat) (ls : List (Rat × Rat × List Nat)) : Prop where
  ch : Chain (LyOk r h i xs) 0 ls 1
  df : Diff ls
  eb : ∀ p ∈ ls, EnB r h xs p.1 ∧ EnB r h xs p.2.1
  len : ls.length ≤ 2 * xs.length + 2
def encLot (lot : List Nat) : D := .tuple (lot.map fun (k : Nat) => PyData.int (k : Int))
def encLy (i : Nat) (p : Rat × Rat × List Nat) : D := .tuple [.int (i : Nat), encQ p.1, encQ p.2.1, encLot p.2.2]
def C_slope_layers : DC := fun ds P => ∃ (r : Ridge) (h : Rat) (i : Nat) (xs : List Rat) (d : D), ds = [encR r, encQ h, .int (i : Nat), d] ∧ (IsSeq d (xs.map encQ) ∧ Wd r h ∧ i + 1 < r.length ∧ (∀ x ∈ xs, Xb x) ∧ xs.length ≤ 10000) ∧ ∀ ls, LYs r h i xs ls → P (.own (ls.map (encLy i)))
def d_slope_layers : DSt := (dSeq (dSet false 4 (dLc (dItems (dVar 3)) (dgN 10) dYes (dCall C_seen_part (dCons (dVar 0) (dCons (dVar 1) (dCons (dVar 2) (dCons (dVar 10) dNil))))) [10]))
  (dSeq (dSet false 5 (dCall C_ascending (dCons (dLst (dCons (dTup (dCons (dC (.int 0)) (dCons (dC (.int 1)) dNil))) (dCons (dTup (dCons (dC (.int 1)) (dCons (dC (.int 1)) dNil))) (dStar (dLc2 (dItems (dVar 4)) (dgN 11) (dTest (dBin oNotN (dVar 11) (dC .none))) (dItemsF (dVar 11)) (dgN 12) dYes (dVar 12) [11, 12] [12]) dNil)))) dNil)))
  (dSeq (dSet true 6 (dLst dNil))
  (dSeq (dFor (dZip true (dCons (dVar 5) (dCons (dSl (dVar 5) (dPart (dC (.int 1))) dNoPart) dNil))) (dgT 2 (dgCons (dgN 8) (dgCons (dgN 9) dgNil))) (dSeq (dSet false 7 (dCB cTuple (dCons (dLc (dEnum false (dCons (dVar 4) dNil)) (dgT 2 (dgCons (dgN 13) (dgCons (dgN 11) dgNil))) (dAnd (dTest (dBin oNotN (dVar 11) (dC .none))) (dTest (dCall C_is_part_within (dCons (dTup (dCons (dVar 8) (dCons (dVar 9) dNil))) (dCons (dVar 11) dNil))))) (dVar 13) [13, 11]) dNil)))
  (dSeq (dIfS (dAnd (dTruth (dVar 6)) (dTest (dBin oEq (dBin oIx (dBin oIx (dVar 6) (dUn oNeg (dC (.int 1)))) (dC (.int 3))) (dVar 7)))) (dPopIx 8 6 (dC (.int 1))) dNext)
  (dMeth 6 (dCons (dTup (dCons (dVar 2) (dCons (dVar 8) (dCons (dVar 9) (dCons (dVar 7) dNil))))) dNil) fApp))))
  (dRetVar 6)))))
section
variable {r : Ridge} {h x : Rat} {i : Nat} {P : TV → Prop}
theorem E_seen_part : C_seen_part [encR r, encQ h, .int (i : Nat), encQ x] P = ((Wd r h ∧ i + 1 < r.length ∧ Xb x) ∧ ∀ o, SPs r h i x o → (∀ a b, o = some (a, b) → DrB r h x a ∧ DrB r h x b) → P (.fr (encOI o))) := by
  refine propext ⟨?_, fun h' => ⟨r, h, i, x, rfl, h'⟩⟩
  rintro ⟨a', b', c', d', e, h⟩
  simp only [List.cons.injEq, PyData.int.injEq, and_true] at e
  have : i = c' := by omega
  subst this
  rw [encR_inj e.1, encQ_inj e.2.1, encQ_inj e.2.2.2]
  exact h
theorem E_is_part_within {a b c e : Rat} : C_is_part_within [.tuple [encQ a, encQ b], .tuple [encQ c, encQ e]] P = ((Sm a ∧ Sm b ∧ Sm c ∧ Sm e) ∧ P (.fr (.bool (decide (c ≤ a ∧ b ≤ e))))) := by
  refine propext ⟨?_, fun h' => ⟨a, b, c, e, rfl, h'⟩⟩
  rintro ⟨a', b', c', d', q, h⟩
  simp only [List.cons.injEq, PyData.tuple.injEq, and_true] at q
  rw [encQ_inj q.1.1, encQ_inj q.1.2, encQ_inj q.2.1, encQ_inj q.2.2]
  exact h
end
theorem isN_OI {o : Option (Rat × Rat)} : TV.isN (.fr (encOI o)) = o.isNone := by cases o <;> rfl
theorem lcL_rel {α β : Type} (R : α → β → Prop) (enc : α → D) (enc' : β → D) {g : DGx} {tt : DTx} {te : DEx} {env : DEnv} {P : List D → Prop} (xs : List α)
    (step : ∀ a ∈ xs, ∀ Y : Option D → Prop, (∀ b, R a b → Y (some (enc' b))) → g (enc a) env fun env' => tt env' fun b => if b = true then te env' fun t => ∃ y, t.fz = some y ∧ Y (some y) else Y none)
    (hl : xs.length ≤ 16777216) (h : ∀ ys : List β, ys.length = xs.length → (∀ (k : Nat) (a : α) (b : β), xs[k]? = some a → ys[k]? = some b → R a b) → P (ys.map enc')) : lcL g tt te env P (xs.map enc) [] := by
  have hsz : sizeLine = 16777216 := sizeLine_eq
  have key : ∀ (zs pre : List α) (acc : List β), xs = pre ++ zs → acc.length = pre.length → (∀ (k : Nat) (a : α) (b : β), pre[k]? = some a → acc[k]? = some b → R a b) → lcL g tt te env P (zs.map enc) (acc.map enc') := by
    intro zs
    induction zs with
    | nil =>
      intro pre acc e hl hr
      rw [List.append_nil] at e
      subst e
      exact h acc hl hr
    | cons a zs ih =>
      intro pre acc e hl' hr
      have hle : acc.length < 16777216 := by
        have := congrArg List.length e
        rw [List.length_append, List.length_cons] at this
        omega
      refine step a (by rw [e]; simp) (fun o => match o with
        | some y => (acc.map enc').length < sizeLine ∧ lcL g tt te env P (zs.map enc) (acc.map enc' ++ [y])
        | none => lcL g tt te env P (zs.map enc) (acc.map enc')) fun b rb => ⟨by simp; omega, ?_⟩
      · have := ih (pre ++ [a]) (acc ++ [b]) (by rw [e]; simp) (by simp [hl']) (fun k a' b' h1 h2 => ?_)
        · simpa using this
        · by_cases q : k < pre.length
          · rw [List.getElem?_append_left q] at h1
            rw [List.getElem?_append_left (by omega)] at h2
            exact hr k a' b' h1 h2
          · rw [List.getElem?_append_right (by omega)] at h1
            rw [List.getElem?_append_right (by omega)] at h2
            have : k - pre.length = 0 := by
              by_cases z : k - pre.length = 0
              · exact z
              · have : k - pre.length ≥ 1 := by omega
                rw [List.getElem?_eq_none (by simp; omega)] at h1; cases h1
            rw [this] at h1
            rw [show k - acc.length = 0 by omega] at h2
            simp at h1 h2
            subst h1 h2
            exact rb
  exact key xs [] [] rfl rfl (fun k a b h1 => by simp at h1)
theorem lcO_fl {α β : Type} (f : α → List β) (enc : α → D) (enc' : β → D) {g : DGx} {tt : DTx} {di1 : DIx} {g1 : DGx} {tt1 : DTx} {te : DEx} {env : DEnv} {vs1 : List Nat} {P : List D → Prop} (xs : List α)
    (step : ∀ a ∈ xs, ∀ (acc : List D) (Z : List D → Prop), acc.length + (f a).length ≤ 16777216 → Z (acc ++ (f a).map enc') → g (enc a) env fun env' => ownP env' = ownP env ∧ tt env' fun b => if b = true then di1 env' fun es => lcI g1 tt1 te (wipeE env' vs1) Z es acc else Z acc)
    (hl : (xs.flatMap f).length ≤ 16777216) (h : P ((xs.flatMap f).map enc')) : lcO g tt di1 g1 tt1 te env vs1 P (xs.map enc) [] := by
  have key : ∀ (zs : List α) (acc : List D), (∀ a ∈ zs, a ∈ xs) → acc.length + (zs.flatMap f).length ≤ 16777216 → P (acc ++ (zs.flatMap f).map enc') → lcO g tt di1 g1 tt1 te env vs1 P (zs.map enc) acc := by
    intro zs
    induction zs with
    | nil => intro acc _ _ h; simpa [lcO] using h
    | cons a zs ih =>
      intro acc hm hl h
      simp only [List.flatMap_cons, List.length_append, List.map_append] at hl h
      show g (enc a) env _
      exact step a (hm a List.mem_cons_self) acc (fun acc' => lcO g tt di1 g1 tt1 te env vs1 P (zs.map enc) acc') (by omega)
        (ih _ (fun b hb => hm b (List.mem_cons_of_mem _ hb)) (by rw [List.length_append, List.length_map]; omega) (by rw [List.append_assoc]; exact h))
  exact key xs [] (fun _ h => h) (by simpa using hl) (by simpa using h)
def endsOf : Option (Rat × Rat) → List Rat
  | none => []
  | some (a, b) => [a, b]
theorem ends_len (o : Option (Rat × Rat)) : (endsOf o).length ≤ 2 := by cases o <;> simp [endsOf]
theorem flat_len {α β : Type} (f : α → List β) {c : Nat} (h : ∀ a, (f a).length ≤ c) : ∀ xs : List α, (xs.flatMap f).length ≤ c * xs.length
  | [] => by simp
  | x :: xs => by
    have h1 := h x
    have h2 := flat_len f h xs
    simp only [List.flatMap_cons, List.length_append, List.length_cons, Nat.mul_succ]
    omega
theorem ix_Ly1 {i : Nat} {p : Rat × Rat × List Nat} {P : TV → Prop} : oIx (.fr (encLy i p)) (.fr (.int 1)) P = P (.fr (encQ p.1)) := ix_t1
theorem ix_Ly3 {i : Nat} {p : Rat × Rat × List Nat} {P : TV → Prop} : oIx (.fr (encLy i p)) (.fr (.int 3)) P = P (.fr (encLot p.2.2)) := ix_t3
theorem encLot_inj {l l' : List Nat} (h : encLot l = encLot l') : l = l' := by
  unfold encLot at h
  exact map_inj (f := fun (k : Nat) => PyData.int (k : Int)) (fun {a b} e => by injection e with e; omega) (by injection h)
theorem pl_lot (l : List Nat) : pl 20 (encLot l) = true := by
  unfold encLot
  show (l.map fun (k : Nat) => PyData.int (k : Int)).all (pl 19) = true
  rw [List.all_eq_true]
  intro d hd
  obtain ⟨k, _, rfl⟩ := List.mem_map.mp hd
  rfl
theorem oEq_lot {l l' : List Nat} {P : TV → Prop} : oEq (.fr (encLot l)) (.fr (encLot l')) P = P (.fr (.bool (decide (l = l')))) := by
  unfold oEq
  have : encLot l = encLot l' ↔ l = l' := ⟨encLot_inj, fun h => by rw [h]⟩
  by_cases h : l = l' <;> simp [TV.asD, pl_lot, this, h]
theorem dNum_OI (l : List (Option (Rat × Rat))) : dNum 0 (l.map encOI) = (l.zipIdx).map fun c => .tuple [.int ((c.2 : Nat) : Int), encOI c.1] := dNum_zip encOI l 0
def lotOf (ps : List (Option (Rat × Rat))) (a b : Rat) : List Nat := (ps.zipIdx).filterMap fun c => match c.1 with
  | some (s, e) => if s ≤ a ∧ b ≤ e then some c.2 else none
  | none => none
theorem zipIdx_asc {α : Type} : ∀ (l : List α) (k : Nat), (l.zipIdx k).Pairwise fun a b => a.2 < b.2
  | [], _ => .nil
  | x :: l, k => by
    rw [List.zipIdx_cons]
    refine .cons (fun a ha => ?_) (zipIdx_asc l (k + 1))
    have := List.mem_zipIdx ha
    show k < a.2
    omega
theorem fm_asc {α : Type} {f : α × Nat → Option Nat} (hf : ∀ c k, f c = some k → k = c.2) : ∀ {l : List (α × Nat)}, (l.Pairwise fun a b => a.2 < b.2) → (l.filterMap f).Pairwise (· < ·)
  | [], _ => .nil
  | c :: l, h => by
    rw [List.pairwise_cons] at h
    cases e : f c with
    | none => rw [List.filterMap_cons_none e]; exact fm_asc hf h.2
    | some k =>
      rw [List.filterMap_cons_some e]
      refine .cons (fun k' hk' => ?_) (fm_asc hf h.2)
      obtain ⟨d, hd, ed⟩ := List.mem_filterMap.mp hk'
      rw [hf c k e, hf d k' ed]
      exact h.1 d hd
theorem mem_lot {ps : List (Option (Rat × Rat))} {a b : Rat} {k : Nat} : k ∈ lotOf ps a b ↔ ∃ s e, ps[k]? = some (some (s, e)) ∧ s ≤ a ∧ b ≤ e := by
  unfold lotOf
  rw [List.mem_filterMap]
  constructor
  · rintro ⟨⟨o, j⟩, hm, e⟩
    rw [List.mk_mem_zipIdx_iff_getElem?] at hm
    cases o with
    | none => cases e
    | some p =>
      obtain ⟨s, t⟩ := p
      simp only at e
      split at e
      · rename_i q
        cases e
        exact ⟨s, t, hm, q.1, q.2⟩
      · cases e
  · rintro ⟨s, e, h, h1, h2⟩
    exact ⟨(some (s, e), k), by rw [List.mk_mem_zipIdx_iff_getElem?]; exact h, if_pos ⟨h1, h2⟩⟩
section
variable {r : Ridge} {h : Rat} {i : Nat} {xs : List Rat} {ps : List (Option (Rat × Rat))}
theorem ly_of (hl : ps.length = xs.length) (hps : ∀ (k : Nat) (x : Rat) (o : Option (Rat × Rat)), xs[k]? = some x → ps[k]? = some o → SPs r h i x o) {a b : Rat} (a0 : 0 ≤ a) (b1 : b ≤ 1) {ts : List Rat} (non : ∀ t ∈ ts, a < t → t < b → False)
    (he : ∀ s e, some (s, e) ∈ ps → s ∈ ts ∧ e ∈ ts) : LyOk r h i xs a b (lotOf ps a b) where
  asc := fm_asc (fun c k e => by
    obtain ⟨o, j⟩ := c
    cases o with
    | none => cases e
    | some p =>
      obtain ⟨s, t⟩ := p
      simp only at e
      split at e
      · cases e; rfl
      · cases e) (zipIdx_asc ps 0)
  rng := fun k hk => by
    obtain ⟨s, e, h1, _⟩ := mem_lot.mp hk
    have := (List.getElem?_eq_some_iff.mp h1).1
    omega
  all := fun k x hx hk t t1 t2 => by
    obtain ⟨s, e, h1, h2, h3⟩ := mem_lot.mp hk
    obtain ⟨q0, q1, q2, q3⟩ := hps k x _ hx h1
    exact (q3 t (by grind) (by grind)).mpr ⟨by grind, by grind⟩
  non := fun k x hx hk t t' t1 t2 t3 ⟨s1, s2⟩ => by
    have hkl : k < ps.length := by rw [hl]; exact (List.getElem?_eq_some_iff.mp hx).1
    cases e : ps[k] with
    | none =>
      have := hps k x none hx (by rw [List.getElem?_eq_getElem hkl, e])
      exact this t (by grind) (by grind) s1
    | some p =>
      obtain ⟨s, z⟩ := p
      have g : ps[k]? = some (some (s, z)) := by rw [List.getElem?_eq_getElem hkl, e]
      obtain ⟨q0, q1, q2, q3⟩ := hps k x _ hx g
      have w1 := (q3 t (by grind) (by grind)).mp s1
      have w2 := (q3 t' (by grind) (by grind)).mp s2
      obtain ⟨m1, m2⟩ := he s z (by rw [← e]; exact List.getElem_mem _)
      apply hk
      refine mem_lot.mpr ⟨s, z, g, ?_, ?_⟩
      · by_cases q : s ≤ a
        · exact q
        · exact absurd (non s m1 (by grind) (by grind)) id
      · by_cases q : b ≤ z
        · exact q
        · exact absurd (non z m2 (by grind) (by grind)) id
theorem seen_conv {x t u v : Rat} (g : Good r h) (hi : i + 1 < r.length) (t0 : 0 ≤ t) (v1 : v ≤ 1) (tu : t ≤ u) (uv : u ≤ v) (s1 : SeenT r h i x t) (s2 : SeenT r h i x v) : SeenT r h i x u :=
  ⟨LeX.later (lf_ok g hi) s1.1 t0 tu (by grind), LeX.later (rt_ok g hi) s2.2 (by grind) (by grind) (by grind)⟩
theorem LyOk.join {a b c : Rat} {lot : List Nat} (g : Good r h) (hi : i + 1 < r.length) (a0 : 0 ≤ a) (ab : a ≤ b) (bc : b ≤ c) (c1 : c ≤ 1) (h1 : LyOk r h i xs a b lot) (h2 : LyOk r h i xs b c lot) : LyOk r h i xs a c lot where
  asc := h1.asc
  rng := h1.rng
  all := fun k x hx hk t t1 t2 => by
    by_cases z : t ≤ b
    · exact h1.all k x hx hk t t1 z
    · exact h2.all k x hx hk t (by grind) t2
  non := fun k x hx hk t t' t1 t2 t3 ⟨s1, s2⟩ => by
    by_cases z : t < b
    · by_cases z' : t' ≤ b
      · exact h1.non k x hx hk t t' t1 t2 z' ⟨s1, s2⟩
      · exact h1.non k x hx hk t b t1 z (by grind) ⟨s1, seen_conv g hi (by grind) (by grind) (by grind) (by grind) s1 s2⟩
    · exact h2.non k x hx hk t t' (by grind) t2 t3 ⟨s1, s2⟩
end
theorem diff_nil : Diff [] := fun k p q h => by simp at h
theorem diff_snoc {ls : List (Rat × Rat × List Nat)} {q : Rat × Rat × List Nat} (h : Diff ls) (hq : ∀ p, ls.getLast? = some p → p.2.2 ≠ q.2.2) : Diff (ls ++ [q]) := fun k a b h1 h2 => by
  by_cases z : k + 1 < ls.length
  · rw [List.getElem?_append_left (by omega)] at h1
    rw [List.getElem?_append_left z] at h2
    exact h k a b h1 h2
  · by_cases z' : k + 1 = ls.length
    · rw [List.getElem?_append_left (by omega)] at h1
      rw [List.getElem?_append_right (by omega), z', Nat.sub_self] at h2
      simp at h2
      subst h2
      refine hq a ?_
      rw [List.getLast?_eq_getElem?]
      rw [show ls.length - 1 = k by omega]
      exact h1
    · rw [List.getElem?_eq_none (by simp; omega)] at h2; cases h2
theorem diff_init {ls : List (Rat × Rat × List Nat)} {p : Rat × Rat × List Nat} (h : Diff (ls ++ [p])) : Diff ls ∧ ∀ q, ls.getLast? = some q → q.2.2 ≠ p.2.2 := by
  refine ⟨fun k a b h1 h2 => ?_, fun q hq => ?_⟩
  · have l1 := (List.getElem?_eq_some_iff.mp h1).1
    have l2 := (List.getElem?_eq_some_iff.mp h2).1
    exact h k a b (by rw [List.getElem?_append_left l1]; exact h1) (by rw [List.getElem?_append_left l2]; exact h2)
  · rw [List.getLast?_eq_getElem?] at hq
    have l1 := (List.getElem?_eq_some_iff.mp hq).1
    exact h (ls.length - 1) q p (by rw [List.getElem?_append_left l1]; exact hq) (by rw [show ls.length - 1 + 1 = ls.length by omega]; simp)
local macro_rules | `(tactic| walk_at "ev") => `(tactic| simp only [dSeq, dNext, dBreak, dCont, dRet, dRetVar, dRetN, dIfS, dSet, dAsg, dPar2, dPar3, dAug, dMeth, dVar, dC, dBin, dUn, dChain, dTest, dAnd, dOr, dNot, dAndV, dOrV, dNotV, dIf, dNil, dCons, dTup, dLst, dCB, dCall, dItems, dItemsF, dFor, dLc, dYes, dStar, dSetIx, dPopIx, dEnum, dZip, dDict, dPut, dKeys, dRev, dIsTuple, dIsInt, dIsBool, dIsTy, dNoPart, dPart, dSl, dTruth, dLc2, dIr1, dIr2, dSrc, dSrcPut, dCells, dDrain, oI, oIC, oIB, oNeg, oAdd, oIsN, oNotN, cLen, cTuple, cList, cAbs, cInt, TV.view, TV.fz, TV.sv, TV.items, TV.fixd, TV.itm, TV.asD, isN_n, isN_P, isN_Q, isN_t, isN_i, TV.res, TV.isOwn, TV.isDct, fzs, frz, startE, wipeE, fApp, fIns, isT, oLt, oLe, oGt, oGe, oSub, oMul, oDiv, oMod, oMulK, List.map_cons, List.map_nil, List.length_cons, List.length_nil, List.cons_append, List.nil_append, List.getElem?_cons_succ, List.getElem?_cons_zero, List.set_cons_succ, List.set_cons_zero, List.replicate, Nat.reduceAdd, Nat.reduceSub, Nat.zero_add, List.cons.injEq, Option.some.injEq, exists_eq_left', exists_eq_left, exists_and_left, TV.fr.injEq, PyData.bool.injEq, PyData.int.injEq, dgN, dgNil, dgCons, dgT, true_and, and_true, reduceCtorEq, false_and, and_false, ↓reduceIte, if_true, if_false, Bool.not_true, Bool.not_false, decide_eq_true_eq, Bool.false_eq_true, cmp_lt, cmp_gt, cmp_le, cmp_ge, cmp_eq, gt_iff_lt, ge_iff_le, E_added, E_lessened, E_multiplied, E_divided, E_compared, E_between, ix_t0, ix_t1, ix_t2, ix_t3, ix_P0, ix_P1, ix_R, ix_R0, ix_R1, ix_Rl, E_turned_by, E_place_at, E_spot_between, E_crossing, E_slopes_of, E_spot_of, E_line_of, E_is_under, E_share_on_slope, oEq_int, oNe_int, oEq_Q, oNe_Q, E_own_sight, E_sight_places, E_reach, E_bar_corners, E_slope_reach, E_greatest2, E_least2, E_greatest, E_least, lit0, lit1, lit2, cut_to, cut_from1, cut_from2, E_ascending_fractions, oEq_ON, ix_Pc0, ix_Pc1, ix_Pc2, ix_rdlast, E_left_pieces, E_right_pieces, E_first_left, E_last_right, isN_O, Option.isNone_none, Option.isNone_some, E_seen_part, E_is_part_within, isN_OI, oEq_lot, ix_Ly1, ix_Ly3, List.getLast?_concat, List.dropLast_concat])
theorem sem_slope_layers : SemA C_slope_layers 14 4 d_slope_layers where
  len := by rintro ds P ⟨r, h, i, xs, d, rfl, _⟩; rfl
  sem := by
    rintro ds P ⟨r, h, i, xs, d, rfl, ⟨hd, w, hi, hx, hl⟩, hP⟩
    have hsz : sizeLine = 16777216 := sizeLine_eq
    have two : (2 : Nat) ≤ sizeLine := by decide
    have four : (4 : Nat) ≤ sizeLine := by decide
    unfold d_slope_layers
    rcases hd with rfl | rfl
    all_goals
      walk_at "ev"
      refine lcL_rel (fun x o => SPs r h i x o ∧ ∀ a b, o = some (a, b) → DrB r h x a ∧ DrB r h x b) encQ encOI xs ?_ (by omega) ?_
      · intro x hxm Y hY
        walk_at "ev"
        refine ⟨⟨w, hi, hx x hxm⟩, fun o ho bo => ?_⟩
        exact hY o ⟨ho, bo⟩
      · intro ps hpl hps
        have hsp : ∀ (k : Nat) (x : Rat) (o : Option (Rat × Rat)), xs[k]? = some x → ps[k]? = some o → SPs r h i x o := fun k x o h1 h2 => (hps k x o h1 h2).1
        have hmem : ∀ o ∈ ps, ∃ x ∈ xs, SPs r h i x o ∧ ∀ a b, o = some (a, b) → DrB r h x a ∧ DrB r h x b := fun o ho => by
          obtain ⟨k, hk, e⟩ := List.mem_iff_getElem.mp ho
          have hk' : k < xs.length := by omega
          exact ⟨xs[k], List.getElem_mem _, hps k _ o (List.getElem?_eq_getElem hk') (by rw [List.getElem?_eq_getElem hk, e])⟩
        refine ⟨two, two, ?_⟩
        have fl := flat_len endsOf ends_len ps
        refine lcO_fl endsOf encOI encQ ps ?_ (by omega) ?_
        · intro o ho acc Z hacc hZ
          cases o with
          | none =>
            simp only [endsOf, List.map_nil, List.append_nil] at hZ
            walk_at "ev"
            exact ⟨rfl, hZ⟩
          | some p =>
            obtain ⟨s, e⟩ := p
            simp only [endsOf, List.length_cons, List.length_nil] at hacc
            simp only [endsOf, List.map_nil, List.map_cons] at hZ
            walk_at "ev"
            refine ⟨rfl, ?_⟩
            refine ⟨[encQ s, encQ e], rfl, ?_⟩
            simp only [lcI]
            walk_at "ev"
            refine ⟨by omega, by simp; omega, ?_⟩
            simpa using hZ
        · have ef : fzs (List.map TV.fr ((ps.flatMap endsOf).map encQ) ++ []) = some ((ps.flatMap endsOf).map encQ) := by rw [List.append_nil, fzs_map]
          rw [ef]
          walk_at "ev"
          refine ⟨by simp only [List.length_cons, List.length_map]; omega, 0 :: 1 :: ps.flatMap endsOf, .inl rfl, ⟨?_, by simp only [List.length_cons]; omega⟩, fun ts asc mem tl => ?_⟩
          · intro t ht
            rcases List.mem_cons.mp ht with rfl | ht
            · exact Sm0
            rcases List.mem_cons.mp ht with rfl | ht
            · exact (Bn 4400 (by decide)).2.1
            obtain ⟨o, ho, hto⟩ := List.mem_flatMap.mp ht
            obtain ⟨x, hxm, sp, db⟩ := hmem o ho
            cases o with
            | none => simp [endsOf] at hto
            | some p =>
              obtain ⟨s, e⟩ := p
              obtain ⟨d1, d2⟩ := db s e rfl
              have : t = s ∨ t = e := by simpa [endsOf] using hto
              rcases this with rfl | rfl
              · exact (d1.b w (hx x hxm)).mono (by decide)
              · exact (d2.b w (hx x hxm)).mono (by decide)
          · walk_at "ev"
            have hl2 : ts.length ≤ 2 * xs.length + 2 := by
              simp only [List.length_cons] at tl
              omega
            have ends : ∀ s e, some (s, e) ∈ ps → s ∈ ts ∧ e ∈ ts := fun s e ho => by
              constructor
              · refine (mem s).mpr (List.mem_cons_of_mem _ (List.mem_cons_of_mem _ (List.mem_flatMap.mpr ⟨_, ho, by simp [endsOf]⟩)))
              · refine (mem e).mpr (List.mem_cons_of_mem _ (List.mem_cons_of_mem _ (List.mem_flatMap.mpr ⟨_, ho, by simp [endsOf]⟩)))
            have only : ∀ t ∈ ts, EnB r h xs t ∧ 0 ≤ t ∧ t ≤ 1 ∧ B 963 t := fun t ht => by
              rcases List.mem_cons.mp ((mem t).mp ht) with rfl | ht
              · exact ⟨.inl rfl, by grind, by grind, (Bn 963 (by decide)).1⟩
              rcases List.mem_cons.mp ht with rfl | ht
              · exact ⟨.inr (.inl rfl), by grind, by grind, (Bn 963 (by decide)).2.1⟩
              obtain ⟨o, ho, hto⟩ := List.mem_flatMap.mp ht
              obtain ⟨x, hxm, sp, db⟩ := hmem o ho
              cases o with
              | none => simp [endsOf] at hto
              | some p =>
                obtain ⟨s, e⟩ := p
                obtain ⟨d1, d2⟩ := db s e rfl
                obtain ⟨q0, q1, q2, _⟩ := sp
                have : t = s ∨ t = e := by simpa [endsOf] using hto
                rcases this with rfl | rfl
                · exact ⟨.inr (.inr ⟨x, hxm, d1⟩), q0, by grind, d1.b w (hx x hxm)⟩
                · exact ⟨.inr (.inr ⟨x, hxm, d2⟩), by grind, q2, d2.b w (hx x hxm)⟩
            have l0 : ts[0]? = some 0 := by
              obtain ⟨j, hj, ej⟩ := List.mem_iff_getElem.mp ((mem 0).mpr List.mem_cons_self)
              rcases Nat.eq_zero_or_pos j with q | q
              · subst q; rw [List.getElem?_eq_getElem hj, ej]
              · have := List.pairwise_iff_getElem.mp asc 0 j (by omega) hj q
                have := (only ts[0] (List.getElem_mem _)).2.1
                grind
            have l1 : ts[ts.length - 1]? = some 1 := by
              obtain ⟨j, hj, ej⟩ := List.mem_iff_getElem.mp ((mem 1).mpr (List.mem_cons_of_mem _ List.mem_cons_self))
              by_cases q : j = ts.length - 1
              · subst q; rw [List.getElem?_eq_getElem hj, ej]
              · have := List.pairwise_iff_getElem.mp asc j (ts.length - 1) hj (by omega) (by omega)
                have := (only ts[ts.length - 1] (List.getElem_mem _)).2.2.1
                grind
            refine ⟨Nat.zero_le _, .inl ⟨_, rfl, _, _, ⟨rfl, rfl⟩, rfl, _, rfl, _, rfl, ?_⟩⟩
            rw [zip_pairs]
            refine forL_inv _ (fun pre env => ∃ d0 ls y u v z a b c e f, env = [some (.fr (encR r)), some (.fr (encQ h)), some (.fr (.int (i : Nat))), d0, some (.fr (.list (ps.map encOI))), a, some (.own (ls.map (encLy i))), u, v, z, b, c, e, f] ∧ Chain (LyOk r h i xs) 0 ls y ∧
              ts[pre.length]? = some y ∧ Diff ls ∧ (∀ p ∈ ls, EnB r h xs p.1 ∧ EnB r h xs p.2.1) ∧ ls.length ≤ pre.length) (ts.zip (ts.drop 1)) ?_ ⟨_, [], 0, _, _, _, _, _, _, _, _, rfl, rfl, l0, diff_nil, (fun _ h => nomatch h), Nat.le_refl _⟩ ?_
            · rintro pre ⟨a, b⟩ post env K e ⟨d0, ls, y, u, v, z, a', b', c', e', f', rfl, ch, hy, df, eb, hlen⟩ hK
              obtain ⟨ha, hb', ab, non, g1, g2⟩ := zip_split asc e
              have ey : y = a := by rw [g1] at hy; cases hy; rfl
              subst ey
              have hplen : pre.length < ts.length := (List.getElem?_eq_some_iff.mp g1).1
              obtain ⟨ea, a0, _, ba⟩ := only y ha
              obtain ⟨ebb, _, b1, bb⟩ := only b hb'
              walk_at "ev"
              rw [dNum_OI]
              have hps2 : ps.zipIdx.length ≤ 16777216 := by rw [List.length_zipIdx]; omega
              refine lcL_fm (fun c : Option (Rat × Rat) × Nat => match c.1 with
                | some (s, e) => if s ≤ y ∧ b ≤ e then some c.2 else none
                | none => none) _ (fun (k : Nat) => PyData.int (k : Int)) ps.zipIdx ?_ hps2 ?_
              · rintro ⟨o, k⟩ hok Y hY
                rw [List.mk_mem_zipIdx_iff_getElem?] at hok
                have hom : o ∈ ps := List.mem_of_getElem? hok
                cases o with
                | none =>
                  walk_at "ev"
                  exact hY
                | some p =>
                  obtain ⟨s, e⟩ := p
                  obtain ⟨x, hxm, sp, db⟩ := hmem _ hom
                  obtain ⟨d1, d2⟩ := db s e rfl
                  have bs := d1.b w (hx x hxm)
                  have be := d2.b w (hx x hxm)
                  walk_at "ev"
                  refine ⟨two, ?_⟩
                  simp only [encOI]
                  walk_at "ev"
                  refine ⟨⟨by walk_at "bb", by walk_at "bb", by walk_at "bb", by walk_at "bb"⟩, ?_⟩
                  simp only at hY
                  by_cases q : s ≤ y ∧ b ≤ e
                  · rw [if_pos q] at hY ⊢
                    exact hY
                  · rw [if_neg q] at hY ⊢
                    exact hY
              have el : PyData.tuple ((ps.zipIdx.filterMap (fun c : Option (Rat × Rat) × Nat => match c.1 with
                | some (s, e) => if s ≤ y ∧ b ≤ e then some c.2 else none
                | none => none)).map fun (k : Nat) => PyData.int (k : Int)) = encLot (lotOf ps y b) := rfl
              rw [el]
              have lk := ly_of hpl hsp a0 b1 non ends
              generalize lotOf ps y b = lot at lk
              have app : (∀ p, ls.getLast? = some p → p.2.2 ≠ lot) → (List.map (encLy i) ls ++ [PyData.tuple [PyData.int (i : Int), encQ y, encQ b, encLot lot]]).length ≤ sizeLine ∧
                  ∀ u v z b' c' e' f', K [some (.fr (encR r)), some (.fr (encQ h)), some (.fr (.int (i : Nat))), d0, some (.fr (.list (ps.map encOI))), a', some (.own (List.map (encLy i) ls ++ [PyData.tuple [PyData.int (i : Int), encQ y, encQ b, encLot lot]])), u, v, z, b', c', e', f'] := fun hd => by
                refine ⟨by rw [List.length_append, List.length_map]; simp only [List.length_cons, List.length_nil]; omega, fun u v z b' c' e' f' => hK _ ⟨d0, ls ++ [(y, b, lot)], b, u, v, z, a', b', c', e', f', by rw [List.map_append]; rfl, ch.snoc ab lk, by simpa using g2, diff_snoc df hd, ?_, by simp; omega⟩⟩
                intro p hp
                rcases List.mem_append.mp hp with hp | hp
                · exact eb p hp
                · have : p = (y, b, lot) := by simpa using hp
                  subst this; exact ⟨ea, ebb⟩
              rcases List.eq_nil_or_concat ls with e0 | ⟨qs, p, e0⟩
              · subst e0
                simp only [List.map_nil, List.isEmpty_nil, Bool.not_true, Bool.false_eq_true, if_false]
                have := app (fun p hp => nomatch hp)
                exact ⟨four, this.1, this.2 _ _ _ _ _ _ _⟩
              · subst e0
                simp only [List.concat_eq_append, List.map_append, List.map_cons, List.map_nil] at app ⊢
                have e1 : (!(List.map (encLy i) qs ++ [encLy i p]).isEmpty) = true := by simp
                rw [if_pos e1]
                walk_at "ev"
                split
                · rename_i eo2
                  rw [List.concat_eq_append] at ch df eb
                  refine ⟨four, by rw [List.length_append, List.length_map]; simp at hlen ⊢; omega, hK _ ⟨d0, qs ++ [(p.1, b, lot)], b, _, _, _, _, _, _, _, _, by rw [List.map_append]; rfl, ?_, by simpa using g2, ?_, ?_, by simp at hlen ⊢; omega⟩⟩
                  · obtain ⟨y1, c1, c2⟩ := ch.split
                    obtain ⟨e1, e2, e3, e4⟩ := c2
                    have e4 : p.2.1 = y := e4
                    subst e1
                    have := c1.le
                    rw [← eo2] at lk ⊢
                    exact c1.snoc (by grind) (LyOk.join w.good hi (by grind) (by grind) (by grind) b1 e3 (by rw [e4]; exact lk))
                  · obtain ⟨f1, f2⟩ := diff_init df
                    exact diff_snoc f1 fun q hq => by rw [← eo2]; exact f2 q hq
                  · intro p' hp'
                    rcases List.mem_append.mp hp' with hp' | hp'
                    · exact eb p' (by simp [hp'])
                    · have : p' = (p.1, b, lot) := by simpa using hp'
                      subst this; exact ⟨(eb p (by simp)).1, ebb⟩
                · rename_i eo2
                  have := app (fun p' hp' => by
                    have : p' = p := by simpa using hp'.symm
                    subst this; exact eo2)
                  exact ⟨four, this.1, this.2 _ _ _ _ _ _ _⟩
            · rintro env ⟨d0, ls, y, u, v, z, a', b', c', e', f', rfl, ch, hy, df, eb, hlen⟩
              walk_at "ev"
              have lz : (ts.zip (ts.drop 1)).length = ts.length - 1 := by rw [List.length_zip, List.length_drop]; omega
              rw [lz, l1] at hy
              cases hy
              exact ⟨lf_map (fun p => by show (lf (encLot p.2.2) && true) = true; rw [Bool.and_true]; exact lf_map (fun _ => rfl) p.2.2) ls, hP ls ⟨ch, df, eb, by omega⟩⟩
end DL
end
section
set_option maxRecDepth 100000
set_option maxHeartbeats 1000000
set_option exponentiation.threshold 10
namespace DL
open PySem PySem.Spec PyProof.Rows L2 RM
local macro_rules | `(tactic| walk_at "bsyn") => `(tactic| first | assumption | exact B.add (by walk_at "bsyn") (by walk_at "bsyn") | exact B.sub (by walk_at "bsyn") (by walk_at "bsyn") | exact B.mul (by walk_at "bsyn") (by walk_at "bsyn") | exact B.div (by walk_at "bsyn") (by walk_at "bsyn") | exact B.neg (by walk_at "bsyn"))
local macro_rules | `(tactic| walk_at "bb") => `(tactic| exact B.mono (by walk_at "bsyn") (by decide))
abbrev Lys := Nat → List (Rat × Rat × List Nat)
def allLy (n : Nat) (f : Lys) : List (Nat × Rat × Rat × List Nat) := (List.range n).flatMap fun i => (f i).map fun p => (i, p)
def encL (p : Nat × Rat × Rat × List Nat) : D := encLy p.1 p.2
def encPart (p : Part) : D := .tuple [.int (p.1 : Nat), encQ p.2.1, encQ p.2.2]
structure DrOk (r : Ridge) (h : Rat) (xs : List Rat) (d : D) : Prop where
  sq : IsSeq d (xs.map encQ)
  w : Wd r h
  x : ∀ x ∈ xs, Xb x
  l : xs.length ≤ 1000
def C_layers : DC := fun ds P => ∃ (r : Ridge) (h : Rat) (xs : List Rat) (d : D), ds = [encR r, encQ h, d] ∧ DrOk r h xs d ∧ ∀ f : Lys, (∀ i, i + 1 < r.length → LYs r h i xs (f i)) → P (.fr (.tuple ((allLy (r.length - 1) f).map encL)))
def darkOf (n : Nat) (f : Lys) : List Part := (allLy n f).filterMap fun p => if p.2.2.2 = [] then some (p.1, p.2.1, p.2.2.1) else none
def C_dark_parts : DC := fun ds P => ∃ (r : Ridge) (h : Rat) (xs : List Rat) (d : D), ds = [encR r, encQ h, d] ∧ DrOk r h xs d ∧ ∀ f : Lys, (∀ i, i + 1 < r.length → LYs r h i xs (f i)) → P (.fr (.tuple ((darkOf (r.length - 1) f).map encPart)))
def d_layers : DSt := (dRet (dCB cTuple (dCons (dLc2 (dIr1 (dCons (dCall C_slopes_of (dCons (dVar 0) dNil)) dNil)) (dgN 3) dYes (dItemsF (dCall C_slope_layers (dCons (dVar 0) (dCons (dVar 1) (dCons (dVar 3) (dCons (dVar 2) dNil)))))) (dgN 4) dYes (dVar 4) [3, 4] [4]) dNil)))
def d_dark_parts : DSt := (dRet (dCB cTuple (dCons (dLc (dItems (dCall C_layers (dCons (dVar 0) (dCons (dVar 1) (dCons (dVar 2) dNil))))) (dgT 4 (dgCons (dgN 3) (dgCons (dgN 4) (dgCons (dgN 5) (dgCons (dgN 6) dgNil))))) (dTest (dBin oEq (dVar 6) (dTup dNil))) (dTup (dCons (dVar 3) (dCons (dVar 4) (dCons (dVar 5) dNil)))) [3, 4, 5, 6]) dNil)))
theorem range_enc (n : Nat) : dRange 0 n = (List.range n).map fun (k : Nat) => PyData.int (k : Int) := by
  unfold dRange
  congr 1
  funext k
  simp
theorem lcO_rel {β : Type} (R : Nat → List β → Prop) (enc : Nat → D) (enc' : Nat → β → D) {c : Nat} {g : DGx} {tt : DTx} {di1 : DIx} {g1 : DGx} {tt1 : DTx} {te : DEx} {env : DEnv} {vs1 : List Nat} {P : List D → Prop} (n : Nat)
    (hc : ∀ i ys, R i ys → ys.length ≤ c) (hn : n * c ≤ 16777216)
    (step : ∀ i, i < n → ∀ (acc : List D) (Z : List D → Prop), (∀ ys, R i ys → acc.length + ys.length ≤ 16777216 ∧ Z (acc ++ ys.map (enc' i))) → g (enc i) env fun env' => ownP env' = ownP env ∧ tt env' fun b => if b = true then di1 env' fun es => lcI g1 tt1 te (wipeE env' vs1) Z es acc else Z acc)
    (h : ∀ f : Nat → List β, (∀ i, i < n → R i (f i)) → P ((List.range n).flatMap fun i => (f i).map (enc' i))) : lcO g tt di1 g1 tt1 te env vs1 P ((List.range n).map enc) [] := by
  have key : ∀ (m k : Nat) (f : Nat → List β), k + m = n → (∀ i, i < k → R i (f i)) → lcO g tt di1 g1 tt1 te env vs1 P ((List.range' k m).map enc) ((List.range k).flatMap fun i => (f i).map (enc' i)) := by
    intro m
    induction m with
    | zero =>
      intro k f e hf
      have : k = n := by omega
      subst this
      exact h f hf
    | succ m ih =>
      intro k f e hf
      rw [List.range'_succ]
      show g (enc k) env _
      have hb : ∀ j, j ≤ k → ((List.range j).flatMap fun i => (f i).map (enc' i)).length ≤ j * c := by
        intro j
        induction j with
        | zero => intro _; simp
        | succ j ihj =>
          intro hj
          rw [List.range_succ, List.flatMap_append, List.length_append]
          have h1 := ihj (by omega)
          have h2 := hc j _ (hf j (by omega))
          simp only [List.flatMap_cons, List.flatMap_nil, List.append_nil, List.length_map, Nat.succ_mul]
          omega
      refine step k (by omega) _ _ fun ys hys => ?_
      have hl := hc k ys hys
      have hbk := hb k (Nat.le_refl _)
      have hm : (k + 1) * c ≤ n * c := Nat.mul_le_mul_right c (by omega)
      rw [Nat.succ_mul] at hm
      refine ⟨by omega, ?_⟩
      let f' : Nat → List β := fun i => if i = k then ys else f i
      have ef : ∀ i, i < k → f' i = f i := fun i hi => if_neg (by omega)
      have ek : f' k = ys := if_pos rfl
      have := ih (k + 1) f' (by omega) fun i hi => by
        by_cases z : i = k
        · subst z; rw [ek]; exact hys
        · rw [ef i (by omega)]; exact hf i (by omega)
      rw [List.range_succ, List.flatMap_append] at this
      have e1 : ((List.range k).flatMap fun i => (f' i).map (enc' i)) = (List.range k).flatMap fun i => (f i).map (enc' i) := by
        have : ∀ (l : List Nat), (∀ i ∈ l, i < k) → (l.flatMap fun i => (f' i).map (enc' i)) = l.flatMap fun i => (f i).map (enc' i) := by
          intro l
          induction l with
          | nil => intro _; rfl
          | cons a l ihl =>
            intro hl
            rw [List.flatMap_cons, List.flatMap_cons, ef a (hl a List.mem_cons_self), ihl fun i hi => hl i (List.mem_cons_of_mem _ hi)]
        exact this _ fun i hi => List.mem_range.mp hi
      rw [e1] at this
      simpa [ek] using this
  have := key n 0 (fun _ => []) (by omega) (fun i hi => by omega)
  rw [List.range_eq_range']
  simpa using this
theorem lcI_fm {α β : Type} (f : α → Option β) (enc : α → D) (enc' : β → D) {g : DGx} {tt : DTx} {te : DEx} {env : DEnv} {P : List D → Prop} (xs : List α)
    (step : ∀ a ∈ xs, ∀ Y : Option D → Prop, Y ((f a).map enc') → g (enc a) env fun env' => tt env' fun b => if b = true then te env' fun t => ∃ y, t.fz = some y ∧ Y (some y) else Y none) :
    ∀ acc : List D, acc.length + xs.length ≤ 16777216 → P (acc ++ (xs.filterMap f).map enc') → lcI g tt te env P (xs.map enc) acc := by
  have hsz : sizeLine = 16777216 := sizeLine_eq
  have key : ∀ (ys : List α) (acc : List D), (∀ a ∈ ys, a ∈ xs) → acc.length + ys.length ≤ sizeLine → P (acc ++ (ys.filterMap f).map enc') → lcI g tt te env P (ys.map enc) acc := by
    intro ys
    induction ys with
    | nil => intro acc _ _ h; simpa [lcI] using h
    | cons a ys ih =>
      intro acc hm hl h
      simp only [List.length_cons] at hl
      have st := step a (hm a List.mem_cons_self) (fun o => match o with
        | some y => acc.length < sizeLine ∧ lcI g tt te env P (ys.map enc) (acc ++ [y])
        | none => lcI g tt te env P (ys.map enc) acc)
      refine st ?_
      cases e : f a with
      | none =>
        refine ih acc (fun b hb => hm b (List.mem_cons_of_mem _ hb)) (by omega) ?_
        rw [List.filterMap_cons_none e] at h
        exact h
      | some b =>
        refine ⟨by omega, ih (acc ++ [enc' b]) (fun b hb => hm b (List.mem_cons_of_mem _ hb)) (by simp; omega) ?_⟩
        rw [List.filterMap_cons_some e] at h
        simpa using h
  exact fun acc hl h => key xs acc (fun _ h => h) (by omega) h
theorem E_layers_use {r : Ridge} {h : Rat} {xs : List Rat} {d : D} {P : TV → Prop} (ok : DrOk r h xs d) (k : ∀ f : Lys, (∀ i, i + 1 < r.length → LYs r h i xs (f i)) → P (.fr (.tuple ((allLy (r.length - 1) f).map encL)))) : C_layers [encR r, encQ h, d] P := ⟨r, h, xs, d, rfl, ok, k⟩
theorem lf_encL (p : Nat × Rat × Rat × List Nat) : lf (encL p) = true := by
  show (lf (encLot p.2.2.2) && true) = true
  rw [Bool.and_true]; exact lf_map (fun _ => rfl) p.2.2.2
theorem allLy_len {n : Nat} {f : Lys} {c : Nat} (h : ∀ i, i < n → (f i).length ≤ c) : (allLy n f).length ≤ n * c := by
  unfold allLy
  have : ∀ j, j ≤ n → ((List.range j).flatMap fun i => (f i).map fun p => (i, p)).length ≤ j * c := by
    intro j
    induction j with
    | zero => intro _; simp
    | succ j ih =>
      intro hj
      rw [List.range_succ, List.flatMap_append, List.length_append]
      have h1 := ih (by omega)
      have h2 := h j (by omega)
      simp only [List.flatMap_cons, List.flatMap_nil, List.append_nil, List.length_map, Nat.succ_mul]
      omega
  exact this n (Nat.le_refl _)
local macro_rules | `(tactic| walk_at "ev") => `(tactic| simp only [dSeq, dNext, dBreak, dCont, dRet, dRetVar, dRetN, dIfS, dSet, dAsg, dPar2, dPar3, dAug, dMeth, dVar, dC, dBin, dUn, dChain, dTest, dAnd, dOr, dNot, dAndV, dOrV, dNotV, dIf, dNil, dCons, dTup, dLst, dCB, dCall, dItems, dItemsF, dFor, dLc, dYes, dStar, dSetIx, dPopIx, dEnum, dZip, dDict, dPut, dKeys, dRev, dIsTuple, dIsInt, dIsBool, dIsTy, dNoPart, dPart, dSl, dTruth, dLc2, dIr1, dIr2, dSrc, dSrcPut, dCells, dDrain, oI, oIC, oIB, oNeg, oAdd, oIsN, oNotN, cLen, cTuple, cList, cAbs, cInt, TV.view, TV.fz, TV.sv, TV.items, TV.fixd, TV.itm, TV.asD, isN_n, isN_P, isN_Q, isN_t, isN_i, TV.res, TV.isOwn, TV.isDct, fzs, frz, startE, wipeE, fApp, fIns, isT, oLt, oLe, oGt, oGe, oSub, oMul, oDiv, oMod, oMulK, List.map_cons, List.map_nil, List.length_cons, List.length_nil, List.cons_append, List.nil_append, List.getElem?_cons_succ, List.getElem?_cons_zero, List.set_cons_succ, List.set_cons_zero, List.replicate, Nat.reduceAdd, Nat.reduceSub, Nat.zero_add, List.cons.injEq, Option.some.injEq, exists_eq_left', exists_eq_left, exists_and_left, TV.fr.injEq, PyData.bool.injEq, PyData.int.injEq, dgN, dgNil, dgCons, dgT, true_and, and_true, reduceCtorEq, false_and, and_false, ↓reduceIte, if_true, if_false, Bool.not_true, Bool.not_false, decide_eq_true_eq, Bool.false_eq_true, cmp_lt, cmp_gt, cmp_le, cmp_ge, cmp_eq, gt_iff_lt, ge_iff_le, E_added, E_lessened, E_multiplied, E_divided, E_compared, E_between, ix_t0, ix_t1, ix_t2, ix_t3, ix_P0, ix_P1, ix_R, ix_R0, ix_R1, ix_Rl, E_turned_by, E_place_at, E_spot_between, E_crossing, E_slopes_of, E_spot_of, E_line_of, E_is_under, E_share_on_slope, oEq_int, oNe_int, oEq_Q, oNe_Q, E_own_sight, E_sight_places, E_reach, E_bar_corners, E_slope_reach, E_greatest2, E_least2, E_greatest, E_least, lit0, lit1, lit2, cut_to, cut_from1, cut_from2, E_ascending_fractions, oEq_ON, ix_Pc0, ix_Pc1, ix_Pc2, ix_rdlast, E_left_pieces, E_right_pieces, E_first_left, E_last_right, isN_O, Option.isNone_none, Option.isNone_some, E_seen_part, E_is_part_within, isN_OI, oEq_lot, ix_Ly1, ix_Ly3, List.getLast?_concat, List.dropLast_concat])
theorem sem_layers : SemA C_layers 5 3 d_layers where
  len := by rintro ds P ⟨r, h, xs, d, rfl, _⟩; rfl
  sem := by
    rintro ds P ⟨r, h, xs, d, rfl, ok, hP⟩
    have hsz : sizeLine = 16777216 := sizeLine_eq
    have hl := ok.w.len
    have two := ok.w.good.two
    have hxl := ok.l
    unfold d_layers
    walk_at "ev"
    have ej : ((r.length : Int) - 1).toNat = r.length - 1 := by omega
    refine ⟨by omega, by omega, ?_⟩
    rw [ej, range_enc]
    refine lcO_rel (fun i ls => i + 1 < r.length ∧ LYs r h i xs ls) (fun (k : Nat) => PyData.int (k : Int)) (fun i => encLy i) (c := 2002) (r.length - 1) ?_ (by omega) ?_ ?_
    · rintro i ls ⟨_, hls⟩
      have := hls.len
      omega
    · intro i hi acc Z hZ
      walk_at "ev"
      refine ⟨rfl, r, h, i, xs, d, rfl, ⟨ok.sq, ok.w, by omega, ok.x, by omega⟩, fun ls hls => ?_⟩
      obtain ⟨z1, z2⟩ := hZ ls ⟨by omega, hls⟩
      refine ⟨_, rfl, ?_⟩
      refine lcI_fm some (encLy i) (encLy i) ls ?_ acc z1 (by simpa using z2)
      intro p hp Y hY
      walk_at "ev"
      exact hY
    · intro f hf
      have e : ((List.range (r.length - 1)).flatMap fun i => (f i).map (encLy i)) = (allLy (r.length - 1) f).map encL := by
        unfold allLy
        rw [List.map_flatMap]
        congr 1
        funext i
        rw [List.map_map]
        rfl
      rw [e]
      exact ⟨lf_map lf_encL _, hP f fun i hi => (hf i (by omega)).2⟩
theorem oEq_emp {l : List Nat} {P : TV → Prop} : oEq (.fr (encLot l)) (.fr (.tuple [])) P = P (.fr (.bool (decide (l = [])))) := oEq_lot (l' := [])
theorem sem_dark_parts : SemA C_dark_parts 7 3 d_dark_parts where
  len := by rintro ds P ⟨r, h, xs, d, rfl, _⟩; rfl
  sem := by
    rintro ds P ⟨r, h, xs, d, rfl, ok, hP⟩
    have hl := ok.w.len
    have hxl := ok.l
    have three : (3 : Nat) ≤ sizeLine := by decide
    unfold d_dark_parts
    walk_at "ev"
    refine E_layers_use ok fun f hf => ?_
    have len := allLy_len (n := r.length - 1) (f := f) (c := 2002) fun i hi => by
      have := (hf i (by omega)).len
      omega
    refine ⟨_, rfl, ?_⟩
    refine lcL_fm (fun p => if p.2.2.2 = [] then some (p.1, p.2.1, p.2.2.1) else none) encL encPart (allLy (r.length - 1) f) ?_ (by omega) ?_
    · intro p hp Y hY
      unfold encL encLy
      walk_at "ev"
      refine ⟨Nat.zero_le _, ?_⟩
      rw [oEq_emp]
      walk_at "ev"
      by_cases q : p.2.2.2 = []
      · rw [if_pos q] at hY ⊢
        exact ⟨three, hY⟩
      · rw [if_neg q] at hY ⊢
        exact hY
    · exact ⟨lf_map (fun _ => rfl) _, hP f hf⟩
end DL
end
section
set_option maxRecDepth 100000
set_option maxHeartbeats 1000000
set_option exponentiation.threshold 10
namespace DL
open PySem PySem.Spec PyProof.Rows L2 RM
local macro_rules | `(tactic| walk_at "bsyn") => `(tactic| first | assumption | exact B.add (by walk_at "bsyn") (by walk_at "bsyn") | exact B.sub (by walk_at "bsyn") (by walk_at "bsyn") | exact B.mul (by walk_at "bsyn") (by walk_at "bsyn") | exact B.div (by walk_at "bsyn") (by walk_at "bsyn") | exact B.neg (by walk_at "bsyn"))
local macro_rules | `(tactic| walk_at "bb") => `(tactic| exact B.mono (by walk_at "bsyn") (by decide))
def partsW (r : Ridge) : List Part := (List.range (r.length - 1)).map fun i => (i, 0, 1)
def C_whole_ground : DC := fun ds P => ∃ (r : Ridge), ds = [encR r] ∧ (2 ≤ r.length ∧ r.length ≤ 1000) ∧ P (.fr (.tuple ((partsW r).map encPart)))
def UB (r : Ridge) (h : Rat) (p : Part) (x : Option Rat) (e : Rat) : Prop := e = p.2.2 ∨ ∃ X, x = some X ∧ DrB r h X e
def C_unseen_end : DC := fun ds P => ∃ (r : Ridge) (h : Rat) (p : Part) (x : Option Rat), ds = [encR r, encQ h, encPart p, encO x] ∧ (Wd r h ∧ (GS r h).PartOk p ∧ Tb p.2.1 ∧ Tb p.2.2 ∧ ∀ X, x = some X → Xb X) ∧ ∀ c : Option Rat, (GS r h).UE p x c → (∀ e, c = some e → UB r h p x e) → P (.fr (encO c))
def encSt (s : Rat × Part × Rat) : D := .tuple [encQ s.1, encPart s.2.1, encQ s.2.2]
def encSO : Option (Rat × Part × Rat) → D
  | none => .none
  | some s => encSt s
structure PsO (r : Ridge) (h : Rat) (parts : List Part) : Prop where
  w : Wd r h
  p : ∀ p ∈ parts, (GS r h).PartOk p ∧ Tb p.2.1 ∧ Tb p.2.2
def C_next_step : DC := fun ds P => ∃ (r : Ridge) (h : Rat) (parts : List Part) (d : D) (x : Option Rat), ds = [encR r, encQ h, d, encO x] ∧ (IsSeq d (parts.map encPart) ∧ PsO r h parts ∧ ∀ X, x = some X → Xb X) ∧
  ∀ s : Option (Rat × Part × Rat), (GS r h).NS parts x s → (∀ v p e, s = some (v, p, e) → UB r h p x e) → P (.fr (encSO s))
def d_whole_ground : DSt := (dRet (dCB cTuple (dCons (dLc (dIr1 (dCons (dCall C_slopes_of (dCons (dVar 0) dNil)) dNil)) (dgN 1) dYes (dTup (dCons (dVar 1) (dCons (dTup (dCons (dC (.int 0)) (dCons (dC (.int 1)) dNil))) (dCons (dTup (dCons (dC (.int 1)) (dCons (dC (.int 1)) dNil))) dNil)))) [1]) dNil)))
def d_unseen_end : DSt := (dSeq (dAsg (dgT 3 (dgCons (dgN 4) (dgCons (dgN 5) (dgCons (dgN 6) dgNil)))) (dVar 2))
  (dSeq (dIfS (dTest (dBin oIsN (dVar 3) (dC .none))) (dRetVar 6) dNext)
  (dSeq (dIfS (dTest (dBin oLe (dCall C_compared (dCons (dBin oIx (dCall C_slope_reach (dCons (dVar 0) (dCons (dVar 1) (dCons (dVar 4) (dCons (dVar 5) dNil))))) (dC (.int 0))) (dCons (dVar 3) dNil))) (dC (.int 0)))) (dRet (dC .none)) dNext)
  (dSeq (dSet false 7 (dCall C_first_left (dCons (dVar 0) (dCons (dVar 1) (dCons (dVar 4) (dCons (dVar 3) dNil))))))
  (dRet (dIf (dOr (dTest (dBin oIsN (dVar 7) (dC .none))) (dTest (dBin oGt (dCall C_compared (dCons (dVar 7) (dCons (dVar 6) dNil))) (dC (.int 0))))) (dVar 6) (dVar 7)))))))
def d_next_step : DSt := (dSeq (dSet false 4 (dC .none))
  (dSeq (dFor (dItemsF (dVar 2)) (dgN 7) (dSeq (dSet false 5 (dCall C_unseen_end (dCons (dVar 0) (dCons (dVar 1) (dCons (dVar 7) (dCons (dVar 3) dNil))))))
  (dIfS (dTest (dBin oNotN (dVar 5) (dC .none))) (dSeq (dSet false 6 (dBin oIx (dCall C_slope_reach (dCons (dVar 0) (dCons (dVar 1) (dCons (dBin oIx (dVar 7) (dC (.int 0))) (dCons (dVar 5) dNil))))) (dC (.int 1))))
  (dIfS (dOr (dTest (dBin oIsN (dVar 4) (dC .none))) (dTest (dBin oLt (dCall C_compared (dCons (dVar 6) (dCons (dBin oIx (dVar 4) (dC (.int 0))) dNil))) (dC (.int 0))))) (dSet false 4 (dTup (dCons (dVar 6) (dCons (dVar 7) (dCons (dVar 5) dNil))))) dNext)) dNext)))
  (dRetVar 4)))
section
variable {r : Ridge} {h : Rat} {i : Nat} {P : TV → Prop} {p : Part} {x : Option Rat}
theorem isN_SO {o : Option (Rat × Part × Rat)} : TV.isN (.fr (encSO o)) = o.isNone := by cases o <;> rfl
theorem ix_Pt0 : oIx (.fr (encPart p)) (.fr (.int 0)) P = P (.fr (.int (p.1 : Nat))) := ix_t0
theorem ix_St0 {s : Rat × Part × Rat} : oIx (.fr (encSt s)) (.fr (.int 0)) P = P (.fr (encQ s.1)) := ix_t0
theorem encO_inj {o o' : Option Rat} (h : encO o = encO o') : o = o' := by
  cases o with
  | none => cases o' with
    | none => rfl
    | some _ => cases h
  | some a => cases o' with
    | none => cases h
    | some b => rw [encQ_inj h]
theorem encPart_inj {p q : Part} (h : encPart p = encPart q) : p = q := by
  obtain ⟨i, a, b⟩ := p
  obtain ⟨j, c, e⟩ := q
  unfold encPart at h
  simp only [PyData.tuple.injEq, List.cons.injEq, PyData.int.injEq, and_true] at h
  rw [encQ_inj h.2.1, encQ_inj h.2.2, show i = j by omega]
theorem E_unseen_end : C_unseen_end [encR r, encQ h, encPart p, encO x] P = ((Wd r h ∧ (GS r h).PartOk p ∧ Tb p.2.1 ∧ Tb p.2.2 ∧ ∀ X, x = some X → Xb X) ∧ ∀ c : Option Rat, (GS r h).UE p x c → (∀ e, c = some e → UB r h p x e) → P (.fr (encO c))) := by
  refine propext ⟨?_, fun h' => ⟨r, h, p, x, rfl, h'⟩⟩
  rintro ⟨a', b', c', d', e, h⟩
  simp only [List.cons.injEq, and_true] at e
  rw [encR_inj e.1, encQ_inj e.2.1, encPart_inj e.2.2.1, encO_inj e.2.2.2]
  exact h
end
theorem UE_uniq {G : Slopes} {p : Part} {x : Option Rat} {e e' : Rat} (h : G.UE p x (some e)) (h' : G.UE p x (some e')) : e = e' := by
  have key : ∀ {e e' : Rat}, G.UE p x (some e) → G.UE p x (some e') → ¬ e < e' := fun {e e'} h h' lt => by
    obtain ⟨a1, a2, a3, a4⟩ := h
    obtain ⟨b1, b2, b3, b4⟩ := h'
    obtain ⟨X, hX, l⟩ := a4 ((e + e') / 2) (by grind) (by grind)
    exact b3 X hX ((e + e') / 2) (by grind) (by grind) l
  have := key h h'
  have := key h' h
  grind
local macro_rules | `(tactic| walk_at "ev") => `(tactic| simp only [dSeq, dNext, dBreak, dCont, dRet, dRetVar, dRetN, dIfS, dSet, dAsg, dPar2, dPar3, dAug, dMeth, dVar, dC, dBin, dUn, dChain, dTest, dAnd, dOr, dNot, dAndV, dOrV, dNotV, dIf, dNil, dCons, dTup, dLst, dCB, dCall, dItems, dItemsF, dFor, dLc, dYes, dStar, dSetIx, dPopIx, dEnum, dZip, dDict, dPut, dKeys, dRev, dIsTuple, dIsInt, dIsBool, dIsTy, dNoPart, dPart, dSl, dTruth, dLc2, dIr1, dIr2, dSrc, dSrcPut, dCells, dDrain, oI, oIC, oIB, oNeg, oAdd, oIsN, oNotN, cLen, cTuple, cList, cAbs, cInt, TV.view, TV.fz, TV.sv, TV.items, TV.fixd, TV.itm, TV.asD, isN_n, isN_P, isN_Q, isN_t, isN_i, TV.res, TV.isOwn, TV.isDct, fzs, frz, startE, wipeE, fApp, fIns, isT, oLt, oLe, oGt, oGe, oSub, oMul, oDiv, oMod, oMulK, List.map_cons, List.map_nil, List.length_cons, List.length_nil, List.cons_append, List.nil_append, List.getElem?_cons_succ, List.getElem?_cons_zero, List.set_cons_succ, List.set_cons_zero, List.replicate, Nat.reduceAdd, Nat.reduceSub, Nat.zero_add, List.cons.injEq, Option.some.injEq, exists_eq_left', exists_eq_left, exists_and_left, TV.fr.injEq, PyData.bool.injEq, PyData.int.injEq, dgN, dgNil, dgCons, dgT, true_and, and_true, reduceCtorEq, false_and, and_false, ↓reduceIte, if_true, if_false, Bool.not_true, Bool.not_false, decide_eq_true_eq, Bool.false_eq_true, cmp_lt, cmp_gt, cmp_le, cmp_ge, cmp_eq, gt_iff_lt, ge_iff_le, E_added, E_lessened, E_multiplied, E_divided, E_compared, E_between, ix_t0, ix_t1, ix_t2, ix_t3, ix_P0, ix_P1, ix_R, ix_R0, ix_R1, ix_Rl, E_turned_by, E_place_at, E_spot_between, E_crossing, E_slopes_of, E_spot_of, E_line_of, E_is_under, E_share_on_slope, oEq_int, oNe_int, oEq_Q, oNe_Q, E_own_sight, E_sight_places, E_reach, E_bar_corners, E_slope_reach, E_greatest2, E_least2, E_greatest, E_least, lit0, lit1, lit2, cut_to, cut_from1, cut_from2, E_ascending_fractions, oEq_ON, ix_Pc0, ix_Pc1, ix_Pc2, ix_rdlast, E_left_pieces, E_right_pieces, E_first_left, E_last_right, isN_O, Option.isNone_none, Option.isNone_some, E_seen_part, E_is_part_within, isN_OI, oEq_lot, ix_Ly1, ix_Ly3, List.getLast?_concat, List.dropLast_concat, E_unseen_end, isN_SO, ix_Pt0, ix_St0])
theorem sem_whole_ground : SemA C_whole_ground 2 1 d_whole_ground where
  len := by rintro ds P ⟨r, rfl, _⟩; rfl
  sem := by
    rintro ds P ⟨r, rfl, ⟨h2, hl⟩, hP⟩
    have two : (2 : Nat) ≤ sizeLine := by decide
    have three : (3 : Nat) ≤ sizeLine := by decide
    unfold d_whole_ground
    walk_at "ev"
    have ej : ((r.length : Int) - 1).toNat = r.length - 1 := by omega
    refine ⟨by omega, by omega, ?_⟩
    rw [ej, range_enc]
    refine lcL_fm (fun i => some ((i, 0, 1) : Part)) (fun (k : Nat) => PyData.int (k : Int)) encPart (List.range (r.length - 1)) ?_ (by rw [List.length_range]; omega) ?_
    · intro i hi Y hY
      walk_at "ev"
      exact ⟨two, two, three, hY⟩
    · rw [List.filterMap_eq_map']
      exact ⟨lf_map (fun _ => rfl) _, hP⟩
theorem sem_unseen_end : SemA C_unseen_end 8 4 d_unseen_end where
  len := by rintro ds P ⟨r, h, p, x, rfl, _⟩; rfl
  sem := by
    rintro ds P ⟨r, h, ⟨i, a, b⟩, x, rfl, ⟨w, po, ba, bb, hx⟩, hP⟩
    obtain ⟨hi0, a0, ab, b1⟩ := po
    have hi : i + 1 < r.length := by have : i < r.length - 1 := hi0; omega
    simp only at a0 ab b1 ba bb
    have oa := w.sg (t := a) hi ba
    unfold d_unseen_end encPart
    walk_at "ev"
    cases x with
    | none =>
      simp only [Option.isNone_none, ↓reduceIte]
      exact ⟨lfQ b, hP (some b) ⟨ab, by grind, (fun X e => nomatch e), fun t t1 t2 => by grind⟩ fun e q => by cases q; exact .inl rfl⟩
    | some X =>
      have bX := hx X rfl
      simp only [Option.isNone_some, Bool.false_eq_true, ↓reduceIte]
      simp only [encO]
      walk_at "ev"
      refine ⟨oa, (slopeL_b oa).mono (by decide), bX.mono (by decide), ?_⟩
      split
      · rename_i la
        rw [slopeL_le w.good hi a0 (by grind)] at la
        exact ⟨rfl, hP none ⟨X, rfl, la⟩ fun e q => nomatch q⟩
      · rename_i la
        rw [slopeL_le w.good hi a0 (by grind)] at la
        refine ⟨⟨w, hi, bX⟩, fun o ho bo => ?_⟩
        cases o with
        | none =>
          simp only [Option.isNone_none, ↓reduceIte]
          exact ⟨lfQ b, hP (some b) ⟨ab, by grind, fun Y e t t1 t2 => by cases e; exact ho t (by grind) (by grind), fun t t1 t2 => by grind⟩ fun e q => by cases q; exact .inl rfl⟩
        | some t =>
          have bt := (bo t rfl).b w bX
          obtain ⟨t0, t1, ht⟩ := ho
          have at' : a < t := by
            by_cases q : t ≤ a
            · exact absurd ((ht a a0 (by grind)).mpr q) la
            · grind
          simp only [Option.isNone_some, Bool.false_eq_true, ↓reduceIte]
          simp only [encO]
          walk_at "ev"
          refine ⟨by walk_at "bb", by walk_at "bb", ?_⟩
          split
          · rename_i lt
            exact ⟨lfQ b, hP (some b) ⟨ab, by grind, fun Y e u u1 u2 l => by cases e; have := (ht u (by grind) (by grind)).mp l; grind, fun u u1 u2 => by grind⟩ fun e q => by cases q; exact .inl rfl⟩
          · rename_i lt
            exact ⟨lfQ t, hP (some t) ⟨at', by grind, fun Y e u u1 u2 l => by cases e; have := (ht u (by grind) (by grind)).mp l; grind, fun u u1 u2 => ⟨X, rfl, (ht u (by grind) (by grind)).mpr (by grind)⟩⟩ fun e q => by cases q; exact .inr ⟨X, rfl, bo t rfl⟩⟩
theorem step_b {r : Ridge} {h : Rat} {parts : List Part} (ok : PsO r h parts) {x : Option Rat} (hx : ∀ X, x = some X → Xb X) {p : Part} (hp : p ∈ parts) {e : Rat} (ue : (GS r h).UE p x (some e)) (ub : UB r h p x e) : Tb e ∧ 0 ≤ e ∧ e ≤ 1 ∧ p.1 + 1 < r.length := by
  obtain ⟨po, b1, b2⟩ := ok.p p hp
  obtain ⟨hi0, a0, ab, bl⟩ := po
  obtain ⟨u1, u2, _, _⟩ := ue
  refine ⟨?_, by grind, by grind, by have : p.1 < r.length - 1 := hi0; omega⟩
  rcases ub with rfl | ⟨X, e1, d⟩
  · exact b2
  · exact (d.b ok.w (hx X e1)).mono (by decide)
theorem sem_next_step : SemA C_next_step 8 4 d_next_step where
  len := by rintro ds P ⟨r, h, parts, d, x, rfl, _⟩; rfl
  sem := by
    rintro ds P ⟨r, h, parts, d, x, rfl, ⟨hd, ok, hx⟩, hP⟩
    have w := ok.w
    have three : (3 : Nat) ≤ sizeLine := by decide
    unfold d_next_step
    have main : ∀ d0 : D, forL (dgN 7) (dSeq (dSet false 5 (dCall C_unseen_end (dCons (dVar 0) (dCons (dVar 1) (dCons (dVar 7) (dCons (dVar 3) dNil))))))
  (dIfS (dTest (dBin oNotN (dVar 5) (dC .none))) (dSeq (dSet false 6 (dBin oIx (dCall C_slope_reach (dCons (dVar 0) (dCons (dVar 1) (dCons (dBin oIx (dVar 7) (dC (.int 0))) (dCons (dVar 5) dNil))))) (dC (.int 1))))
  (dIfS (dOr (dTest (dBin oIsN (dVar 4) (dC .none))) (dTest (dBin oLt (dCall C_compared (dCons (dVar 6) (dCons (dBin oIx (dVar 4) (dC (.int 0))) dNil))) (dC (.int 0))))) (dSet false 4 (dTup (dCons (dVar 6) (dCons (dVar 7) (dCons (dVar 5) dNil))))) dNext)) dNext))
        { nx := dRetVar 4 { nx := fun _ => P (.fr .none), rt := fun t => t.lf = true ∧ P t }, rt := fun t => t.lf = true ∧ P t } (parts.map encPart) [some (.fr (encR r)), some (.fr (encQ h)), some (.fr d0), some (.fr (encO x)), some (.fr .none), none, none, none] := by
      intro d0
      refine forL_inv encPart (fun pre env => ∃ s u v z, env = [some (.fr (encR r)), some (.fr (encQ h)), some (.fr d0), some (.fr (encO x)), some (.fr (encSO s)), u, v, z] ∧ (GS r h).NS pre x s ∧ ∀ v p e, s = some (v, p, e) → UB r h p x e) parts ?_ ⟨none, _, _, _, rfl, (fun _ h => nomatch h), (fun _ _ _ h => nomatch h)⟩ ?_
      · rintro pre p post env K e ⟨s, u, v, z, rfl, ns, ub⟩ hK
        have hp : p ∈ parts := by rw [e]; simp
        have hpre : ∀ q ∈ pre, q ∈ parts := fun q hq => by rw [e]; simp [hq]
        obtain ⟨po, b1, b2⟩ := ok.p p hp
        walk_at "ev"
        refine ⟨⟨w, po, b1, b2, hx⟩, fun c hc bc => ?_⟩
        cases c with
        | none =>
          simp only [encO]
          walk_at "ev"
          refine hK _ ⟨s, _, _, _, rfl, ?_, ub⟩
          cases s with
          | none =>
            exact fun q hq => by
              rcases List.mem_append.mp hq with hq | hq
              · exact ns q hq
              · have : q = p := by simpa using hq
                subst this; exact hc
          | some s =>
            obtain ⟨vv, q, ee⟩ := s
            obtain ⟨n1, n2, n3, n4⟩ := ns
            refine ⟨List.mem_append_left _ n1, n2, n3, fun q' hq' e' ue' => ?_⟩
            rcases List.mem_append.mp hq' with hq' | hq'
            · exact n4 q' hq' e' ue'
            · have : q' = p := by simpa using hq'
              subst this
              obtain ⟨X, hX, l⟩ := hc
              exact absurd l (ue'.2.2.1 X hX _ (by grind) ue'.1)
        | some c =>
          obtain ⟨tc, c0, c1, hi⟩ := step_b ok hx hp hc (bc c rfl)
          have oc := w.sg (t := c) hi tc
          have bs := slopeR_b oc
          simp only [encO]
          walk_at "ev"
          refine ⟨oc, ?_⟩
          have put : K [some (.fr (encR r)), some (.fr (encQ h)), some (.fr d0), some (.fr (encO x)), some (.fr (encSO (some (slopeR r h p.1 c, p, c)))), some (.fr (encQ c)), some (.fr (encQ (slopeR r h p.1 c))), some (.fr (encPart p))] ∨ True := .inr trivial
          cases s with
          | none =>
            simp only [encSO]
            walk_at "ev"
            refine ⟨three, hK _ ⟨some (slopeR r h p.1 c, p, c), _, _, _, rfl, ⟨by simp, hc, rfl, fun q hq e' ue' => ?_⟩, fun v' p' e' q => by cases q; exact bc c rfl⟩⟩
            rcases List.mem_append.mp hq with hq | hq
            · obtain ⟨X, hX, l⟩ := ns q hq
              exact absurd l (ue'.2.2.1 X hX _ (by grind) ue'.1)
            · have : q = p := by simpa using hq
              subst this
              rw [UE_uniq ue' hc]
              show slopeR r h q.1 c ≤ slopeR r h q.1 c
              grind
          | some s =>
            obtain ⟨vv, q, ee⟩ := s
            obtain ⟨n1, n2, n3, n4⟩ := ns
            obtain ⟨te, e0, e1, hi'⟩ := step_b ok hx (hpre q n1) n2 (ub vv q ee rfl)
            have bv : B 4342 vv := by rw [n3]; exact slopeR_b (w.sg hi' te)
            simp only [encSO]
            walk_at "ev"
            refine ⟨bs.mono (by decide), bv.mono (by decide), ?_⟩
            split
            · rename_i lt
              refine ⟨three, hK _ ⟨some (slopeR r h p.1 c, p, c), _, _, _, rfl, ⟨by simp, hc, rfl, fun q' hq e' ue' => ?_⟩, fun v' p' e' q => by cases q; exact bc c rfl⟩⟩
              rcases List.mem_append.mp hq with hq | hq
              · have := n4 q' hq e' ue'
                grind
              · have : q' = p := by simpa using hq
                subst this
                rw [UE_uniq ue' hc]
                show slopeR r h q'.1 c ≤ slopeR r h q'.1 c
                grind
            · rename_i lt
              refine hK _ ⟨some (vv, q, ee), _, _, _, rfl, ⟨List.mem_append_left _ n1, n2, n3, fun q' hq e' ue' => ?_⟩, ub⟩
              rcases List.mem_append.mp hq with hq | hq
              · exact n4 q' hq e' ue'
              · have : q' = p := by simpa using hq
                subst this
                rw [UE_uniq ue' hc]
                show vv ≤ slopeR r h q'.1 c
                grind
      · rintro env ⟨s, u, v, z, rfl, ns, ub⟩
        walk_at "ev"
        refine ⟨?_, hP s ns ub⟩
        cases s with
        | none => rfl
        | some s => rfl
    rcases hd with rfl | rfl
    · walk_at "ev"
      exact main _
    · walk_at "ev"
      exact main _
end DL
end
section
set_option maxRecDepth 100000
set_option maxHeartbeats 1000000
set_option exponentiation.threshold 10
namespace DL
open PySem PySem.Spec PyProof.Rows L2 RM
local macro_rules | `(tactic| walk_at "bsyn") => `(tactic| first | assumption | exact B.add (by walk_at "bsyn") (by walk_at "bsyn") | exact B.sub (by walk_at "bsyn") (by walk_at "bsyn") | exact B.mul (by walk_at "bsyn") (by walk_at "bsyn") | exact B.div (by walk_at "bsyn") (by walk_at "bsyn") | exact B.neg (by walk_at "bsyn"))
local macro_rules | `(tactic| walk_at "bb") => `(tactic| exact B.mono (by walk_at "bsyn") (by decide))
structure PsB (r : Ridge) (h : Rat) (parts : List Part) : Prop where
  w : Wd r h
  p : ∀ p ∈ parts, (GS r h).PartOk p
  b : ∃ m kb, Grd m r h ∧ m ≤ 30 ∧ 93 ≤ kb ∧ kb + 2 * m + 4 + r.length * (4 * m + 7) ≤ 900 ∧ ∀ p ∈ parts, B kb p.2.1 ∧ B kb p.2.2
theorem PsB.o {r : Ridge} {h : Rat} {parts : List Part} (ok : PsB r h parts) : PsO r h parts := ⟨ok.w, fun p hp => by
  obtain ⟨m, kb, _, _, _, h4, h5⟩ := ok.b
  exact ⟨ok.p p hp, (h5 p hp).1.mono (by omega), (h5 p hp).2.mono (by omega)⟩⟩
def C_steps_for : DC := fun ds P => ∃ (r : Ridge) (h : Rat) (parts : List Part) (d : D), ds = [encR r, encQ h, d] ∧ (IsSeq d (parts.map encPart) ∧ PsB r h parts) ∧ ∀ ss, (GS r h).Steps parts none ss → ss.length ≤ r.length - 1 → (∀ s ∈ ss, Xb s.1) → P (.own (ss.map encSt))
def C_cover_for : DC := fun ds P => ∃ (r : Ridge) (h : Rat) (parts : List Part) (d : D), ds = [encR r, encQ h, d] ∧ (IsSeq d (parts.map encPart) ∧ PsB r h parts) ∧ ∀ ss, (GS r h).Steps parts none ss → ss.length ≤ r.length - 1 → (∀ s ∈ ss, Xb s.1) → P (.fr (.tuple ((ss.map (·.1)).map encQ)))
def C_fewest_for : DC := fun ds P => ∃ (r : Ridge) (h : Rat) (parts : List Part) (d : D), ds = [encR r, encQ h, d] ∧ (IsSeq d (parts.map encPart) ∧ PsB r h parts) ∧ ∀ ss, (GS r h).Steps parts none ss → ss.length ≤ r.length - 1 → (∀ s ∈ ss, Xb s.1) → P (.fr (.int (ss.length : Nat)))
def C_cover : DC := fun ds P => ∃ (r : Ridge) (h : Rat), ds = [encR r, encQ h] ∧ Wd r h ∧ ∀ ss, (GS r h).Steps (partsW r) none ss → ss.length ≤ r.length - 1 → (∀ s ∈ ss, Xb s.1) → P (.fr (.tuple ((ss.map (·.1)).map encQ)))
def C_fewest : DC := fun ds P => ∃ (r : Ridge) (h : Rat), ds = [encR r, encQ h] ∧ Wd r h ∧ ∀ ss, (GS r h).Steps (partsW r) none ss → ss.length ≤ r.length - 1 → (∀ s ∈ ss, Xb s.1) → P (.fr (.int (ss.length : Nat)))
def d_steps_for : DSt := (dSeq (dSet true 3 (dLst dNil))
  (dSeq (dSet false 4 (dCall C_next_step (dCons (dVar 0) (dCons (dVar 1) (dCons (dVar 2) (dCons (dC .none) dNil))))))
  (dSeq (dWhile (dTest (dBin oNotN (dVar 4) (dC .none))) (dSeq (dMeth 3 (dCons (dVar 4) dNil) fApp)
  (dSet false 4 (dCall C_next_step (dCons (dVar 0) (dCons (dVar 1) (dCons (dVar 2) (dCons (dBin oIx (dVar 4) (dC (.int 0))) dNil))))))))
  (dRetVar 3))))
def d_cover_for : DSt := (dRet (dCB cTuple (dCons (dLc (dItems (dCall C_steps_for (dCons (dVar 0) (dCons (dVar 1) (dCons (dVar 2) dNil))))) (dgN 3) dYes (dBin oIx (dVar 3) (dC (.int 0))) [3]) dNil)))
def d_cover : DSt := (dRet (dCall C_cover_for (dCons (dVar 0) (dCons (dVar 1) (dCons (dCall C_whole_ground (dCons (dVar 0) dNil)) dNil)))))
def d_fewest_for : DSt := (dRet (dCB cLen (dCons (dCall C_steps_for (dCons (dVar 0) (dCons (dVar 1) (dCons (dVar 2) dNil)))) dNil)))
def d_fewest : DSt := (dRet (dCall C_fewest_for (dCons (dVar 0) (dCons (dVar 1) (dCons (dCall C_whole_ground (dCons (dVar 0) dNil)) dNil)))))
theorem Wd.partsW {r : Ridge} {h : Rat} (w : Wd r h) : PsB r h (partsW r) where
  w := w
  p := fun p hp => by
    obtain ⟨i, hi, rfl⟩ := List.mem_map.mp hp
    exact ⟨List.mem_range.mp hi, by grind, by grind, by grind⟩
  b := by
    obtain ⟨m, g, hm, hl⟩ := w.grd
    refine ⟨m, 93, g, hm, by omega, by omega, fun p hp => ?_⟩
    obtain ⟨i, hi, rfl⟩ := List.mem_map.mp hp
    exact ⟨(Bn 93 (by decide)).1, (Bn 93 (by decide)).2.1⟩
theorem step_on {r : Ridge} {h : Rat} {parts : List Part} (w : Wd r h) (hp : ∀ p ∈ parts, (GS r h).PartOk p) {m kb j : Nat} (g : Grd m r h) (hm : m ≤ 30) (hkb : 93 ≤ kb) (pb : ∀ p ∈ parts, B kb p.2.1 ∧ B kb p.2.2) {x : Option Rat}
    (hj : x = none → j = 0) (hx : ∀ X, x = some X → 0 < j ∧ B (kb + 2 * m + 4 + (j - 1) * (4 * m + 7)) X ∧ (at_ r j).1 ≤ X) (hjl : j ≤ r.length - 1) {v : Rat} {p : Part} {e : Rat} (ns : (GS r h).NS parts x (some (v, p, e))) (ub : UB r h p x e) :
    j + 1 ≤ r.length - 1 ∧ (at_ r (j + 1)).1 ≤ v ∧ B (kb + 2 * m + 4 + j * (4 * m + 7)) v := by
  obtain ⟨n1, n2, n3, n4⟩ := ns
  obtain ⟨hi0, a0, ab, b1⟩ := hp p n1
  obtain ⟨u1, u2, u3, u4⟩ := n2
  have hi : p.1 + 1 < r.length := by have : p.1 < r.length - 1 := hi0; omega
  have ge := slopeR_ge w.good hi (t := e) (by grind) (by grind)
  have n3 : v = slopeR r h p.1 e := n3
  have ji : j ≤ p.1 := by
    cases x with
    | none => have := hj rfl; omega
    | some X =>
      obtain ⟨_, _, le⟩ := hx X rfl
      by_cases q : j ≤ p.1
      · exact q
      · exfalso
        have h1 := w.good.le (show p.1 + 1 ≤ j by omega) (by omega)
        have h2 := w.good.lt (show p.1 < p.1 + 1 by omega) hi
        have sl := sl_left w.good hi a0
        exact u3 X rfl p.2.1 (by grind) u1 (LeX.more sl (by grind))
  refine ⟨by omega, ?_, ?_⟩
  · have := w.good.le (show j + 1 ≤ p.1 + 1 by omega) hi
    rw [n3]; grind
  · rw [n3]
    rcases ub with rfl | ⟨X, e1, d⟩
    · exact (w.reach_bits hi g (by omega) (pb p n1).2).2.mono (by omega)
    · obtain ⟨j0, bX, _⟩ := hx X e1
      obtain ⟨j', rfl⟩ : ∃ j', j = j' + 1 := ⟨j - 1, by omega⟩
      have := d m _ g hm (by omega) bX
      refine (w.reach_bits hi g (by omega) this).2.mono ?_
      simp only [Nat.add_sub_cancel, Nat.succ_mul, Nat.add_mul]
      omega
theorem E_whole_ground {r : Ridge} {P : TV → Prop} : C_whole_ground [encR r] P = ((2 ≤ r.length ∧ r.length ≤ 1000) ∧ P (.fr (.tuple ((partsW r).map encPart)))) := by
  refine propext ⟨?_, fun h => ⟨r, rfl, h⟩⟩
  rintro ⟨a', e, h⟩
  simp only [List.cons.injEq, and_true] at e
  rw [encR_inj e]
  exact h
local macro_rules | `(tactic| walk_at "ev") => `(tactic| simp only [dSeq, dNext, dBreak, dCont, dRet, dRetVar, dRetN, dIfS, dSet, dAsg, dPar2, dPar3, dAug, dMeth, dVar, dC, dBin, dUn, dChain, dTest, dAnd, dOr, dNot, dAndV, dOrV, dNotV, dIf, dNil, dCons, dTup, dLst, dCB, dCall, dItems, dItemsF, dFor, dLc, dYes, dStar, dSetIx, dPopIx, dEnum, dZip, dDict, dPut, dKeys, dRev, dIsTuple, dIsInt, dIsBool, dIsTy, dNoPart, dPart, dSl, dTruth, dLc2, dIr1, dIr2, dSrc, dSrcPut, dCells, dDrain, oI, oIC, oIB, oNeg, oAdd, oIsN, oNotN, cLen, cTuple, cList, cAbs, cInt, TV.view, TV.fz, TV.sv, TV.items, TV.fixd, TV.itm, TV.asD, isN_n, isN_P, isN_Q, isN_t, isN_i, TV.res, TV.isOwn, TV.isDct, fzs, frz, startE, wipeE, fApp, fIns, isT, oLt, oLe, oGt, oGe, oSub, oMul, oDiv, oMod, oMulK, List.map_cons, List.map_nil, List.length_cons, List.length_nil, List.cons_append, List.nil_append, List.getElem?_cons_succ, List.getElem?_cons_zero, List.set_cons_succ, List.set_cons_zero, List.replicate, Nat.reduceAdd, Nat.reduceSub, Nat.zero_add, List.cons.injEq, Option.some.injEq, exists_eq_left', exists_eq_left, exists_and_left, TV.fr.injEq, PyData.bool.injEq, PyData.int.injEq, dgN, dgNil, dgCons, dgT, true_and, and_true, reduceCtorEq, false_and, and_false, ↓reduceIte, if_true, if_false, Bool.not_true, Bool.not_false, decide_eq_true_eq, Bool.false_eq_true, cmp_lt, cmp_gt, cmp_le, cmp_ge, cmp_eq, gt_iff_lt, ge_iff_le, E_added, E_lessened, E_multiplied, E_divided, E_compared, E_between, ix_t0, ix_t1, ix_t2, ix_t3, ix_P0, ix_P1, ix_R, ix_R0, ix_R1, ix_Rl, E_turned_by, E_place_at, E_spot_between, E_crossing, E_slopes_of, E_spot_of, E_line_of, E_is_under, E_share_on_slope, oEq_int, oNe_int, oEq_Q, oNe_Q, E_own_sight, E_sight_places, E_reach, E_bar_corners, E_slope_reach, E_greatest2, E_least2, E_greatest, E_least, lit0, lit1, lit2, cut_to, cut_from1, cut_from2, E_ascending_fractions, oEq_ON, ix_Pc0, ix_Pc1, ix_Pc2, ix_rdlast, E_left_pieces, E_right_pieces, E_first_left, E_last_right, isN_O, Option.isNone_none, Option.isNone_some, E_seen_part, E_is_part_within, isN_OI, oEq_lot, ix_Ly1, ix_Ly3, List.getLast?_concat, List.dropLast_concat, E_unseen_end, isN_SO, ix_Pt0, ix_St0, E_whole_ground])
theorem sem_steps_for : SemA C_steps_for 5 3 d_steps_for where
  len := by rintro ds P ⟨r, h, parts, d, rfl, _⟩; rfl
  sem := by
    rintro ds P ⟨r, h, parts, d, rfl, ⟨hd, ok⟩, hP⟩
    have hsz : sizeLine = 16777216 := sizeLine_eq
    have w := ok.w
    have hlen := w.len
    obtain ⟨m, kb, g, hm, hkb, hb, pb⟩ := ok.b
    unfold d_steps_for
    walk_at "ev"
    refine ⟨Nat.zero_le _, r, h, parts, d, none, rfl, ⟨hd, ok.o, fun X e => nomatch e⟩, fun s0 ns0 ub0 => ?_⟩
    walk_at "ev"
    refine ⟨fun k env => ∃ ss s x, env = [some (.fr (encR r)), some (.fr (encQ h)), some (.fr d), some (.own (ss.map encSt)), some (.fr (encSO s))] ∧ k = r.length - 1 - ss.length ∧ (GS r h).NS parts x s ∧ (∀ v p e, s = some (v, p, e) → UB r h p x e) ∧
      (∀ rest, (GS r h).Steps parts x rest → (GS r h).Steps parts none (ss ++ rest)) ∧ (x = none → ss.length = 0) ∧ (∀ X, x = some X → 0 < ss.length ∧ B (kb + 2 * m + 4 + (ss.length - 1) * (4 * m + 7)) X ∧ (at_ r ss.length).1 ≤ X) ∧ ss.length ≤ r.length - 1 ∧ ∀ s ∈ ss, Xb s.1,
      ⟨_, [], s0, none, rfl, rfl, ns0, ub0, (fun rest h => h), (fun _ => rfl), (fun X e => nomatch e), Nat.zero_le _, fun _ h => nomatch h⟩, ?_⟩
    rintro k env ⟨ss, s, x, rfl, rfl, ns, ub, st, hj, hx, hjl, hxb⟩
    walk_at "ev"
    cases s with
    | none =>
      simp only [Option.isNone_none, Bool.not_true, Bool.false_eq_true, ↓reduceIte]
      refine ⟨lf_map (fun _ => rfl) _, hP ss ?_ hjl hxb⟩
      have := st [] ns
      simpa using this
    | some s =>
      obtain ⟨v, p, e⟩ := s
      obtain ⟨q1, q2, q3⟩ := step_on w ok.p g hm hkb pb hj hx hjl ns (ub v p e rfl)
      have xv : Xb v := q3.mono (by
        have : (ss.length + 1) * (4 * m + 7) ≤ r.length * (4 * m + 7) := Nat.mul_le_mul_right _ (by omega)
        rw [Nat.succ_mul] at this
        omega)
      simp only [encSO]
      walk_at "ev"
      refine ⟨by simp; omega, r, h, parts, d, some v, rfl, ⟨hd, ok.o, fun X e => by cases e; exact xv⟩, fun s' ns' ub' => ?_⟩
      walk_at "ev"
      refine ⟨_, ?_, ss ++ [(v, p, e)], s', ⟨by simp, rfl⟩, rfl, some v, ns', ub', fun rest hr => ?_, (fun h => nomatch h), fun X eX => ?_, by simp; omega, fun s hs => ?_⟩
      · simp only [List.length_append, List.length_cons, List.length_nil]; omega
      · have := st ((v, p, e) :: rest) ⟨ns, hr⟩
        simpa using this
      · cases eX
        simp only [List.length_append, List.length_cons, List.length_nil]
        exact ⟨by omega, q3, q2⟩
      · rcases List.mem_append.mp hs with hs | hs
        · exact hxb s hs
        · have : s = (v, p, e) := by simpa using hs
          subst this; exact xv
theorem sem_cover_for : SemA C_cover_for 4 3 d_cover_for where
  len := by rintro ds P ⟨r, h, parts, d, rfl, _⟩; rfl
  sem := by
    rintro ds P ⟨r, h, parts, d, rfl, ⟨hd, ok⟩, hP⟩
    have hlen := ok.w.len
    unfold d_cover_for
    walk_at "ev"
    refine ⟨r, h, parts, d, rfl, ⟨hd, ok⟩, fun ss st hl hx => ?_⟩
    refine ⟨_, rfl, ?_⟩
    refine lcL_fm (fun s => some s.1) encSt encQ ss ?_ (by omega) ?_
    · intro s hs Y hY
      walk_at "ev"
      exact hY
    · rw [fm_fst]
      exact ⟨lf_map lfQ _, hP ss st hl hx⟩
theorem sem_fewest_for : SemA C_fewest_for 3 3 d_fewest_for where
  len := by rintro ds P ⟨r, h, parts, d, rfl, _⟩; rfl
  sem := by
    rintro ds P ⟨r, h, parts, d, rfl, ⟨hd, ok⟩, hP⟩
    unfold d_fewest_for
    walk_at "ev"
    refine ⟨r, h, parts, d, rfl, ⟨hd, ok⟩, fun ss st hl hx => ?_⟩
    walk_at "ev"
    rw [List.length_map]
    exact ⟨rfl, hP ss st hl hx⟩
theorem sem_cover : SemA C_cover 2 2 d_cover where
  len := by rintro ds P ⟨r, h, rfl, _⟩; rfl
  sem := by
    rintro ds P ⟨r, h, rfl, w, hP⟩
    have := w.good.two
    unfold d_cover
    walk_at "ev"
    exact ⟨⟨by omega, w.len⟩, r, h, partsW r, _, rfl, ⟨.inl rfl, w.partsW⟩, fun ss st hl hx => ⟨lf_map lfQ _, hP ss st hl hx⟩⟩
theorem sem_fewest : SemA C_fewest 2 2 d_fewest where
  len := by rintro ds P ⟨r, h, rfl, _⟩; rfl
  sem := by
    rintro ds P ⟨r, h, rfl, w, hP⟩
    have := w.good.two
    unfold d_fewest
    walk_at "ev"
    exact ⟨⟨by omega, w.len⟩, r, h, partsW r, _, rfl, ⟨.inl rfl, w.partsW⟩, fun ss st hl hx => ⟨rfl, hP ss st hl hx⟩⟩
end DL
end
section
set_option maxRecDepth 100000
set_option maxHeartbeats 1000000
set_option exponentiation.threshold 10
namespace DL
open PySem PySem.Spec PyProof.Rows L2 RM
local macro_rules | `(tactic| walk_at "bsyn") => `(tactic| first | assumption | exact B.add (by walk_at "bsyn") (by walk_at "bsyn") | exact B.sub (by walk_at "bsyn") (by walk_at "bsyn") | exact B.mul (by walk_at "bsyn") (by walk_at "bsyn") | exact B.div (by walk_at "bsyn") (by walk_at "bsyn") | exact B.neg (by walk_at "bsyn"))
local macro_rules | `(tactic| walk_at "bb") => `(tactic| exact B.mono (by walk_at "bsyn") (by decide))
def C_is_integer : DC := fun ds P => ∃ i : Int, ds = [.int i] ∧ P (.fr (.bool true))
def C_is_fraction : DC := fun ds P => ∃ x : Rat, ds = [encQ x] ∧ P (.fr (.bool true))
def C_is_within : DC := fun ds P => ∃ x a b : Rat, ds = [encQ x, encQ a, encQ b] ∧ (Sm x ∧ Sm a ∧ Sm b) ∧ P (.fr (.bool (decide (a ≤ x ∧ x ≤ b))))
def onLine (r : Ridge) (x : Rat) : Prop := (at_ r 0).1 ≤ x ∧ x ≤ (at_ r (r.length - 1)).1
open Classical in
noncomputable def C_is_place : DC := fun ds P => ∃ (r : Ridge) (x : Rat), ds = [encR r, encQ x] ∧ (Cr r ∧ 0 < r.length ∧ Sm x) ∧ P (.fr (.bool (decide (onLine r x))))
structure CvForm (r : Ridge) (xs : List Rat) : Prop where
  on : ∀ x ∈ xs, onLine r x
  asc : xs.Pairwise (· < ·)
open Classical in
noncomputable def C_has_cover_form : DC := fun ds P => ∃ (r : Ridge) (xs : List Rat), ds = [encR r, .tuple (xs.map encQ)] ∧ (Cr r ∧ 0 < r.length ∧ (∀ x ∈ xs, Sm x) ∧ xs.length ≤ 1000) ∧ P (.fr (.bool (decide (CvForm r xs))))
def judged : List Part → D
  | [] => .none
  | p :: _ => .tuple [.str "dark", encPart p]
def C_judge_cover : DC := fun ds P => ∃ (r : Ridge) (h : Rat) (xs : List Rat), ds = [encR r, encQ h, .tuple (xs.map encQ)] ∧ (Wd r h ∧ (∀ x ∈ xs, Xb x) ∧ xs.length ≤ 1000) ∧ (¬ CvForm r xs → P (.fr (.tuple [.str "form"]))) ∧
  (CvForm r xs → ∀ f : Lys, (∀ i, i + 1 < r.length → LYs r h i xs (f i)) → P (.fr (judged (darkOf (r.length - 1) f))))
noncomputable section
def d_is_integer : DSt := (dRet (dAndV (dIsInt (dVar 0)) (dNotV (dIsBool (dVar 0)))))
def d_is_fraction : DSt := (dSeq (dIfS (dOr (dNot (dTest (dIsTuple (dVar 0)))) (dOr (dTest (dBin oNe (dCB cLen (dCons (dVar 0) dNil)) (dC (.int 2)))) (dOr (dNot (dTest (dCall C_is_integer (dCons (dBin oIx (dVar 0) (dC (.int 0))) dNil)))) (dNot (dTest (dCall C_is_integer (dCons (dBin oIx (dVar 0) (dC (.int 1))) dNil))))))) (dRet (dC (.bool false))) dNext)
  (dRet (dAndV (dBin oGe (dBin oIx (dVar 0) (dC (.int 1))) (dC (.int 1))) (dBin oEq (dCall C_common (dCons (dBin oIx (dVar 0) (dC (.int 0))) (dCons (dBin oIx (dVar 0) (dC (.int 1))) dNil))) (dC (.int 1))))))
def d_is_within : DSt := (dRet (dAndV (dCall C_is_fraction (dCons (dVar 0) dNil)) (dAndV (dBin oGe (dCall C_compared (dCons (dVar 0) (dCons (dVar 1) dNil))) (dC (.int 0))) (dBin oLe (dCall C_compared (dCons (dVar 0) (dCons (dVar 2) dNil))) (dC (.int 0))))))
def d_is_place : DSt := (dRet (dCall C_is_within (dCons (dVar 1) (dCons (dBin oIx (dBin oIx (dVar 0) (dC (.int 0))) (dC (.int 0))) (dCons (dBin oIx (dBin oIx (dVar 0) (dUn oNeg (dC (.int 1)))) (dC (.int 0))) dNil)))))
def d_has_cover_form : DSt := (dSeq (dIfS (dOr (dNot (dTest (dIsTuple (dVar 1)))) (dNot (dTest (dCB cAll (dCons (dLc (dItems (dVar 1)) (dgN 2) dYes (dCall C_is_place (dCons (dVar 0) (dCons (dVar 2) dNil))) [2]) dNil))))) (dRet (dC (.bool false))) dNext)
  (dRet (dCB cAll (dCons (dLc (dZip false (dCons (dVar 1) (dCons (dSl (dVar 1) (dPart (dC (.int 1))) dNoPart) dNil))) (dgT 2 (dgCons (dgN 2) (dgCons (dgN 3) dgNil))) dYes (dBin oLt (dCall C_compared (dCons (dVar 2) (dCons (dVar 3) dNil))) (dC (.int 0))) [2, 3]) dNil))))
def d_judge_cover : DSt := (dSeq (dIfS (dNot (dTest (dCall C_has_cover_form (dCons (dVar 0) (dCons (dVar 2) dNil))))) (dRet (dTup (dCons (dC (.str "form")) dNil))) dNext)
  (dSeq (dSet false 3 (dCall C_dark_parts (dCons (dVar 0) (dCons (dVar 1) (dCons (dVar 2) dNil)))))
  (dRet (dIf (dTest (dBin oEq (dVar 3) (dTup dNil))) (dC .none) (dTup (dCons (dC (.str "dark")) (dCons (dBin oIx (dVar 3) (dC (.int 0))) dNil)))))))
end
section
variable {r : Ridge} {h x a b : Rat} {i : Nat} {P : TV → Prop} {xs : List Rat}
theorem E_is_integer {i : Int} : C_is_integer [.int i] P = P (.fr (.bool true)) := by
  refine propext ⟨?_, fun h => ⟨i, rfl, h⟩⟩
  rintro ⟨a', e, h⟩
  exact h
theorem E_is_fraction : C_is_fraction [encQ x] P = P (.fr (.bool true)) := by
  refine propext ⟨?_, fun h => ⟨x, rfl, h⟩⟩
  rintro ⟨a', e, h⟩
  exact h
theorem E_is_within : C_is_within [encQ x, encQ a, encQ b] P = ((Sm x ∧ Sm a ∧ Sm b) ∧ P (.fr (.bool (decide (a ≤ x ∧ x ≤ b))))) := by
  refine propext ⟨?_, fun h => ⟨x, a, b, rfl, h⟩⟩
  rintro ⟨x', a', b', e, h⟩
  simp only [List.cons.injEq, and_true] at e
  rw [encQ_inj e.1, encQ_inj e.2.1, encQ_inj e.2.2]
  exact h
open Classical in
theorem E_is_place : C_is_place [encR r, encQ x] P = ((Cr r ∧ 0 < r.length ∧ Sm x) ∧ P (.fr (.bool (decide (onLine r x))))) := by
  refine propext ⟨?_, fun h => ⟨r, x, rfl, h⟩⟩
  rintro ⟨x', a', e, h⟩
  simp only [List.cons.injEq, and_true] at e
  rw [encR_inj e.1, encQ_inj e.2]
  exact h
open Classical in
theorem E_has_cover_form : C_has_cover_form [encR r, .tuple (xs.map encQ)] P = ((Cr r ∧ 0 < r.length ∧ (∀ x ∈ xs, Sm x) ∧ xs.length ≤ 1000) ∧ P (.fr (.bool (decide (CvForm r xs))))) := by
  refine propext ⟨?_, fun h => ⟨r, xs, rfl, h⟩⟩
  rintro ⟨x', a', e, h⟩
  simp only [List.cons.injEq, and_true, PyData.tuple.injEq] at e
  have := map_inj (f := encQ) encQ_inj e.2
  subst this
  rw [encR_inj e.1]
  exact h
end
theorem pl_part (p : Part) : pl 19 (encPart p) = true := rfl
theorem oEq_parts {l : List Part} {P : TV → Prop} : oEq (.fr (.tuple (l.map encPart))) (.fr (.tuple [])) P = P (.fr (.bool (decide (l = [])))) := by
  have h1 : pl 20 (.tuple (l.map encPart)) = true := by
    show (l.map encPart).all (pl 19) = true
    rw [List.all_eq_true]
    intro d hd
    obtain ⟨p, _, rfl⟩ := List.mem_map.mp hd
    exact pl_part p
  have h2 : pl 20 (.tuple []) = true := rfl
  unfold oEq
  cases l with
  | nil => simp [TV.asD, h2]
  | cons p l =>
    simp only [TV.asD]
    rw [h1, h2]
    simp
local macro_rules | `(tactic| walk_at "ev") => `(tactic| simp only [dSeq, dNext, dBreak, dCont, dRet, dRetVar, dRetN, dIfS, dSet, dAsg, dPar2, dPar3, dAug, dMeth, dVar, dC, dBin, dUn, dChain, dTest, dAnd, dOr, dNot, dAndV, dOrV, dNotV, dIf, dNil, dCons, dTup, dLst, dCB, dCall, dItems, dItemsF, dFor, dLc, dYes, dStar, dSetIx, dPopIx, dEnum, dZip, dDict, dPut, dKeys, dRev, dIsTuple, dIsInt, dIsBool, dIsTy, dNoPart, dPart, dSl, dTruth, dLc2, dIr1, dIr2, dSrc, dSrcPut, dCells, dDrain, oI, oIC, oIB, oNeg, oAdd, oIsN, oNotN, cLen, cTuple, cList, cAbs, cInt, TV.view, TV.fz, TV.sv, TV.items, TV.fixd, TV.itm, TV.asD, isN_n, isN_P, isN_Q, isN_t, isN_i, TV.res, TV.isOwn, TV.isDct, fzs, frz, startE, wipeE, fApp, fIns, isT, oLt, oLe, oGt, oGe, oSub, oMul, oDiv, oMod, oMulK, List.map_cons, List.map_nil, List.length_cons, List.length_nil, List.cons_append, List.nil_append, List.getElem?_cons_succ, List.getElem?_cons_zero, List.set_cons_succ, List.set_cons_zero, List.replicate, Nat.reduceAdd, Nat.reduceSub, Nat.zero_add, List.cons.injEq, Option.some.injEq, exists_eq_left', exists_eq_left, exists_and_left, TV.fr.injEq, PyData.bool.injEq, PyData.int.injEq, dgN, dgNil, dgCons, dgT, true_and, and_true, reduceCtorEq, false_and, and_false, ↓reduceIte, if_true, if_false, Bool.not_true, Bool.not_false, decide_eq_true_eq, Bool.false_eq_true, cmp_lt, cmp_gt, cmp_le, cmp_ge, cmp_eq, gt_iff_lt, ge_iff_le, E_added, E_lessened, E_multiplied, E_divided, E_compared, E_between, ix_t0, ix_t1, ix_t2, ix_t3, ix_P0, ix_P1, ix_R, ix_R0, ix_R1, ix_Rl, E_turned_by, E_place_at, E_spot_between, E_crossing, E_slopes_of, E_spot_of, E_line_of, E_is_under, E_share_on_slope, oEq_int, oNe_int, oEq_Q, oNe_Q, E_own_sight, E_sight_places, E_reach, E_bar_corners, E_slope_reach, E_greatest2, E_least2, E_greatest, E_least, lit0, lit1, lit2, cut_to, cut_from1, cut_from2, E_ascending_fractions, oEq_ON, ix_Pc0, ix_Pc1, ix_Pc2, ix_rdlast, E_left_pieces, E_right_pieces, E_first_left, E_last_right, isN_O, Option.isNone_none, Option.isNone_some, E_seen_part, E_is_part_within, isN_OI, oEq_lot, ix_Ly1, ix_Ly3, List.getLast?_concat, List.dropLast_concat, E_unseen_end, isN_SO, ix_Pt0, ix_St0, E_whole_ground, E_is_integer, E_is_fraction, E_is_within, E_is_place, E_has_cover_form, oEq_parts])
theorem sem_is_integer : SemA C_is_integer 1 1 d_is_integer where
  len := by rintro ds P ⟨i, rfl, _⟩; rfl
  sem := by
    rintro ds P ⟨i, rfl, hP⟩
    unfold d_is_integer
    simp only [dRet, dAndV, dNotV, dIsInt, dIsBool, dIsTy, dVar, startE, List.map_cons, List.map_nil, List.cons_append, List.nil_append, List.getElem?_cons_zero, List.length_cons, List.length_nil, List.replicate, frz, TV.view, TV.asD]
    exact ⟨⟨_, rfl⟩, _, rfl, ⟨_, rfl⟩, _, rfl, rfl, hP⟩
theorem gcd_one (x : Rat) : (Int.gcd x.num (x.den : Int) : Int) = 1 := by
  have := x.reduced
  have h : Int.gcd x.num (x.den : Int) = 1 := by
    show Nat.gcd x.num.natAbs ((x.den : Int)).natAbs = 1
    simpa using this
  rw [h]; rfl
theorem sem_is_fraction : SemA C_is_fraction 1 1 d_is_fraction where
  len := by rintro ds P ⟨x, rfl, _⟩; rfl
  sem := by
    rintro ds P ⟨x, rfl, hP⟩
    have hx0 := x.den_nz
    have g1 := gcd_one x
    unfold d_is_fraction encQ C_common
    walk_at "ev"
    refine ⟨⟨_, rfl⟩, ?_⟩
    rw [if_neg (by simp [isTy]), if_neg (by decide), if_pos (by omega)]
    refine ⟨_, _, ⟨rfl, rfl⟩, rfl, ?_⟩
    rw [g1]
    exact hP
theorem sem_is_within : SemA C_is_within 3 3 d_is_within where
  len := by rintro ds P ⟨x, a, b, rfl, _⟩; rfl
  sem := by
    rintro ds P ⟨x, a, b, rfl, ⟨hx, ha, hb⟩, hP⟩
    unfold d_is_within
    walk_at "ev"
    refine ⟨hx, ha, ?_⟩
    by_cases h1 : a ≤ x
    · rw [if_pos h1]
      refine ⟨hx, hb, rfl, ?_⟩
      simpa [h1] using hP
    · rw [if_neg h1]
      refine ⟨rfl, ?_⟩
      simpa [h1] using hP
theorem sem_is_place : SemA C_is_place 2 2 d_is_place where
  len := by rintro ds P ⟨r, x, rfl, _⟩; rfl
  sem := by
    rintro ds P ⟨r, x, rfl, ⟨cr, h0, hx⟩, hP⟩
    unfold d_is_place
    walk_at "ev"
    refine ⟨h0, h0, ⟨hx, (cr.at h0).x.mono (by decide), (cr.at (by omega)).x.mono (by decide)⟩, rfl, ?_⟩
    have : decide ((at_ r 0).1 ≤ x ∧ x ≤ (at_ r (r.length - 1)).1) = @decide (onLine r x) (Classical.propDecidable _) := by
      by_cases q : onLine r x
      · have q' : (at_ r 0).1 ≤ x ∧ x ≤ (at_ r (r.length - 1)).1 := q
        simp [q, q']
      · have q' : ¬ ((at_ r 0).1 ≤ x ∧ x ≤ (at_ r (r.length - 1)).1) := q
        simp [q, q']
    rw [this]
    exact hP
theorem boolsD_map : ∀ bs : List Bool, boolsD (bs.map .bool) = some bs
  | [] => rfl
  | b :: bs => by simp [boolsD, boolsD_map bs]
theorem cAll_own {bs : List Bool} {G : TV → Prop} (h : G (.fr (.bool (bs.all fun b => b)))) : cAll [.own (bs.map .bool)] G := ⟨_, bs, rfl, boolsD_map bs, h⟩
theorem asc_zip : ∀ xs : List Rat, (∀ p ∈ xs.zip (xs.drop 1), p.1 < p.2) ↔ xs.Pairwise (· < ·)
  | [] => by simp
  | [a] => by simp
  | a :: b :: xs => by
    have ih := asc_zip (b :: xs)
    simp only [List.drop_succ_cons, List.drop_zero, List.zip_cons_cons, List.forall_mem_cons] at ih ⊢
    rw [ih]
    constructor
    · rintro ⟨h1, h2⟩
      rw [List.pairwise_cons]
      refine ⟨fun c hc => ?_, h2⟩
      rcases List.mem_cons.mp hc with rfl | hc
      · exact h1
      · have := List.rel_of_pairwise_cons h2 hc
        grind
    · intro h
      rw [List.pairwise_cons] at h
      exact ⟨h.1 b List.mem_cons_self, h.2⟩
open Classical in
theorem sem_has_cover_form : SemA C_has_cover_form 4 2 d_has_cover_form where
  len := by rintro ds P ⟨r, xs, rfl, _⟩; rfl
  sem := by
    rintro ds P ⟨r, xs, rfl, ⟨cr, h0, hx, hl⟩, hP⟩
    unfold d_has_cover_form
    walk_at "ev"
    refine ⟨⟨_, rfl⟩, ?_⟩
    rw [if_neg (by simp [isTy])]
    refine lcL_fm (fun x => some (decide (onLine r x))) encQ PyData.bool xs ?_ (by omega) ?_
    · intro x hxm Y hY
      walk_at "ev"
      exact ⟨⟨cr, h0, hx x hxm⟩, hY⟩
    · refine cAll_own ⟨_, rfl, ?_⟩
      have e1 : (List.filterMap (fun x => some (decide (onLine r x))) xs).all (fun b => b) = true ↔ ∀ x ∈ xs, onLine r x := by
        rw [List.filterMap_eq_map', List.all_map, List.all_eq_true]
        simp
      by_cases h1 : ∀ x ∈ xs, onLine r x
      · rw [e1.mpr h1]
        rw [if_neg (by decide)]
        refine .inr ⟨_, rfl, _, _, ⟨rfl, rfl⟩, rfl, _, rfl, _, rfl, ?_⟩
        rw [zip_pairs]
        have hlz : (xs.zip (xs.drop 1)).length ≤ 16777216 := by rw [List.length_zip]; omega
        refine lcL_fm (fun p => some (decide (p.1 < p.2))) _ PyData.bool (xs.zip (xs.drop 1)) ?_ hlz ?_
        · rintro ⟨a, b⟩ hab Y hY
          have m := List.of_mem_zip hab
          walk_at "ev"
          exact ⟨hx a m.1, hx b (List.mem_of_mem_drop m.2), hY⟩
        · refine cAll_own ⟨rfl, ?_⟩
          have e2 : (List.filterMap (fun p : Rat × Rat => some (decide (p.1 < p.2))) (xs.zip (xs.drop 1))).all (fun b => b) = true ↔ xs.Pairwise (· < ·) := by
            rw [List.filterMap_eq_map', List.all_map, List.all_eq_true, ← asc_zip]
            simp
          by_cases h2 : xs.Pairwise (· < ·)
          · rw [e2.mpr h2]
            have : CvForm r xs := ⟨h1, h2⟩
            simpa [this] using hP
          · have : ¬ CvForm r xs := fun z => h2 z.asc
            have e3 : (List.filterMap (fun p : Rat × Rat => some (decide (p.1 < p.2))) (xs.zip (xs.drop 1))).all (fun b => b) = false := by
              cases q : (List.filterMap (fun p : Rat × Rat => some (decide (p.1 < p.2))) (xs.zip (xs.drop 1))).all (fun b => b) with
              | false => rfl
              | true => exact absurd (e2.mp q) h2
            rw [e3]
            simpa [this] using hP
      · have : ¬ CvForm r xs := fun z => h1 z.on
        have e3 : (List.filterMap (fun x => some (decide (onLine r x))) xs).all (fun b => b) = false := by
          cases q : (List.filterMap (fun x => some (decide (onLine r x))) xs).all (fun b => b) with
          | false => rfl
          | true => exact absurd (e1.mp q) h1
        rw [e3]
        rw [if_pos (by decide)]
        exact ⟨rfl, by simpa [this] using hP⟩
open Classical in
theorem sem_judge_cover : SemA C_judge_cover 4 3 d_judge_cover where
  len := by rintro ds P ⟨r, h, xs, rfl, _⟩; rfl
  sem := by
    rintro ds P ⟨r, h, xs, rfl, ⟨w, hx, hl⟩, hN, hP⟩
    have h2 := w.good.two
    have one : (1 : Nat) ≤ sizeLine := by decide
    have two : (2 : Nat) ≤ sizeLine := by decide
    unfold d_judge_cover
    walk_at "ev"
    refine ⟨⟨w.cr, by omega, fun x hxm => (hx x hxm).mono (by decide), hl⟩, ?_⟩
    by_cases cf : CvForm r xs
    · simp only [cf, decide_true, Bool.not_true, Bool.false_eq_true, ↓reduceIte]
      refine ⟨r, h, xs, _, rfl, ⟨.inl rfl, w, hx, hl⟩, fun f hf => ?_⟩
      have hPf := hP cf f hf
      walk_at "ev"
      refine ⟨Nat.zero_le _, ?_⟩
      generalize darkOf (r.length - 1) f = dk at hPf
      cases dk with
      | nil =>
        rw [if_pos rfl]
        exact ⟨rfl, hPf⟩
      | cons p dk =>
        rw [if_neg (by simp)]
        rw [List.map_cons]
        walk_at "ev"
        exact ⟨two, rfl, hPf⟩
    · simp only [cf, decide_false, Bool.not_false, ↓reduceIte]
      exact ⟨one, rfl, hN cf⟩
end DL
end
section
set_option maxRecDepth 100000
set_option maxHeartbeats 1000000
set_option exponentiation.threshold 10
namespace DL
open PySem PySem.Spec PyProof.Rows L2 RM
local macro_rules | `(tactic| walk_at "bsyn") => `(tactic| first | assumption | exact B.add (by walk_at "bsyn") (by walk_at "bsyn") | exact B.sub (by walk_at "bsyn") (by walk_at "bsyn") | exact B.mul (by walk_at "bsyn") (by walk_at "bsyn") | exact B.div (by walk_at "bsyn") (by walk_at "bsyn") | exact B.neg (by walk_at "bsyn"))
local macro_rules | `(tactic| walk_at "bb") => `(tactic| exact B.mono (by walk_at "bsyn") (by decide))
def C_law_common : DC := C_common
def C_law_fraction : DC := C_fraction
def C_law_sum : DC := C_added
def C_law_times : DC := C_multiplied
def C_law_less : DC := C_lessened
def C_law_over : DC := C_divided
def C_law_below : DC := fun ds P => ∃ x y, ds = [encQ x, encQ y] ∧ Sm x ∧ Sm y ∧ P (.fr (.bool (decide (x < y))))
def C_law_least : DC := fun ds P => ∃ (x : Rat) (xs : List Rat) (d : D), ds = [d] ∧ IsSeq d ((x :: xs).map encQ) ∧ (∀ y ∈ x :: xs, Sm y) ∧ P (.fr (encQ (minQ x xs)))
def C_law_most : DC := fun ds P => ∃ (x : Rat) (xs : List Rat) (d : D), ds = [d] ∧ IsSeq d ((x :: xs).map encQ) ∧ (∀ y ∈ x :: xs, Sm y) ∧ P (.fr (encQ (maxQ x xs)))
def C_law_pick : DC := fun ds P => ∃ m : Int, ds = [.dict [], .int m] ∧ m < 2 ^ 62 ∧ ∀ k : Int, 0 ≤ k → (k < m ∨ (m < 2 ∧ k = 0)) → P (.fr (.int k))
def d_law_pick : DSt := (dSeq (dIfS (dTest (dBin oLt (dVar 1) (dC (.int 2)))) (dRet (dC (.int 0))) dNext)
  (dSeq (dCells 2 0)
  (dSeq (dDrain 0 2)
  (dSeq (dSet false 3 (dSrc 0))
  (dSeq (dIfS (dTest (dBin oGt (dVar 3) (dC (.int 1)))) (dSeq (dSrcPut 0 (dBin oDiv (dVar 3) (dVar 1)))
  (dRet (dBin oMod (dCB cInt (dCons (dVar 3) dNil)) (dVar 1)))) dNext)
  (dSeq (dSrcPut 0 (dBin oAdd (dSrc 0) (dC (.int 1))))
  (dSeq (dSet false 4 (dSrc 0))
  (dSeq (dSet false 5 (dBin oMod (dCB cInt (dCons (dBin oAdd (dSrc 0) (dBin oMulK (dVar 4) (dC (.int 104729)))) dNil)) (dC (.int 998244353))))
  (dSeq (dSet false 5 (dBin oMod (dCB cInt (dCons (dBin oAdd (dBin oMul (dVar 5) (dVar 5)) (dBin oMulK (dVar 4) (dC (.int 17)))) dNil)) (dC (.int 2147483647))))
  (dRet (dBin oMod (dCB cInt (dCons (dBin oDiv (dVar 5) (dC (.int 16))) dNil)) (dVar 1))))))))))))
def d_law_common : DSt := (dSeq (dPar2 false false 0 1 (dCons (dCB cAbs (dCons (dVar 0) dNil)) (dCons (dCB cAbs (dCons (dVar 1) dNil)) dNil)))
  (dSeq (dWhile (dTest (dBin oNe (dVar 1) (dC (.int 0)))) (dPar2 false false 0 1 (dCons (dVar 1) (dCons (dBin oMod (dCB cInt (dCons (dVar 0) dNil)) (dVar 1)) dNil))))
  (dRetVar 0)))
def d_law_fraction : DSt := (dSeq (dSet false 2 (dBin oMul (dCall C_law_common (dCons (dVar 0) (dCons (dVar 1) dNil))) (dIf (dTest (dBin oGt (dVar 1) (dC (.int 0)))) (dC (.int 1)) (dBin oSub (dC (.int 0)) (dC (.int 1))))))
  (dRet (dTup (dCons (dBin oDiv (dVar 0) (dVar 2)) (dCons (dBin oDiv (dVar 1) (dVar 2)) dNil)))))
def d_law_sum : DSt := (dRet (dCall C_law_fraction (dCons (dBin oAdd (dBin oMul (dBin oIx (dVar 0) (dC (.int 0))) (dBin oIx (dVar 1) (dC (.int 1)))) (dBin oMul (dBin oIx (dVar 1) (dC (.int 0))) (dBin oIx (dVar 0) (dC (.int 1))))) (dCons (dBin oMul (dBin oIx (dVar 0) (dC (.int 1))) (dBin oIx (dVar 1) (dC (.int 1)))) dNil))))
def d_law_times : DSt := (dRet (dCall C_law_fraction (dCons (dBin oMul (dBin oIx (dVar 0) (dC (.int 0))) (dBin oIx (dVar 1) (dC (.int 0)))) (dCons (dBin oMul (dBin oIx (dVar 0) (dC (.int 1))) (dBin oIx (dVar 1) (dC (.int 1)))) dNil))))
def d_law_less : DSt := (dRet (dCall C_law_sum (dCons (dVar 0) (dCons (dTup (dCons (dBin oSub (dC (.int 0)) (dBin oIx (dVar 1) (dC (.int 0)))) (dCons (dBin oIx (dVar 1) (dC (.int 1))) dNil))) dNil))))
def d_law_below : DSt := (dRet (dBin oLt (dBin oMul (dBin oIx (dVar 0) (dC (.int 0))) (dBin oIx (dVar 1) (dC (.int 1)))) (dBin oMul (dBin oIx (dVar 1) (dC (.int 0))) (dBin oIx (dVar 0) (dC (.int 1))))))
def d_law_over : DSt := (dRet (dCall C_law_fraction (dCons (dBin oMul (dBin oIx (dVar 0) (dC (.int 0))) (dBin oIx (dVar 1) (dC (.int 1)))) (dCons (dBin oMul (dBin oIx (dVar 0) (dC (.int 1))) (dBin oIx (dVar 1) (dC (.int 0)))) dNil))))
def d_law_least : DSt := (dSeq (dSet false 1 (dBin oIx (dVar 0) (dC (.int 0))))
  (dSeq (dFor (dItemsF (dVar 0)) (dgN 2) (dSet false 1 (dIf (dTest (dCall C_law_below (dCons (dVar 2) (dCons (dVar 1) dNil)))) (dVar 2) (dVar 1))))
  (dRetVar 1)))
def d_law_most : DSt := (dSeq (dSet false 1 (dBin oIx (dVar 0) (dC (.int 0))))
  (dSeq (dFor (dItemsF (dVar 0)) (dgN 2) (dSet false 1 (dIf (dTest (dCall C_law_below (dCons (dVar 1) (dCons (dVar 2) dNil)))) (dVar 2) (dVar 1))))
  (dRetVar 1)))
theorem E_law_below {x y : Rat} {P : TV → Prop} : C_law_below [encQ x, encQ y] P = (Sm x ∧ Sm y ∧ P (.fr (.bool (decide (x < y))))) := by
  refine propext ⟨?_, fun ⟨h1, h2, h3⟩ => ⟨x, y, rfl, h1, h2, h3⟩⟩
  rintro ⟨x', y', e, h1, h2, h3⟩
  simp only [List.cons.injEq, and_true] at e
  rw [encQ_inj e.1, encQ_inj e.2]
  exact ⟨h1, h2, h3⟩
theorem E_law_pick {m : Int} {P : TV → Prop} : C_law_pick [.dict [], .int m] P = (m < 2 ^ 62 ∧ ∀ k : Int, 0 ≤ k → (k < m ∨ (m < 2 ∧ k = 0)) → P (.fr (.int k))) := by
  refine propext ⟨?_, fun h => ⟨m, rfl, h⟩⟩
  rintro ⟨m', e, h⟩
  simp only [List.cons.injEq, and_true, PyData.int.injEq, true_and] at e
  rw [e]
  exact h
local macro_rules | `(tactic| walk_at "ev") => `(tactic| simp only [dSeq, dNext, dBreak, dCont, dRet, dRetVar, dRetN, dIfS, dSet, dAsg, dPar2, dPar3, dAug, dMeth, dVar, dC, dBin, dUn, dChain, dTest, dAnd, dOr, dNot, dAndV, dOrV, dNotV, dIf, dNil, dCons, dTup, dLst, dCB, dCall, dItems, dItemsF, dFor, dLc, dYes, dStar, dSetIx, dPopIx, dEnum, dZip, dDict, dPut, dKeys, dRev, dIsTuple, dIsInt, dIsBool, dIsTy, dNoPart, dPart, dSl, dTruth, dLc2, dIr1, dIr2, dSrc, dSrcPut, dCells, dDrain, oI, oIC, oIB, oNeg, oAdd, oIsN, oNotN, cLen, cTuple, cList, cAbs, cInt, TV.view, TV.fz, TV.sv, TV.items, TV.fixd, TV.itm, TV.asD, isN_n, isN_P, isN_Q, isN_t, isN_i, TV.res, TV.isOwn, TV.isDct, fzs, frz, startE, wipeE, fApp, fIns, isT, oLt, oLe, oGt, oGe, oSub, oMul, oDiv, oMod, oMulK, List.map_cons, List.map_nil, List.length_cons, List.length_nil, List.cons_append, List.nil_append, List.getElem?_cons_succ, List.getElem?_cons_zero, List.set_cons_succ, List.set_cons_zero, List.replicate, Nat.reduceAdd, Nat.reduceSub, Nat.zero_add, List.cons.injEq, Option.some.injEq, exists_eq_left', exists_eq_left, exists_and_left, TV.fr.injEq, PyData.bool.injEq, PyData.int.injEq, dgN, dgNil, dgCons, dgT, true_and, and_true, reduceCtorEq, false_and, and_false, ↓reduceIte, if_true, if_false, Bool.not_true, Bool.not_false, decide_eq_true_eq, Bool.false_eq_true, cmp_lt, cmp_gt, cmp_le, cmp_ge, cmp_eq, gt_iff_lt, ge_iff_le, E_added, E_lessened, E_multiplied, E_divided, E_compared, E_between, ix_t0, ix_t1, ix_t2, ix_t3, ix_P0, ix_P1, ix_R, ix_R0, ix_R1, ix_Rl, E_turned_by, E_place_at, E_spot_between, E_crossing, E_slopes_of, E_spot_of, E_line_of, E_is_under, E_share_on_slope, oEq_int, oNe_int, oEq_Q, oNe_Q, E_own_sight, E_sight_places, E_reach, E_bar_corners, E_slope_reach, E_greatest2, E_least2, E_greatest, E_least, lit0, lit1, lit2, cut_to, cut_from1, cut_from2, E_ascending_fractions, oEq_ON, ix_Pc0, ix_Pc1, ix_Pc2, ix_rdlast, E_left_pieces, E_right_pieces, E_first_left, E_last_right, isN_O, Option.isNone_none, Option.isNone_some, E_seen_part, E_is_part_within, isN_OI, oEq_lot, ix_Ly1, ix_Ly3, List.getLast?_concat, List.dropLast_concat, E_unseen_end, isN_SO, ix_Pt0, ix_St0, E_whole_ground, E_is_integer, E_is_fraction, E_is_within, E_is_place, E_has_cover_form, oEq_parts, E_law_below, E_law_pick])
theorem sem_law_pick : SemA C_law_pick 6 2 d_law_pick where
  len := by rintro ds P ⟨m, rfl, _⟩; rfl
  sem := by
    rintro ds P ⟨m, rfl, hm, hP⟩
    unfold d_law_pick
    walk_at "ev"
    by_cases h2 : m < 2
    · rw [if_pos h2]
      exact ⟨rfl, hP 0 (by decide) (.inr ⟨h2, rfl⟩)⟩
    · rw [if_neg h2]
      intro n
      have m0 : m ≠ 0 := by omega
      have mp : 0 < m := by omega
      have fm : ∀ x : Int, 0 ≤ x.fmod m ∧ x.fmod m < m := fun x => by
        rw [Int.fmod_eq_emod_of_nonneg x (by omega)]
        exact ⟨Int.emod_nonneg x m0, Int.emod_lt_of_pos x mp⟩
      have cd : ∀ x : Int, CDv x m := fun x => ⟨m0, log2_lt (k := 62) (by omega) (by decide) |> fun z => Nat.lt_trans z (by decide)⟩
      split
      · exact ⟨cd n, m0, rfl, hP _ (fm n).1 (.inl (fm n).2)⟩
      · intro a b c
        have st : ∀ x : Int, (x.fmod 998244353).natAbs < 2 ^ 30 := fun x => by
          rw [Int.fmod_eq_emod_of_nonneg x (by decide)]
          have h1 := Int.emod_nonneg x (show (998244353 : Int) ≠ 0 by decide)
          have h3 := Int.emod_lt_of_pos x (show (0 : Int) < 998244353 by decide)
          omega
        exact ⟨.inr ⟨by decide, by decide⟩, by decide, wm (st _) (st _), .inr ⟨by decide, by decide⟩, by decide, ⟨by decide, by decide⟩, m0, rfl, hP _ (fm _).1 (.inl (fm _).2)⟩
theorem sem_law_common : SemA C_law_common 2 2 d_law_common where
  len := by rintro ds P ⟨a, b, rfl, _⟩; rfl
  sem := by
    rintro ds P ⟨a, b, rfl, h⟩
    unfold d_law_common
    walk_at "ev"
    refine ⟨fun m env => ∃ p q : Int, env = [some (.fr (.int p)), some (.fr (.int q))] ∧ 0 ≤ p ∧ 0 ≤ q ∧ Int.gcd p q = Int.gcd a b ∧ m = q.toNat, ⟨_, _, _, rfl, ?_, ?_, ?_, rfl⟩, ?_⟩
    · split <;> omega
    · split <;> omega
    · have e : ∀ x : Int, (if x < 0 then -x else x) = (x.natAbs : Int) := fun x => by split <;> omega
      rw [e, e]
      rfl
    · rintro m env ⟨p, q, rfl, hp, hq, hg, rfl⟩
      walk_at "ev"
      split
      · rename_i h0
        have h0' : 0 < q := by omega
        refine ⟨by omega, _, ?_, _, _, ⟨rfl, rfl⟩, hq, ?_, ?_, rfl⟩
        · rw [Int.fmod_eq_emod_of_nonneg p hq]
          have := Int.emod_lt_of_pos p h0'
          have := Int.emod_nonneg p (show q ≠ 0 by omega)
          omega
        · rw [Int.fmod_eq_emod_of_nonneg p hq]
          exact Int.emod_nonneg p (by omega)
        · rw [Int.fmod_eq_emod_of_nonneg p hq, ← hg]
          rw [Int.gcd_comm p q]
          rw [Int.gcd_comm q p]; exact gcd_mod p q
      · rename_i h0
        have : q = 0 := by omega
        subst this
        refine ⟨rfl, ?_⟩
        have e : (Int.gcd a b : Int) = p := by rw [← hg]; simp; omega
        rw [e] at h
        exact h
theorem sem_law_fraction : SemA C_law_fraction 3 2 d_law_fraction where
  len := by rintro ds P ⟨a, b, rfl, _⟩; rfl
  sem := by
    rintro ds P ⟨u, e, rfl, h0, hs, h⟩
    unfold d_law_fraction C_law_common C_common
    have g0 : 0 < Int.gcd u e := natAbs_gcd_pos h0
    have gl : Int.gcd u e ≤ e.natAbs := Nat.le_of_dvd (by omega) (by have := Int.gcd_dvd_natAbs_right u e; exact this)
    have lg : (Int.gcd u e).log2 < 9000 := log2_lt (Nat.lt_of_le_of_lt gl (Nat.lt_of_lt_of_le hs (Nat.pow_le_pow_right (by decide) (by decide)))) (by decide)
    have cm : ∀ s : Int, s.natAbs = 1 → CMulW (Int.gcd u e : Int) s := fun s hs => by
      unfold CMulW
      rw [hs]
      have : ((Int.gcd u e : Int)).natAbs.log2 < 9000 := by simpa using lg
      have : Nat.log2 1 = 0 := by decide
      omega
    walk_at "ev"
    refine ⟨_, _, ⟨rfl, rfl⟩, ?_⟩
    split
    · rw [Int.mul_one]
      refine ⟨cm 1 rfl, ⟨by omega, by simpa using lg⟩, ⟨by omega, by simpa using lg⟩, by decide, rfl, ?_⟩
      rw [← frac_pos rfl (by assumption)]
      exact h
    · have e1 : (Int.gcd u e : Int) * (0 - 1) = -(Int.gcd u e : Int) := by omega
      rw [e1]
      refine ⟨cm _ rfl, ⟨by omega, by simpa using lg⟩, ⟨by omega, by simpa using lg⟩, by decide, rfl, ?_⟩
      rw [← frac_neg rfl (by omega)]
      exact h
theorem sem_law_sum : SemA C_law_sum 2 2 d_law_sum where
  len := by rintro ds P ⟨a, b, rfl, _⟩; rfl
  sem := by
    rintro ds P ⟨x, y, rfl, hx, hy, h⟩
    unfold d_law_sum C_law_fraction C_fraction encQ
    have hx0 := x.den_nz
    have hy0 := y.den_nz
    walk_at "ev"
    refine ⟨wm hx.1 hy.d, wm hy.1 hx.d, wm hx.d hy.d, _, _, ⟨rfl, rfl⟩, Int.mul_ne_zero (by omega) (by omega), ?_, ?_⟩
    · rw [Int.natAbs_mul]; exact Nat.lt_of_lt_of_le (mul_lt2 hx.d hy.d) (Nat.pow_le_pow_right (by decide) (by decide))
    · refine ⟨rfl, ?_⟩
      have e : x + y = Rat.divInt (x.num * y.den + y.num * x.den) (x.den * y.den) := by
        rw [← Rat.divInt_add_divInt _ _ (by omega) (by omega), Rat.num_divInt_den, Rat.num_divInt_den]
      rw [← e]
      exact h
theorem sem_law_times : SemA C_law_times 2 2 d_law_times where
  len := by rintro ds P ⟨a, b, rfl, _⟩; rfl
  sem := by
    rintro ds P ⟨x, y, rfl, hx, hy, h⟩
    unfold d_law_times C_law_fraction C_fraction encQ
    have hx0 := x.den_nz
    have hy0 := y.den_nz
    walk_at "ev"
    refine ⟨wm hx.1 hy.1, wm hx.d hy.d, _, _, ⟨rfl, rfl⟩, Int.mul_ne_zero (by omega) (by omega), ?_, ?_⟩
    · rw [Int.natAbs_mul]; exact Nat.lt_of_lt_of_le (mul_lt2 hx.d hy.d) (Nat.pow_le_pow_right (by decide) (by decide))
    · refine ⟨rfl, ?_⟩
      rw [← rat_mul_eq]
      exact h
theorem neg_enc (y : Rat) : PyData.tuple [.int (0 - y.num), .int (y.den : Int)] = encQ (-y) := by
  unfold encQ
  rw [Rat.neg_num, Rat.neg_den, Int.zero_sub]
theorem sem_law_less : SemA C_law_less 2 2 d_law_less where
  len := by rintro ds P ⟨a, b, rfl, _⟩; rfl
  sem := by
    rintro ds P ⟨x, y, rfl, hx, hy, h⟩
    have two : (2 : Nat) ≤ sizeLine := by decide
    unfold d_law_less C_law_sum
    have e1 : ∀ Q : TV → Prop, oIx (.fr (encQ y)) (.fr (.int 0)) Q = Q (.fr (.int y.num)) := fun Q => ix_t0
    have e2 : ∀ Q : TV → Prop, oIx (.fr (encQ y)) (.fr (.int 1)) Q = Q (.fr (.int (y.den : Int))) := fun Q => ix_t1
    walk_at "ev"
    rw [e1]
    walk_at "ev"
    rw [e2]
    walk_at "ev"
    refine ⟨two, ?_⟩
    rw [neg_enc, E_added]
    refine ⟨hx, hy.neg, rfl, ?_⟩
    rw [← Rat.sub_eq_add_neg]
    exact h
theorem sem_law_over : SemA C_law_over 2 2 d_law_over where
  len := by rintro ds P ⟨a, b, rfl, _⟩; rfl
  sem := by
    rintro ds P ⟨x, y, rfl, hx, hy, hn, h⟩
    unfold d_law_over C_law_fraction C_fraction encQ
    have hx0 := x.den_nz
    have hy0 : y.num ≠ 0 := fun z => hn (Rat.num_eq_zero.mp z)
    walk_at "ev"
    refine ⟨wm hx.1 hy.d, wm hx.d hy.1, _, _, ⟨rfl, rfl⟩, Int.mul_ne_zero (by omega) hy0, ?_, ?_⟩
    · rw [Int.natAbs_mul]; exact Nat.lt_of_lt_of_le (mul_lt2 hx.d hy.1) (Nat.pow_le_pow_right (by decide) (by decide))
    · refine ⟨rfl, ?_⟩
      rw [← rat_div_eq]
      exact h
theorem sem_law_below : SemA C_law_below 2 2 d_law_below where
  len := by rintro ds P ⟨a, b, rfl, _⟩; rfl
  sem := by
    rintro ds P ⟨x, y, rfl, hx, hy, h⟩
    unfold d_law_below encQ
    walk_at "ev"
    refine ⟨wm hx.1 hy.d, wm hy.1 hx.d, rfl, ?_⟩
    have : decide (x.num * (y.den : Int) < y.num * (x.den : Int)) = decide (x < y) := by
      congr 1
      rw [Rat.lt_iff]
    rw [this]
    exact h
end DL
end
section
set_option maxRecDepth 100000
set_option maxHeartbeats 1000000
set_option exponentiation.threshold 10
namespace DL
open PySem PySem.Spec PyProof.Rows L2 RM
local macro_rules | `(tactic| walk_at "bsyn") => `(tactic| first | assumption | exact B.add (by walk_at "bsyn") (by walk_at "bsyn") | exact B.sub (by walk_at "bsyn") (by walk_at "bsyn") | exact B.mul (by walk_at "bsyn") (by walk_at "bsyn") | exact B.div (by walk_at "bsyn") (by walk_at "bsyn") | exact B.neg (by walk_at "bsyn"))
local macro_rules | `(tactic| walk_at "bb") => `(tactic| exact B.mono (by walk_at "bsyn") (by decide))
def C_law_spot : DC := fun ds P => ∃ r i t, ds = [encR r, .int (i : Nat), encQ t] ∧ (Cr r ∧ i + 1 < r.length ∧ Tb t) ∧ P (.fr (encP (spotOf r i t)))
def C_law_reach : DC := fun ds P => ∃ r h i t, ds = [encR r, encQ h, encP (spotOf r i t)] ∧ (SgOk r h i t ∧ Good r h ∧ 0 ≤ t ∧ t ≤ 1) ∧ P (.fr (.tuple [encQ (reachL r h (spotOf r i t)), encQ (reachR r h (spotOf r i t))]))
def d_law_spot : DSt := (dSeq (dAsg (dgT 2 (dgCons (dgT 2 (dgCons (dgN 3) (dgCons (dgN 4) dgNil))) (dgCons (dgT 2 (dgCons (dgN 5) (dgCons (dgN 6) dgNil))) dgNil))) (dTup (dCons (dBin oIx (dVar 0) (dVar 1)) (dCons (dBin oIx (dVar 0) (dBin oAdd (dVar 1) (dC (.int 1)))) dNil))))
  (dRet (dTup (dCons (dCall C_law_sum (dCons (dVar 3) (dCons (dCall C_law_times (dCons (dVar 2) (dCons (dCall C_law_less (dCons (dVar 5) (dCons (dVar 3) dNil))) dNil))) dNil))) (dCons (dCall C_law_sum (dCons (dVar 4) (dCons (dCall C_law_times (dCons (dVar 2) (dCons (dCall C_law_less (dCons (dVar 6) (dCons (dVar 4) dNil))) dNil))) dNil))) dNil)))))
def d_law_reach : DSt := (dSeq (dPar3 true true false 3 4 5 (dCons (dLst (dCons (dBin oIx (dBin oIx (dVar 0) (dC (.int 0))) (dC (.int 0))) dNil)) (dCons (dLst (dCons (dBin oIx (dBin oIx (dVar 0) (dUn oNeg (dC (.int 1)))) (dC (.int 0))) dNil)) (dCons (dCall C_law_less (dCons (dVar 1) (dCons (dBin oIx (dVar 2) (dC (.int 1))) dNil))) dNil))))
  (dSeq (dFor (dItemsF (dVar 0)) (dgT 2 (dgCons (dgN 7) (dgCons (dgN 8) dgNil))) (dIfS (dAnd (dTest (dCall C_law_below (dCons (dBin oIx (dVar 2) (dC (.int 1))) (dCons (dVar 8) dNil)))) (dTest (dBin oNe (dVar 7) (dBin oIx (dVar 2) (dC (.int 0)))))) (dSeq (dSet false 6 (dCall C_law_sum (dCons (dBin oIx (dVar 2) (dC (.int 0))) (dCons (dCall C_law_over (dCons (dCall C_law_times (dCons (dVar 5) (dCons (dCall C_law_less (dCons (dVar 7) (dCons (dBin oIx (dVar 2) (dC (.int 0))) dNil))) dNil))) (dCons (dCall C_law_less (dCons (dVar 8) (dCons (dBin oIx (dVar 2) (dC (.int 1))) dNil))) dNil))) dNil))))
  (dIfS (dTest (dCall C_law_below (dCons (dBin oIx (dVar 2) (dC (.int 0))) (dCons (dVar 7) dNil)))) (dMeth 4 (dCons (dVar 6) dNil) fApp) (dMeth 3 (dCons (dVar 6) dNil) fApp))) dNext))
  (dRet (dTup (dCons (dCall C_law_most (dCons (dVar 3) dNil)) (dCons (dCall C_law_least (dCons (dVar 4) dNil)) dNil))))))
theorem ix_l0 {a : D} {l : List D} {P : TV → Prop} : oIx (.fr (.list (a :: l))) (.fr (.int 0)) P = P (.fr a) := by
  have : atI (a :: l) 0 = some a := atI_nat (a :: l) 0
  simp only [oIx, TV.items, this]
theorem E_law_sum {x y : Rat} {P : TV → Prop} : C_law_sum [encQ x, encQ y] P = (Sm x ∧ Sm y ∧ P (.fr (encQ (x + y)))) := E_added
theorem E_law_times {x y : Rat} {P : TV → Prop} : C_law_times [encQ x, encQ y] P = (Sm x ∧ Sm y ∧ P (.fr (encQ (x * y)))) := E_multiplied
theorem E_law_less {x y : Rat} {P : TV → Prop} : C_law_less [encQ x, encQ y] P = (Sm x ∧ Sm y ∧ P (.fr (encQ (x - y)))) := E_lessened
theorem E_law_over {x y : Rat} {P : TV → Prop} : C_law_over [encQ x, encQ y] P = (Sm x ∧ Sm y ∧ y ≠ 0 ∧ P (.fr (encQ (x / y)))) := E_divided
theorem E_law_fraction {u e : Int} {P : TV → Prop} : C_law_fraction [.int u, .int e] P = (e ≠ 0 ∧ e.natAbs < 2 ^ 8900 ∧ P (.fr (encQ (Rat.divInt u e)))) := by
  refine propext ⟨?_, fun h => ⟨u, e, rfl, h⟩⟩
  rintro ⟨x', y', q, h⟩
  simp only [List.cons.injEq, and_true, PyData.int.injEq] at q
  rw [q.1, q.2]
  exact h
def plL (h : Rat) (s : Pt) : Pt → Option Rat := fun c => if s.2 < c.2 ∧ c.1 < s.1 then some (place s c h) else none
def plR (h : Rat) (s : Pt) : Pt → Option Rat := fun c => if s.2 < c.2 ∧ s.1 < c.1 then some (place s c h) else none
theorem zip_fm {α β : Type} (f : α → Option β) : ∀ (l : List α) (k : Nat), (l.zipIdx k).filterMap (fun c => f c.1) = l.filterMap f
  | [], _ => rfl
  | a :: l, k => by
    rw [List.zipIdx_cons]
    cases e : f a with
    | none => rw [List.filterMap_cons_none (by exact e), List.filterMap_cons_none e, zip_fm f l (k + 1)]
    | some b => rw [List.filterMap_cons_some (by exact e), List.filterMap_cons_some e, zip_fm f l (k + 1)]
theorem lefts_pl {r : Ridge} {h : Rat} {s : Pt} : (lefts r h s).map (·.1) = r.filterMap (plL h s) := by
  unfold lefts
  rw [List.map_filterMap, ← zip_fm (plL h s) r 0]
  congr 1
  funext c
  unfold plL
  split <;> rfl
theorem rights_pl {r : Ridge} {h : Rat} {s : Pt} : (rights r h s).map (·.1) = r.filterMap (plR h s) := by
  unfold rights
  rw [List.map_filterMap, ← zip_fm (plR h s) r 0]
  congr 1
  funext c
  unfold plR
  split <;> rfl
theorem far_eq (s c : Pt) (h : Rat) : s.1 + (h - s.2) * (c.1 - s.1) / (c.2 - s.2) = place s c h := by
  unfold place
  rw [Rat.div_def, Rat.div_def]
  grind
local macro_rules | `(tactic| walk_at "ev") => `(tactic| simp only [dSeq, dNext, dBreak, dCont, dRet, dRetVar, dRetN, dIfS, dSet, dAsg, dPar2, dPar3, dAug, dMeth, dVar, dC, dBin, dUn, dChain, dTest, dAnd, dOr, dNot, dAndV, dOrV, dNotV, dIf, dNil, dCons, dTup, dLst, dCB, dCall, dItems, dItemsF, dFor, dLc, dYes, dStar, dSetIx, dPopIx, dEnum, dZip, dDict, dPut, dKeys, dRev, dIsTuple, dIsInt, dIsBool, dIsTy, dNoPart, dPart, dSl, dTruth, dLc2, dIr1, dIr2, dSrc, dSrcPut, dCells, dDrain, oI, oIC, oIB, oNeg, oAdd, oIsN, oNotN, cLen, cTuple, cList, cAbs, cInt, TV.view, TV.fz, TV.sv, TV.items, TV.fixd, TV.itm, TV.asD, isN_n, isN_P, isN_Q, isN_t, isN_i, TV.res, TV.isOwn, TV.isDct, fzs, frz, startE, wipeE, fApp, fIns, isT, oLt, oLe, oGt, oGe, oSub, oMul, oDiv, oMod, oMulK, List.map_cons, List.map_nil, List.length_cons, List.length_nil, List.cons_append, List.nil_append, List.getElem?_cons_succ, List.getElem?_cons_zero, List.set_cons_succ, List.set_cons_zero, List.replicate, Nat.reduceAdd, Nat.reduceSub, Nat.zero_add, List.cons.injEq, Option.some.injEq, exists_eq_left', exists_eq_left, exists_and_left, TV.fr.injEq, PyData.bool.injEq, PyData.int.injEq, dgN, dgNil, dgCons, dgT, true_and, and_true, reduceCtorEq, false_and, and_false, ↓reduceIte, if_true, if_false, Bool.not_true, Bool.not_false, decide_eq_true_eq, Bool.false_eq_true, cmp_lt, cmp_gt, cmp_le, cmp_ge, cmp_eq, gt_iff_lt, ge_iff_le, E_added, E_lessened, E_multiplied, E_divided, E_compared, E_between, ix_t0, ix_t1, ix_t2, ix_t3, ix_P0, ix_P1, ix_R, ix_R0, ix_R1, ix_Rl, E_turned_by, E_place_at, E_spot_between, E_crossing, E_slopes_of, E_spot_of, E_line_of, E_is_under, E_share_on_slope, oEq_int, oNe_int, oEq_Q, oNe_Q, E_own_sight, E_sight_places, E_reach, E_bar_corners, E_slope_reach, E_greatest2, E_least2, E_greatest, E_least, lit0, lit1, lit2, cut_to, cut_from1, cut_from2, E_ascending_fractions, oEq_ON, ix_Pc0, ix_Pc1, ix_Pc2, ix_rdlast, E_left_pieces, E_right_pieces, E_first_left, E_last_right, isN_O, Option.isNone_none, Option.isNone_some, E_seen_part, E_is_part_within, isN_OI, oEq_lot, ix_Ly1, ix_Ly3, List.getLast?_concat, List.dropLast_concat, E_unseen_end, isN_SO, ix_Pt0, ix_St0, E_whole_ground, E_is_integer, E_is_fraction, E_is_within, E_is_place, E_has_cover_form, oEq_parts, E_law_below, E_law_pick, E_law_sum, E_law_times, E_law_less, E_law_over, E_law_fraction])
theorem sem_law_least : SemA C_law_least 3 1 d_law_least where
  len := by rintro ds P ⟨x, xs, d, rfl, _⟩; rfl
  sem := by
    rintro ds P ⟨x, xs, d, rfl, hd, hs, h⟩
    unfold d_law_least
    have main : ∀ d0 : D, forL (dgN 2) (dSet false 1 (dIf (dTest (dCall C_law_below (dCons (dVar 2) (dCons (dVar 1) dNil)))) (dVar 2) (dVar 1))) { nx := dRetVar 1 { nx := fun _ => P (.fr .none), rt := fun t => t.lf = true ∧ P t }, rt := fun t => t.lf = true ∧ P t } ((x :: xs).map encQ) [some (.fr d0), some (.fr (encQ x)), none] := by
      intro d0
      refine forL_inv encQ (fun pre env => ∃ v w, env = [v, some (.fr (encQ (minQ x pre))), w]) (x :: xs) ?_ ⟨_, _, rfl⟩ ?_
      · rintro pre a post env K e ⟨v, w, rfl⟩ hK
        have sa : Sm a := hs a (by rw [e]; simp)
        have sm : Sm (minQ x pre) := min_sm (p := Sm) (hs x List.mem_cons_self) fun y hy => hs y (by rw [e]; simp [hy])
        walk_at "ev"
        refine ⟨sa, sm, ?_⟩
        by_cases z : a < minQ x pre
        · simp only [minQ_snoc, if_pos z] at hK
          rw [if_pos z]
          exact hK _ ⟨_, _, rfl⟩
        · simp only [minQ_snoc, if_neg z] at hK
          rw [if_neg z]
          exact hK _ ⟨_, _, rfl⟩
      · rintro env ⟨v, w, rfl⟩
        walk_at "ev"
        have : minQ x (x :: xs) = minQ x xs := by show minQ (if x < x then x else x) xs = _; split <;> rfl
        rw [this]
        exact ⟨lf_encQ _, h⟩
    rcases hd with rfl | rfl
    · rw [List.map_cons]
      walk_at "ev"
      rw [← List.map_cons]
      exact main _
    · rw [List.map_cons]
      walk_at "ev"
      rw [ix_l0]
      walk_at "ev"
      rw [← List.map_cons]
      exact main _
theorem sem_law_most : SemA C_law_most 3 1 d_law_most where
  len := by rintro ds P ⟨x, xs, d, rfl, _⟩; rfl
  sem := by
    rintro ds P ⟨x, xs, d, rfl, hd, hs, h⟩
    unfold d_law_most
    have main : ∀ d0 : D, forL (dgN 2) (dSet false 1 (dIf (dTest (dCall C_law_below (dCons (dVar 1) (dCons (dVar 2) dNil)))) (dVar 2) (dVar 1))) { nx := dRetVar 1 { nx := fun _ => P (.fr .none), rt := fun t => t.lf = true ∧ P t }, rt := fun t => t.lf = true ∧ P t } ((x :: xs).map encQ) [some (.fr d0), some (.fr (encQ x)), none] := by
      intro d0
      refine forL_inv encQ (fun pre env => ∃ v w, env = [v, some (.fr (encQ (maxQ x pre))), w]) (x :: xs) ?_ ⟨_, _, rfl⟩ ?_
      · rintro pre a post env K e ⟨v, w, rfl⟩ hK
        have sa : Sm a := hs a (by rw [e]; simp)
        have sm : Sm (maxQ x pre) := max_sm (p := Sm) (hs x List.mem_cons_self) fun y hy => hs y (by rw [e]; simp [hy])
        walk_at "ev"
        refine ⟨sm, sa, ?_⟩
        by_cases z : maxQ x pre < a
        · simp only [maxQ_snoc, if_pos z] at hK
          rw [if_pos z]
          exact hK _ ⟨_, _, rfl⟩
        · simp only [maxQ_snoc, if_neg z] at hK
          rw [if_neg z]
          exact hK _ ⟨_, _, rfl⟩
      · rintro env ⟨v, w, rfl⟩
        walk_at "ev"
        have : maxQ x (x :: xs) = maxQ x xs := by show maxQ (if x < x then x else x) xs = _; split <;> rfl
        rw [this]
        exact ⟨lf_encQ _, h⟩
    rcases hd with rfl | rfl
    · rw [List.map_cons]
      walk_at "ev"
      rw [← List.map_cons]
      exact main _
    · rw [List.map_cons]
      walk_at "ev"
      rw [ix_l0]
      walk_at "ev"
      rw [← List.map_cons]
      exact main _
theorem sem_law_spot : SemA C_law_spot 7 3 d_law_spot where
  len := by rintro ds P ⟨r, i, t, rfl, _⟩; rfl
  sem := by
    rintro ds P ⟨r, i, t, rfl, ⟨hr, hi, ht⟩, h⟩
    have two : (2 : Nat) ≤ sizeLine := by decide
    obtain ⟨p1, p2⟩ := hr.at (show i < r.length by omega)
    obtain ⟨q1, q2⟩ := hr.at hi
    unfold d_law_spot
    walk_at "ev"
    refine ⟨by omega, hi, two, ?_⟩
    unfold encP
    walk_at "ev"
    refine ⟨by walk_at "bb", by walk_at "bb", by walk_at "bb", by walk_at "bb", by walk_at "bb", by walk_at "bb", by walk_at "bb", by walk_at "bb", by walk_at "bb", by walk_at "bb", by walk_at "bb", by walk_at "bb", two, rfl, h⟩
theorem sem_law_reach : SemA C_law_reach 9 3 d_law_reach where
  len := by rintro ds P ⟨r, h, i, t, rfl, _⟩; rfl
  sem := by
    rintro ds P ⟨r, h, i, t, rfl, ⟨ok, g, t0, t1⟩, hP⟩
    have hsz : sizeLine = 16777216 := sizeLine_eq
    have hi := ok.ci
    obtain ⟨s1, s2⟩ := spot_b ok.cr ok.ci ok.ct
    have hh := ok.ch
    unfold d_law_reach
    walk_at "ev"
    refine ⟨by omega, by decide, by omega, by decide, by walk_at "bb", by walk_at "bb", r.map encP, rfl, ?_⟩
    have x0 := (ok.cr.at (show 0 < r.length by omega)).x
    have xn := (ok.cr.at (show r.length - 1 < r.length by omega)).x
    have pb : ∀ c ∈ r, Sm (place (spotOf r i t) c h) := fun c hc => (place_b s1 s2 (ok.cr c hc) hh).mono (by decide)
    refine forL_inv encP (fun pre env => ∃ u v w, env = [some (.fr (encR r)), some (.fr (encQ h)), some (.fr (encP (spotOf r i t))), some (.own (((at_ r 0).1 :: pre.filterMap (plL h (spotOf r i t))).map encQ)), some (.own (((at_ r (r.length - 1)).1 :: pre.filterMap (plR h (spotOf r i t))).map encQ)), some (.fr (encQ (h - (spotOf r i t).2))), u, v, w]) r ?_ ⟨_, _, _, rfl⟩ ?_
    · rintro pre c post env K e ⟨u, v, w, rfl⟩ hK
      have hc : c ∈ r := by rw [e]; simp
      obtain ⟨c1, c2⟩ := ok.cr c hc
      have hl : pre.length < 1000 := by
        have := congrArg List.length e
        rw [List.length_append, List.length_cons] at this
        have := ok.cl
        omega
      have l1 := fm_len (plL h (spotOf r i t)) pre
      have l2 := fm_len (plR h (spotOf r i t)) pre
      simp only [fm_snoc] at hK
      unfold encP
      walk_at "ev"
      refine ⟨by walk_at "bb", by walk_at "bb", ?_⟩
      have skip : ¬ ((spotOf r i t).2 < c.2 ∧ c.1 ≠ (spotOf r i t).1) → ∀ u v w, K [some (.fr (encR r)), some (.fr (encQ h)), some (.fr (encP (spotOf r i t))), some (.own (((at_ r 0).1 :: pre.filterMap (plL h (spotOf r i t))).map encQ)), some (.own (((at_ r (r.length - 1)).1 :: pre.filterMap (plR h (spotOf r i t))).map encQ)), some (.fr (encQ (h - (spotOf r i t).2))), u, v, w] := fun hn u v w => by
        have eL : plL h (spotOf r i t) c = none := if_neg (by grind)
        have eR : plR h (spotOf r i t) c = none := if_neg (by grind)
        simp only [eL, eR, Option.toList, List.append_nil] at hK
        exact hK _ ⟨u, v, w, rfl⟩
      split
      · rename_i h1
        split
        · rename_i h2
          refine ⟨by walk_at "bb", by walk_at "bb", by walk_at "bb", by walk_at "bb", by walk_at "bb", by walk_at "bb", by walk_at "bb", by walk_at "bb", by grind, by walk_at "bb", by walk_at "bb", by walk_at "bb", by walk_at "bb", ?_⟩
          rw [far_eq]
          split
          · rename_i h3
            have eL : plL h (spotOf r i t) c = none := if_neg (by grind)
            have eR : plR h (spotOf r i t) c = some (place (spotOf r i t) c h) := if_pos ⟨h1, h3⟩
            simp only [eL, eR, Option.toList, List.append_nil] at hK
            refine ⟨by simp; omega, hK _ ⟨some (.fr (encQ (place (spotOf r i t) c h))), some (.fr (encQ c.1)), some (.fr (encQ c.2)), ?_⟩⟩
            simp only [List.map_cons, List.map_append, List.map_nil, List.cons_append]
            rfl
          · rename_i h3
            have eL : plL h (spotOf r i t) c = some (place (spotOf r i t) c h) := if_pos ⟨h1, by grind⟩
            have eR : plR h (spotOf r i t) c = none := if_neg (by grind)
            simp only [eL, eR, Option.toList, List.append_nil] at hK
            refine ⟨by simp; omega, hK _ ⟨some (.fr (encQ (place (spotOf r i t) c h))), some (.fr (encQ c.1)), some (.fr (encQ c.2)), ?_⟩⟩
            simp only [List.map_cons, List.map_append, List.map_nil, List.cons_append]
            rfl
        · rename_i h2
          exact skip (fun z => h2 z.2) _ _ _
      · rename_i h1
        exact skip (fun z => h1 z.1) _ _ _
    · rintro env ⟨u, v, w, rfl⟩
      walk_at "ev"
      refine ⟨(at_ r 0).1, _, _, rfl, .inr rfl, ?_, ?_⟩
      · intro y hy
        rcases List.mem_cons.mp hy with rfl | hy
        · exact x0.mono (by decide)
        · obtain ⟨c, hc, e⟩ := List.mem_filterMap.mp hy
          unfold plL at e
          split at e
          · cases e; exact pb c hc
          · cases e
      · walk_at "ev"
        refine ⟨(at_ r (r.length - 1)).1, _, _, rfl, .inr rfl, ?_, ?_⟩
        · intro y hy
          rcases List.mem_cons.mp hy with rfl | hy
          · exact xn.mono (by decide)
          · obtain ⟨c, hc, e⟩ := List.mem_filterMap.mp hy
            unfold plR at e
            split at e
            · cases e; exact pb c hc
            · cases e
        · walk_at "ev"
          refine ⟨by decide, rfl, ?_⟩
          rw [← lefts_pl, ← rights_pl]
          exact hP
end DL
end
section
set_option maxRecDepth 100000
set_option maxHeartbeats 1000000
set_option exponentiation.threshold 10
namespace DL
open PySem PySem.Spec PyProof.Rows L2 RM
local macro_rules | `(tactic| walk_at "bsyn") => `(tactic| first | assumption | exact B.add (by walk_at "bsyn") (by walk_at "bsyn") | exact B.sub (by walk_at "bsyn") (by walk_at "bsyn") | exact B.mul (by walk_at "bsyn") (by walk_at "bsyn") | exact B.div (by walk_at "bsyn") (by walk_at "bsyn") | exact B.neg (by walk_at "bsyn"))
local macro_rules | `(tactic| walk_at "bb") => `(tactic| exact B.mono (by walk_at "bsyn") (by decide))
structure Drawn (n : Nat) (r : Ridge) : Prop where
  two : 2 ≤ r.length
  len : r.length ≤ n + 2
  asc : r.Pairwise fun a b => a.1 < b.1
  on : ∀ c ∈ r, ∃ a b : Int, c = ((a : Rat), Rat.divInt b 2) ∧ -3 ≤ a ∧ a ≤ 3 + 3 * (n + 2) ∧ 0 ≤ b ∧ b ≤ 17
def C_law_draw_ridge : DC := fun ds P => ∃ n : Nat, ds = [.dict [], .int (n : Nat)] ∧ (2 ≤ n ∧ n ≤ 100) ∧ ∀ r, Drawn n r → P (.fr (encR r))
def d_law_draw_ridge : DSt := (dSeq (dPar3 false false true 2 3 4 (dCons (dBin oSub (dCall C_law_pick (dCons (dVar 0) (dCons (dC (.int 7)) dNil))) (dC (.int 3))) (dCons (dCall C_law_pick (dCons (dVar 0) (dCons (dC (.int 3)) dNil))) (dCons (dLst dNil) dNil))))
  (dSeq (dSet false 5 (dAndV (dBin oGt (dVar 1) (dC (.int 4))) (dBin oEq (dCall C_law_pick (dCons (dVar 0) (dCons (dC (.int 2)) dNil))) (dC (.int 0)))))
  (dSeq (dFor (dIr1 (dCons (dIf (dTruth (dVar 5)) (dBin oAdd (dVar 1) (dCall C_law_pick (dCons (dVar 0) (dCons (dC (.int 3)) dNil)))) (dBin oAdd (dC (.int 2)) (dCall C_law_pick (dCons (dVar 0) (dCons (dBin oSub (dVar 1) (dC (.int 1))) dNil))))) dNil)) (dgN 8) (dSeq (dSet false 6 (dLst (dCons (dC (.int 0)) (dCons (dC (.int 0)) (dCons (dC (.int 1)) (dCons (dC (.int 3)) (dCons (dC (.int 5)) (dCons (dC (.int 8)) dNil))))))))
  (dSeq (dIfS (dTruth (dVar 5)) (dSet false 6 (dIf (dTest (dBin oEq (dBin oMod (dCB cInt (dCons (dBin oAdd (dVar 8) (dVar 3)) dNil)) (dC (.int 3))) (dC (.int 1)))) (dLst (dCons (dC (.int 0)) (dCons (dC (.int 0)) (dCons (dC (.int 1)) (dCons (dC (.int 2)) dNil))))) (dLst (dCons (dC (.int 6)) (dCons (dC (.int 7)) (dCons (dC (.int 8)) (dCons (dC (.int 8)) dNil))))))) dNext)
  (dSeq (dSet false 7 (dBin oAdd (dBin oMulK (dC (.int 2)) (dBin oIx (dVar 6) (dCall C_law_pick (dCons (dVar 0) (dCons (dCB cLen (dCons (dVar 6) dNil)) dNil))))) (dCB cInt (dCons (dBin oEq (dCall C_law_pick (dCons (dVar 0) (dCons (dC (.int 5)) dNil))) (dC (.int 0))) dNil))))
  (dSeq (dMeth 4 (dCons (dTup (dCons (dTup (dCons (dVar 2) (dCons (dC (.int 1)) dNil))) (dCons (dCall C_law_fraction (dCons (dVar 7) (dCons (dC (.int 2)) dNil))) dNil))) dNil) fApp)
  (dSet false 2 (dBin oAdd (dBin oAdd (dVar 2) (dC (.int 1))) (dIf (dTruth (dVar 5)) (dCB cInt (dCons (dBin oEq (dCall C_law_pick (dCons (dVar 0) (dCons (dC (.int 4)) dNil))) (dC (.int 0))) dNil)) (dCall C_law_pick (dCons (dVar 0) (dCons (dC (.int 3)) dNil)))))))))))
  (dRet (dCB cTuple (dCons (dVar 4) dNil))))))
def b_draw : DSt := (dSeq (dSet false 6 (dLst (dCons (dC (.int 0)) (dCons (dC (.int 0)) (dCons (dC (.int 1)) (dCons (dC (.int 3)) (dCons (dC (.int 5)) (dCons (dC (.int 8)) dNil))))))))
  (dSeq (dIfS (dTruth (dVar 5)) (dSet false 6 (dIf (dTest (dBin oEq (dBin oMod (dCB cInt (dCons (dBin oAdd (dVar 8) (dVar 3)) dNil)) (dC (.int 3))) (dC (.int 1)))) (dLst (dCons (dC (.int 0)) (dCons (dC (.int 0)) (dCons (dC (.int 1)) (dCons (dC (.int 2)) dNil))))) (dLst (dCons (dC (.int 6)) (dCons (dC (.int 7)) (dCons (dC (.int 8)) (dCons (dC (.int 8)) dNil))))))) dNext)
  (dSeq (dSet false 7 (dBin oAdd (dBin oMulK (dC (.int 2)) (dBin oIx (dVar 6) (dCall C_law_pick (dCons (dVar 0) (dCons (dCB cLen (dCons (dVar 6) dNil)) dNil))))) (dCB cInt (dCons (dBin oEq (dCall C_law_pick (dCons (dVar 0) (dCons (dC (.int 5)) dNil))) (dC (.int 0))) dNil))))
  (dSeq (dMeth 4 (dCons (dTup (dCons (dTup (dCons (dVar 2) (dCons (dC (.int 1)) dNil))) (dCons (dCall C_law_fraction (dCons (dVar 7) (dCons (dC (.int 2)) dNil))) dNil))) dNil) fApp)
  (dSet false 2 (dBin oAdd (dBin oAdd (dVar 2) (dC (.int 1))) (dIf (dTruth (dVar 5)) (dCB cInt (dCons (dBin oEq (dCall C_law_pick (dCons (dVar 0) (dCons (dC (.int 4)) dNil))) (dC (.int 0))) dNil)) (dCall C_law_pick (dCons (dVar 0) (dCons (dC (.int 3)) dNil))))))))))
theorem enc_int (x : Int) : PyData.tuple [.int x, .int 1] = encQ (x : Rat) := rfl
theorem ix_ints {ns : List Int} {k : Int} {P : TV → Prop} (h0 : 0 ≤ k) (h1 : k < ns.length) (h : ∀ n ∈ ns, P (.fr (.int n))) : oIx (.fr (.list (ns.map .int))) (.fr (.int k)) P := by
  obtain ⟨j, rfl⟩ : ∃ j : Nat, k = (j : Int) := ⟨k.toNat, by omega⟩
  have hj : j < ns.length := by omega
  have : atI (ns.map PyData.int) ((j : Nat) : Int) = some (.int ns[j]) := by rw [atI_nat, List.getElem?_map, List.getElem?_eq_getElem hj]; rfl
  simp only [oIx, TV.items, this]
  exact h _ (List.getElem_mem _)
theorem ix_own {ns : List Int} {k : Int} {P : TV → Prop} (h0 : 0 ≤ k) (h1 : k < ns.length) (h : ∀ n ∈ ns, P (.fr (.int n))) : oIx (.own (ns.map .int)) (.fr (.int k)) P := by
  obtain ⟨j, rfl⟩ : ∃ j : Nat, k = (j : Int) := ⟨k.toNat, by omega⟩
  have hj : j < ns.length := by omega
  have : atI (ns.map PyData.int) ((j : Nat) : Int) = some (.int ns[j]) := by rw [atI_nat, List.getElem?_map, List.getElem?_eq_getElem hj]; rfl
  simp only [oIx, TV.items, this]
  exact h _ (List.getElem_mem _)
local macro_rules | `(tactic| walk_at "ev") => `(tactic| simp only [dSeq, dNext, dBreak, dCont, dRet, dRetVar, dRetN, dIfS, dSet, dAsg, dPar2, dPar3, dAug, dMeth, dVar, dC, dBin, dUn, dChain, dTest, dAnd, dOr, dNot, dAndV, dOrV, dNotV, dIf, dNil, dCons, dTup, dLst, dCB, dCall, dItems, dItemsF, dFor, dLc, dYes, dStar, dSetIx, dPopIx, dEnum, dZip, dDict, dPut, dKeys, dRev, dIsTuple, dIsInt, dIsBool, dIsTy, dNoPart, dPart, dSl, dTruth, dLc2, dIr1, dIr2, dSrc, dSrcPut, dCells, dDrain, oI, oIC, oIB, oNeg, oAdd, oIsN, oNotN, cLen, cTuple, cList, cAbs, cInt, TV.view, TV.fz, TV.sv, TV.items, TV.fixd, TV.itm, TV.asD, isN_n, isN_P, isN_Q, isN_t, isN_i, TV.res, TV.isOwn, TV.isDct, fzs, frz, startE, wipeE, fApp, fIns, isT, oLt, oLe, oGt, oGe, oSub, oMul, oDiv, oMod, oMulK, List.map_cons, List.map_nil, List.length_cons, List.length_nil, List.cons_append, List.nil_append, List.getElem?_cons_succ, List.getElem?_cons_zero, List.set_cons_succ, List.set_cons_zero, List.replicate, Nat.reduceAdd, Nat.reduceSub, Nat.zero_add, List.cons.injEq, Option.some.injEq, exists_eq_left', exists_eq_left, exists_and_left, TV.fr.injEq, PyData.bool.injEq, PyData.int.injEq, dgN, dgNil, dgCons, dgT, true_and, and_true, reduceCtorEq, false_and, and_false, ↓reduceIte, if_true, if_false, Bool.not_true, Bool.not_false, decide_eq_true_eq, Bool.false_eq_true, cmp_lt, cmp_gt, cmp_le, cmp_ge, cmp_eq, gt_iff_lt, ge_iff_le, E_added, E_lessened, E_multiplied, E_divided, E_compared, E_between, ix_t0, ix_t1, ix_t2, ix_t3, ix_P0, ix_P1, ix_R, ix_R0, ix_R1, ix_Rl, E_turned_by, E_place_at, E_spot_between, E_crossing, E_slopes_of, E_spot_of, E_line_of, E_is_under, E_share_on_slope, oEq_int, oNe_int, oEq_Q, oNe_Q, E_own_sight, E_sight_places, E_reach, E_bar_corners, E_slope_reach, E_greatest2, E_least2, E_greatest, E_least, lit0, lit1, lit2, cut_to, cut_from1, cut_from2, E_ascending_fractions, oEq_ON, ix_Pc0, ix_Pc1, ix_Pc2, ix_rdlast, E_left_pieces, E_right_pieces, E_first_left, E_last_right, isN_O, Option.isNone_none, Option.isNone_some, E_seen_part, E_is_part_within, isN_OI, oEq_lot, ix_Ly1, ix_Ly3, List.getLast?_concat, List.dropLast_concat, E_unseen_end, isN_SO, ix_Pt0, ix_St0, E_whole_ground, E_is_integer, E_is_fraction, E_is_within, E_is_place, E_has_cover_form, oEq_parts, E_law_below, E_law_pick, E_law_sum, E_law_times, E_law_less, E_law_over, E_law_fraction])
theorem sem_law_draw_ridge : SemA C_law_draw_ridge 9 2 d_law_draw_ridge where
  len := by rintro ds P ⟨n, rfl, _⟩; rfl
  sem := by
    rintro ds P ⟨n, rfl, ⟨hn2, hn⟩, hP⟩
    have hsz : sizeLine = 16777216 := sizeLine_eq
    have two : (2 : Nat) ≤ sizeLine := by decide
    have main : ∀ (comb : Bool) (N : Nat) (k0 k1 : Int), 2 ≤ N → N ≤ n + 2 → 0 ≤ k0 → k0 < 7 → forL (dgN 8) b_draw { nx := dRet (dCB cTuple (dCons (dVar 4) dNil)) { nx := fun _ => P (.fr .none), rt := fun t => t.lf = true ∧ P t }, rt := fun t => t.lf = true ∧ P t } (dRange 0 N)
        [some (.fr (.dict [])), some (.fr (.int (n : Nat))), some (.fr (.int (k0 - 3))), some (.fr (.int k1)), some (.own []), some (.fr (.bool comb)), none, none, none] := by
      intro comb N k0 k1 N2 Nn k00 k01
      rw [range_enc]
      refine forL_inv (fun (k : Nat) => PyData.int (k : Int)) (fun pre env => ∃ (rr : Ridge) (X : Int) (u v w : Option TV), env = [some (.fr (.dict [])), some (.fr (.int (n : Nat))), some (.fr (.int X)), some (.fr (.int k1)), some (.own (rr.map encP)), some (.fr (.bool comb)), u, v, w] ∧
        rr.length = pre.length ∧ rr.Pairwise (fun a b => a.1 < b.1) ∧ (∀ c ∈ rr, c.1 < (X : Rat) ∧ ∃ a b : Int, c = ((a : Rat), Rat.divInt b 2) ∧ -3 ≤ a ∧ a ≤ 3 + 3 * (n + 2) ∧ 0 ≤ b ∧ b ≤ 17) ∧ -3 ≤ X ∧ X ≤ 3 + 3 * pre.length) (List.range N) ?_
        ⟨[], k0 - 3, _, _, _, rfl, rfl, .nil, (fun _ h => nomatch h), by omega, by simp; omega⟩ ?_
      · rintro pre lap post env K e ⟨rr, X, u, v, w, rfl, hl, asc, hon, x0, x1⟩ hK
        have hpl : pre.length < N := by
          have := congrArg List.length e
          rw [List.length_range, List.length_append, List.length_cons] at this
          omega
        have fin : ∀ (y dx : Int) (u v w : Option TV), 0 ≤ y → y ≤ 17 → 0 ≤ dx → dx ≤ 2 → K [some (.fr (.dict [])), some (.fr (.int (n : Nat))), some (.fr (.int (X + 1 + dx))), some (.fr (.int k1)), some (.own (rr.map encP ++ [PyData.tuple [.tuple [.int X, .int 1], encQ (Rat.divInt y 2)]])), some (.fr (.bool comb)), u, v, w] := by
          intro y dx u v w y0 y1 d0 d1
          refine hK _ ⟨rr ++ [((X : Rat), Rat.divInt y 2)], X + 1 + dx, u, v, w, by simp [encP, enc_int], by simp [hl], ?_, ?_, by omega, by simp; omega⟩
          · rw [List.pairwise_append]
            refine ⟨asc, List.pairwise_singleton _ _, fun c hc b hb => ?_⟩
            have : b = ((X : Rat), Rat.divInt y 2) := by simpa using hb
            subst this
            exact (hon c hc).1
          · have hX : (X : Rat) < ((X + 1 + dx : Int) : Rat) := by exact_mod_cast (by omega : X < X + 1 + dx)
            intro c hc
            rcases List.mem_append.mp hc with hc | hc
            · obtain ⟨h1, h2⟩ := hon c hc
              exact ⟨by grind, h2⟩
            · have : c = ((X : Rat), Rat.divInt y 2) := by simpa using hc
              subst this
              exact ⟨hX, X, y, rfl, x0, by omega, y0, y1⟩
        have six : (6 : Nat) ≤ sizeLine := by decide
        have four : (4 : Nat) ≤ sizeLine := by decide
        have hp : (2 : Int).natAbs < 2 ^ 8900 := Nat.lt_of_lt_of_le (show 2 < 2 ^ 2 by decide) (Nat.pow_le_pow_right (by decide) (by decide))
        have hlen : ∀ d : D, (rr.map encP ++ [d]).length ≤ sizeLine := fun d => by rw [List.length_append, List.length_map]; simp only [List.length_cons, List.length_nil]; omega
        have ite2 : ∀ k : Int, 0 ≤ (if k = 0 then (1 : Int) else 0) ∧ (if k = 0 then (1 : Int) else 0) ≤ 1 := fun k => by split <;> omega
        unfold b_draw
        cases comb with
        | true =>
          walk_at "ev"
          refine ⟨six, by decide, ?_⟩
          split
          · refine ⟨four, by decide, fun k ka kb => ?_⟩
            refine ix_ints (ns := [0, 0, 1, 2]) ka (by simp; omega) fun m hm => ?_
            have m8 : 0 ≤ m ∧ m ≤ 8 := by simp at hm; omega
            dsimp only
            refine ⟨.inl ⟨by decide, by decide⟩, by decide, fun k' _ _ => ⟨two, by decide, hp, two, hlen _, by decide, fun k2 _ _ => ?_⟩⟩
            have i1 := ite2 k'
            have i2 := ite2 k2
            exact fin _ _ _ _ _ (by omega) (by omega) i2.1 (by omega)
          · refine ⟨four, by decide, fun k ka kb => ?_⟩
            refine ix_ints (ns := [6, 7, 8, 8]) ka (by simp; omega) fun m hm => ?_
            have m8 : 0 ≤ m ∧ m ≤ 8 := by simp at hm; omega
            dsimp only
            refine ⟨.inl ⟨by decide, by decide⟩, by decide, fun k' _ _ => ⟨two, by decide, hp, two, hlen _, by decide, fun k2 _ _ => ?_⟩⟩
            have i1 := ite2 k'
            have i2 := ite2 k2
            exact fin _ _ _ _ _ (by omega) (by omega) i2.1 (by omega)
        | false =>
          walk_at "ev"
          refine ⟨six, by decide, fun k ka kb => ?_⟩
          refine ix_ints (ns := [0, 0, 1, 3, 5, 8]) ka (by simp; omega) fun m hm => ?_
          have m8 : 0 ≤ m ∧ m ≤ 8 := by simp at hm; omega
          dsimp only
          refine ⟨.inl ⟨by decide, by decide⟩, by decide, fun k' _ _ => ⟨two, by decide, hp, two, hlen _, by decide, fun k2 q1 q2 => ?_⟩⟩
          have i1 := ite2 k'
          exact fin _ _ _ _ _ (by omega) (by omega) q1 (by omega)
      · rintro env ⟨rr, X, u, v, w, rfl, hl, asc, hon, x0, x1⟩
        walk_at "ev"
        rw [List.length_range] at hl
        exact ⟨lf_map lf_encP rr, hP rr ⟨by omega, by omega, asc, fun c hc => (hon c hc).2⟩⟩
    unfold d_law_draw_ridge
    walk_at "ev"
    refine ⟨by decide, fun k0 k00 k01 => ⟨by decide, fun k1 k10 k11 => ⟨Nat.zero_le _, ?_⟩⟩⟩
    have b3 : ∀ m : Int, 0 ≤ m → m ≤ n + 2 → -(2 ^ 62) ≤ m ∧ m < 2 ^ 62 := fun m h0 h1 => by omega
    split
    · rename_i h4
      refine ⟨by decide, fun k ka kb => ?_⟩
      split
      · rename_i hk
        refine ⟨by decide, fun k2 q1 q2 => ⟨by omega, by omega, ?_⟩⟩
        have e : ((n : Int) + k2).toNat ≤ n + 2 ∧ 2 ≤ ((n : Int) + k2).toNat := by omega
        have := main true ((n : Int) + k2).toNat k0 k1 e.2 e.1 k00 (by omega)
        have eb : decide (k = 0) = true := by simpa using hk
        first | exact this | (rw [eb]; exact this)
      · rename_i hk
        refine ⟨by omega, fun k2 q1 q2 => ⟨by omega, by omega, ?_⟩⟩
        have e : (2 + k2).toNat ≤ n + 2 ∧ 2 ≤ (2 + k2).toNat := by omega
        have := main false (2 + k2).toNat k0 k1 e.2 e.1 k00 (by omega)
        have eb : decide (k = 0) = false := by simpa using hk
        first | exact this | (rw [eb]; exact this)
    · rename_i h4
      refine ⟨by omega, fun k2 q1 q2 => ⟨by omega, by omega, ?_⟩⟩
      have e : (2 + k2).toNat ≤ n + 2 ∧ 2 ≤ (2 + k2).toNat := by omega
      have := main false (2 + k2).toNat k0 k1 e.2 e.1 k00 (by omega)
      exact this
end DL
end
section
set_option maxRecDepth 100000
set_option maxHeartbeats 1000000
set_option exponentiation.threshold 10
namespace DL
open PySem PySem.Spec PyProof.Rows L2 RM
local macro_rules | `(tactic| walk_at "bsyn") => `(tactic| first | assumption | exact B.add (by walk_at "bsyn") (by walk_at "bsyn") | exact B.sub (by walk_at "bsyn") (by walk_at "bsyn") | exact B.mul (by walk_at "bsyn") (by walk_at "bsyn") | exact B.div (by walk_at "bsyn") (by walk_at "bsyn") | exact B.neg (by walk_at "bsyn"))
local macro_rules | `(tactic| walk_at "bb") => `(tactic| exact B.mono (by walk_at "bsyn") (by decide))
def HOf (r : Ridge) (h : Rat) : Prop := ∃ top : Rat, (∃ c ∈ r, c.2 = top) ∧ (∀ c ∈ r, c.2 ≤ top) ∧ ∃ u d : Int, 1 ≤ u ∧ u ≤ 9 ∧ (d = 1 ∨ d = 2 ∨ d = 4 ∨ d = 8 ∨ d = 16) ∧ h = top + Rat.divInt u d
def C_law_draw_height : DC := fun ds P => ∃ (n : Nat) (r : Ridge), ds = [.dict [], encR r] ∧ (Drawn n r ∧ n ≤ 100) ∧ ∀ h, HOf r h → P (.fr (encQ h))
def d_law_draw_height : DSt := (dSeq (dSet false 2 (dCall C_law_most (dCons (dLc (dItems (dVar 1)) (dgT 2 (dgCons (dgN 3) (dgCons (dgN 4) dgNil))) dYes (dVar 4) [3, 4]) dNil)))
  (dSeq (dIfS (dTest (dBin oGt (dCall C_law_pick (dCons (dVar 0) (dCons (dC (.int 4)) dNil))) (dC (.int 0)))) (dRet (dCall C_law_sum (dCons (dVar 2) (dCons (dCall C_law_fraction (dCons (dBin oAdd (dC (.int 1)) (dCall C_law_pick (dCons (dVar 0) (dCons (dC (.int 3)) dNil)))) (dCons (dBin oIx (dLst (dCons (dC (.int 2)) (dCons (dC (.int 4)) (dCons (dC (.int 8)) (dCons (dC (.int 16)) dNil))))) (dCall C_law_pick (dCons (dVar 0) (dCons (dC (.int 4)) dNil)))) dNil))) dNil)))) dNext)
  (dRet (dCall C_law_sum (dCons (dVar 2) (dCons (dCall C_law_fraction (dCons (dBin oAdd (dC (.int 1)) (dCall C_law_pick (dCons (dVar 0) (dCons (dC (.int 9)) dNil)))) (dCons (dBin oIx (dLst (dCons (dC (.int 1)) (dCons (dC (.int 2)) (dCons (dC (.int 4)) dNil)))) (dCall C_law_pick (dCons (dVar 0) (dCons (dC (.int 3)) dNil)))) dNil))) dNil))))))
theorem maxQ_of (x : Rat) (xs : List Rat) : (maxQ x xs ∈ x :: xs) ∧ ∀ y ∈ x :: xs, y ≤ maxQ x xs := by
  have h := (maxQ_le (X := maxQ x xs) (x := x) (ys := xs)).mp (by grind)
  refine ⟨?_, fun y hy => ?_⟩
  · rcases maxQ_mem xs x with e | e
    · rw [e]; exact List.mem_cons_self
    · exact List.mem_cons_of_mem _ e
  · rcases List.mem_cons.mp hy with rfl | hy
    · exact h.1
    · exact h.2 y hy
theorem half_b {b : Int} (h0 : 0 ≤ b) (h1 : b ≤ 17) : B 6 (Rat.divInt b 2) := by
  have p6 : (2 : Nat) ^ 6 = 64 := by decide
  exact .of_div (by decide) (by omega) (by decide)
theorem fm_snd {α β : Type} (l : List (α × β)) : l.filterMap (fun c => some c.2) = l.map (·.2) := by rw [← List.filterMap_eq_map]; rfl
local macro_rules | `(tactic| walk_at "ev") => `(tactic| simp only [dSeq, dNext, dBreak, dCont, dRet, dRetVar, dRetN, dIfS, dSet, dAsg, dPar2, dPar3, dAug, dMeth, dVar, dC, dBin, dUn, dChain, dTest, dAnd, dOr, dNot, dAndV, dOrV, dNotV, dIf, dNil, dCons, dTup, dLst, dCB, dCall, dItems, dItemsF, dFor, dLc, dYes, dStar, dSetIx, dPopIx, dEnum, dZip, dDict, dPut, dKeys, dRev, dIsTuple, dIsInt, dIsBool, dIsTy, dNoPart, dPart, dSl, dTruth, dLc2, dIr1, dIr2, dSrc, dSrcPut, dCells, dDrain, oI, oIC, oIB, oNeg, oAdd, oIsN, oNotN, cLen, cTuple, cList, cAbs, cInt, TV.view, TV.fz, TV.sv, TV.items, TV.fixd, TV.itm, TV.asD, isN_n, isN_P, isN_Q, isN_t, isN_i, TV.res, TV.isOwn, TV.isDct, fzs, frz, startE, wipeE, fApp, fIns, isT, oLt, oLe, oGt, oGe, oSub, oMul, oDiv, oMod, oMulK, List.map_cons, List.map_nil, List.length_cons, List.length_nil, List.cons_append, List.nil_append, List.getElem?_cons_succ, List.getElem?_cons_zero, List.set_cons_succ, List.set_cons_zero, List.replicate, Nat.reduceAdd, Nat.reduceSub, Nat.zero_add, List.cons.injEq, Option.some.injEq, exists_eq_left', exists_eq_left, exists_and_left, TV.fr.injEq, PyData.bool.injEq, PyData.int.injEq, dgN, dgNil, dgCons, dgT, true_and, and_true, reduceCtorEq, false_and, and_false, ↓reduceIte, if_true, if_false, Bool.not_true, Bool.not_false, decide_eq_true_eq, Bool.false_eq_true, cmp_lt, cmp_gt, cmp_le, cmp_ge, cmp_eq, gt_iff_lt, ge_iff_le, E_added, E_lessened, E_multiplied, E_divided, E_compared, E_between, ix_t0, ix_t1, ix_t2, ix_t3, ix_P0, ix_P1, ix_R, ix_R0, ix_R1, ix_Rl, E_turned_by, E_place_at, E_spot_between, E_crossing, E_slopes_of, E_spot_of, E_line_of, E_is_under, E_share_on_slope, oEq_int, oNe_int, oEq_Q, oNe_Q, E_own_sight, E_sight_places, E_reach, E_bar_corners, E_slope_reach, E_greatest2, E_least2, E_greatest, E_least, lit0, lit1, lit2, cut_to, cut_from1, cut_from2, E_ascending_fractions, oEq_ON, ix_Pc0, ix_Pc1, ix_Pc2, ix_rdlast, E_left_pieces, E_right_pieces, E_first_left, E_last_right, isN_O, Option.isNone_none, Option.isNone_some, E_seen_part, E_is_part_within, isN_OI, oEq_lot, ix_Ly1, ix_Ly3, List.getLast?_concat, List.dropLast_concat, E_unseen_end, isN_SO, ix_Pt0, ix_St0, E_whole_ground, E_is_integer, E_is_fraction, E_is_within, E_is_place, E_has_cover_form, oEq_parts, E_law_below, E_law_pick, E_law_sum, E_law_times, E_law_less, E_law_over, E_law_fraction])
theorem sem_law_draw_height : SemA C_law_draw_height 5 2 d_law_draw_height where
  len := by rintro ds P ⟨n, r, rfl, _⟩; rfl
  sem := by
    rintro ds P ⟨n, r, rfl, ⟨dr, hn⟩, hP⟩
    have hsz : sizeLine = 16777216 := sizeLine_eq
    have h2 := dr.two
    have hl := dr.len
    have four : (4 : Nat) ≤ sizeLine := by decide
    have three : (3 : Nat) ≤ sizeLine := by decide
    unfold d_law_draw_height
    walk_at "ev"
    refine ⟨r.map encP, rfl, ?_⟩
    refine lcL_fm (fun c => some c.2) encP encQ r ?_ (by omega) ?_
    · intro c hc Y hY
      unfold encP
      walk_at "ev"
      exact hY
    rw [fm_snd]
    obtain ⟨c0, cs, rfl⟩ : ∃ c0 cs, r = c0 :: cs := by
      cases r with
      | nil => simp at h2
      | cons c cs => exact ⟨c, cs, rfl⟩
    have ys : ∀ y ∈ (c0 :: cs).map (·.2), B 6 y := fun y hy => by
      obtain ⟨c, hc, rfl⟩ := List.mem_map.mp hy
      obtain ⟨a, b, rfl, _, _, b0, b1⟩ := dr.on c hc
      exact half_b b0 b1
    refine ⟨c0.2, cs.map (fun x : Pt => x.2), _, rfl, .inr rfl, fun y hy => (ys y hy).mono (by decide), ?_⟩
    obtain ⟨m1, m2⟩ := maxQ_of c0.2 (cs.map (·.2))
    have bt := ys _ m1
    have fin : ∀ u d : Int, 1 ≤ u → u ≤ 9 → (d = 1 ∨ d = 2 ∨ d = 4 ∨ d = 8 ∨ d = 16) → P (.fr (encQ (maxQ c0.2 (cs.map (·.2)) + Rat.divInt u d))) := fun u d u0 u1 hd =>
      hP _ ⟨_, by obtain ⟨c, hc, e⟩ := List.mem_map.mp (show maxQ c0.2 (cs.map (·.2)) ∈ (c0 :: cs).map (·.2) from m1); exact ⟨c, hc, e⟩, fun c hc => m2 c.2 (List.mem_map.mpr ⟨c, hc, rfl⟩ : c.2 ∈ (c0 :: cs).map (·.2)), u, d, u0, u1, hd, rfl⟩
    have p5 : (2 : Nat) ^ 5 = 32 := by decide
    have hd5 : ∀ d : Int, (d = 1 ∨ d = 2 ∨ d = 4 ∨ d = 8 ∨ d = 16) → d.natAbs < 2 ^ 5 := fun d hd => by omega
    have hp : ∀ d : Int, (d = 1 ∨ d = 2 ∨ d = 4 ∨ d = 8 ∨ d = 16) → d ≠ 0 ∧ d.natAbs < 2 ^ 8900 := fun d hd => ⟨by omega, Nat.lt_of_lt_of_le (hd5 d hd) (Nat.pow_le_pow_right (by decide) (by decide))⟩
    have bq : ∀ u d : Int, 1 ≤ u → u ≤ 9 → (d = 1 ∨ d = 2 ∨ d = 4 ∨ d = 8 ∨ d = 16) → Sm (Rat.divInt u d) := fun u d u0 u1 hd => (B.of_div (k := 5) (hp d hd).1 (by omega) (hd5 d hd)).mono (by decide)
    generalize maxQ c0.2 (cs.map (·.2)) = top at *
    walk_at "ev"
    refine ⟨by decide, fun k ka kb => ?_⟩
    split
    · refine ⟨by decide, fun u ua ub => ⟨four, by decide, fun j ja jb => ?_⟩⟩
      refine ix_own (ns := [2, 4, 8, 16]) ja (by simp; omega) fun d hd => ?_
      have hd' : d = 1 ∨ d = 2 ∨ d = 4 ∨ d = 8 ∨ d = 16 := by simp at hd; omega
      walk_at "ev"
      exact ⟨(hp d hd').1, (hp d hd').2, bt.mono (by decide), bq _ d (by omega) (by omega) hd', rfl, fin _ d (by omega) (by omega) hd'⟩
    · refine ⟨by decide, fun u ua ub => ⟨three, by decide, fun j ja jb => ?_⟩⟩
      refine ix_own (ns := [1, 2, 4]) ja (by simp; omega) fun d hd => ?_
      have hd' : d = 1 ∨ d = 2 ∨ d = 4 ∨ d = 8 ∨ d = 16 := by simp at hd; omega
      walk_at "ev"
      exact ⟨(hp d hd').1, (hp d hd').2, bt.mono (by decide), bq _ d (by omega) (by omega) hd', rfl, fin _ d (by omega) (by omega) hd'⟩
end DL
end
section
namespace RM
theorem LeX.higher {f h h' : Rat} {K : List Pt} {p q : Pt} {t X : Rat} (ok : (Sd.mk f h K p q).Ok) (hh : h ≤ h') (t0 : 0 ≤ t) (l : LeX (Sd.mk f h K p q) t X) : LeX (Sd.mk f h' K p q) t X := by
  obtain ⟨l1, l2, l3⟩ := l
  have dx : p.1 < q.1 := ok.x
  refine ⟨l1, fun d => ?_, fun c hc hy => ?_⟩
  · have h1 : turn p (X, h) q ≤ 0 := l2 d
    have := mn (show 0 ≤ h' - h by grind) (show 0 ≤ q.1 - p.1 by grind)
    show turn p (X, h') q ≤ 0
    unfold turn at *
    grind
  · have h1 : turn c (X, h) ((Sd.mk f h K p q).s t) ≤ 0 := l3 c hc hy
    have k := (ok.k c hc).2.1
    have a0 := s_x0 ok t0
    have a0 : p.1 ≤ ((Sd.mk f h K p q).s t).1 := a0
    have k : c.1 < p.1 := k
    have := mn (show 0 ≤ h' - h by grind) (show 0 ≤ ((Sd.mk f h K p q).s t).1 - c.1 by grind)
    show turn c (X, h') ((Sd.mk f h K p q).s t) ≤ 0
    unfold turn at *
    grind
section
variable {r : Ridge} {h h' : Rat} {i : Nat} {t X : Rat}
theorem sl_higher (g : Good r h) (hi : i + 1 < r.length) (hh : h ≤ h') (t0 : 0 ≤ t) (l : SL r h i t X) : SL r h' i t X := LeX.higher (lf_ok g hi) hh t0 l
theorem sr_higher (g : Good r h) (hi : i + 1 < r.length) (hh : h ≤ h') (t1 : t ≤ 1) (l : SRt r h i t X) : SRt r h' i t X := LeX.higher (rt_ok g hi) hh (by grind) l
theorem reachL_higher {s : Pt} (hh : h ≤ h') : reachL r h' s ≤ reachL r h s := by
  obtain ⟨h1, h2⟩ := reachL_le.mp (by grind : reachL r h s ≤ reachL r h s)
  refine reachL_le.mpr ⟨h1, fun k hk hy hx => ?_⟩
  have := h2 k hk hy hx
  rw [place_le hy] at this ⊢
  have := mn (show 0 ≤ h' - h by grind) (show 0 ≤ s.1 - (at_ r k).1 by grind)
  unfold turn at *
  grind
theorem reachR_higher {s : Pt} (hh : h ≤ h') : reachR r h s ≤ reachR r h' s := by
  obtain ⟨h1, h2⟩ := le_reachR.mp (by grind : reachR r h s ≤ reachR r h s)
  refine le_reachR.mpr ⟨h1, fun k hk hy hx => ?_⟩
  have := h2 k hk hy hx
  rw [le_place hy] at this ⊢
  have := mn (show 0 ≤ h' - h by grind) (show 0 ≤ (at_ r k).1 - s.1 by grind)
  unfold turn mir at *
  grind
theorem reachL_spot (g : Good r h) (hi : i + 1 < r.length) (t0 : 0 ≤ t) (t1 : t ≤ 1) : reachL r h (spotOf r i t) ≤ (spotOf r i t).1 := by
  obtain ⟨x0, x1⟩ := spot_x g hi t0 t1
  refine reachL_le.mpr ⟨by have := g.le (Nat.zero_le i) (by omega); grind, fun k hk hy hx => ?_⟩
  rw [place_le hy]
  exact near _ (by grind) hy (g.low _ (at_mem hk)) hx
theorem reachR_spot (g : Good r h) (hi : i + 1 < r.length) (t0 : 0 ≤ t) (t1 : t ≤ 1) : (spotOf r i t).1 ≤ reachR r h (spotOf r i t) := by
  obtain ⟨x0, x1⟩ := spot_x g hi t0 t1
  refine le_reachR.mpr ⟨by have := g.le (show i + 1 ≤ r.length - 1 by omega) (by omega); grind, fun k hk hy hx => ?_⟩
  rw [le_place hy]
  have hx' : (mir (at_ r k)).1 ≤ -(spotOf r i t).1 := by show -_ ≤ -_; grind
  refine near _ hx' hy (g.low (at_ r k) (at_mem hk)) ?_
  show -_ < -_
  grind
theorem slopeR_last (g : Good r h) : slopeR r h i t ≤ (at_ r (r.length - 1)).1 := by
  have : reachR r h (spotOf r i t) ≤ (at_ r (r.length - 1)).1 := (le_reachR.mp (by grind : reachR r h (spotOf r i t) ≤ reachR r h (spotOf r i t))).1
  unfold slopeR
  split
  · have := (le_minQ (X := minQ (reachR r h (spotOf r i t)) [own r h i]) (x := reachR r h (spotOf r i t)) (ys := [own r h i])).mp (by grind)
    grind
  · exact this
theorem steps_rise (g : Good r h) {parts : List Part} (hp : ∀ p ∈ parts, (GS r h).PartOk p) : ∀ (ss : List (Rat × Part × Rat)) (x : Option Rat), (GS r h).Steps parts x ss →
    (∀ v ∈ ss.map (·.1), (∀ X, x = some X → X < v) ∧ (at_ r 0).1 ≤ v ∧ v ≤ (at_ r (r.length - 1)).1) ∧ (ss.map (·.1)).Pairwise (· < ·)
  | [], x, _ => ⟨(fun v hv => nomatch hv), List.Pairwise.nil⟩
  | (v, p, e) :: ss, x, st => by
    obtain ⟨⟨n1, n2, n3, n4⟩, st2⟩ := st
    obtain ⟨ih1, ih2⟩ := steps_rise g hp ss (some v) st2
    obtain ⟨hi0, a0, ab, b1⟩ := hp p n1
    obtain ⟨u1, u2, u3, u4⟩ := n2
    have hi : p.1 + 1 < r.length := by have : p.1 < r.length - 1 := hi0; omega
    have n3 : v = slopeR r h p.1 e := n3
    have ge := slopeR_ge g hi (t := e) (by grind) (by grind)
    have le := slopeR_last (i := p.1) (t := e) g
    have xv : ∀ X, x = some X → X < v := fun X eX => by
      by_cases q : X < v
      · exact q
      · exfalso
        have h2 := g.lt (show p.1 < p.1 + 1 by omega) hi
        have sl := sl_left g hi a0
        exact u3 X eX p.2.1 (by grind) u1 (LeX.more sl (by grind))
    have x0 := g.le (Nat.zero_le (p.1 + 1)) hi
    refine ⟨fun w hw => ?_, ?_⟩
    · rcases List.mem_cons.mp hw with ew | hw
      · have ew : w = v := ew
        rw [ew]
        exact ⟨xv, by grind, by grind⟩
      · obtain ⟨q1, q2, q3⟩ := ih1 w hw
        have := q1 v rfl
        exact ⟨fun X eX => by have := xv X eX; grind, q2, q3⟩
    · show (v :: ss.map (·.1)).Pairwise (· < ·)
      rw [List.pairwise_cons]
      exact ⟨fun w hw => (ih1 w hw).1 v rfl, ih2⟩
theorem avoid (Q : Nat → Rat → Prop) (n : Nat) {a b : Rat} (ab : a < b) (one : ∀ k, k < n → ∀ t t', a ≤ t → t < t' → t' ≤ b → ¬ (Q k t ∧ Q k t')) : ∃ t, a < t ∧ t < b ∧ ∀ k, k < n → ¬ Q k t := by
  have key : ∀ m, m ≤ n → ∃ c d, a ≤ c ∧ c < d ∧ d ≤ b ∧ ∀ k, k < m → ∀ t, c < t → t < d → ¬ Q k t := by
    intro m
    induction m with
    | zero => exact fun _ => ⟨a, b, by grind, ab, by grind, fun k hk => by omega⟩
    | succ m ih =>
      intro hm
      obtain ⟨c, d, h1, h2, h3, h4⟩ := ih (by omega)
      by_cases z : ∃ t, c < t ∧ t < d ∧ Q m t
      · obtain ⟨t, t1, t2, qt⟩ := z
        refine ⟨c, t, h1, t1, by grind, fun k hk u u1 u2 => ?_⟩
        by_cases e : k = m
        · subst e
          exact fun qu => one k (by omega) u t (by grind) u2 (by grind) ⟨qu, qt⟩
        · exact h4 k (by omega) u u1 (by grind)
      · refine ⟨c, d, h1, h2, h3, fun k hk u u1 u2 => ?_⟩
        by_cases e : k = m
        · subst e
          exact fun qu => z ⟨u, u1, u2, qu⟩
        · exact h4 k (by omega) u u1 u2
  obtain ⟨c, d, h1, h2, h3, h4⟩ := key n (Nat.le_refl _)
  exact ⟨(c + d) / 2, by grind, by grind, fun k hk => h4 k hk _ (by grind) (by grind)⟩
end
end RM
end
section
set_option maxRecDepth 100000
set_option maxHeartbeats 1000000
set_option exponentiation.threshold 10
namespace DL
open PySem PySem.Spec PyProof.Rows L2 RM
local macro_rules | `(tactic| walk_at "bsyn") => `(tactic| first | assumption | exact B.add (by walk_at "bsyn") (by walk_at "bsyn") | exact B.sub (by walk_at "bsyn") (by walk_at "bsyn") | exact B.mul (by walk_at "bsyn") (by walk_at "bsyn") | exact B.div (by walk_at "bsyn") (by walk_at "bsyn") | exact B.neg (by walk_at "bsyn"))
local macro_rules | `(tactic| walk_at "bb") => `(tactic| exact B.mono (by walk_at "bsyn") (by decide))
theorem divInt_pos {u d : Int} (hu : 1 ≤ u) (hd : 1 ≤ d) : 0 < Rat.divInt u d := by
  rw [Rat.divInt_eq_div]
  have h1 : (0 : Rat) < (u : Rat) := by exact_mod_cast (by omega : 0 < u)
  have h2 : (0 : Rat) < (d : Rat) := by exact_mod_cast (by omega : 0 < d)
  have e : (u : Rat) / (d : Rat) * d = u := by grind
  generalize (u : Rat) / (d : Rat) = q at *
  exact mpp h2 (by rw [e]; exact h1)
theorem og_int {a : Int} (h0 : -3 ≤ a) (h1 : a ≤ 27) : OnG 96 12 (a : Rat) := ⟨a * 96, by push_cast; rfl, by have : (2 : Nat) ^ 12 = 4096 := (by decide); omega⟩
theorem og_half {b : Int} (h0 : 0 ≤ b) (h1 : b ≤ 17) : OnG 96 12 (Rat.divInt b 2) := ⟨b * 48, by rw [Rat.divInt_eq_div]; push_cast; grind, by have : (2 : Nat) ^ 12 = 4096 := (by decide); omega⟩
theorem og_sum {b u d : Int} (h0 : 0 ≤ b) (h1 : b ≤ 17) (u0 : 1 ≤ u) (u1 : u ≤ 9) (hd : d = 1 ∨ d = 2 ∨ d = 4 ∨ d = 8 ∨ d = 16) : ∃ n : Int, (Rat.divInt b 2 + Rat.divInt u d) * ((96 : Int) : Rat) = (n : Rat) ∧ 0 ≤ n ∧ n ≤ 1680 := by
  rcases hd with rfl | rfl | rfl | rfl | rfl
  · exact ⟨b * 48 + u * 96, by rw [Rat.divInt_eq_div, Rat.divInt_eq_div]; push_cast; grind, by omega, by omega⟩
  · exact ⟨b * 48 + u * 48, by rw [Rat.divInt_eq_div, Rat.divInt_eq_div]; push_cast; grind, by omega, by omega⟩
  · exact ⟨b * 48 + u * 24, by rw [Rat.divInt_eq_div, Rat.divInt_eq_div]; push_cast; grind, by omega, by omega⟩
  · exact ⟨b * 48 + u * 12, by rw [Rat.divInt_eq_div, Rat.divInt_eq_div]; push_cast; grind, by omega, by omega⟩
  · exact ⟨b * 48 + u * 6, by rw [Rat.divInt_eq_div, Rat.divInt_eq_div]; push_cast; grind, by omega, by omega⟩
theorem wd_drawn {r : Ridge} {h : Rat} (dr : Drawn 6 r) (hh : HOf r h) : Wd r h ∧ ∀ u d : Int, 1 ≤ u → u ≤ 9 → (d = 1 ∨ d = 2 ∨ d = 3) → Wd r (h + Rat.divInt u d) := by
  have p12 : (2 : Nat) ^ 12 = 4096 := by decide
  obtain ⟨top, ⟨c0, hc0, et⟩, hle, u0, d0, u00, u01, hd0, eh⟩ := hh
  obtain ⟨a0, b0, e0, _, _, b00, b01⟩ := dr.on c0 hc0
  have etop : top = Rat.divInt b0 2 := by rw [← et, e0]
  obtain ⟨n, hn, n0, n1⟩ := og_sum b00 b01 u00 u01 hd0
  rw [← etop, ← eh] at hn
  have lth : top < h := by
    have := divInt_pos u00 (show 1 ≤ d0 by omega)
    rw [eh]; grind
  have coord : ∀ c ∈ r, OnG 96 12 c.1 ∧ OnG 96 12 c.2 := fun c hc => by
    obtain ⟨a, b, e, a0, a1, b0, b1⟩ := dr.on c hc
    rw [e]
    exact ⟨og_int a0 (by omega), og_half b0 b1⟩
  have mk : ∀ h', top < h' → OnG 96 12 h' → Wd r h' := fun h' lt og =>
    ⟨⟨dr.two, dr.asc, fun c hc => by have := hle c hc; grind⟩, by have := dr.len; omega, 12, ⟨96, by decide, by decide, og, coord⟩, by decide, by have := dr.len; omega⟩
  refine ⟨mk h lth ⟨n, hn, by omega⟩, fun u d u0 u1 hd => mk _ ?_ ?_⟩
  · have := divInt_pos u0 (show 1 ≤ d by omega)
    grind
  · rcases hd with rfl | rfl | rfl
    · exact ⟨n + u * 96, by rw [Rat.divInt_eq_div]; push_cast at hn ⊢; grind, by omega⟩
    · exact ⟨n + u * 48, by rw [Rat.divInt_eq_div]; push_cast at hn ⊢; grind, by omega⟩
    · exact ⟨n + u * 32, by rw [Rat.divInt_eq_div]; push_cast at hn ⊢; grind, by omega⟩
def d_law_rest : DSt := (dSeq (dSet false 2 (dCall C_law_draw_ridge (dCons (dVar 1) (dCons (dC (.int 6)) dNil))))
  (dSeq (dSet false 3 (dCall C_law_draw_height (dCons (dVar 1) (dCons (dVar 2) dNil))))
  (dSeq (dSet false 4 (dCall C_law_sum (dCons (dVar 3) (dCons (dCall C_law_fraction (dCons (dBin oAdd (dC (.int 1)) (dCall C_law_pick (dCons (dVar 1) (dCons (dC (.int 9)) dNil)))) (dCons (dBin oAdd (dC (.int 1)) (dCall C_law_pick (dCons (dVar 1) (dCons (dC (.int 3)) dNil)))) dNil))) dNil))))
  (dSeq (dSet false 5 (dCall C_cover (dCons (dVar 2) (dCons (dVar 3) dNil))))
  (dSeq (dIfS (dOr (dTest (dBin oNotN (dCall C_judge_cover (dCons (dVar 2) (dCons (dVar 4) (dCons (dVar 5) dNil)))) (dC .none))) (dTest (dBin oGt (dCall C_fewest (dCons (dVar 2) (dCons (dVar 4) dNil))) (dCB cLen (dCons (dVar 5) dNil))))) (dRet (dC (.bool false))) dNext)
  (dSeq (dFor (dIr1 (dCons (dC (.int 6)) dNil)) (dgN 11) (dSeq (dPar2 false false 6 7 (dCons (dCall C_law_pick (dCons (dVar 1) (dCons (dBin oSub (dCB cLen (dCons (dVar 2) dNil)) (dC (.int 1))) dNil))) (dCons (dCall C_law_fraction (dCons (dCall C_law_pick (dCons (dVar 1) (dCons (dC (.int 7)) dNil))) (dCons (dC (.int 6)) dNil))) dNil)))
  (dSeq (dSet false 8 (dCall C_law_spot (dCons (dVar 2) (dCons (dVar 6) (dCons (dVar 7) dNil)))))
  (dSeq (dPar2 false false 9 10 (dCons (dCall C_reach (dCons (dVar 2) (dCons (dVar 3) (dCons (dTup (dCons (dVar 6) (dCons (dVar 7) dNil))) dNil)))) (dCons (dCall C_reach (dCons (dVar 2) (dCons (dVar 4) (dCons (dTup (dCons (dVar 6) (dCons (dVar 7) dNil))) dNil)))) dNil)))
  (dSeq (dIfS (dOr (dTest (dBin oNe (dVar 9) (dCall C_law_reach (dCons (dVar 2) (dCons (dVar 3) (dCons (dVar 8) dNil)))))) (dTest (dBin oNe (dVar 10) (dCall C_law_reach (dCons (dVar 2) (dCons (dVar 4) (dCons (dVar 8) dNil))))))) (dRet (dC (.bool false))) dNext)
  (dSeq (dIfS (dOr (dTest (dCall C_law_below (dCons (dBin oIx (dVar 9) (dC (.int 0))) (dCons (dBin oIx (dVar 10) (dC (.int 0))) dNil)))) (dTest (dCall C_law_below (dCons (dBin oIx (dVar 10) (dC (.int 1))) (dCons (dBin oIx (dVar 9) (dC (.int 1))) dNil))))) (dRet (dC (.bool false))) dNext)
  (dIfS (dOr (dTest (dCall C_law_below (dCons (dBin oIx (dVar 8) (dC (.int 0))) (dCons (dBin oIx (dVar 9) (dC (.int 0))) dNil)))) (dTest (dCall C_law_below (dCons (dBin oIx (dVar 9) (dC (.int 1))) (dCons (dBin oIx (dVar 8) (dC (.int 0))) dNil))))) (dRet (dC (.bool false))) dNext)))))))
  (dRet (dC (.bool true)))))))))
theorem E_law_reach_use {r : Ridge} {h : Rat} {i : Nat} {t : Rat} {P : TV → Prop} (ok : SgOk r h i t) (g : Good r h) (t0 : 0 ≤ t) (t1 : t ≤ 1) (k : P (.fr (.tuple [encQ (reachL r h (spotOf r i t)), encQ (reachR r h (spotOf r i t))]))) : C_law_reach [encR r, encQ h, encP (spotOf r i t)] P := ⟨r, h, i, t, rfl, ⟨ok, g, t0, t1⟩, k⟩
theorem E_law_spot {r : Ridge} {i : Nat} {t : Rat} {P : TV → Prop} : C_law_spot [encR r, .int (i : Nat), encQ t] P = ((Cr r ∧ i + 1 < r.length ∧ Tb t) ∧ P (.fr (encP (spotOf r i t)))) := by
  refine propext ⟨?_, fun h => ⟨r, i, t, rfl, h⟩⟩
  rintro ⟨a', b', c', e, h⟩
  simp only [List.cons.injEq, PyData.int.injEq, and_true] at e
  have : i = b' := by omega
  subst this
  rw [encR_inj e.1, encQ_inj e.2.2]
  exact h
theorem oNe_QQ {a b : Rat} {P : TV → Prop} : oNe (.fr (.tuple [encQ a, encQ b])) (.fr (.tuple [encQ a, encQ b])) P = P (.fr (.bool false)) := by
  have h : pl 20 (.tuple [encQ a, encQ b]) = true := rfl
  unfold oNe
  simp [TV.asD, h]
theorem dark_none {r : Ridge} {h : Rat} {xs : List Rat} {f : Lys} (hf : ∀ i, i + 1 < r.length → LYs r h i xs (f i)) (see : ∀ i, i + 1 < r.length → ∀ t, 0 ≤ t → t ≤ 1 → ∃ x ∈ xs, SeenT r h i x t) : darkOf (r.length - 1) f = [] := by
  unfold darkOf allLy
  rw [List.filterMap_eq_nil_iff]
  rintro ⟨i, a, b, lot⟩ hm
  obtain ⟨j, hj, hm⟩ := List.mem_flatMap.mp hm
  obtain ⟨p, hp, e⟩ := List.mem_map.mp hm
  cases e
  have hi : i + 1 < r.length := by have := List.mem_range.mp hj; omega
  have ly := hf i hi
  obtain ⟨a0, ab, b1, ok⟩ := ly.ch.mem _ hp
  simp only at a0 ab b1 ok ⊢
  rw [if_neg]
  intro e
  subst e
  obtain ⟨t, t1, t2, q⟩ := avoid (fun k t => ∃ x, xs[k]? = some x ∧ SeenT r h i x t) xs.length ab fun k hk t t' h1 h2 h3 ⟨⟨x, e1, s1⟩, ⟨x', e2, s2⟩⟩ => by
    rw [e1] at e2; cases e2
    exact ok.non k x e1 (by simp) t t' h1 h2 h3 ⟨s1, s2⟩
  obtain ⟨x, hx, s⟩ := see i hi t (by grind) (by grind)
  obtain ⟨k, hk, ek⟩ := List.mem_iff_getElem.mp hx
  exact q k hk ⟨x, by rw [List.getElem?_eq_getElem hk, ek], s⟩
local macro_rules | `(tactic| walk_at "ev") => `(tactic| simp only [dSeq, dNext, dBreak, dCont, dRet, dRetVar, dRetN, dIfS, dSet, dAsg, dPar2, dPar3, dAug, dMeth, dVar, dC, dBin, dUn, dChain, dTest, dAnd, dOr, dNot, dAndV, dOrV, dNotV, dIf, dNil, dCons, dTup, dLst, dCB, dCall, dItems, dItemsF, dFor, dLc, dYes, dStar, dSetIx, dPopIx, dEnum, dZip, dDict, dPut, dKeys, dRev, dIsTuple, dIsInt, dIsBool, dIsTy, dNoPart, dPart, dSl, dTruth, dLc2, dIr1, dIr2, dSrc, dSrcPut, dCells, dDrain, oI, oIC, oIB, oNeg, oAdd, oIsN, oNotN, cLen, cTuple, cList, cAbs, cInt, TV.view, TV.fz, TV.sv, TV.items, TV.fixd, TV.itm, TV.asD, isN_n, isN_P, isN_Q, isN_t, isN_i, TV.res, TV.isOwn, TV.isDct, fzs, frz, startE, wipeE, fApp, fIns, isT, oLt, oLe, oGt, oGe, oSub, oMul, oDiv, oMod, oMulK, List.map_cons, List.map_nil, List.length_cons, List.length_nil, List.cons_append, List.nil_append, List.getElem?_cons_succ, List.getElem?_cons_zero, List.set_cons_succ, List.set_cons_zero, List.replicate, Nat.reduceAdd, Nat.reduceSub, Nat.zero_add, List.cons.injEq, Option.some.injEq, exists_eq_left', exists_eq_left, exists_and_left, TV.fr.injEq, PyData.bool.injEq, PyData.int.injEq, dgN, dgNil, dgCons, dgT, true_and, and_true, reduceCtorEq, false_and, and_false, ↓reduceIte, if_true, if_false, Bool.not_true, Bool.not_false, decide_eq_true_eq, Bool.false_eq_true, cmp_lt, cmp_gt, cmp_le, cmp_ge, cmp_eq, gt_iff_lt, ge_iff_le, E_added, E_lessened, E_multiplied, E_divided, E_compared, E_between, ix_t0, ix_t1, ix_t2, ix_t3, ix_P0, ix_P1, ix_R, ix_R0, ix_R1, ix_Rl, E_turned_by, E_place_at, E_spot_between, E_crossing, E_slopes_of, E_spot_of, E_line_of, E_is_under, E_share_on_slope, oEq_int, oNe_int, oEq_Q, oNe_Q, E_own_sight, E_sight_places, E_reach, E_bar_corners, E_slope_reach, E_greatest2, E_least2, E_greatest, E_least, lit0, lit1, lit2, cut_to, cut_from1, cut_from2, E_ascending_fractions, oEq_ON, ix_Pc0, ix_Pc1, ix_Pc2, ix_rdlast, E_left_pieces, E_right_pieces, E_first_left, E_last_right, isN_O, Option.isNone_none, Option.isNone_some, E_seen_part, E_is_part_within, isN_OI, oEq_lot, ix_Ly1, ix_Ly3, List.getLast?_concat, List.dropLast_concat, E_unseen_end, isN_SO, ix_Pt0, ix_St0, E_whole_ground, E_is_integer, E_is_fraction, E_is_within, E_is_place, E_has_cover_form, oEq_parts, E_law_below, E_law_pick, E_law_sum, E_law_times, E_law_less, E_law_over, E_law_fraction])
theorem law_rest {P : TV → Prop} (hP : P (.fr (.bool true))) : d_law_rest { nx := fun _ => False, rt := P } [none, some (.fr (.dict [])), none, none, none, none, none, none, none, none, none, none] := by
  unfold d_law_rest
  walk_at "ev"
  refine ⟨6, rfl, ⟨by decide, by decide⟩, fun r dr => ?_⟩
  walk_at "ev"
  refine ⟨6, r, rfl, ⟨dr, by decide⟩, fun h hh => ?_⟩
  obtain ⟨w, wd'⟩ := wd_drawn dr hh
  walk_at "ev"
  refine ⟨by decide, fun u u0 u1 => ⟨by decide, fun d d0 d1 => ?_⟩⟩
  have hd' : (1 + d : Int) = 1 ∨ (1 + d : Int) = 2 ∨ (1 + d : Int) = 3 := by omega
  have w' := wd' (1 + u) (1 + d) (by omega) (by omega) hd'
  have hp : (1 + d).natAbs < 2 ^ 8900 := Nat.lt_of_lt_of_le (show (1 + d).natAbs < 2 ^ 5 by have : (2 : Nat) ^ 5 = 32 := (by decide); omega) (Nat.pow_le_pow_right (by decide) (by decide))
  have hq : Sm (Rat.divInt (1 + u) (1 + d)) := (B.of_div (k := 5) (by omega) (by have : (2 : Nat) ^ 5 = 32 := (by decide); omega) (by have : (2 : Nat) ^ 5 = 32 := (by decide); omega)).mono (by decide)
  have hlt : h ≤ h + Rat.divInt (1 + u) (1 + d) := by
    have := divInt_pos (show 1 ≤ 1 + u by omega) (show 1 ≤ 1 + d by omega)
    grind
  refine ⟨by omega, hp, w.ch.mono (by decide), hq, r, h, rfl, w, fun ss st hl hx => ?_⟩
  generalize h + Rat.divInt (1 + u) (1 + d) = h2 at w' hlt ⊢
  have lr := dr.len
  have two := dr.two
  have hxs : ∀ x ∈ ss.map (·.1), Xb x := fun x hxm => by
    obtain ⟨s, hs, rfl⟩ := List.mem_map.mp hxm
    exact hx s hs
  have rise := steps_rise w.good w.partsW.p ss none st
  have form : CvForm r (ss.map (·.1)) := ⟨fun x hxm => (rise.1 x hxm).2, rise.2⟩
  have see := cover_sees (gs_ok w.good) w.partsW.p (fun p hp x => ue_exists w.good p (w.partsW.p p hp) x) st
  have see2 : ∀ i, i + 1 < r.length → ∀ t, 0 ≤ t → t ≤ 1 → ∃ x ∈ ss.map (·.1), SeenT r h2 i x t := fun i hi t t0 t1 => by
    obtain ⟨x, hxm, s1, s2⟩ := see (i, 0, 1) (List.mem_map.mpr ⟨i, List.mem_range.mpr (by omega), rfl⟩) t t0 t1
    exact ⟨x, hxm, sl_higher w.good hi hlt t0 s1, sr_higher w.good hi hlt t1 s2⟩
  walk_at "ev"
  refine ⟨r, h2, ss.map (·.1), rfl, ⟨w', hxs, by rw [List.length_map]; omega⟩, fun hn => absurd form hn, fun _ f hf => ?_⟩
  rw [dark_none hf see2]
  simp only [judged]
  walk_at "ev"
  refine ⟨r, h2, rfl, w', fun ss' st' hl' hx' => ?_⟩
  have least := fewest_least (Y := ss.map (·.1)) (gs_ok w'.good) w'.partsW.p (fun p hp t t1 t2 => by
    obtain ⟨i, hi, rfl⟩ := List.mem_map.mp hp
    obtain ⟨x, hxm, s⟩ := see2 i (by have := List.mem_range.mp hi; omega) t t1 t2
    exact ⟨x, hxm, s.1, s.2⟩) st'
  rw [List.length_map] at least
  walk_at "ev"
  rw [if_neg (by rw [List.length_map, List.length_map]; omega)]
  refine ⟨by decide, by decide, ?_⟩
  rw [show (6 : Int).toNat = 6 from rfl, range_enc]
  generalize PyData.tuple (List.map encQ (List.map (fun x => x.1) ss)) = d5
  refine forL_inv (fun (k : Nat) => PyData.int (k : Int)) (fun pre env => ∃ u v w x y z, env = [none, some (.fr (.dict [])), some (.fr (encR r)), some (.fr (encQ h)), some (.fr (encQ h2)), some (.fr d5), u, v, w, x, y, z]) (List.range 6) ?_ ⟨_, _, _, _, _, _, rfl⟩ ?_
  · rintro pre lap post env K e ⟨u', v', w1, x', y', z', rfl⟩ hK
    walk_at "ev"
    split
    · rename_i ds heq
      have heq : some (r.map encP) = some ds := heq
      have eds : r.map encP = ds := by injection heq
      subst eds
      rw [List.length_map]
      refine ⟨by omega, fun k k0 k1 => ⟨by decide, fun k2 k20 k21 => ⟨by decide, ?_, ?_⟩⟩⟩
      · exact Nat.lt_of_lt_of_le (show (6 : Int).natAbs < 2 ^ 3 by decide) (Nat.pow_le_pow_right (by decide) (by decide))
      obtain ⟨i, rfl⟩ : ∃ i : Nat, k = (i : Int) := ⟨k.toNat, by omega⟩
      have hi : i + 1 < r.length := by omega
      have bt : B 6 (Rat.divInt k2 6) := .of_div (by decide) (by have : (2 : Nat) ^ 6 = 64 := (by decide); omega) (by decide)
      have ht : 0 ≤ Rat.divInt k2 6 ∧ Rat.divInt k2 6 ≤ 1 := by
        rw [Rat.divInt_eq_div]
        have h1 : (0 : Rat) ≤ (k2 : Rat) := by exact_mod_cast k20
        have h2 : (k2 : Rat) ≤ 6 := by exact_mod_cast (by omega : k2 ≤ 6)
        push_cast
        constructor <;> grind
      generalize Rat.divInt k2 6 = t at bt ht ⊢
      obtain ⟨t0, t1⟩ := ht
      have tb : Tb t := bt.mono (by decide)
      have o1 := w.sg (t := t) hi tb
      have o2 := w'.sg (t := t) hi tb
      obtain ⟨s1, s2⟩ := spot_b o1.cr o1.ci o1.ct
      have l1 := reachL_b o1
      have l2 := reachL_b o2
      have r1 := reachR_b o1
      have r2 := reachR_b o2
      rw [E_law_spot]
      refine ⟨⟨w.cr, hi, tb⟩, ?_⟩
      walk_at "ev"
      refine ⟨by decide, o1, by decide, o2, ?_⟩
      refine E_law_reach_use o1 w.good t0 t1 ?_
      rw [oNe_QQ]
      refine ⟨false, rfl, ?_⟩
      rw [if_neg (by decide)]
      refine E_law_reach_use o2 w'.good t0 t1 ?_
      rw [oNe_QQ]
      refine ⟨false, rfl, ?_⟩
      rw [if_neg (by decide)]
      have a1 := reachL_higher (r := r) (s := spotOf r i t) hlt
      have a2 := reachR_higher (r := r) (s := spotOf r i t) hlt
      have a3 := reachL_spot w.good hi t0 t1
      have a4 := reachR_spot w.good hi t0 t1
      refine ⟨l1.mono (by decide), l2.mono (by decide), ?_⟩
      rw [if_neg (by grind)]
      refine ⟨r2.mono (by decide), r1.mono (by decide), ?_⟩
      rw [if_neg (by grind)]
      refine ⟨s1.mono (by decide), l1.mono (by decide), ?_⟩
      rw [if_neg (by grind)]
      refine ⟨r1.mono (by decide), s1.mono (by decide), ?_⟩
      rw [if_neg (by grind)]
      exact hK _ ⟨_, _, _, _, _, _, rfl⟩
    · rename_i heq
      have heq : some (r.map encP) = none := heq
      cases heq
  · rintro env ⟨u', v', w1, x', y', z', rfl⟩
    walk_at "ev"
    exact hP
end DL
end
section
set_option maxRecDepth 100000
set_option maxHeartbeats 2000000
namespace DL
open PySem PySem.Spec PyProof.Rows L2 RZ
variable {X : Cx}
def tOpen (K : PySem.W.Frag) (j i : Nat) : TE := tDisp [(tC (.str "cells"), tRevS K (tVar j)), (tC (.str "left"), tC (.int 1)), (tC (.str "mixed"), tVar i), (tC (.str "turn"), tC (.int 0))]
theorem pe_open {i j : Nat} {x y : Str} {p0 p1 p2 p3 p4 p5 p6 p7 p8 p9 p10 p11 p12 : Pos} {k0 k1 k2 k3 k4 k5 k6 : Nat} (hN : X.N[i]? = some x) (hv : Vis X.env.scope x) (hd : (x == ("__debug__" : Str)) = false) (hcd : (x == ("__classdict__" : Str)) = false)
    (hNj : X.N[j]? = some y) (hvj : Vis X.env.scope y) (hdj : (y == ("__debug__" : Str)) = false) (hcdj : (y == ("__classdict__" : Str)) = false) :
    PE X (.Dict [some (.Constant (.str "cells") k0 p0), some (.Constant (.str "left") k1 p1), some (.Constant (.str "mixed") k2 p2), some (.Constant (.str "turn") k3 p3)]
      [.Subscript (.Name y p4) (.Slice none none (some (.UnaryOp .USub (.Constant (.int 1) k4 p5) p6)) p7) p8, .Constant (.int 1) k5 p9, .Name x p10, .Constant (.int 0) k6 p11] p12) (tOpen X.K j i) :=
  pe_disp (pps_cons pe_str (pe_revS (pe_var hNj hvj hdj hcdj)) (pps_cons pe_str pe_int (pps_cons pe_str (pe_var hN hv hd hcd) (pps_cons pe_str pe_int pps_nil)))) rfl rfl (by simp) (by simp)
theorem open_go {K : PySem.W.Frag} {σ : L2.St} {H : Hp} {Q : VK} {i j : Nat} {a : Addr} {cs : List Int} {m : Int} (hj : σ[j]? = some (some (.ref a))) (ha : H a = some (.lst (cs.map V.int))) (hi : σ[i]? = some (some (.int m)))
    (h : ∀ sd sc H', sd ≠ sc → H' sd = some (.dK (srcK sc 1 m 0)) → H' sc = some (.lst (cs.reverse.map V.int)) → Q (.ref sd) H') : tOpen K j i σ H Q := by
  intro p hp
  have na : a ≠ p := fun z => by rw [z, hp] at ha; cases ha
  have ha1 : (upd H p (.dK [])) a = some (.lst (cs.map V.int)) := by rw [upd_ne na]; exact ha
  refine ⟨.ref a, hj, a, cs.map V.int, rfl, .inl ⟨.of ha1, fun q hq => ?_⟩⟩
  have np : p ≠ q := fun z => by rw [← z, upd_same] at hq; cases hq
  refine ⟨_, hi, ?_⟩
  refine ⟨by rw [upd_ne np]; exact upd_same, srcK q 1 m 0, rfl, (by show 4 ≤ 15; decide), ?_⟩
  refine h p q _ np ?_ ?_
  · rw [upd_same]; rfl
  · rw [upd_ne (Ne.symm np), upd_same, List.map_reverse]
end DL
end
section
set_option maxRecDepth 100000
set_option maxHeartbeats 2000000
namespace DL
open PySem PySem.Spec PyProof.Rows L2 RZ
def spOpen (K : PySem.W.Frag) : Sp := fun vs H Q _ => ∃ (a : Addr) (ns : List Int), vs = [.ref a] ∧ SqL K H a (ns.map V.int) ∧ ns.length ≤ 63 ∧
  ∀ (sd sc : Addr) (H' : Hp) (cells : List Int) (m : Int), sd ≠ sc → H' sd = some (.dK (srcK sc 1 m 0)) → H' sc = some (.lst (cells.map V.int)) → cells.length ≤ 63 → Q (.ref sd) H'
def rAbsI : List V → Hp → VK → Prop := fun xs H Q => ∃ i, xs = [.int i] ∧ Q (.int (if i < 0 then -i else i)) H
def rIntI : List V → Hp → VK → Prop := fun xs H Q => (∃ i, xs = [.int i] ∧ Q (.int i) H) ∨ ∃ k, xs = [.bl k] ∧ Q (.int (if k then 1 else 0)) H
def absI (n : Int) : Int := if n < 0 then -n else n
def tOpenTurn : TS := tAsg (tOp (rI (fun _ j => j ≠ 0) fun i j => .int (i.fmod j)) (tCB rIntI (tCons (tOp (rI0 fun i j => .int (i + j)) (tOp (rI0 fun i j => .int (i + j)) (tOp (rI CMul fun i j => .int (i * j)) (tVar 1) (tC (.int 69069))) (tOp (rI CMul fun i j => .int (i * j)) (tVar 2) (tC (.int 31)))) (tC (.int 5))) tNil)) (tC (.int 2147483629))) (gName 1)
def tOpenB (K : PySem.W.Frag) : TS := tSeq (tAsg (tC (.int 11)) (gName 1)) (tSeq (tFor (iList K (tVar 0)) (gName 2) tOpenTurn)
  (tSeq (tAsg (tLc (iList K (tVar 0)) (gName 2) tYes (tCB rAbsI (tCons (tVar 2) tNil)) [2]) (gName 3)) (tRet (tOpen K 3 1))))
theorem sql_new {K : PySem.W.Frag} {H : Hp} {a D : Addr} {xs : List V} {o : HO} (h : SqL K H a xs) (hD : H D = none) : SqL K (upd H D o) a xs := by
  rcases h with h | h
  · left
    have ne : a ≠ D := by
      intro z; subst z
      rcases h with h | ⟨o, h⟩ <;> rw [hD] at h <;> cases h
    rcases h with h | ⟨o, h⟩
    · exact .inl (by rw [upd_ne ne]; exact h)
    · exact .inr ⟨o, by rw [upd_ne ne]; exact h⟩
  · exact .inr h
theorem upd_upd {H : Hp} {a : Addr} {o o' : HO} : upd (upd H a o) a o' = upd H a o' := by
  funext b
  by_cases z : b = a
  · subst z; rw [upd_same, upd_same]
  · rw [upd_ne z, upd_ne z, upd_ne z]
theorem pure_open {K : PySem.W.Frag} (vs : List V) (H : Hp) (Q : VK) (E : XK) (h : spOpen K vs H Q E) : tOpenB K { nx := fun _ H' => Q .non H', rt := Q } (L2.start ["script", "stirred", "cell", "cells"] vs) H := by
  obtain ⟨a, ns, rfl, hS, hl, hQ⟩ := h
  refine ⟨.ref a, rfl, a, rfl, ⟨_, hS⟩, for_list (K := K) (a := a) (xs := ns.map V.int) (fun i σ H' => H' = H ∧ ∃ (m : Int) (c : Option V), σ = [some (.ref a), some (.int m), c, none]) ⟨rfl, 11, none, rfl⟩ (fun i σ H' _ h => h.1 ▸ hS) ?_ ?_⟩
  · rintro i x σ H' hx ⟨rfl, m, c, rfl⟩
    rw [List.getElem?_map] at hx
    cases e : ns[i]? with
    | none => rw [e] at hx; cases hx
    | some n =>
      rw [e] at hx
      have hx : V.int n = x := by injection hx
      subst hx
      exact ⟨.int m, rfl, m, 69069, rfl, rfl, .inr ⟨by decide, by decide⟩, .int n, rfl, n, 31, rfl, rfl, .inr ⟨by decide, by decide⟩, _, _, rfl, rfl, _, 5, rfl, rfl, .inl ⟨_, rfl, _, 2147483629, rfl, rfl, (by decide : (2147483629 : Int) ≠ 0), rfl, _, _, rfl⟩⟩
  · rintro σ H1 ⟨rfl, m, c, rfl⟩
    refine ⟨.ref a, rfl, a, rfl, ⟨_, hS⟩, fun D hD => ?_⟩
    refine lc_list (K := K) (a := a) (xs := ns.map V.int) (fun i H' => H' = upd H1 D (.lst ((ns.take i).map fun n => V.int (absI n)))) (by simp) (fun i H' _ h => by rw [h]; exact sql_new hS hD) ?_ ?_
    · rintro i x H' hx rfl
      rw [List.getElem?_map] at hx
      cases e : ns[i]? with
      | none => rw [e] at hx; cases hx
      | some n =>
        rw [e] at hx
        have hx : V.int n = x := by injection hx
        subst hx
        have hi : i < ns.length := (List.getElem?_eq_some_iff.mp e).1
        refine ⟨rfl, ?_⟩
        unfold tYes
        simp only [if_true]
        refine ⟨.int n, rfl, n, rfl, _, upd_same, ?_, ?_⟩
        · rw [List.length_map, List.length_take]
          have : (63 : Nat) < sizeLine := by decide
          omega
        · rw [upd_upd, List.take_add_one, e]
          simp [absI]
    · rintro H' rfl
      rw [List.length_map, List.take_length]
      have e : (ns.map fun n => V.int (absI n)) = (ns.map absI).map V.int := by simp
      rw [e]
      refine open_go (i := 1) (j := 3) (a := D) (cs := ns.map absI) (m := m) rfl upd_same rfl (fun sd sc H' ne h1 h2 => hQ sd sc H' _ m ne h1 h2 ?_)
      simp; exact hl
def spLaw (K : PySem.W.Frag) : Sp := fun vs H Q _ => ∃ (a : Addr) (ns : List Int), vs = [.ref a] ∧ SqL K H a (ns.map V.int) ∧ ns.length ≤ 63 ∧ ∀ H', Q (.bl true) H'
def LawRest (n : Nat) (d : DSt) : Prop := ∀ P : TV → Prop, P (.fr (.bool true)) → d { nx := fun _ => False, rt := P } (none :: some (.fr (.dict [])) :: List.replicate n none)
theorem law_go {K : PySem.W.Frag} {n : Nat} {N : List Str} {d : DSt} (hd : LawRest n d) (hN : N.length = n + 2) (vs : List V) (H : Hp) (Q : VK) (E : XK) (h : spLaw K vs H Q E) :
    tSeq (tAsg (tCall (spOpen K) [] E0 (tCons (tVar 0) tNil)) (gName 1)) (liftS d) { nx := fun _ H' => Q .non H', rt := Q } (L2.start N vs) H := by
  obtain ⟨a, ns, rfl, hS, hl, hQ⟩ := h
  have e0 : (L2.start N [V.ref a])[0]? = some (some (.ref a)) := rfl
  refine ⟨.ref a, e0, a, ns, rfl, hS, hl, fun sd sc H' cells m ne h1 h2 hc => ?_⟩
  refine ⟨some (sd, sc), fun _ => False, H', fun _ => False, none :: some (.fr (.dict [])) :: List.replicate n none, { nx := fun _ => False, rt := fun t => t = .fr (.bool true) }, ?_, hd _ rfl, fun _ _ _ _ z => z.elim, ?_, fun _ _ _ _ z => z.elim, fun _ _ _ _ z => z.elim⟩
  · have wf : WF (some (sd, sc)) (fun _ => False) H' := ⟨fun a b e => by
      cases e
      exact ⟨cells, 1, m, 0, h1, h2, by omega, ne⟩, fun _ z => z.elim, fun _ z => z.elim⟩
    have only : ∀ (i : Nat) (t : TV), (none :: some (TV.fr (.dict [])) :: List.replicate n none)[i]? = some (some t) → i = 1 ∧ t = .fr (.dict []) := by
      intro i t e
      match i, e with
      | 0, e => cases e
      | 1, e => cases e; exact ⟨rfl, rfl⟩
      | i + 2, e =>
        rw [List.getElem?_cons_succ, List.getElem?_cons_succ, List.getElem?_replicate] at e
        split at e <;> cases e
    refine ⟨?_, fun i t e => ?_, fun i j t u b _ e e' o _ => ?_, .refl, wf⟩
    · simp [L2.start]; omega
    · obtain ⟨rfl, rfl⟩ := only i t e
      refine ⟨.ref sd, ?_, sd, rfl, sd, sc, rfl, rfl⟩
      rw [List.getElem?_set_self]
      simp [L2.start]; omega
    · obtain ⟨_, rfl⟩ := only i t e
      cases o
  · rintro t v F2 H2 rfl e r
    have r : v = .bl true := r
    subst r
    exact hQ H2
end DL
end
section
set_option maxRecDepth 100000
set_option maxHeartbeats 0
namespace DV
open PySem PySem.Spec PyProof.Rows L2 DL
def top (i : Nat) : Stmt := PySem.Challenge.pw_ridgewatch_k84_whole_higher_sees_more.main.body.getD i (.Pass ⟨0, 0, 0, 0⟩)
abbrev FnP (K : PySem.W.Frag) (x : Str) (st : Stmt) (f : Addr) (fd : FuncData) : Prop := FunD K x x (defArgs st) (defBody st) (defScope st) [] [] f fd
theorem hu1 {k : Nat} {A : Around} (r : Room k A) : A.units + 1 < cLine := by have := r.units; omega
section
variable {P : Program} {w : World} {K : PySem.W.Frag} {mg : Str → Option Value} {base : Heap} {f : Addr} {fd : FuncData}
theorem sc_is_integer : FnScope ["value"] ["value"] (defScope (top 1)) := ⟨rfl, rfl, rfl, by decide +kernel, rfl, by decide +kernel, by decide +kernel⟩
theorem F_is_integer (FD : FnP K "is_integer" (top 1) f fd) (hm : mg "is_integer" = some (.ref f)) (gb_bool : mg "bool" = none) (gb_int : mg "int" = none) (gb_isinstance : mg "isinstance" = none) : Fn P w K mg base 1 "is_integer" ["value"] C_is_integer := by
  have nd := (sc_is_integer).nd
  refine ⟨f, fd, hm, FD.kp, FD.bindsN fun _ _ _ _ _ _ us hl => match us, hl with | [_], _ => rfl, dfnA FD sc_is_integer sem_is_integer (fun cdv A outer s H E hr => ?_)⟩
  exact (dss_one (ds_ret (de_and (de_isInt (by rfl) gb_isinstance (by rfl) gb_int (de_var 0)) (de_one (de_not (de_isBool (by rfl) gb_isinstance (by rfl) gb_bool (de_var 0)))))))
theorem sc_common : FnScope ["one", "other"] ["one", "other"] (defScope (top 2)) := ⟨rfl, rfl, rfl, by decide +kernel, rfl, by decide +kernel, by decide +kernel⟩
theorem F_common (FD : FnP K "common" (top 2) f fd) (hm : mg "common" = some (.ref f)) (gb_abs : mg "abs" = none) : Fn P w K mg base 1 "common" ["one", "other"] C_common := by
  have nd := (sc_common).nd
  refine ⟨f, fd, hm, FD.kp, FD.bindsN fun _ _ _ _ _ _ us hl => match us, hl with | [_, _], _ => rfl, dfnA FD sc_common sem_common (fun cdv A outer s H E hr => ?_)⟩
  exact (dss_cons (ds_par2 false false rfl nd rfl rfl (by decide) rfl rfl (da_cons (de_callB cd_abs call_abs (by rfl) gb_abs (by decide +kernel) (da_cons (de_var 0) da_nil)) (da_cons (de_callB cd_abs call_abs (by rfl) gb_abs (by decide +kernel) (da_cons (de_var 1) da_nil)) da_nil)) rfl)
  (dss_cons (ds_while PassesOwn.never (dt_cmp opd_IB op_gt (de_var 1) de_int (nomark _)) (dss_one (ds_par2 false false rfl nd rfl rfl (by decide) rfl rfl (da_cons (de_var 1) (da_cons (de_op opd_IC op_modN (de_var 0) (de_var 1)) da_nil)) rfl)))
  (dss_one (ds_retVar 0))))
theorem sc_compared : FnScope ["x", "y", "gap"] ["x", "y"] (defScope (top 9)) := ⟨rfl, rfl, rfl, by decide +kernel, rfl, by decide +kernel, by decide +kernel⟩
theorem F_compared (FD : FnP K "compared" (top 9) f fd) (hm : mg "compared" = some (.ref f)) : Fn P w K mg base 1 "compared" ["x", "y"] C_compared := by
  have nd := (sc_compared).nd
  refine ⟨f, fd, hm, FD.kp, FD.bindsN fun _ _ _ _ _ _ us hl => match us, hl with | [_, _], _ => rfl, dfnA FD sc_compared sem_compared (fun cdv A outer s H E hr => ?_)⟩
  exact (dss_cons (ds_set false nd rfl (by first | exact Or.inl rfl | exact Or.inr rfl) (de_op opd_I op_sub (de_op opd_IC op_mulW (de_ix opd_ix ix_lt (de_var 0) de_int (fun _ _ => rfl)) (de_ix opd_ix ix_lt (de_var 1) de_int (fun _ _ => rfl))) (de_op opd_IC op_mulW (de_ix opd_ix ix_lt (de_var 1) de_int (fun _ _ => rfl)) (de_ix opd_ix ix_lt (de_var 0) de_int (fun _ _ => rfl)))))
  (dss_one (ds_ret (de_if (dt_cmp opd_eq (op_eqD hr.units) (de_var 2) de_int (nomark _)) de_int (de_if (dt_cmp opd_IB op_gt (de_var 2) de_int (nomark _)) de_int (de_un und_neg un_neg de_int))))))
theorem sc_slopes_of : FnScope ["ridge"] ["ridge"] (defScope (top 19)) := ⟨rfl, rfl, rfl, by decide +kernel, rfl, by decide +kernel, by decide +kernel⟩
theorem F_slopes_of (FD : FnP K "slopes_of" (top 19) f fd) (hm : mg "slopes_of" = some (.ref f)) (gb_len : mg "len" = none) : Fn P w K mg base 1 "slopes_of" ["ridge"] C_slopes_of := by
  have nd := (sc_slopes_of).nd
  refine ⟨f, fd, hm, FD.kp, FD.bindsN fun _ _ _ _ _ _ us hl => match us, hl with | [_], _ => rfl, dfnA FD sc_slopes_of sem_slopes_of (fun cdv A outer s H E hr => ?_)⟩
  exact (dss_one (ds_ret (de_op opd_I op_sub (de_callB cd_len call_len_seq (by rfl) gb_len PySem.boot_len (da_cons (de_var 0) da_nil)) de_int)))
theorem sc_line_of : FnScope ["ridge"] ["ridge"] (defScope (top 22)) := ⟨rfl, rfl, rfl, by decide +kernel, rfl, by decide +kernel, by decide +kernel⟩
theorem F_line_of (FD : FnP K "line_of" (top 22) f fd) (hm : mg "line_of" = some (.ref f)) : Fn P w K mg base 1 "line_of" ["ridge"] C_line_of := by
  have nd := (sc_line_of).nd
  refine ⟨f, fd, hm, FD.kp, FD.bindsN fun _ _ _ _ _ _ us hl => match us, hl with | [_], _ => rfl, dfnA FD sc_line_of sem_line_of (fun cdv A outer s H E hr => ?_)⟩
  exact (dss_one (ds_ret (de_tup (da_cons (de_ix opd_ix ix_lt (de_ix opd_ix ix_lt (de_var 0) de_int (fun _ _ => rfl)) de_int (fun _ _ => rfl)) (da_cons (de_ix opd_ix ix_lt (de_ix opd_ix ix_lt (de_var 0) (de_un und_neg un_neg de_int) (fun _ _ => rfl)) de_int (fun _ _ => rfl)) da_nil)))))
theorem sc__law_pick : FnScope ["source", "most", "cells", "others", "lap", "stirred"] ["source", "most"] (defScope (top 61)) := ⟨rfl, rfl, rfl, by decide +kernel, rfl, by decide +kernel, by decide +kernel⟩
theorem F__law_pick (FD : FnP K "_law_pick" (top 61) f fd) (hm : mg "_law_pick" = some (.ref f)) (gb_int : mg "int" = none) (gb_len : mg "len" = none) : Fn P w K mg base 1 "_law_pick" ["source", "most"] C_law_pick := by
  have nd := (sc__law_pick).nd
  refine ⟨f, fd, hm, FD.kp, FD.bindsN fun _ _ _ _ _ _ us hl => match us, hl with | [_, _], _ => rfl, dfnA FD sc__law_pick sem_law_pick (fun cdv A outer s H E hr => ?_)⟩
  exact (dss_cons (ds_if (dt_cmp opd_IB op_lt (de_var 1) de_int (nomark _)) (dss_one (ds_ret de_int)) dss_nil)
  (dss_cons (ds_cells (hu1 hr) nd rfl (by first | exact Or.inl rfl | exact Or.inr rfl) rfl (by first | exact Or.inl rfl | exact Or.inr (Or.inl rfl) | exact Or.inr (Or.inr rfl)) (by decide) (by decide))
  (dss_cons (ds_drain PassesOwn.never (hu1 hr) rfl (by first | exact Or.inl rfl | exact Or.inr (Or.inl rfl) | exact Or.inr (Or.inr rfl)) (by decide) (by decide) rfl (by first | exact Or.inl rfl | exact Or.inr (Or.inl rfl) | exact Or.inr (Or.inr rfl)) (by decide) (by decide) rfl gb_len (pe_bm0 PySem.F.plainAttrs_list PySem.F.slot_list_pop PySem.F.type_list_pop mt_pop (pv 2)))
  (dss_cons (ds_set false nd rfl (by first | exact Or.inl rfl | exact Or.inr rfl) (de_src 0 .left (hu1 hr)))
  (dss_cons (ds_if (dt_cmp opd_IB op_gt (de_var 3) de_int (nomark _)) (dss_cons (ds_srcPut .left (hu1 hr) rfl (by first | exact Or.inl rfl | exact Or.inr (Or.inl rfl) | exact Or.inr (Or.inr rfl)) (by decide) (by decide) (de_op opd_IC op_dv (de_var 3) (de_var 1)))
  (dss_one (ds_ret (de_op opd_IC op_modN (de_callTy cd_int call_int1 (by rfl) gb_int (by decide +kernel) (da_cons (de_var 3) da_nil)) (de_var 1))))) dss_nil)
  (dss_cons (ds_srcPut .turn (hu1 hr) rfl (by first | exact Or.inl rfl | exact Or.inr (Or.inl rfl) | exact Or.inr (Or.inr rfl)) (by decide) (by decide) (de_op opd_add op_add3 (de_src 0 .turn (hu1 hr)) de_int))
  (dss_cons (ds_set false nd rfl (by first | exact Or.inl rfl | exact Or.inr rfl) (de_src 0 .turn (hu1 hr)))
  (dss_cons (ds_set false nd rfl (by first | exact Or.inl rfl | exact Or.inr rfl) (de_op opd_IC op_modN (de_callTy cd_int call_int1 (by rfl) gb_int (by decide +kernel) (da_cons (de_op opd_add op_add3 (de_src 0 .mixed (hu1 hr)) (de_op opd_IC op_mul (de_var 4) de_int)) da_nil)) de_int))
  (dss_cons (ds_set false nd rfl (by first | exact Or.inl rfl | exact Or.inr rfl) (de_op opd_IC op_modN (de_callTy cd_int call_int1 (by rfl) gb_int (by decide +kernel) (da_cons (de_op opd_add op_add3 (de_op opd_IC op_mulW (de_var 5) (de_var 5)) (de_op opd_IC op_mul (de_var 4) de_int)) da_nil)) de_int))
  (dss_one (ds_ret (de_op opd_IC op_modN (de_callTy cd_int call_int1 (by rfl) gb_int (by decide +kernel) (da_cons (de_op opd_IC op_dv (de_var 5) de_int) da_nil)) (de_var 1)))))))))))))
theorem sc__law_common : FnScope ["a", "b"] ["a", "b"] (defScope (top 62)) := ⟨rfl, rfl, rfl, by decide +kernel, rfl, by decide +kernel, by decide +kernel⟩
theorem F__law_common (FD : FnP K "_law_common" (top 62) f fd) (hm : mg "_law_common" = some (.ref f)) (gb_abs : mg "abs" = none) (gb_int : mg "int" = none) : Fn P w K mg base 1 "_law_common" ["a", "b"] C_law_common := by
  have nd := (sc__law_common).nd
  refine ⟨f, fd, hm, FD.kp, FD.bindsN fun _ _ _ _ _ _ us hl => match us, hl with | [_, _], _ => rfl, dfnA FD sc__law_common sem_law_common (fun cdv A outer s H E hr => ?_)⟩
  exact (dss_cons (ds_par2 false false rfl nd rfl rfl (by decide) rfl rfl (da_cons (de_callB cd_abs call_abs (by rfl) gb_abs (by decide +kernel) (da_cons (de_var 0) da_nil)) (da_cons (de_callB cd_abs call_abs (by rfl) gb_abs (by decide +kernel) (da_cons (de_var 1) da_nil)) da_nil)) rfl)
  (dss_cons (ds_while PassesOwn.never (dt_cmp opd_ne (op_neD hr.units) (de_var 1) de_int (nomark _)) (dss_one (ds_par2 false false rfl nd rfl rfl (by decide) rfl rfl (da_cons (de_var 1) (da_cons (de_op opd_IC op_modN (de_callTy cd_int call_int1 (by rfl) gb_int (by decide +kernel) (da_cons (de_var 0) da_nil)) (de_var 1)) da_nil)) rfl)))
  (dss_one (ds_retVar 0))))
theorem sc__law_below : FnScope ["x", "y"] ["x", "y"] (defScope (top 67)) := ⟨rfl, rfl, rfl, by decide +kernel, rfl, by decide +kernel, by decide +kernel⟩
theorem F__law_below (FD : FnP K "_law_below" (top 67) f fd) (hm : mg "_law_below" = some (.ref f)) : Fn P w K mg base 1 "_law_below" ["x", "y"] C_law_below := by
  have nd := (sc__law_below).nd
  refine ⟨f, fd, hm, FD.kp, FD.bindsN fun _ _ _ _ _ _ us hl => match us, hl with | [_, _], _ => rfl, dfnA FD sc__law_below sem_law_below (fun cdv A outer s H E hr => ?_)⟩
  exact (dss_one (ds_ret (de_cmp opd_IB op_lt (de_op opd_IC op_mulW (de_ix opd_ix ix_lt (de_var 0) de_int (fun _ _ => rfl)) (de_ix opd_ix ix_lt (de_var 1) de_int (fun _ _ => rfl))) (de_op opd_IC op_mulW (de_ix opd_ix ix_lt (de_var 1) de_int (fun _ _ => rfl)) (de_ix opd_ix ix_lt (de_var 0) de_int (fun _ _ => rfl))) (nomark _))))
theorem sc_is_fraction : FnScope ["value"] ["value"] (defScope (top 3)) := ⟨rfl, rfl, rfl, by decide +kernel, rfl, by decide +kernel, by decide +kernel⟩
theorem F_is_fraction (FD : FnP K "is_fraction" (top 3) f fd) (hm : mg "is_fraction" = some (.ref f)) (F_is_integer : Fn P w K mg base 1 "is_integer" ["value"] C_is_integer) (F_common : Fn P w K mg base 1 "common" ["one", "other"] C_common) (gb_isinstance : mg "isinstance" = none) (gb_len : mg "len" = none) (gb_tuple : mg "tuple" = none) : Fn P w K mg base 2 "is_fraction" ["value"] C_is_fraction := by
  have nd := (sc_is_fraction).nd
  refine ⟨f, fd, hm, FD.kp, FD.bindsN fun _ _ _ _ _ _ us hl => match us, hl with | [_], _ => rfl, dfnA FD sc_is_fraction sem_is_fraction (fun cdv A outer s H E hr => ?_)⟩
  exact (dss_cons (ds_if (dw_or (dt_not (dt_val (de_isTuple (by rfl) gb_isinstance (by rfl) gb_tuple (de_var 0)))) (dw_or (dt_cmp opd_ne (op_neD hr.units) (de_callB cd_len call_len_seq (by rfl) gb_len PySem.boot_len (da_cons (de_var 0) da_nil)) de_int (nomark _)) (dw_or (dt_not (dt_val (de_call F_is_integer hr (by rfl) (da_cons (de_ix opd_ix ix_lt (de_var 0) de_int (fun _ _ => rfl)) da_nil)))) (dw_or1 (dt_not (dt_val (de_call F_is_integer hr (by rfl) (da_cons (de_ix opd_ix ix_lt (de_var 0) de_int (fun _ _ => rfl)) da_nil)))))))).dt (dss_one (ds_ret de_bl)) dss_nil)
  (dss_one (ds_ret (de_and (de_cmp opd_IB op_ge (de_ix opd_ix ix_lt (de_var 0) de_int (fun _ _ => rfl)) de_int (nomark _)) (de_one (de_cmp opd_eq (op_eqD hr.units) (de_call F_common hr (by rfl) (da_cons (de_ix opd_ix ix_lt (de_var 0) de_int (fun _ _ => rfl)) (da_cons (de_ix opd_ix ix_lt (de_var 0) de_int (fun _ _ => rfl)) da_nil))) de_int (nomark _)))))))
theorem sc_fraction : FnScope ["u", "e", "unit"] ["u", "e"] (defScope (top 4)) := ⟨rfl, rfl, rfl, by decide +kernel, rfl, by decide +kernel, by decide +kernel⟩
theorem F_fraction (FD : FnP K "fraction" (top 4) f fd) (hm : mg "fraction" = some (.ref f)) (F_common : Fn P w K mg base 1 "common" ["one", "other"] C_common) : Fn P w K mg base 2 "fraction" ["u", "e"] C_fraction := by
  have nd := (sc_fraction).nd
  refine ⟨f, fd, hm, FD.kp, FD.bindsN fun _ _ _ _ _ _ us hl => match us, hl with | [_, _], _ => rfl, dfnA FD sc_fraction sem_fraction (fun cdv A outer s H E hr => ?_)⟩
  exact (dss_cons (ds_set false nd rfl (by first | exact Or.inl rfl | exact Or.inr rfl) (de_if (dt_cmp opd_IB op_gt (de_var 1) de_int (nomark _)) (de_call F_common hr (by rfl) (da_cons (de_var 0) (da_cons (de_var 1) da_nil))) (de_un und_neg un_neg (de_call F_common hr (by rfl) (da_cons (de_var 0) (da_cons (de_var 1) da_nil))))))
  (dss_one (ds_ret (de_tup (da_cons (de_op opd_IC op_dv (de_var 0) (de_var 2)) (da_cons (de_op opd_IC op_dv (de_var 1) (de_var 2)) da_nil))))))
theorem sc_least_of : FnScope ["some", "found", "one"] ["some"] (defScope (top 10)) := ⟨rfl, rfl, rfl, by decide +kernel, rfl, by decide +kernel, by decide +kernel⟩
theorem F_least_of (FD : FnP K "least_of" (top 10) f fd) (hm : mg "least_of" = some (.ref f)) (F_compared : Fn P w K mg base 1 "compared" ["x", "y"] C_compared) : Fn P w K mg base 2 "least_of" ["some"] C_least_of := by
  have nd := (sc_least_of).nd
  refine ⟨f, fd, hm, FD.kp, FD.bindsN fun _ _ _ _ _ _ us hl => match us, hl with | [_], _ => rfl, dfnA FD sc_least_of sem_least_of (fun cdv A outer s H E hr => ?_)⟩
  exact (dss_cons (ds_set false nd rfl (by first | exact Or.inl rfl | exact Or.inr rfl) (de_ix opd_ix ix_lt (de_var 0) de_int (fun _ _ => rfl)))
  (dss_cons (ds_for PassesOwn.never rfl (di_seqF (de_var 0)) (dg_n nd rfl (by first | exact Or.inl rfl | exact Or.inr rfl) (by first | exact Or.inl rfl | exact Or.inr rfl)) (dss_one (ds_set false nd rfl (by first | exact Or.inl rfl | exact Or.inr rfl) (de_if (dt_cmp opd_IB op_lt (de_call F_compared hr (by rfl) (da_cons (de_var 2) (da_cons (de_var 1) da_nil))) de_int (nomark _)) (de_var 2) (de_var 1)))))
  (dss_one (ds_retVar 1))))
theorem sc_greatest_of : FnScope ["some", "found", "one"] ["some"] (defScope (top 11)) := ⟨rfl, rfl, rfl, by decide +kernel, rfl, by decide +kernel, by decide +kernel⟩
theorem F_greatest_of (FD : FnP K "greatest_of" (top 11) f fd) (hm : mg "greatest_of" = some (.ref f)) (F_compared : Fn P w K mg base 1 "compared" ["x", "y"] C_compared) : Fn P w K mg base 2 "greatest_of" ["some"] C_greatest_of := by
  have nd := (sc_greatest_of).nd
  refine ⟨f, fd, hm, FD.kp, FD.bindsN fun _ _ _ _ _ _ us hl => match us, hl with | [_], _ => rfl, dfnA FD sc_greatest_of sem_greatest_of (fun cdv A outer s H E hr => ?_)⟩
  exact (dss_cons (ds_set false nd rfl (by first | exact Or.inl rfl | exact Or.inr rfl) (de_ix opd_ix ix_lt (de_var 0) de_int (fun _ _ => rfl)))
  (dss_cons (ds_for PassesOwn.never rfl (di_seqF (de_var 0)) (dg_n nd rfl (by first | exact Or.inl rfl | exact Or.inr rfl) (by first | exact Or.inl rfl | exact Or.inr rfl)) (dss_one (ds_set false nd rfl (by first | exact Or.inl rfl | exact Or.inr rfl) (de_if (dt_cmp opd_IB op_gt (de_call F_compared hr (by rfl) (da_cons (de_var 2) (da_cons (de_var 1) da_nil))) de_int (nomark _)) (de_var 2) (de_var 1)))))
  (dss_one (ds_retVar 1))))
theorem sc_is_under : FnScope ["x", "y"] ["x", "y"] (defScope (top 25)) := ⟨rfl, rfl, rfl, by decide +kernel, rfl, by decide +kernel, by decide +kernel⟩
theorem F_is_under (FD : FnP K "is_under" (top 25) f fd) (hm : mg "is_under" = some (.ref f)) (F_compared : Fn P w K mg base 1 "compared" ["x", "y"] C_compared) : Fn P w K mg base 2 "is_under" ["x", "y"] C_is_under := by
  have nd := (sc_is_under).nd
  refine ⟨f, fd, hm, FD.kp, FD.bindsN fun _ _ _ _ _ _ us hl => match us, hl with | [_, _], _ => rfl, dfnA FD sc_is_under sem_is_under (fun cdv A outer s H E hr => ?_)⟩
  exact (dss_one (ds_ret (de_cmp opd_IB op_lt (de_call F_compared hr (by rfl) (da_cons (de_var 0) (da_cons (de_var 1) da_nil))) de_int (nomark _))))
theorem sc_is_part_within : FnScope ["one", "other"] ["one", "other"] (defScope (top 45)) := ⟨rfl, rfl, rfl, by decide +kernel, rfl, by decide +kernel, by decide +kernel⟩
theorem F_is_part_within (FD : FnP K "is_part_within" (top 45) f fd) (hm : mg "is_part_within" = some (.ref f)) (F_compared : Fn P w K mg base 1 "compared" ["x", "y"] C_compared) : Fn P w K mg base 2 "is_part_within" ["one", "other"] C_is_part_within := by
  have nd := (sc_is_part_within).nd
  refine ⟨f, fd, hm, FD.kp, FD.bindsN fun _ _ _ _ _ _ us hl => match us, hl with | [_, _], _ => rfl, dfnA FD sc_is_part_within sem_is_part_within (fun cdv A outer s H E hr => ?_)⟩
  exact (dss_one (ds_ret (de_and (de_cmp opd_IB op_le (de_call F_compared hr (by rfl) (da_cons (de_ix opd_ix ix_lt (de_var 1) de_int (fun _ _ => rfl)) (da_cons (de_ix opd_ix ix_lt (de_var 0) de_int (fun _ _ => rfl)) da_nil))) de_int (nomark _)) (de_one (de_cmp opd_IB op_le (de_call F_compared hr (by rfl) (da_cons (de_ix opd_ix ix_lt (de_var 0) de_int (fun _ _ => rfl)) (da_cons (de_ix opd_ix ix_lt (de_var 1) de_int (fun _ _ => rfl)) da_nil))) de_int (nomark _))))))
theorem sc_whole_ground : FnScope ["ridge", "i"] ["ridge"] (defScope (top 49)) := ⟨rfl, rfl, rfl, by decide +kernel, rfl, by decide +kernel, by decide +kernel⟩
theorem F_whole_ground (FD : FnP K "whole_ground" (top 49) f fd) (hm : mg "whole_ground" = some (.ref f)) (F_slopes_of : Fn P w K mg base 1 "slopes_of" ["ridge"] C_slopes_of) (gb_range : mg "range" = none) (gb_tuple : mg "tuple" = none) : Fn P w K mg base 2 "whole_ground" ["ridge"] C_whole_ground := by
  have nd := (sc_whole_ground).nd
  refine ⟨f, fd, hm, FD.kp, FD.bindsN fun _ _ _ _ _ _ us hl => match us, hl with | [_], _ => rfl, dfnA FD sc_whole_ground sem_whole_ground (fun cdv A outer s H E hr => ?_)⟩
  exact (dss_one (ds_ret (de_callTy cd_tuple call_tuple_of (by rfl) gb_tuple (by decide +kernel) (da_cons (de_lc (own := [("i", 1)]) rfl nd (di_range1 (by rfl) gb_range (da_cons (de_call F_slopes_of hr (by rfl) (da_cons (de_var 0) da_nil)) da_nil)) (blkOk_by (by kernel_rfl)) (fun _ _ _ _ _ => (dg_n nd rfl (by first | exact Or.inl rfl | exact Or.inr rfl) (by first | exact Or.inl rfl | exact Or.inr rfl))) (fun _ _ _ _ _ => dts_nil) (fun _ _ _ _ _ => (de_tup (da_cons (de_var 1) (da_cons (de_tup (da_cons de_int (da_cons de_int da_nil))) (da_cons (de_tup (da_cons de_int (da_cons de_int da_nil))) da_nil))))) (by decide)) da_nil))))
theorem sc__law_fraction : FnScope ["u", "d", "unit"] ["u", "d"] (defScope (top 63)) := ⟨rfl, rfl, rfl, by decide +kernel, rfl, by decide +kernel, by decide +kernel⟩
theorem F__law_fraction (FD : FnP K "_law_fraction" (top 63) f fd) (hm : mg "_law_fraction" = some (.ref f)) (F__law_common : Fn P w K mg base 1 "_law_common" ["a", "b"] C_law_common) : Fn P w K mg base 2 "_law_fraction" ["u", "d"] C_law_fraction := by
  have nd := (sc__law_fraction).nd
  refine ⟨f, fd, hm, FD.kp, FD.bindsN fun _ _ _ _ _ _ us hl => match us, hl with | [_, _], _ => rfl, dfnA FD sc__law_fraction sem_law_fraction (fun cdv A outer s H E hr => ?_)⟩
  exact (dss_cons (ds_set false nd rfl (by first | exact Or.inl rfl | exact Or.inr rfl) (de_op opd_IC op_mulW (de_call F__law_common hr (by rfl) (da_cons (de_var 0) (da_cons (de_var 1) da_nil))) (de_if (dt_cmp opd_IB op_gt (de_var 1) de_int (nomark _)) de_int (de_op opd_I op_sub de_int de_int))))
  (dss_one (ds_ret (de_tup (da_cons (de_op opd_IC op_dv (de_var 0) (de_var 2)) (da_cons (de_op opd_IC op_dv (de_var 1) (de_var 2)) da_nil))))))
theorem sc__law_least : FnScope ["fractions", "best", "x"] ["fractions"] (defScope (top 69)) := ⟨rfl, rfl, rfl, by decide +kernel, rfl, by decide +kernel, by decide +kernel⟩
theorem F__law_least (FD : FnP K "_law_least" (top 69) f fd) (hm : mg "_law_least" = some (.ref f)) (F__law_below : Fn P w K mg base 1 "_law_below" ["x", "y"] C_law_below) : Fn P w K mg base 2 "_law_least" ["fractions"] C_law_least := by
  have nd := (sc__law_least).nd
  refine ⟨f, fd, hm, FD.kp, FD.bindsN fun _ _ _ _ _ _ us hl => match us, hl with | [_], _ => rfl, dfnA FD sc__law_least sem_law_least (fun cdv A outer s H E hr => ?_)⟩
  exact (dss_cons (ds_set false nd rfl (by first | exact Or.inl rfl | exact Or.inr rfl) (de_ix opd_ix ix_lt (de_var 0) de_int (fun _ _ => rfl)))
  (dss_cons (ds_for PassesOwn.never rfl (di_seqF (de_var 0)) (dg_n nd rfl (by first | exact Or.inl rfl | exact Or.inr rfl) (by first | exact Or.inl rfl | exact Or.inr rfl)) (dss_one (ds_set false nd rfl (by first | exact Or.inl rfl | exact Or.inr rfl) (de_if (dt_val (de_call F__law_below hr (by rfl) (da_cons (de_var 2) (da_cons (de_var 1) da_nil)))) (de_var 2) (de_var 1)))))
  (dss_one (ds_retVar 1))))
theorem sc__law_most : FnScope ["fractions", "best", "x"] ["fractions"] (defScope (top 70)) := ⟨rfl, rfl, rfl, by decide +kernel, rfl, by decide +kernel, by decide +kernel⟩
theorem F__law_most (FD : FnP K "_law_most" (top 70) f fd) (hm : mg "_law_most" = some (.ref f)) (F__law_below : Fn P w K mg base 1 "_law_below" ["x", "y"] C_law_below) : Fn P w K mg base 2 "_law_most" ["fractions"] C_law_most := by
  have nd := (sc__law_most).nd
  refine ⟨f, fd, hm, FD.kp, FD.bindsN fun _ _ _ _ _ _ us hl => match us, hl with | [_], _ => rfl, dfnA FD sc__law_most sem_law_most (fun cdv A outer s H E hr => ?_)⟩
  exact (dss_cons (ds_set false nd rfl (by first | exact Or.inl rfl | exact Or.inr rfl) (de_ix opd_ix ix_lt (de_var 0) de_int (fun _ _ => rfl)))
  (dss_cons (ds_for PassesOwn.never rfl (di_seqF (de_var 0)) (dg_n nd rfl (by first | exact Or.inl rfl | exact Or.inr rfl) (by first | exact Or.inl rfl | exact Or.inr rfl)) (dss_one (ds_set false nd rfl (by first | exact Or.inl rfl | exact Or.inr rfl) (de_if (dt_val (de_call F__law_below hr (by rfl) (da_cons (de_var 1) (da_cons (de_var 2) da_nil)))) (de_var 2) (de_var 1)))))
  (dss_one (ds_retVar 1))))
theorem sc_added : FnScope ["x", "y"] ["x", "y"] (defScope (top 5)) := ⟨rfl, rfl, rfl, by decide +kernel, rfl, by decide +kernel, by decide +kernel⟩
theorem F_added (FD : FnP K "added" (top 5) f fd) (hm : mg "added" = some (.ref f)) (F_fraction : Fn P w K mg base 2 "fraction" ["u", "e"] C_fraction) : Fn P w K mg base 3 "added" ["x", "y"] C_added := by
  have nd := (sc_added).nd
  refine ⟨f, fd, hm, FD.kp, FD.bindsN fun _ _ _ _ _ _ us hl => match us, hl with | [_, _], _ => rfl, dfnA FD sc_added sem_added (fun cdv A outer s H E hr => ?_)⟩
  exact (dss_one (ds_ret (de_call F_fraction hr (by rfl) (da_cons (de_op opd_add op_add3 (de_op opd_IC op_mulW (de_ix opd_ix ix_lt (de_var 0) de_int (fun _ _ => rfl)) (de_ix opd_ix ix_lt (de_var 1) de_int (fun _ _ => rfl))) (de_op opd_IC op_mulW (de_ix opd_ix ix_lt (de_var 1) de_int (fun _ _ => rfl)) (de_ix opd_ix ix_lt (de_var 0) de_int (fun _ _ => rfl)))) (da_cons (de_op opd_IC op_mulW (de_ix opd_ix ix_lt (de_var 0) de_int (fun _ _ => rfl)) (de_ix opd_ix ix_lt (de_var 1) de_int (fun _ _ => rfl))) da_nil)))))
theorem sc_lessened : FnScope ["x", "y"] ["x", "y"] (defScope (top 6)) := ⟨rfl, rfl, rfl, by decide +kernel, rfl, by decide +kernel, by decide +kernel⟩
theorem F_lessened (FD : FnP K "lessened" (top 6) f fd) (hm : mg "lessened" = some (.ref f)) (F_fraction : Fn P w K mg base 2 "fraction" ["u", "e"] C_fraction) : Fn P w K mg base 3 "lessened" ["x", "y"] C_lessened := by
  have nd := (sc_lessened).nd
  refine ⟨f, fd, hm, FD.kp, FD.bindsN fun _ _ _ _ _ _ us hl => match us, hl with | [_, _], _ => rfl, dfnA FD sc_lessened sem_lessened (fun cdv A outer s H E hr => ?_)⟩
  exact (dss_one (ds_ret (de_call F_fraction hr (by rfl) (da_cons (de_op opd_I op_sub (de_op opd_IC op_mulW (de_ix opd_ix ix_lt (de_var 0) de_int (fun _ _ => rfl)) (de_ix opd_ix ix_lt (de_var 1) de_int (fun _ _ => rfl))) (de_op opd_IC op_mulW (de_ix opd_ix ix_lt (de_var 1) de_int (fun _ _ => rfl)) (de_ix opd_ix ix_lt (de_var 0) de_int (fun _ _ => rfl)))) (da_cons (de_op opd_IC op_mulW (de_ix opd_ix ix_lt (de_var 0) de_int (fun _ _ => rfl)) (de_ix opd_ix ix_lt (de_var 1) de_int (fun _ _ => rfl))) da_nil)))))
theorem sc_multiplied : FnScope ["x", "y"] ["x", "y"] (defScope (top 7)) := ⟨rfl, rfl, rfl, by decide +kernel, rfl, by decide +kernel, by decide +kernel⟩
theorem F_multiplied (FD : FnP K "multiplied" (top 7) f fd) (hm : mg "multiplied" = some (.ref f)) (F_fraction : Fn P w K mg base 2 "fraction" ["u", "e"] C_fraction) : Fn P w K mg base 3 "multiplied" ["x", "y"] C_multiplied := by
  have nd := (sc_multiplied).nd
  refine ⟨f, fd, hm, FD.kp, FD.bindsN fun _ _ _ _ _ _ us hl => match us, hl with | [_, _], _ => rfl, dfnA FD sc_multiplied sem_multiplied (fun cdv A outer s H E hr => ?_)⟩
  exact (dss_one (ds_ret (de_call F_fraction hr (by rfl) (da_cons (de_op opd_IC op_mulW (de_ix opd_ix ix_lt (de_var 0) de_int (fun _ _ => rfl)) (de_ix opd_ix ix_lt (de_var 1) de_int (fun _ _ => rfl))) (da_cons (de_op opd_IC op_mulW (de_ix opd_ix ix_lt (de_var 0) de_int (fun _ _ => rfl)) (de_ix opd_ix ix_lt (de_var 1) de_int (fun _ _ => rfl))) da_nil)))))
theorem sc_divided : FnScope ["x", "y"] ["x", "y"] (defScope (top 8)) := ⟨rfl, rfl, rfl, by decide +kernel, rfl, by decide +kernel, by decide +kernel⟩
theorem F_divided (FD : FnP K "divided" (top 8) f fd) (hm : mg "divided" = some (.ref f)) (F_fraction : Fn P w K mg base 2 "fraction" ["u", "e"] C_fraction) : Fn P w K mg base 3 "divided" ["x", "y"] C_divided := by
  have nd := (sc_divided).nd
  refine ⟨f, fd, hm, FD.kp, FD.bindsN fun _ _ _ _ _ _ us hl => match us, hl with | [_, _], _ => rfl, dfnA FD sc_divided sem_divided (fun cdv A outer s H E hr => ?_)⟩
  exact (dss_one (ds_ret (de_call F_fraction hr (by rfl) (da_cons (de_op opd_IC op_mulW (de_ix opd_ix ix_lt (de_var 0) de_int (fun _ _ => rfl)) (de_ix opd_ix ix_lt (de_var 1) de_int (fun _ _ => rfl))) (da_cons (de_op opd_IC op_mulW (de_ix opd_ix ix_lt (de_var 0) de_int (fun _ _ => rfl)) (de_ix opd_ix ix_lt (de_var 1) de_int (fun _ _ => rfl))) da_nil)))))
theorem sc_is_within : FnScope ["value", "least", "greatest"] ["value", "least", "greatest"] (defScope (top 20)) := ⟨rfl, rfl, rfl, by decide +kernel, rfl, by decide +kernel, by decide +kernel⟩
theorem F_is_within (FD : FnP K "is_within" (top 20) f fd) (hm : mg "is_within" = some (.ref f)) (F_compared : Fn P w K mg base 1 "compared" ["x", "y"] C_compared) (F_is_fraction : Fn P w K mg base 2 "is_fraction" ["value"] C_is_fraction) : Fn P w K mg base 3 "is_within" ["value", "least", "greatest"] C_is_within := by
  have nd := (sc_is_within).nd
  refine ⟨f, fd, hm, FD.kp, FD.bindsN fun _ _ _ _ _ _ us hl => match us, hl with | [_, _, _], _ => rfl, dfnA FD sc_is_within sem_is_within (fun cdv A outer s H E hr => ?_)⟩
  exact (dss_one (ds_ret (de_and (de_call F_is_fraction hr (by rfl) (da_cons (de_var 0) da_nil)) (de_and (de_cmp opd_IB op_ge (de_call F_compared (hr.mono (by decide)) (by rfl) (da_cons (de_var 0) (da_cons (de_var 1) da_nil))) de_int (nomark _)) (de_one (de_cmp opd_IB op_le (de_call F_compared (hr.mono (by decide)) (by rfl) (da_cons (de_var 0) (da_cons (de_var 2) da_nil))) de_int (nomark _)))))))
theorem sc_ascending_fractions : FnScope ["some", "found", "at", "x"] ["some"] (defScope (top 34)) := ⟨rfl, rfl, rfl, by decide +kernel, rfl, by decide +kernel, by decide +kernel⟩
theorem F_ascending_fractions (FD : FnP K "ascending_fractions" (top 34) f fd) (hm : mg "ascending_fractions" = some (.ref f)) (F_is_under : Fn P w K mg base 2 "is_under" ["x", "y"] C_is_under) (gb_len : mg "len" = none) : Fn P w K mg base 3 "ascending_fractions" ["some"] C_ascending_fractions := by
  have nd := (sc_ascending_fractions).nd
  refine ⟨f, fd, hm, FD.kp, FD.bindsN fun _ _ _ _ _ _ us hl => match us, hl with | [_], _ => rfl, dfnA FD sc_ascending_fractions sem_ascending_fractions (fun cdv A outer s H E hr => ?_)⟩
  exact (dss_cons (ds_set true nd rfl (by first | exact Or.inl rfl | exact Or.inr rfl) (de_lst da_nil))
  (dss_cons (ds_for PassesOwn.never rfl (di_seqF (de_var 0)) (dg_n nd rfl (by first | exact Or.inl rfl | exact Or.inr rfl) (by first | exact Or.inl rfl | exact Or.inr rfl)) (dss_cons (ds_set false nd rfl (by first | exact Or.inl rfl | exact Or.inr rfl) (de_callB cd_len call_len_seq (by rfl) gb_len PySem.boot_len (da_cons (de_var 1) da_nil)))
  (dss_cons (ds_while PassesOwn.never (dw_and (dt_cmp opd_IB op_gt (de_var 2) de_int (nomark _)) (dw_and1 (dt_val (de_call F_is_under hr (by rfl) (da_cons (de_var 3) (da_cons (de_ix opd_ix ix_lt (de_var 1) (de_op opd_I op_sub (de_var 2) de_int) (fun _ _ => rfl)) da_nil)))))).dt (dss_one (ds_aug nd rfl (by first | exact Or.inl rfl | exact Or.inr rfl) de_int ip_sub)))
  (dss_one (ds_meth (name := "insert") (id := "list.insert") md_ins rfl (by first | exact Or.inl rfl | exact Or.inr (Or.inl rfl) | exact Or.inr (Or.inr rfl)) (by decide) (by decide) (da_cons (de_var 2) (da_cons (de_var 3) da_nil)) (fun h => pe_bm PySem.F.plainAttrs_list PySem.F.slot_list_insert PySem.F.type_list_insert mt_insert (pv 1) h))))))
  (dss_one (ds_retVar 1))))
theorem sc_ascending : FnScope ["some", "left", "found", "least", "x"] ["some"] (defScope (top 43)) := ⟨rfl, rfl, rfl, by decide +kernel, rfl, by decide +kernel, by decide +kernel⟩
theorem F_ascending (FD : FnP K "ascending" (top 43) f fd) (hm : mg "ascending" = some (.ref f)) (F_least_of : Fn P w K mg base 2 "least_of" ["some"] C_least_of) (gb_list : mg "list" = none) (gb_tuple : mg "tuple" = none) : Fn P w K mg base 3 "ascending" ["some"] C_ascending := by
  have nd := (sc_ascending).nd
  refine ⟨f, fd, hm, FD.kp, FD.bindsN fun _ _ _ _ _ _ us hl => match us, hl with | [_], _ => rfl, dfnA FD sc_ascending sem_ascending (fun cdv A outer s H E hr => ?_)⟩
  exact (dss_cons (ds_par2 false true rfl nd rfl rfl (by decide) rfl rfl (da_cons (de_callTy cd_list call_list_of (by rfl) gb_list (by decide +kernel) (da_cons (de_var 0) da_nil)) (da_cons (de_lst da_nil) da_nil)) rfl)
  (dss_cons (ds_while PassesOwn.never (dt_truth (de_var 1)) (dss_cons (ds_set false nd rfl (by first | exact Or.inl rfl | exact Or.inr rfl) (de_call F_least_of hr (by rfl) (da_cons (de_callTy cd_tuple call_tuple_of (by rfl) gb_tuple (by decide +kernel) (da_cons (de_var 1) da_nil)) da_nil)))
  (dss_cons (ds_meth (name := "append") (id := "list.append") md_app rfl (by first | exact Or.inl rfl | exact Or.inr (Or.inl rfl) | exact Or.inr (Or.inr rfl)) (by decide) (by decide) (da_cons (de_var 3) da_nil) (fun h => pe_bm PySem.F.plainAttrs_list PySem.F.slot_list_append PySem.F.type_list_append mt_append (pv 2) h))
  (dss_one (ds_setLc false (own := [("x", 4)]) rfl nd rfl rfl (sw_true rfl rfl rfl (by decide +kernel)) (di_seq (de_var 1)) (blkOk_by (by kernel_rfl)) (fun _ _ _ _ _ => (dg_n nd rfl (by first | exact Or.inl rfl | exact Or.inr rfl) (by first | exact Or.inl rfl | exact Or.inr rfl))) (fun _ _ _ _ _ => (dts_one (dt_cmp opd_ne (op_neD hr.units) (de_var 4) (de_var 3) (nomark _)))) (fun _ _ _ _ _ => (de_var 4)) (by decide))))))
  (dss_one (ds_retVar 2))))
theorem sc__law_sum : FnScope ["x", "y"] ["x", "y"] (defScope (top 64)) := ⟨rfl, rfl, rfl, by decide +kernel, rfl, by decide +kernel, by decide +kernel⟩
theorem F__law_sum (FD : FnP K "_law_sum" (top 64) f fd) (hm : mg "_law_sum" = some (.ref f)) (F__law_fraction : Fn P w K mg base 2 "_law_fraction" ["u", "d"] C_law_fraction) : Fn P w K mg base 3 "_law_sum" ["x", "y"] C_law_sum := by
  have nd := (sc__law_sum).nd
  refine ⟨f, fd, hm, FD.kp, FD.bindsN fun _ _ _ _ _ _ us hl => match us, hl with | [_, _], _ => rfl, dfnA FD sc__law_sum sem_law_sum (fun cdv A outer s H E hr => ?_)⟩
  exact (dss_one (ds_ret (de_call F__law_fraction hr (by rfl) (da_cons (de_op opd_add op_add3 (de_op opd_IC op_mulW (de_ix opd_ix ix_lt (de_var 0) de_int (fun _ _ => rfl)) (de_ix opd_ix ix_lt (de_var 1) de_int (fun _ _ => rfl))) (de_op opd_IC op_mulW (de_ix opd_ix ix_lt (de_var 1) de_int (fun _ _ => rfl)) (de_ix opd_ix ix_lt (de_var 0) de_int (fun _ _ => rfl)))) (da_cons (de_op opd_IC op_mulW (de_ix opd_ix ix_lt (de_var 0) de_int (fun _ _ => rfl)) (de_ix opd_ix ix_lt (de_var 1) de_int (fun _ _ => rfl))) da_nil)))))
theorem sc__law_times : FnScope ["x", "y"] ["x", "y"] (defScope (top 65)) := ⟨rfl, rfl, rfl, by decide +kernel, rfl, by decide +kernel, by decide +kernel⟩
theorem F__law_times (FD : FnP K "_law_times" (top 65) f fd) (hm : mg "_law_times" = some (.ref f)) (F__law_fraction : Fn P w K mg base 2 "_law_fraction" ["u", "d"] C_law_fraction) : Fn P w K mg base 3 "_law_times" ["x", "y"] C_law_times := by
  have nd := (sc__law_times).nd
  refine ⟨f, fd, hm, FD.kp, FD.bindsN fun _ _ _ _ _ _ us hl => match us, hl with | [_, _], _ => rfl, dfnA FD sc__law_times sem_law_times (fun cdv A outer s H E hr => ?_)⟩
  exact (dss_one (ds_ret (de_call F__law_fraction hr (by rfl) (da_cons (de_op opd_IC op_mulW (de_ix opd_ix ix_lt (de_var 0) de_int (fun _ _ => rfl)) (de_ix opd_ix ix_lt (de_var 1) de_int (fun _ _ => rfl))) (da_cons (de_op opd_IC op_mulW (de_ix opd_ix ix_lt (de_var 0) de_int (fun _ _ => rfl)) (de_ix opd_ix ix_lt (de_var 1) de_int (fun _ _ => rfl))) da_nil)))))
theorem sc__law_over : FnScope ["x", "y"] ["x", "y"] (defScope (top 68)) := ⟨rfl, rfl, rfl, by decide +kernel, rfl, by decide +kernel, by decide +kernel⟩
theorem F__law_over (FD : FnP K "_law_over" (top 68) f fd) (hm : mg "_law_over" = some (.ref f)) (F__law_fraction : Fn P w K mg base 2 "_law_fraction" ["u", "d"] C_law_fraction) : Fn P w K mg base 3 "_law_over" ["x", "y"] C_law_over := by
  have nd := (sc__law_over).nd
  refine ⟨f, fd, hm, FD.kp, FD.bindsN fun _ _ _ _ _ _ us hl => match us, hl with | [_, _], _ => rfl, dfnA FD sc__law_over sem_law_over (fun cdv A outer s H E hr => ?_)⟩
  exact (dss_one (ds_ret (de_call F__law_fraction hr (by rfl) (da_cons (de_op opd_IC op_mulW (de_ix opd_ix ix_lt (de_var 0) de_int (fun _ _ => rfl)) (de_ix opd_ix ix_lt (de_var 1) de_int (fun _ _ => rfl))) (da_cons (de_op opd_IC op_mulW (de_ix opd_ix ix_lt (de_var 0) de_int (fun _ _ => rfl)) (de_ix opd_ix ix_lt (de_var 1) de_int (fun _ _ => rfl))) da_nil)))))
theorem sc__law_draw_ridge : FnScope ["source", "most", "x", "turn", "found", "is_comb", "ys", "y", "lap"] ["source", "most"] (defScope (top 73)) := ⟨rfl, rfl, rfl, by decide +kernel, rfl, by decide +kernel, by decide +kernel⟩
theorem F__law_draw_ridge (FD : FnP K "_law_draw_ridge" (top 73) f fd) (hm : mg "_law_draw_ridge" = some (.ref f)) (F__law_pick : Fn P w K mg base 1 "_law_pick" ["source", "most"] C_law_pick) (F__law_fraction : Fn P w K mg base 2 "_law_fraction" ["u", "d"] C_law_fraction) (gb_int : mg "int" = none) (gb_len : mg "len" = none) (gb_range : mg "range" = none) (gb_tuple : mg "tuple" = none) : Fn P w K mg base 3 "_law_draw_ridge" ["source", "most"] C_law_draw_ridge := by
  have nd := (sc__law_draw_ridge).nd
  refine ⟨f, fd, hm, FD.kp, FD.bindsN fun _ _ _ _ _ _ us hl => match us, hl with | [_, _], _ => rfl, dfnA FD sc__law_draw_ridge sem_law_draw_ridge (fun cdv A outer s H E hr => ?_)⟩
  exact (dss_cons (ds_par3 false false true rfl nd rfl rfl rfl (by decide) (by decide) (by decide) rfl rfl rfl (da_cons (de_op opd_I op_sub (de_call F__law_pick (hr.mono (by decide)) (by rfl) (da_cons (de_var 0) (da_cons de_int da_nil))) de_int) (da_cons (de_call F__law_pick (hr.mono (by decide)) (by rfl) (da_cons (de_var 0) (da_cons de_int da_nil))) (da_cons (de_lst da_nil) da_nil))) rfl)
  (dss_cons (ds_set false nd rfl (by first | exact Or.inl rfl | exact Or.inr rfl) (de_and (de_cmp opd_IB op_gt (de_var 1) de_int (nomark _)) (de_one (de_cmp opd_eq (op_eqD hr.units) (de_call F__law_pick (hr.mono (by decide)) (by rfl) (da_cons (de_var 0) (da_cons de_int da_nil))) de_int (nomark _)))))
  (dss_cons (ds_for PassesOwn.never rfl (di_range1 (by rfl) gb_range (da_cons (de_if (dt_truth (de_var 5)) (de_op opd_add op_add3 (de_var 1) (de_call F__law_pick (hr.mono (by decide)) (by rfl) (da_cons (de_var 0) (da_cons de_int da_nil)))) (de_op opd_add op_add3 de_int (de_call F__law_pick (hr.mono (by decide)) (by rfl) (da_cons (de_var 0) (da_cons (de_op opd_I op_sub (de_var 1) de_int) da_nil))))) da_nil)) (dg_n nd rfl (by first | exact Or.inl rfl | exact Or.inr rfl) (by first | exact Or.inl rfl | exact Or.inr rfl)) (dss_cons (ds_set false nd rfl (by first | exact Or.inl rfl | exact Or.inr rfl) (de_lst (da_cons de_int (da_cons de_int (da_cons de_int (da_cons de_int (da_cons de_int (da_cons de_int da_nil))))))))
  (dss_cons (ds_if (dt_truth (de_var 5)) (dss_one (ds_set false nd rfl (by first | exact Or.inl rfl | exact Or.inr rfl) (de_if (dt_cmp opd_eq (op_eqD hr.units) (de_op opd_IC op_modN (de_callTy cd_int call_int1 (by rfl) gb_int (by decide +kernel) (da_cons (de_op opd_add op_add3 (de_var 8) (de_var 3)) da_nil)) de_int) de_int (nomark _)) (de_lst (da_cons de_int (da_cons de_int (da_cons de_int (da_cons de_int da_nil))))) (de_lst (da_cons de_int (da_cons de_int (da_cons de_int (da_cons de_int da_nil)))))))) dss_nil)
  (dss_cons (ds_set false nd rfl (by first | exact Or.inl rfl | exact Or.inr rfl) (de_op opd_add op_add3 (de_op opd_IC op_mul de_int (de_ix opd_ix ix_lt (de_var 6) (de_call F__law_pick (hr.mono (by decide)) (by rfl) (da_cons (de_var 0) (da_cons (de_callB cd_len call_len_seq (by rfl) gb_len PySem.boot_len (da_cons (de_var 6) da_nil)) da_nil))) (fun _ _ => rfl))) (de_callTy cd_int call_int1 (by rfl) gb_int (by decide +kernel) (da_cons (de_cmp opd_eq (op_eqD hr.units) (de_call F__law_pick (hr.mono (by decide)) (by rfl) (da_cons (de_var 0) (da_cons de_int da_nil))) de_int (nomark _)) da_nil))))
  (dss_cons (ds_meth (name := "append") (id := "list.append") md_app rfl (by first | exact Or.inl rfl | exact Or.inr (Or.inl rfl) | exact Or.inr (Or.inr rfl)) (by decide) (by decide) (da_cons (de_tup (da_cons (de_tup (da_cons (de_var 2) (da_cons de_int da_nil))) (da_cons (de_call F__law_fraction hr (by rfl) (da_cons (de_var 7) (da_cons de_int da_nil))) da_nil))) da_nil) (fun h => pe_bm PySem.F.plainAttrs_list PySem.F.slot_list_append PySem.F.type_list_append mt_append (pv 4) h))
  (dss_one (ds_set false nd rfl (by first | exact Or.inl rfl | exact Or.inr rfl) (de_op opd_add op_add3 (de_op opd_add op_add3 (de_var 2) de_int) (de_if (dt_truth (de_var 5)) (de_callTy cd_int call_int1 (by rfl) gb_int (by decide +kernel) (da_cons (de_cmp opd_eq (op_eqD hr.units) (de_call F__law_pick (hr.mono (by decide)) (by rfl) (da_cons (de_var 0) (da_cons de_int da_nil))) de_int (nomark _)) da_nil)) (de_call F__law_pick (hr.mono (by decide)) (by rfl) (da_cons (de_var 0) (da_cons de_int da_nil))))))))))))
  (dss_one (ds_ret (de_callTy cd_tuple call_tuple_of (by rfl) gb_tuple (by decide +kernel) (da_cons (de_var 4) da_nil)))))))
theorem sc_between : FnScope ["x", "y", "t"] ["x", "y", "t"] (defScope (top 12)) := ⟨rfl, rfl, rfl, by decide +kernel, rfl, by decide +kernel, by decide +kernel⟩
theorem F_between (FD : FnP K "between" (top 12) f fd) (hm : mg "between" = some (.ref f)) (F_added : Fn P w K mg base 3 "added" ["x", "y"] C_added) (F_lessened : Fn P w K mg base 3 "lessened" ["x", "y"] C_lessened) (F_multiplied : Fn P w K mg base 3 "multiplied" ["x", "y"] C_multiplied) : Fn P w K mg base 4 "between" ["x", "y", "t"] C_between := by
  have nd := (sc_between).nd
  refine ⟨f, fd, hm, FD.kp, FD.bindsN fun _ _ _ _ _ _ us hl => match us, hl with | [_, _, _], _ => rfl, dfnA FD sc_between sem_between (fun cdv A outer s H E hr => ?_)⟩
  exact (dss_one (ds_ret (de_call F_added hr (by rfl) (da_cons (de_var 0) (da_cons (de_call F_multiplied hr (by rfl) (da_cons (de_var 2) (da_cons (de_call F_lessened hr (by rfl) (da_cons (de_var 1) (da_cons (de_var 0) da_nil))) da_nil))) da_nil)))))
theorem sc_turned_by : FnScope ["a", "b", "c", "one"] ["a", "b", "c"] (defScope (top 14)) := ⟨rfl, rfl, rfl, by decide +kernel, rfl, by decide +kernel, by decide +kernel⟩
theorem F_turned_by (FD : FnP K "turned_by" (top 14) f fd) (hm : mg "turned_by" = some (.ref f)) (F_lessened : Fn P w K mg base 3 "lessened" ["x", "y"] C_lessened) (F_multiplied : Fn P w K mg base 3 "multiplied" ["x", "y"] C_multiplied) : Fn P w K mg base 4 "turned_by" ["a", "b", "c"] C_turned_by := by
  have nd := (sc_turned_by).nd
  refine ⟨f, fd, hm, FD.kp, FD.bindsN fun _ _ _ _ _ _ us hl => match us, hl with | [_, _, _], _ => rfl, dfnA FD sc_turned_by sem_turned_by (fun cdv A outer s H E hr => ?_)⟩
  exact (dss_cons (ds_set false nd rfl (by first | exact Or.inl rfl | exact Or.inr rfl) (de_call F_multiplied hr (by rfl) (da_cons (de_call F_lessened hr (by rfl) (da_cons (de_ix opd_ix ix_lt (de_var 1) de_int (fun _ _ => rfl)) (da_cons (de_ix opd_ix ix_lt (de_var 0) de_int (fun _ _ => rfl)) da_nil))) (da_cons (de_call F_lessened hr (by rfl) (da_cons (de_ix opd_ix ix_lt (de_var 2) de_int (fun _ _ => rfl)) (da_cons (de_ix opd_ix ix_lt (de_var 0) de_int (fun _ _ => rfl)) da_nil))) da_nil))))
  (dss_one (ds_ret (de_call F_lessened hr (by rfl) (da_cons (de_var 3) (da_cons (de_call F_multiplied hr (by rfl) (da_cons (de_call F_lessened hr (by rfl) (da_cons (de_ix opd_ix ix_lt (de_var 1) de_int (fun _ _ => rfl)) (da_cons (de_ix opd_ix ix_lt (de_var 0) de_int (fun _ _ => rfl)) da_nil))) (da_cons (de_call F_lessened hr (by rfl) (da_cons (de_ix opd_ix ix_lt (de_var 2) de_int (fun _ _ => rfl)) (da_cons (de_ix opd_ix ix_lt (de_var 0) de_int (fun _ _ => rfl)) da_nil))) da_nil))) da_nil))))))
theorem sc_is_place : FnScope ["ridge", "value"] ["ridge", "value"] (defScope (top 23)) := ⟨rfl, rfl, rfl, by decide +kernel, rfl, by decide +kernel, by decide +kernel⟩
theorem F_is_place (FD : FnP K "is_place" (top 23) f fd) (hm : mg "is_place" = some (.ref f)) (F_is_within : Fn P w K mg base 3 "is_within" ["value", "least", "greatest"] C_is_within) : Fn P w K mg base 4 "is_place" ["ridge", "value"] C_is_place := by
  have nd := (sc_is_place).nd
  refine ⟨f, fd, hm, FD.kp, FD.bindsN fun _ _ _ _ _ _ us hl => match us, hl with | [_, _], _ => rfl, dfnA FD sc_is_place sem_is_place (fun cdv A outer s H E hr => ?_)⟩
  exact (dss_one (ds_ret (de_call F_is_within hr (by rfl) (da_cons (de_var 1) (da_cons (de_ix opd_ix ix_lt (de_ix opd_ix ix_lt (de_var 0) de_int (fun _ _ => rfl)) de_int (fun _ _ => rfl)) (da_cons (de_ix opd_ix ix_lt (de_ix opd_ix ix_lt (de_var 0) (de_un und_neg un_neg de_int) (fun _ _ => rfl)) de_int (fun _ _ => rfl)) da_nil))))))
theorem sc_share_on_slope : FnScope ["ridge", "i", "spot"] ["ridge", "i", "spot"] (defScope (top 32)) := ⟨rfl, rfl, rfl, by decide +kernel, rfl, by decide +kernel, by decide +kernel⟩
theorem F_share_on_slope (FD : FnP K "share_on_slope" (top 32) f fd) (hm : mg "share_on_slope" = some (.ref f)) (F_lessened : Fn P w K mg base 3 "lessened" ["x", "y"] C_lessened) (F_divided : Fn P w K mg base 3 "divided" ["x", "y"] C_divided) : Fn P w K mg base 4 "share_on_slope" ["ridge", "i", "spot"] C_share_on_slope := by
  have nd := (sc_share_on_slope).nd
  refine ⟨f, fd, hm, FD.kp, FD.bindsN fun _ _ _ _ _ _ us hl => match us, hl with | [_, _, _], _ => rfl, dfnA FD sc_share_on_slope sem_share_on_slope (fun cdv A outer s H E hr => ?_)⟩
  exact (dss_one (ds_ret (de_call F_divided hr (by rfl) (da_cons (de_call F_lessened hr (by rfl) (da_cons (de_ix opd_ix ix_lt (de_var 2) de_int (fun _ _ => rfl)) (da_cons (de_ix opd_ix ix_lt (de_ix opd_ix ix_lt (de_var 0) (de_var 1) (fun _ _ => rfl)) de_int (fun _ _ => rfl)) da_nil))) (da_cons (de_call F_lessened hr (by rfl) (da_cons (de_ix opd_ix ix_lt (de_ix opd_ix ix_lt (de_var 0) (de_op opd_add op_add3 (de_var 1) de_int) (fun _ _ => rfl)) de_int (fun _ _ => rfl)) (da_cons (de_ix opd_ix ix_lt (de_ix opd_ix ix_lt (de_var 0) (de_var 1) (fun _ _ => rfl)) de_int (fun _ _ => rfl)) da_nil))) da_nil)))))
theorem sc__law_less : FnScope ["x", "y"] ["x", "y"] (defScope (top 66)) := ⟨rfl, rfl, rfl, by decide +kernel, rfl, by decide +kernel, by decide +kernel⟩
theorem F__law_less (FD : FnP K "_law_less" (top 66) f fd) (hm : mg "_law_less" = some (.ref f)) (F__law_sum : Fn P w K mg base 3 "_law_sum" ["x", "y"] C_law_sum) : Fn P w K mg base 4 "_law_less" ["x", "y"] C_law_less := by
  have nd := (sc__law_less).nd
  refine ⟨f, fd, hm, FD.kp, FD.bindsN fun _ _ _ _ _ _ us hl => match us, hl with | [_, _], _ => rfl, dfnA FD sc__law_less sem_law_less (fun cdv A outer s H E hr => ?_)⟩
  exact (dss_one (ds_ret (de_call F__law_sum hr (by rfl) (da_cons (de_var 0) (da_cons (de_tup (da_cons (de_op opd_I op_sub de_int (de_ix opd_ix ix_lt (de_var 1) de_int (fun _ _ => rfl))) (da_cons (de_ix opd_ix ix_lt (de_var 1) de_int (fun _ _ => rfl)) da_nil))) da_nil)))))
theorem sc__law_draw_height : FnScope ["source", "ridge", "top", "x", "y"] ["source", "ridge"] (defScope (top 74)) := ⟨rfl, rfl, rfl, by decide +kernel, rfl, by decide +kernel, by decide +kernel⟩
theorem F__law_draw_height (FD : FnP K "_law_draw_height" (top 74) f fd) (hm : mg "_law_draw_height" = some (.ref f)) (F__law_pick : Fn P w K mg base 1 "_law_pick" ["source", "most"] C_law_pick) (F__law_fraction : Fn P w K mg base 2 "_law_fraction" ["u", "d"] C_law_fraction) (F__law_most : Fn P w K mg base 2 "_law_most" ["fractions"] C_law_most) (F__law_sum : Fn P w K mg base 3 "_law_sum" ["x", "y"] C_law_sum) : Fn P w K mg base 4 "_law_draw_height" ["source", "ridge"] C_law_draw_height := by
  have nd := (sc__law_draw_height).nd
  refine ⟨f, fd, hm, FD.kp, FD.bindsN fun _ _ _ _ _ _ us hl => match us, hl with | [_, _], _ => rfl, dfnA FD sc__law_draw_height sem_law_draw_height (fun cdv A outer s H E hr => ?_)⟩
  exact (dss_cons (ds_set false nd rfl (by first | exact Or.inl rfl | exact Or.inr rfl) (de_call F__law_most (hr.mono (by decide)) (by rfl) (da_cons (de_lc (own := [("x", 3), ("y", 4)]) rfl nd (di_seq (de_var 1)) (blkOk_by (by kernel_rfl)) (fun _ _ _ _ _ => (dg_t rfl (dgs_cons (dg_n nd rfl (by first | exact Or.inl rfl | exact Or.inr rfl) (by first | exact Or.inl rfl | exact Or.inr rfl)) (dgs_cons (dg_n nd rfl (by first | exact Or.inl rfl | exact Or.inr rfl) (by first | exact Or.inl rfl | exact Or.inr rfl)) dgs_nil)))) (fun _ _ _ _ _ => dts_nil) (fun _ _ _ _ _ => (de_var 4)) (by decide)) da_nil)))
  (dss_cons (ds_if (dt_cmp opd_IB op_gt (de_call F__law_pick (hr.mono (by decide)) (by rfl) (da_cons (de_var 0) (da_cons de_int da_nil))) de_int (nomark _)) (dss_one (ds_ret (de_call F__law_sum hr (by rfl) (da_cons (de_var 2) (da_cons (de_call F__law_fraction (hr.mono (by decide)) (by rfl) (da_cons (de_op opd_add op_add3 de_int (de_call F__law_pick (hr.mono (by decide)) (by rfl) (da_cons (de_var 0) (da_cons de_int da_nil)))) (da_cons (de_ix opd_ix ix_lt (de_lst (da_cons de_int (da_cons de_int (da_cons de_int (da_cons de_int da_nil))))) (de_call F__law_pick (hr.mono (by decide)) (by rfl) (da_cons (de_var 0) (da_cons de_int da_nil))) (fun _ _ => rfl)) da_nil))) da_nil))))) dss_nil)
  (dss_one (ds_ret (de_call F__law_sum hr (by rfl) (da_cons (de_var 2) (da_cons (de_call F__law_fraction (hr.mono (by decide)) (by rfl) (da_cons (de_op opd_add op_add3 de_int (de_call F__law_pick (hr.mono (by decide)) (by rfl) (da_cons (de_var 0) (da_cons de_int da_nil)))) (da_cons (de_ix opd_ix ix_lt (de_lst (da_cons de_int (da_cons de_int (da_cons de_int da_nil)))) (de_call F__law_pick (hr.mono (by decide)) (by rfl) (da_cons (de_var 0) (da_cons de_int da_nil))) (fun _ _ => rfl)) da_nil))) da_nil)))))))
theorem sc_place_at : FnScope ["a", "b", "y"] ["a", "b", "y"] (defScope (top 15)) := ⟨rfl, rfl, rfl, by decide +kernel, rfl, by decide +kernel, by decide +kernel⟩
theorem F_place_at (FD : FnP K "place_at" (top 15) f fd) (hm : mg "place_at" = some (.ref f)) (F_lessened : Fn P w K mg base 3 "lessened" ["x", "y"] C_lessened) (F_divided : Fn P w K mg base 3 "divided" ["x", "y"] C_divided) (F_between : Fn P w K mg base 4 "between" ["x", "y", "t"] C_between) : Fn P w K mg base 5 "place_at" ["a", "b", "y"] C_place_at := by
  have nd := (sc_place_at).nd
  refine ⟨f, fd, hm, FD.kp, FD.bindsN fun _ _ _ _ _ _ us hl => match us, hl with | [_, _, _], _ => rfl, dfnA FD sc_place_at sem_place_at (fun cdv A outer s H E hr => ?_)⟩
  exact (dss_one (ds_ret (de_call F_between hr (by rfl) (da_cons (de_ix opd_ix ix_lt (de_var 0) de_int (fun _ _ => rfl)) (da_cons (de_ix opd_ix ix_lt (de_var 1) de_int (fun _ _ => rfl)) (da_cons (de_call F_divided (hr.mono (by decide)) (by rfl) (da_cons (de_call F_lessened (hr.mono (by decide)) (by rfl) (da_cons (de_var 2) (da_cons (de_ix opd_ix ix_lt (de_var 0) de_int (fun _ _ => rfl)) da_nil))) (da_cons (de_call F_lessened (hr.mono (by decide)) (by rfl) (da_cons (de_ix opd_ix ix_lt (de_var 1) de_int (fun _ _ => rfl)) (da_cons (de_ix opd_ix ix_lt (de_var 0) de_int (fun _ _ => rfl)) da_nil))) da_nil))) da_nil))))))
theorem sc_spot_between : FnScope ["a", "b", "t"] ["a", "b", "t"] (defScope (top 17)) := ⟨rfl, rfl, rfl, by decide +kernel, rfl, by decide +kernel, by decide +kernel⟩
theorem F_spot_between (FD : FnP K "spot_between" (top 17) f fd) (hm : mg "spot_between" = some (.ref f)) (F_between : Fn P w K mg base 4 "between" ["x", "y", "t"] C_between) : Fn P w K mg base 5 "spot_between" ["a", "b", "t"] C_spot_between := by
  have nd := (sc_spot_between).nd
  refine ⟨f, fd, hm, FD.kp, FD.bindsN fun _ _ _ _ _ _ us hl => match us, hl with | [_, _, _], _ => rfl, dfnA FD sc_spot_between sem_spot_between (fun cdv A outer s H E hr => ?_)⟩
  exact (dss_one (ds_ret (de_tup (da_cons (de_call F_between hr (by rfl) (da_cons (de_ix opd_ix ix_lt (de_var 0) de_int (fun _ _ => rfl)) (da_cons (de_ix opd_ix ix_lt (de_var 1) de_int (fun _ _ => rfl)) (da_cons (de_var 2) da_nil)))) (da_cons (de_call F_between hr (by rfl) (da_cons (de_ix opd_ix ix_lt (de_var 0) de_int (fun _ _ => rfl)) (da_cons (de_ix opd_ix ix_lt (de_var 1) de_int (fun _ _ => rfl)) (da_cons (de_var 2) da_nil)))) da_nil)))))
theorem sc_has_cover_form : FnScope ["ridge", "value", "x", "y"] ["ridge", "value"] (defScope (top 57)) := ⟨rfl, rfl, rfl, by decide +kernel, rfl, by decide +kernel, by decide +kernel⟩
theorem F_has_cover_form (FD : FnP K "has_cover_form" (top 57) f fd) (hm : mg "has_cover_form" = some (.ref f)) (F_compared : Fn P w K mg base 1 "compared" ["x", "y"] C_compared) (F_is_place : Fn P w K mg base 4 "is_place" ["ridge", "value"] C_is_place) (gb_all : mg "all" = none) (gb_isinstance : mg "isinstance" = none) (gb_tuple : mg "tuple" = none) (gb_zip : mg "zip" = none) : Fn P w K mg base 5 "has_cover_form" ["ridge", "value"] C_has_cover_form := by
  have nd := (sc_has_cover_form).nd
  refine ⟨f, fd, hm, FD.kp, FD.bindsN fun _ _ _ _ _ _ us hl => match us, hl with | [_, _], _ => rfl, dfnA FD sc_has_cover_form sem_has_cover_form (fun cdv A outer s H E hr => ?_)⟩
  exact (dss_cons (ds_if (dw_or (dt_not (dt_val (de_isTuple (by rfl) gb_isinstance (by rfl) gb_tuple (de_var 1)))) (dw_or1 (dt_not (dt_val (de_callB cd_all (cr_all rfl) (by rfl) gb_all (by decide +kernel) (da_cons (de_lc (own := [("x", 2)]) rfl nd (di_seq (de_var 1)) (blkOk_by (by kernel_rfl)) (fun _ _ _ _ _ => (dg_n nd rfl (by first | exact Or.inl rfl | exact Or.inr rfl) (by first | exact Or.inl rfl | exact Or.inr rfl))) (fun _ _ _ _ _ => dts_nil) (fun _ _ _ _ _ => (de_call F_is_place hr (by rfl) (da_cons (de_var 0) (da_cons (de_var 2) da_nil)))) (by decide)) da_nil)))))).dt (dss_one (ds_ret de_bl)) dss_nil)
  (dss_one (ds_ret (de_callB cd_all (cr_all rfl) (by rfl) gb_all (by decide +kernel) (da_cons (de_lc (own := [("x", 2), ("y", 3)]) rfl nd (di_zipK (by rfl) gb_zip (da_cons (de_var 1) (da_cons (de_sl (de_var 1) (do_some de_int) do_none) da_nil))) (blkOk_by (by kernel_rfl)) (fun _ _ _ _ _ => (dg_t rfl (dgs_cons (dg_n nd rfl (by first | exact Or.inl rfl | exact Or.inr rfl) (by first | exact Or.inl rfl | exact Or.inr rfl)) (dgs_cons (dg_n nd rfl (by first | exact Or.inl rfl | exact Or.inr rfl) (by first | exact Or.inl rfl | exact Or.inr rfl)) dgs_nil)))) (fun _ _ _ _ _ => dts_nil) (fun _ _ _ _ _ => (de_cmp opd_IB op_lt (de_call F_compared (hr.mono (by decide)) (by rfl) (da_cons (de_var 2) (da_cons (de_var 3) da_nil))) de_int (nomark _))) (by decide)) da_nil)))))
theorem sc__law_spot : FnScope ["ridge", "i", "t", "x0", "y0", "x1", "y1"] ["ridge", "i", "t"] (defScope (top 71)) := ⟨rfl, rfl, rfl, by decide +kernel, rfl, by decide +kernel, by decide +kernel⟩
theorem F__law_spot (FD : FnP K "_law_spot" (top 71) f fd) (hm : mg "_law_spot" = some (.ref f)) (F__law_sum : Fn P w K mg base 3 "_law_sum" ["x", "y"] C_law_sum) (F__law_times : Fn P w K mg base 3 "_law_times" ["x", "y"] C_law_times) (F__law_less : Fn P w K mg base 4 "_law_less" ["x", "y"] C_law_less) : Fn P w K mg base 5 "_law_spot" ["ridge", "i", "t"] C_law_spot := by
  have nd := (sc__law_spot).nd
  refine ⟨f, fd, hm, FD.kp, FD.bindsN fun _ _ _ _ _ _ us hl => match us, hl with | [_, _, _], _ => rfl, dfnA FD sc__law_spot sem_law_spot (fun cdv A outer s H E hr => ?_)⟩
  exact (dss_cons (ds_asg (de_tup (da_cons (de_ix opd_ix ix_lt (de_var 0) (de_var 1) (fun _ _ => rfl)) (da_cons (de_ix opd_ix ix_lt (de_var 0) (de_op opd_add op_add3 (de_var 1) de_int) (fun _ _ => rfl)) da_nil))) (dg_t rfl (dgs_cons (dg_t rfl (dgs_cons (dg_n nd rfl (by first | exact Or.inl rfl | exact Or.inr rfl) (by first | exact Or.inl rfl | exact Or.inr rfl)) (dgs_cons (dg_n nd rfl (by first | exact Or.inl rfl | exact Or.inr rfl) (by first | exact Or.inl rfl | exact Or.inr rfl)) dgs_nil))) (dgs_cons (dg_t rfl (dgs_cons (dg_n nd rfl (by first | exact Or.inl rfl | exact Or.inr rfl) (by first | exact Or.inl rfl | exact Or.inr rfl)) (dgs_cons (dg_n nd rfl (by first | exact Or.inl rfl | exact Or.inr rfl) (by first | exact Or.inl rfl | exact Or.inr rfl)) dgs_nil))) dgs_nil))))
  (dss_one (ds_ret (de_tup (da_cons (de_call F__law_sum (hr.mono (by decide)) (by rfl) (da_cons (de_var 3) (da_cons (de_call F__law_times (hr.mono (by decide)) (by rfl) (da_cons (de_var 2) (da_cons (de_call F__law_less hr (by rfl) (da_cons (de_var 5) (da_cons (de_var 3) da_nil))) da_nil))) da_nil))) (da_cons (de_call F__law_sum (hr.mono (by decide)) (by rfl) (da_cons (de_var 4) (da_cons (de_call F__law_times (hr.mono (by decide)) (by rfl) (da_cons (de_var 2) (da_cons (de_call F__law_less hr (by rfl) (da_cons (de_var 6) (da_cons (de_var 4) da_nil))) da_nil))) da_nil))) da_nil))))))
theorem sc__law_reach : FnScope ["ridge", "height", "spot", "lows", "highs", "up", "far", "x", "y"] ["ridge", "height", "spot"] (defScope (top 72)) := ⟨rfl, rfl, rfl, by decide +kernel, rfl, by decide +kernel, by decide +kernel⟩
theorem F__law_reach (FD : FnP K "_law_reach" (top 72) f fd) (hm : mg "_law_reach" = some (.ref f)) (F__law_below : Fn P w K mg base 1 "_law_below" ["x", "y"] C_law_below) (F__law_least : Fn P w K mg base 2 "_law_least" ["fractions"] C_law_least) (F__law_most : Fn P w K mg base 2 "_law_most" ["fractions"] C_law_most) (F__law_sum : Fn P w K mg base 3 "_law_sum" ["x", "y"] C_law_sum) (F__law_times : Fn P w K mg base 3 "_law_times" ["x", "y"] C_law_times) (F__law_over : Fn P w K mg base 3 "_law_over" ["x", "y"] C_law_over) (F__law_less : Fn P w K mg base 4 "_law_less" ["x", "y"] C_law_less) : Fn P w K mg base 5 "_law_reach" ["ridge", "height", "spot"] C_law_reach := by
  have nd := (sc__law_reach).nd
  refine ⟨f, fd, hm, FD.kp, FD.bindsN fun _ _ _ _ _ _ us hl => match us, hl with | [_, _, _], _ => rfl, dfnA FD sc__law_reach sem_law_reach (fun cdv A outer s H E hr => ?_)⟩
  exact (dss_cons (ds_par3 true true false rfl nd rfl rfl rfl (by decide) (by decide) (by decide) rfl rfl rfl (da_cons (de_lst (da_cons (de_ix opd_ix ix_lt (de_ix opd_ix ix_lt (de_var 0) de_int (fun _ _ => rfl)) de_int (fun _ _ => rfl)) da_nil)) (da_cons (de_lst (da_cons (de_ix opd_ix ix_lt (de_ix opd_ix ix_lt (de_var 0) (de_un und_neg un_neg de_int) (fun _ _ => rfl)) de_int (fun _ _ => rfl)) da_nil)) (da_cons (de_call F__law_less hr (by rfl) (da_cons (de_var 1) (da_cons (de_ix opd_ix ix_lt (de_var 2) de_int (fun _ _ => rfl)) da_nil))) da_nil))) rfl)
  (dss_cons (ds_for PassesOwn.never rfl (di_seqF (de_var 0)) (dg_t rfl (dgs_cons (dg_n nd rfl (by first | exact Or.inl rfl | exact Or.inr rfl) (by first | exact Or.inl rfl | exact Or.inr rfl)) (dgs_cons (dg_n nd rfl (by first | exact Or.inl rfl | exact Or.inr rfl) (by first | exact Or.inl rfl | exact Or.inr rfl)) dgs_nil))) (dss_one (ds_if (dw_and (dt_val (de_call F__law_below (hr.mono (by decide)) (by rfl) (da_cons (de_ix opd_ix ix_lt (de_var 2) de_int (fun _ _ => rfl)) (da_cons (de_var 8) da_nil)))) (dw_and1 (dt_cmp opd_ne (op_neD hr.units) (de_var 7) (de_ix opd_ix ix_lt (de_var 2) de_int (fun _ _ => rfl)) (nomark _)))).dt (dss_cons (ds_set false nd rfl (by first | exact Or.inl rfl | exact Or.inr rfl) (de_call F__law_sum (hr.mono (by decide)) (by rfl) (da_cons (de_ix opd_ix ix_lt (de_var 2) de_int (fun _ _ => rfl)) (da_cons (de_call F__law_over (hr.mono (by decide)) (by rfl) (da_cons (de_call F__law_times (hr.mono (by decide)) (by rfl) (da_cons (de_var 5) (da_cons (de_call F__law_less hr (by rfl) (da_cons (de_var 7) (da_cons (de_ix opd_ix ix_lt (de_var 2) de_int (fun _ _ => rfl)) da_nil))) da_nil))) (da_cons (de_call F__law_less hr (by rfl) (da_cons (de_var 8) (da_cons (de_ix opd_ix ix_lt (de_var 2) de_int (fun _ _ => rfl)) da_nil))) da_nil))) da_nil))))
  (dss_one (ds_if (dt_val (de_call F__law_below (hr.mono (by decide)) (by rfl) (da_cons (de_ix opd_ix ix_lt (de_var 2) de_int (fun _ _ => rfl)) (da_cons (de_var 7) da_nil)))) (dss_one (ds_meth (name := "append") (id := "list.append") md_app rfl (by first | exact Or.inl rfl | exact Or.inr (Or.inl rfl) | exact Or.inr (Or.inr rfl)) (by decide) (by decide) (da_cons (de_var 6) da_nil) (fun h => pe_bm PySem.F.plainAttrs_list PySem.F.slot_list_append PySem.F.type_list_append mt_append (pv 4) h))) (dss_one (ds_meth (name := "append") (id := "list.append") md_app rfl (by first | exact Or.inl rfl | exact Or.inr (Or.inl rfl) | exact Or.inr (Or.inr rfl)) (by decide) (by decide) (da_cons (de_var 6) da_nil) (fun h => pe_bm PySem.F.plainAttrs_list PySem.F.slot_list_append PySem.F.type_list_append mt_append (pv 3) h)))))) dss_nil)))
  (dss_one (ds_ret (de_tup (da_cons (de_call F__law_most (hr.mono (by decide)) (by rfl) (da_cons (de_var 3) da_nil)) (da_cons (de_call F__law_least (hr.mono (by decide)) (by rfl) (da_cons (de_var 4) da_nil)) da_nil)))))))
theorem sc_crossing : FnScope ["a", "b", "c", "d", "here", "there"] ["a", "b", "c", "d"] (defScope (top 16)) := ⟨rfl, rfl, rfl, by decide +kernel, rfl, by decide +kernel, by decide +kernel⟩
theorem F_crossing (FD : FnP K "crossing" (top 16) f fd) (hm : mg "crossing" = some (.ref f)) (F_lessened : Fn P w K mg base 3 "lessened" ["x", "y"] C_lessened) (F_divided : Fn P w K mg base 3 "divided" ["x", "y"] C_divided) (F_turned_by : Fn P w K mg base 4 "turned_by" ["a", "b", "c"] C_turned_by) (F_spot_between : Fn P w K mg base 5 "spot_between" ["a", "b", "t"] C_spot_between) : Fn P w K mg base 6 "crossing" ["a", "b", "c", "d"] C_crossing := by
  have nd := (sc_crossing).nd
  refine ⟨f, fd, hm, FD.kp, FD.bindsN fun _ _ _ _ _ _ us hl => match us, hl with | [_, _, _, _], _ => rfl, dfnA FD sc_crossing sem_crossing (fun cdv A outer s H E hr => ?_)⟩
  exact (dss_cons (ds_par2 false false rfl nd rfl rfl (by decide) rfl rfl (da_cons (de_call F_turned_by (hr.mono (by decide)) (by rfl) (da_cons (de_var 2) (da_cons (de_var 3) (da_cons (de_var 0) da_nil)))) (da_cons (de_call F_turned_by (hr.mono (by decide)) (by rfl) (da_cons (de_var 2) (da_cons (de_var 3) (da_cons (de_var 1) da_nil)))) da_nil)) rfl)
  (dss_cons (ds_if (dt_cmp opd_eq (op_eqD hr.units) (de_var 4) (de_var 5) (nomark _)) (dss_one (ds_ret de_non)) dss_nil)
  (dss_one (ds_ret (de_call F_spot_between hr (by rfl) (da_cons (de_var 0) (da_cons (de_var 1) (da_cons (de_call F_divided (hr.mono (by decide)) (by rfl) (da_cons (de_var 4) (da_cons (de_call F_lessened (hr.mono (by decide)) (by rfl) (da_cons (de_var 4) (da_cons (de_var 5) da_nil))) da_nil))) da_nil))))))))
theorem sc_spot_of : FnScope ["ridge", "ground", "i", "t"] ["ridge", "ground"] (defScope (top 21)) := ⟨rfl, rfl, rfl, by decide +kernel, rfl, by decide +kernel, by decide +kernel⟩
theorem F_spot_of (FD : FnP K "spot_of" (top 21) f fd) (hm : mg "spot_of" = some (.ref f)) (F_spot_between : Fn P w K mg base 5 "spot_between" ["a", "b", "t"] C_spot_between) : Fn P w K mg base 6 "spot_of" ["ridge", "ground"] C_spot_of := by
  have nd := (sc_spot_of).nd
  refine ⟨f, fd, hm, FD.kp, FD.bindsN fun _ _ _ _ _ _ us hl => match us, hl with | [_, _], _ => rfl, dfnA FD sc_spot_of sem_spot_of (fun cdv A outer s H E hr => ?_)⟩
  exact (dss_cons (ds_asg (de_var 1) (dg_t rfl (dgs_cons (dg_n nd rfl (by first | exact Or.inl rfl | exact Or.inr rfl) (by first | exact Or.inl rfl | exact Or.inr rfl)) (dgs_cons (dg_n nd rfl (by first | exact Or.inl rfl | exact Or.inr rfl) (by first | exact Or.inl rfl | exact Or.inr rfl)) dgs_nil))))
  (dss_one (ds_ret (de_call F_spot_between hr (by rfl) (da_cons (de_ix opd_ix ix_lt (de_var 0) (de_var 2) (fun _ _ => rfl)) (da_cons (de_ix opd_ix ix_lt (de_var 0) (de_op opd_add op_add3 (de_var 2) de_int) (fun _ _ => rfl)) (da_cons (de_var 3) da_nil)))))))
theorem sc_own_sight : FnScope ["ridge", "h", "i"] ["ridge", "h", "i"] (defScope (top 30)) := ⟨rfl, rfl, rfl, by decide +kernel, rfl, by decide +kernel, by decide +kernel⟩
theorem F_own_sight (FD : FnP K "own_sight" (top 30) f fd) (hm : mg "own_sight" = some (.ref f)) (F_compared : Fn P w K mg base 1 "compared" ["x", "y"] C_compared) (F_place_at : Fn P w K mg base 5 "place_at" ["a", "b", "y"] C_place_at) : Fn P w K mg base 6 "own_sight" ["ridge", "h", "i"] C_own_sight := by
  have nd := (sc_own_sight).nd
  refine ⟨f, fd, hm, FD.kp, FD.bindsN fun _ _ _ _ _ _ us hl => match us, hl with | [_, _, _], _ => rfl, dfnA FD sc_own_sight sem_own_sight (fun cdv A outer s H E hr => ?_)⟩
  exact (dss_cons (ds_if (dt_cmp opd_eq (op_eqD hr.units) (de_call F_compared (hr.mono (by decide)) (by rfl) (da_cons (de_ix opd_ix ix_lt (de_ix opd_ix ix_lt (de_var 0) (de_var 2) (fun _ _ => rfl)) de_int (fun _ _ => rfl)) (da_cons (de_ix opd_ix ix_lt (de_ix opd_ix ix_lt (de_var 0) (de_op opd_add op_add3 (de_var 2) de_int) (fun _ _ => rfl)) de_int (fun _ _ => rfl)) da_nil))) de_int (nomark _)) (dss_one (ds_ret de_non)) dss_nil)
  (dss_one (ds_ret (de_call F_place_at hr (by rfl) (da_cons (de_ix opd_ix ix_lt (de_var 0) (de_var 2) (fun _ _ => rfl)) (da_cons (de_ix opd_ix ix_lt (de_var 0) (de_op opd_add op_add3 (de_var 2) de_int) (fun _ _ => rfl)) (da_cons (de_var 1) da_nil)))))))
theorem sc_sight_places : FnScope ["ridge", "h", "g", "spot", "left", "right", "k", "corner"] ["ridge", "h", "g"] (defScope (top 26)) := ⟨rfl, rfl, rfl, by decide +kernel, rfl, by decide +kernel, by decide +kernel⟩
theorem F_sight_places (FD : FnP K "sight_places" (top 26) f fd) (hm : mg "sight_places" = some (.ref f)) (F_is_under : Fn P w K mg base 2 "is_under" ["x", "y"] C_is_under) (F_place_at : Fn P w K mg base 5 "place_at" ["a", "b", "y"] C_place_at) (F_spot_of : Fn P w K mg base 6 "spot_of" ["ridge", "ground"] C_spot_of) (gb_enumerate : mg "enumerate" = none) : Fn P w K mg base 7 "sight_places" ["ridge", "h", "g"] C_sight_places := by
  have nd := (sc_sight_places).nd
  refine ⟨f, fd, hm, FD.kp, FD.bindsN fun _ _ _ _ _ _ us hl => match us, hl with | [_, _, _], _ => rfl, dfnB FD sc_sight_places sem_sight_places (fun cdv A outer s H E hr => ?_)⟩
  exact (dss_cons (ds_par3 false true true rfl nd rfl rfl rfl (by decide) (by decide) (by decide) rfl rfl rfl (da_cons (de_call F_spot_of hr (by rfl) (da_cons (de_var 0) (da_cons (de_var 2) da_nil))) (da_cons (de_lst da_nil) (da_cons (de_lst da_nil) da_nil))) rfl)
  (dss_cons (ds_for PassesOwn.never rfl (di_enum (by rfl) gb_enumerate (da_cons (de_var 0) da_nil)) (dg_t rfl (dgs_cons (dg_n nd rfl (by first | exact Or.inl rfl | exact Or.inr rfl) (by first | exact Or.inl rfl | exact Or.inr rfl)) (dgs_cons (dg_n nd rfl (by first | exact Or.inl rfl | exact Or.inr rfl) (by first | exact Or.inl rfl | exact Or.inr rfl)) dgs_nil))) (dss_one (ds_if (dt_val (de_call F_is_under (hr.mono (by decide)) (by rfl) (da_cons (de_ix opd_ix ix_lt (de_var 3) de_int (fun _ _ => rfl)) (da_cons (de_ix opd_ix ix_lt (de_var 7) de_int (fun _ _ => rfl)) da_nil)))) (dss_one (ds_if (dt_val (de_call F_is_under (hr.mono (by decide)) (by rfl) (da_cons (de_ix opd_ix ix_lt (de_var 7) de_int (fun _ _ => rfl)) (da_cons (de_ix opd_ix ix_lt (de_var 3) de_int (fun _ _ => rfl)) da_nil)))) (dss_one (ds_meth (name := "append") (id := "list.append") md_app rfl (by first | exact Or.inl rfl | exact Or.inr (Or.inl rfl) | exact Or.inr (Or.inr rfl)) (by decide) (by decide) (da_cons (de_tup (da_cons (de_call F_place_at (hr.mono (by decide)) (by rfl) (da_cons (de_var 3) (da_cons (de_var 7) (da_cons (de_var 1) da_nil)))) (da_cons (de_var 6) da_nil))) da_nil) (fun h => pe_bm PySem.F.plainAttrs_list PySem.F.slot_list_append PySem.F.type_list_append mt_append (pv 4) h))) (dss_one (ds_if (dt_val (de_call F_is_under (hr.mono (by decide)) (by rfl) (da_cons (de_ix opd_ix ix_lt (de_var 3) de_int (fun _ _ => rfl)) (da_cons (de_ix opd_ix ix_lt (de_var 7) de_int (fun _ _ => rfl)) da_nil)))) (dss_one (ds_meth (name := "append") (id := "list.append") md_app rfl (by first | exact Or.inl rfl | exact Or.inr (Or.inl rfl) | exact Or.inr (Or.inr rfl)) (by decide) (by decide) (da_cons (de_tup (da_cons (de_call F_place_at (hr.mono (by decide)) (by rfl) (da_cons (de_var 3) (da_cons (de_var 7) (da_cons (de_var 1) da_nil)))) (da_cons (de_var 6) da_nil))) da_nil) (fun h => pe_bm PySem.F.plainAttrs_list PySem.F.slot_list_append PySem.F.type_list_append mt_append (pv 5) h))) dss_nil)))) dss_nil)))
  (dss_one (ds_ret (de_tup (da_cons (de_var 4) (da_cons (de_var 5) da_nil)))))))
theorem sc_turning_shares : FnScope ["ridge", "i", "spots", "found", "meet", "t", "other", "j", "one"] ["ridge", "i", "spots"] (defScope (top 33)) := ⟨rfl, rfl, rfl, by decide +kernel, rfl, by decide +kernel, by decide +kernel⟩
theorem F_turning_shares (FD : FnP K "turning_shares" (top 33) f fd) (hm : mg "turning_shares" = some (.ref f)) (F_is_under : Fn P w K mg base 2 "is_under" ["x", "y"] C_is_under) (F_ascending_fractions : Fn P w K mg base 3 "ascending_fractions" ["some"] C_ascending_fractions) (F_share_on_slope : Fn P w K mg base 4 "share_on_slope" ["ridge", "i", "spot"] C_share_on_slope) (F_crossing : Fn P w K mg base 6 "crossing" ["a", "b", "c", "d"] C_crossing) (gb_enumerate : mg "enumerate" = none) (gb_list : mg "list" = none) : Fn P w K mg base 7 "turning_shares" ["ridge", "i", "spots"] C_turning_shares := by
  have nd := (sc_turning_shares).nd
  refine ⟨f, fd, hm, FD.kp, FD.bindsN fun _ _ _ _ _ _ us hl => match us, hl with | [_, _, _], _ => rfl, dfnA FD sc_turning_shares sem_turning_shares (fun cdv A outer s H E hr => ?_)⟩
  exact (dss_cons (ds_dict hr.units0 nd rfl (by first | exact Or.inl rfl | exact Or.inr rfl) (de_tup (da_cons de_int (da_cons de_int da_nil))) (de_tup (da_cons de_int (da_cons de_int da_nil))))
  (dss_cons (ds_for PassesOwn.never rfl (di_enum (by rfl) gb_enumerate (da_cons (de_var 2) da_nil)) (dg_t rfl (dgs_cons (dg_n nd rfl (by first | exact Or.inl rfl | exact Or.inr rfl) (by first | exact Or.inl rfl | exact Or.inr rfl)) (dgs_cons (dg_n nd rfl (by first | exact Or.inl rfl | exact Or.inr rfl) (by first | exact Or.inl rfl | exact Or.inr rfl)) dgs_nil))) (dss_one (ds_for PassesOwn.never rfl (di_seqF (de_sl (de_var 2) do_none (do_some (de_var 7)))) (dg_n nd rfl (by first | exact Or.inl rfl | exact Or.inr rfl) (by first | exact Or.inl rfl | exact Or.inr rfl)) (dss_cons (ds_set false nd rfl (by first | exact Or.inl rfl | exact Or.inr rfl) (de_call F_crossing hr (by rfl) (da_cons (de_var 8) (da_cons (de_var 6) (da_cons (de_ix opd_ix ix_lt (de_var 0) (de_var 1) (fun _ _ => rfl)) (da_cons (de_ix opd_ix ix_lt (de_var 0) (de_op opd_add op_add3 (de_var 1) de_int) (fun _ _ => rfl)) da_nil))))))
  (dss_one (ds_if (dt_cmp opd_notN op_notN (de_var 4) de_non (nomark _)) (dss_cons (ds_set false nd rfl (by first | exact Or.inl rfl | exact Or.inr rfl) (de_call F_share_on_slope (hr.mono (by decide)) (by rfl) (da_cons (de_var 0) (da_cons (de_var 1) (da_cons (de_var 4) da_nil)))))
  (dss_one (ds_if (dw_and (dt_val (de_call F_is_under (hr.mono (by decide)) (by rfl) (da_cons (de_tup (da_cons de_int (da_cons de_int da_nil))) (da_cons (de_var 5) da_nil)))) (dw_and1 (dt_val (de_call F_is_under (hr.mono (by decide)) (by rfl) (da_cons (de_var 5) (da_cons (de_tup (da_cons de_int (da_cons de_int da_nil))) da_nil)))))).dt (dss_one (ds_put rfl (by first | exact Or.inl rfl | exact Or.inr (Or.inl rfl) | exact Or.inr (Or.inr rfl)) (by decide) (by decide) (hu1 hr) (de_var 5))) dss_nil))) dss_nil))))))
  (dss_one (ds_ret (de_call F_ascending_fractions (hr.mono (by decide)) (by rfl) (da_cons (de_keys 3 (by rfl) gb_list) da_nil))))))
theorem sc_share_seen : FnScope ["ridge", "h", "i", "x", "c"] ["ridge", "h", "i", "x", "c"] (defScope (top 38)) := ⟨rfl, rfl, rfl, by decide +kernel, rfl, by decide +kernel, by decide +kernel⟩
theorem F_share_seen (FD : FnP K "share_seen" (top 38) f fd) (hm : mg "share_seen" = some (.ref f)) (F_share_on_slope : Fn P w K mg base 4 "share_on_slope" ["ridge", "i", "spot"] C_share_on_slope) (F_crossing : Fn P w K mg base 6 "crossing" ["a", "b", "c", "d"] C_crossing) : Fn P w K mg base 7 "share_seen" ["ridge", "h", "i", "x", "c"] C_share_seen := by
  have nd := (sc_share_seen).nd
  refine ⟨f, fd, hm, FD.kp, FD.bindsN fun _ _ _ _ _ _ us hl => match us, hl with | [_, _, _, _, _], _ => rfl, dfnA FD sc_share_seen sem_share_seen (fun cdv A outer s H E hr => ?_)⟩
  exact (dss_one (ds_ret (de_call F_share_on_slope (hr.mono (by decide)) (by rfl) (da_cons (de_var 0) (da_cons (de_var 2) (da_cons (de_call F_crossing hr (by rfl) (da_cons (de_tup (da_cons (de_var 3) (da_cons (de_var 1) da_nil))) (da_cons (de_ix opd_ix ix_lt (de_var 0) (de_var 4) (fun _ _ => rfl)) (da_cons (de_ix opd_ix ix_lt (de_var 0) (de_var 2) (fun _ _ => rfl)) (da_cons (de_ix opd_ix ix_lt (de_var 0) (de_op opd_add op_add3 (de_var 2) de_int) (fun _ _ => rfl)) da_nil))))) da_nil))))))
theorem sc_reach : FnScope ["ridge", "h", "g", "left", "right", "first", "last", "low", "place", "k"] ["ridge", "h", "g"] (defScope (top 27)) := ⟨rfl, rfl, rfl, by decide +kernel, rfl, by decide +kernel, by decide +kernel⟩
theorem F_reach (FD : FnP K "reach" (top 27) f fd) (hm : mg "reach" = some (.ref f)) (F_line_of : Fn P w K mg base 1 "line_of" ["ridge"] C_line_of) (F_least_of : Fn P w K mg base 2 "least_of" ["some"] C_least_of) (F_greatest_of : Fn P w K mg base 2 "greatest_of" ["some"] C_greatest_of) (F_sight_places : Fn P w K mg base 7 "sight_places" ["ridge", "h", "g"] C_sight_places) : Fn P w K mg base 8 "reach" ["ridge", "h", "g"] C_reach := by
  have nd := (sc_reach).nd
  refine ⟨f, fd, hm, FD.kp, FD.bindsN fun _ _ _ _ _ _ us hl => match us, hl with | [_, _, _], _ => rfl, dfnA FD sc_reach sem_reach (fun cdv A outer s H E hr => ?_)⟩
  exact (dss_cons (ds_asg (de_call F_sight_places hr (by rfl) (da_cons (de_var 0) (da_cons (de_var 1) (da_cons (de_var 2) da_nil)))) (dg_t rfl (dgs_cons (dg_n nd rfl (by first | exact Or.inl rfl | exact Or.inr rfl) (by first | exact Or.inl rfl | exact Or.inr rfl)) (dgs_cons (dg_n nd rfl (by first | exact Or.inl rfl | exact Or.inr rfl) (by first | exact Or.inl rfl | exact Or.inr rfl)) dgs_nil))))
  (dss_cons (ds_asg (de_call F_line_of (hr.mono (by decide)) (by rfl) (da_cons (de_var 0) da_nil)) (dg_t rfl (dgs_cons (dg_n nd rfl (by first | exact Or.inl rfl | exact Or.inr rfl) (by first | exact Or.inl rfl | exact Or.inr rfl)) (dgs_cons (dg_n nd rfl (by first | exact Or.inl rfl | exact Or.inr rfl) (by first | exact Or.inl rfl | exact Or.inr rfl)) dgs_nil))))
  (dss_cons (ds_set false nd rfl (by first | exact Or.inl rfl | exact Or.inr rfl) (de_call F_greatest_of (hr.mono (by decide)) (by rfl) (da_cons (de_tup (da_cons (de_var 5) (da_star (de_lc (own := [("place", 8), ("k", 9)]) rfl nd (di_seq (de_var 3)) (blkOk_by (by kernel_rfl)) (fun _ _ _ _ _ => (dg_t rfl (dgs_cons (dg_n nd rfl (by first | exact Or.inl rfl | exact Or.inr rfl) (by first | exact Or.inl rfl | exact Or.inr rfl)) (dgs_cons (dg_n nd rfl (by first | exact Or.inl rfl | exact Or.inr rfl) (by first | exact Or.inl rfl | exact Or.inr rfl)) dgs_nil)))) (fun _ _ _ _ _ => dts_nil) (fun _ _ _ _ _ => (de_var 8)) (by decide)) da_nil))) da_nil)))
  (dss_one (ds_ret (de_tup (da_cons (de_var 7) (da_cons (de_call F_least_of (hr.mono (by decide)) (by rfl) (da_cons (de_tup (da_cons (de_var 6) (da_star (de_lc (own := [("place", 8), ("k", 9)]) rfl nd (di_seq (de_var 4)) (blkOk_by (by kernel_rfl)) (fun _ _ _ _ _ => (dg_t rfl (dgs_cons (dg_n nd rfl (by first | exact Or.inl rfl | exact Or.inr rfl) (by first | exact Or.inl rfl | exact Or.inr rfl)) (dgs_cons (dg_n nd rfl (by first | exact Or.inl rfl | exact Or.inr rfl) (by first | exact Or.inl rfl | exact Or.inr rfl)) dgs_nil)))) (fun _ _ _ _ _ => dts_nil) (fun _ _ _ _ _ => (de_var 8)) (by decide)) da_nil))) da_nil)) da_nil))))))))
theorem sc_bar_corners : FnScope ["ridge", "h", "g", "left", "right", "low", "high", "here", "there", "place", "k"] ["ridge", "h", "g"] (defScope (top 28)) := ⟨rfl, rfl, rfl, by decide +kernel, rfl, by decide +kernel, by decide +kernel⟩
theorem F_bar_corners (FD : FnP K "bar_corners" (top 28) f fd) (hm : mg "bar_corners" = some (.ref f)) (F_compared : Fn P w K mg base 1 "compared" ["x", "y"] C_compared) (F_sight_places : Fn P w K mg base 7 "sight_places" ["ridge", "h", "g"] C_sight_places) (F_reach : Fn P w K mg base 8 "reach" ["ridge", "h", "g"] C_reach) (gb_max : mg "max" = none) (gb_min : mg "min" = none) : Fn P w K mg base 9 "bar_corners" ["ridge", "h", "g"] C_bar_corners := by
  have nd := (sc_bar_corners).nd
  refine ⟨f, fd, hm, FD.kp, FD.bindsN fun _ _ _ _ _ _ us hl => match us, hl with | [_, _, _], _ => rfl, dfnA FD sc_bar_corners sem_bar_corners (fun cdv A outer s H E hr => ?_)⟩
  exact (dss_cons (ds_asg (de_call F_sight_places (hr.mono (by decide)) (by rfl) (da_cons (de_var 0) (da_cons (de_var 1) (da_cons (de_var 2) da_nil)))) (dg_t rfl (dgs_cons (dg_n nd rfl (by first | exact Or.inl rfl | exact Or.inr rfl) (by first | exact Or.inl rfl | exact Or.inr rfl)) (dgs_cons (dg_n nd rfl (by first | exact Or.inl rfl | exact Or.inr rfl) (by first | exact Or.inl rfl | exact Or.inr rfl)) dgs_nil))))
  (dss_cons (ds_asg (de_call F_reach hr (by rfl) (da_cons (de_var 0) (da_cons (de_var 1) (da_cons (de_var 2) da_nil)))) (dg_t rfl (dgs_cons (dg_n nd rfl (by first | exact Or.inl rfl | exact Or.inr rfl) (by first | exact Or.inl rfl | exact Or.inr rfl)) (dgs_cons (dg_n nd rfl (by first | exact Or.inl rfl | exact Or.inr rfl) (by first | exact Or.inl rfl | exact Or.inr rfl)) dgs_nil))))
  (dss_cons (ds_setLc false (own := [("place", 9), ("k", 10)]) rfl nd rfl rfl (sw_true rfl rfl rfl (by decide +kernel)) (di_seq (de_var 3)) (blkOk_by (by kernel_rfl)) (fun _ _ _ _ _ => (dg_t rfl (dgs_cons (dg_n nd rfl (by first | exact Or.inl rfl | exact Or.inr rfl) (by first | exact Or.inl rfl | exact Or.inr rfl)) (dgs_cons (dg_n nd rfl (by first | exact Or.inl rfl | exact Or.inr rfl) (by first | exact Or.inl rfl | exact Or.inr rfl)) dgs_nil)))) (fun _ _ _ _ _ => (dts_one (dt_cmp opd_eq (op_eqD hr.units) (de_call F_compared (hr.mono (by decide)) (by rfl) (da_cons (de_var 9) (da_cons (de_var 5) da_nil))) de_int (nomark _)))) (fun _ _ _ _ _ => (de_var 10)) (by decide))
  (dss_cons (ds_setLc false (own := [("place", 9), ("k", 10)]) rfl nd rfl rfl (sw_true rfl rfl rfl (by decide +kernel)) (di_seq (de_var 4)) (blkOk_by (by kernel_rfl)) (fun _ _ _ _ _ => (dg_t rfl (dgs_cons (dg_n nd rfl (by first | exact Or.inl rfl | exact Or.inr rfl) (by first | exact Or.inl rfl | exact Or.inr rfl)) (dgs_cons (dg_n nd rfl (by first | exact Or.inl rfl | exact Or.inr rfl) (by first | exact Or.inl rfl | exact Or.inr rfl)) dgs_nil)))) (fun _ _ _ _ _ => (dts_one (dt_cmp opd_eq (op_eqD hr.units) (de_call F_compared (hr.mono (by decide)) (by rfl) (da_cons (de_var 9) (da_cons (de_var 6) da_nil))) de_int (nomark _)))) (fun _ _ _ _ _ => (de_var 10)) (by decide))
  (dss_one (ds_ret (de_tup (da_cons (de_if (dt_truth (de_var 7)) (de_callB cd_max (cr_max rfl) (by rfl) gb_max (by decide +kernel) (da_cons (de_var 7) da_nil)) de_non) (da_cons (de_if (dt_truth (de_var 8)) (de_callB cd_min (cr_min rfl) (by rfl) gb_min (by decide +kernel) (da_cons (de_var 8) da_nil)) de_non) da_nil)))))))))
theorem sc_slope_reach : FnScope ["ridge", "h", "i", "t", "low", "high", "own", "rise"] ["ridge", "h", "i", "t"] (defScope (top 31)) := ⟨rfl, rfl, rfl, by decide +kernel, rfl, by decide +kernel, by decide +kernel⟩
theorem F_slope_reach (FD : FnP K "slope_reach" (top 31) f fd) (hm : mg "slope_reach" = some (.ref f)) (F_compared : Fn P w K mg base 1 "compared" ["x", "y"] C_compared) (F_least_of : Fn P w K mg base 2 "least_of" ["some"] C_least_of) (F_greatest_of : Fn P w K mg base 2 "greatest_of" ["some"] C_greatest_of) (F_own_sight : Fn P w K mg base 6 "own_sight" ["ridge", "h", "i"] C_own_sight) (F_reach : Fn P w K mg base 8 "reach" ["ridge", "h", "g"] C_reach) : Fn P w K mg base 9 "slope_reach" ["ridge", "h", "i", "t"] C_slope_reach := by
  have nd := (sc_slope_reach).nd
  refine ⟨f, fd, hm, FD.kp, FD.bindsN fun _ _ _ _ _ _ us hl => match us, hl with | [_, _, _, _], _ => rfl, dfnA FD sc_slope_reach sem_slope_reach (fun cdv A outer s H E hr => ?_)⟩
  exact (dss_cons (ds_asg (de_call F_reach hr (by rfl) (da_cons (de_var 0) (da_cons (de_var 1) (da_cons (de_tup (da_cons (de_var 2) (da_cons (de_var 3) da_nil))) da_nil)))) (dg_t rfl (dgs_cons (dg_n nd rfl (by first | exact Or.inl rfl | exact Or.inr rfl) (by first | exact Or.inl rfl | exact Or.inr rfl)) (dgs_cons (dg_n nd rfl (by first | exact Or.inl rfl | exact Or.inr rfl) (by first | exact Or.inl rfl | exact Or.inr rfl)) dgs_nil))))
  (dss_cons (ds_par2 false false rfl nd rfl rfl (by decide) rfl rfl (da_cons (de_call F_own_sight (hr.mono (by decide)) (by rfl) (da_cons (de_var 0) (da_cons (de_var 1) (da_cons (de_var 2) da_nil)))) (da_cons (de_call F_compared (hr.mono (by decide)) (by rfl) (da_cons (de_ix opd_ix ix_lt (de_ix opd_ix ix_lt (de_var 0) (de_op opd_add op_add3 (de_var 2) de_int) (fun _ _ => rfl)) de_int (fun _ _ => rfl)) (da_cons (de_ix opd_ix ix_lt (de_ix opd_ix ix_lt (de_var 0) (de_var 2) (fun _ _ => rfl)) de_int (fun _ _ => rfl)) da_nil))) da_nil)) rfl)
  (dss_cons (ds_if (dt_cmp opd_IB op_lt (de_var 7) de_int (nomark _)) (dss_one (ds_set false nd rfl (by first | exact Or.inl rfl | exact Or.inr rfl) (de_call F_greatest_of (hr.mono (by decide)) (by rfl) (da_cons (de_tup (da_cons (de_var 4) (da_cons (de_var 6) da_nil))) da_nil)))) (dss_one (ds_if (dt_cmp opd_IB op_gt (de_var 7) de_int (nomark _)) (dss_one (ds_set false nd rfl (by first | exact Or.inl rfl | exact Or.inr rfl) (de_call F_least_of (hr.mono (by decide)) (by rfl) (da_cons (de_tup (da_cons (de_var 5) (da_cons (de_var 6) da_nil))) da_nil)))) dss_nil)))
  (dss_one (ds_ret (de_tup (da_cons (de_var 4) (da_cons (de_var 5) da_nil))))))))
theorem sc_pieces_by : FnScope ["ridge", "h", "i", "shares", "side", "found", "middle", "corner", "low", "high"] ["ridge", "h", "i", "shares", "side"] (defScope (top 35)) := ⟨rfl, rfl, rfl, by decide +kernel, rfl, by decide +kernel, by decide +kernel⟩
theorem F_pieces_by (FD : FnP K "pieces_by" (top 35) f fd) (hm : mg "pieces_by" = some (.ref f)) (F_added : Fn P w K mg base 3 "added" ["x", "y"] C_added) (F_divided : Fn P w K mg base 3 "divided" ["x", "y"] C_divided) (F_bar_corners : Fn P w K mg base 9 "bar_corners" ["ridge", "h", "g"] C_bar_corners) (gb_tuple : mg "tuple" = none) (gb_zip : mg "zip" = none) : Fn P w K mg base 10 "pieces_by" ["ridge", "h", "i", "shares", "side"] C_pieces_by := by
  have nd := (sc_pieces_by).nd
  refine ⟨f, fd, hm, FD.kp, FD.bindsN fun _ _ _ _ _ _ us hl => match us, hl with | [_, _, _, _, _], _ => rfl, dfnA FD sc_pieces_by sem_pieces_by (fun cdv A outer s H E hr => ?_)⟩
  exact (dss_cons (ds_set true nd rfl (by first | exact Or.inl rfl | exact Or.inr rfl) (de_lst da_nil))
  (dss_cons (ds_for PassesOwn.never rfl (di_zip (by rfl) gb_zip (da_cons (de_var 3) (da_cons (de_sl (de_var 3) (do_some de_int) do_none) da_nil))) (dg_t rfl (dgs_cons (dg_n nd rfl (by first | exact Or.inl rfl | exact Or.inr rfl) (by first | exact Or.inl rfl | exact Or.inr rfl)) (dgs_cons (dg_n nd rfl (by first | exact Or.inl rfl | exact Or.inr rfl) (by first | exact Or.inl rfl | exact Or.inr rfl)) dgs_nil))) (dss_cons (ds_set false nd rfl (by first | exact Or.inl rfl | exact Or.inr rfl) (de_call F_divided (hr.mono (by decide)) (by rfl) (da_cons (de_call F_added (hr.mono (by decide)) (by rfl) (da_cons (de_var 8) (da_cons (de_var 9) da_nil))) (da_cons (de_tup (da_cons de_int (da_cons de_int da_nil))) da_nil))))
  (dss_cons (ds_set false nd rfl (by first | exact Or.inl rfl | exact Or.inr rfl) (de_ix opd_ix ix_lt (de_call F_bar_corners hr (by rfl) (da_cons (de_var 0) (da_cons (de_var 1) (da_cons (de_tup (da_cons (de_var 2) (da_cons (de_var 6) da_nil))) da_nil)))) (de_var 4) (fun _ _ => rfl)))
  (dss_one (ds_if (dw_and (dt_truth (de_var 5)) (dw_and1 (dt_cmp opd_eq (op_eqD hr.units) (de_ix opd_ix ix_lt (de_ix opd_ix ix_lt (de_var 5) (de_un und_neg un_neg de_int) (fun _ _ => rfl)) de_int (fun _ _ => rfl)) (de_var 7) (nomark _)))).dt (dss_one (ds_setIx rfl (by first | exact Or.inl rfl | exact Or.inr (Or.inl rfl) | exact Or.inr (Or.inr rfl)) rfl rfl (de_tup (da_cons (de_ix opd_ix ix_lt (de_ix opd_ix ix_lt (de_var 5) (de_un und_neg un_neg de_int) (fun _ _ => rfl)) de_int (fun _ _ => rfl)) (da_cons (de_var 9) (da_cons (de_var 7) da_nil)))) (de_un und_neg un_neg de_int))) (dss_one (ds_meth (name := "append") (id := "list.append") md_app rfl (by first | exact Or.inl rfl | exact Or.inr (Or.inl rfl) | exact Or.inr (Or.inr rfl)) (by decide) (by decide) (da_cons (de_tup (da_cons (de_var 8) (da_cons (de_var 9) (da_cons (de_var 7) da_nil)))) da_nil) (fun h => pe_bm PySem.F.plainAttrs_list PySem.F.slot_list_append PySem.F.type_list_append mt_append (pv 5) h))))))))
  (dss_one (ds_ret (de_callTy cd_tuple call_tuple_of (by rfl) gb_tuple (by decide +kernel) (da_cons (de_var 5) da_nil))))))
theorem sc_left_pieces : FnScope ["ridge", "h", "i", "spots"] ["ridge", "h", "i"] (defScope (top 36)) := ⟨rfl, rfl, rfl, by decide +kernel, rfl, by decide +kernel, by decide +kernel⟩
theorem F_left_pieces (FD : FnP K "left_pieces" (top 36) f fd) (hm : mg "left_pieces" = some (.ref f)) (F_line_of : Fn P w K mg base 1 "line_of" ["ridge"] C_line_of) (F_turning_shares : Fn P w K mg base 7 "turning_shares" ["ridge", "i", "spots"] C_turning_shares) (F_pieces_by : Fn P w K mg base 10 "pieces_by" ["ridge", "h", "i", "shares", "side"] C_pieces_by) : Fn P w K mg base 11 "left_pieces" ["ridge", "h", "i"] C_left_pieces := by
  have nd := (sc_left_pieces).nd
  refine ⟨f, fd, hm, FD.kp, FD.bindsN fun _ _ _ _ _ _ us hl => match us, hl with | [_, _, _], _ => rfl, dfnA FD sc_left_pieces sem_left_pieces (fun cdv A outer s H E hr => ?_)⟩
  exact (dss_cons (ds_set false nd rfl (by first | exact Or.inl rfl | exact Or.inr rfl) (de_lst (da_star (de_sl (de_var 0) do_none (do_some (de_var 2))) (da_cons (de_tup (da_cons (de_ix opd_ix ix_lt (de_call F_line_of (hr.mono (by decide)) (by rfl) (da_cons (de_var 0) da_nil)) de_int (fun _ _ => rfl)) (da_cons (de_var 1) da_nil))) da_nil))))
  (dss_one (ds_ret (de_call F_pieces_by hr (by rfl) (da_cons (de_var 0) (da_cons (de_var 1) (da_cons (de_var 2) (da_cons (de_call F_turning_shares (hr.mono (by decide)) (by rfl) (da_cons (de_var 0) (da_cons (de_var 2) (da_cons (de_var 3) da_nil)))) (da_cons de_int da_nil)))))))))
theorem sc_right_pieces : FnScope ["ridge", "h", "i", "spots"] ["ridge", "h", "i"] (defScope (top 37)) := ⟨rfl, rfl, rfl, by decide +kernel, rfl, by decide +kernel, by decide +kernel⟩
theorem F_right_pieces (FD : FnP K "right_pieces" (top 37) f fd) (hm : mg "right_pieces" = some (.ref f)) (F_line_of : Fn P w K mg base 1 "line_of" ["ridge"] C_line_of) (F_turning_shares : Fn P w K mg base 7 "turning_shares" ["ridge", "i", "spots"] C_turning_shares) (F_pieces_by : Fn P w K mg base 10 "pieces_by" ["ridge", "h", "i", "shares", "side"] C_pieces_by) : Fn P w K mg base 11 "right_pieces" ["ridge", "h", "i"] C_right_pieces := by
  have nd := (sc_right_pieces).nd
  refine ⟨f, fd, hm, FD.kp, FD.bindsN fun _ _ _ _ _ _ us hl => match us, hl with | [_, _, _], _ => rfl, dfnA FD sc_right_pieces sem_right_pieces (fun cdv A outer s H E hr => ?_)⟩
  exact (dss_cons (ds_set false nd rfl (by first | exact Or.inl rfl | exact Or.inr rfl) (de_lst (da_star (de_sl (de_var 0) (do_some (de_op opd_add op_add3 (de_var 2) de_int)) do_none) (da_cons (de_tup (da_cons (de_ix opd_ix ix_lt (de_call F_line_of (hr.mono (by decide)) (by rfl) (da_cons (de_var 0) da_nil)) de_int (fun _ _ => rfl)) (da_cons (de_var 1) da_nil))) da_nil))))
  (dss_one (ds_ret (de_call F_pieces_by hr (by rfl) (da_cons (de_var 0) (da_cons (de_var 1) (da_cons (de_var 2) (da_cons (de_call F_turning_shares (hr.mono (by decide)) (by rfl) (da_cons (de_var 0) (da_cons (de_var 2) (da_cons (de_var 3) da_nil)))) (da_cons de_int da_nil)))))))))
theorem sc_first_left : FnScope ["ridge", "h", "i", "x", "low", "high", "corner"] ["ridge", "h", "i", "x"] (defScope (top 39)) := ⟨rfl, rfl, rfl, by decide +kernel, rfl, by decide +kernel, by decide +kernel⟩
theorem F_first_left (FD : FnP K "first_left" (top 39) f fd) (hm : mg "first_left" = some (.ref f)) (F_compared : Fn P w K mg base 1 "compared" ["x", "y"] C_compared) (F_share_seen : Fn P w K mg base 7 "share_seen" ["ridge", "h", "i", "x", "c"] C_share_seen) (F_slope_reach : Fn P w K mg base 9 "slope_reach" ["ridge", "h", "i", "t"] C_slope_reach) (F_left_pieces : Fn P w K mg base 11 "left_pieces" ["ridge", "h", "i"] C_left_pieces) : Fn P w K mg base 12 "first_left" ["ridge", "h", "i", "x"] C_first_left := by
  have nd := (sc_first_left).nd
  refine ⟨f, fd, hm, FD.kp, FD.bindsN fun _ _ _ _ _ _ us hl => match us, hl with | [_, _, _, _], _ => rfl, dfnA FD sc_first_left sem_first_left (fun cdv A outer s H E hr => ?_)⟩
  exact (dss_cons (ds_for PassesOwn.never rfl (di_seqF (de_call F_left_pieces hr (by rfl) (da_cons (de_var 0) (da_cons (de_var 1) (da_cons (de_var 2) da_nil))))) (dg_t rfl (dgs_cons (dg_n nd rfl (by first | exact Or.inl rfl | exact Or.inr rfl) (by first | exact Or.inl rfl | exact Or.inr rfl)) (dgs_cons (dg_n nd rfl (by first | exact Or.inl rfl | exact Or.inr rfl) (by first | exact Or.inl rfl | exact Or.inr rfl)) (dgs_cons (dg_n nd rfl (by first | exact Or.inl rfl | exact Or.inr rfl) (by first | exact Or.inl rfl | exact Or.inr rfl)) dgs_nil)))) (dss_one (ds_if (dt_cmp opd_IB op_le (de_call F_compared (hr.mono (by decide)) (by rfl) (da_cons (de_ix opd_ix ix_lt (de_call F_slope_reach (hr.mono (by decide)) (by rfl) (da_cons (de_var 0) (da_cons (de_var 1) (da_cons (de_var 2) (da_cons (de_var 5) da_nil))))) de_int (fun _ _ => rfl)) (da_cons (de_var 3) da_nil))) de_int (nomark _)) (dss_cons (ds_if (dt_cmp opd_IB op_le (de_call F_compared (hr.mono (by decide)) (by rfl) (da_cons (de_ix opd_ix ix_lt (de_call F_slope_reach (hr.mono (by decide)) (by rfl) (da_cons (de_var 0) (da_cons (de_var 1) (da_cons (de_var 2) (da_cons (de_var 4) da_nil))))) de_int (fun _ _ => rfl)) (da_cons (de_var 3) da_nil))) de_int (nomark _)) (dss_one (ds_retVar 4)) dss_nil)
  (dss_one (ds_ret (de_call F_share_seen (hr.mono (by decide)) (by rfl) (da_cons (de_var 0) (da_cons (de_var 1) (da_cons (de_var 2) (da_cons (de_var 3) (da_cons (de_var 6) da_nil))))))))) dss_nil)))
  (dss_one (ds_ret de_non)))
theorem sc_last_right : FnScope ["ridge", "h", "i", "x", "low", "high", "corner"] ["ridge", "h", "i", "x"] (defScope (top 40)) := ⟨rfl, rfl, rfl, by decide +kernel, rfl, by decide +kernel, by decide +kernel⟩
theorem F_last_right (FD : FnP K "last_right" (top 40) f fd) (hm : mg "last_right" = some (.ref f)) (F_compared : Fn P w K mg base 1 "compared" ["x", "y"] C_compared) (F_share_seen : Fn P w K mg base 7 "share_seen" ["ridge", "h", "i", "x", "c"] C_share_seen) (F_slope_reach : Fn P w K mg base 9 "slope_reach" ["ridge", "h", "i", "t"] C_slope_reach) (F_right_pieces : Fn P w K mg base 11 "right_pieces" ["ridge", "h", "i"] C_right_pieces) : Fn P w K mg base 12 "last_right" ["ridge", "h", "i", "x"] C_last_right := by
  have nd := (sc_last_right).nd
  refine ⟨f, fd, hm, FD.kp, FD.bindsN fun _ _ _ _ _ _ us hl => match us, hl with | [_, _, _, _], _ => rfl, dfnA FD sc_last_right sem_last_right (fun cdv A outer s H E hr => ?_)⟩
  exact (dss_cons (ds_for PassesOwn.never rfl (di_seqF (de_rev (de_call F_right_pieces hr (by rfl) (da_cons (de_var 0) (da_cons (de_var 1) (da_cons (de_var 2) da_nil)))))) (dg_t rfl (dgs_cons (dg_n nd rfl (by first | exact Or.inl rfl | exact Or.inr rfl) (by first | exact Or.inl rfl | exact Or.inr rfl)) (dgs_cons (dg_n nd rfl (by first | exact Or.inl rfl | exact Or.inr rfl) (by first | exact Or.inl rfl | exact Or.inr rfl)) (dgs_cons (dg_n nd rfl (by first | exact Or.inl rfl | exact Or.inr rfl) (by first | exact Or.inl rfl | exact Or.inr rfl)) dgs_nil)))) (dss_one (ds_if (dt_cmp opd_IB op_ge (de_call F_compared (hr.mono (by decide)) (by rfl) (da_cons (de_ix opd_ix ix_lt (de_call F_slope_reach (hr.mono (by decide)) (by rfl) (da_cons (de_var 0) (da_cons (de_var 1) (da_cons (de_var 2) (da_cons (de_var 4) da_nil))))) de_int (fun _ _ => rfl)) (da_cons (de_var 3) da_nil))) de_int (nomark _)) (dss_cons (ds_if (dt_cmp opd_IB op_ge (de_call F_compared (hr.mono (by decide)) (by rfl) (da_cons (de_ix opd_ix ix_lt (de_call F_slope_reach (hr.mono (by decide)) (by rfl) (da_cons (de_var 0) (da_cons (de_var 1) (da_cons (de_var 2) (da_cons (de_var 5) da_nil))))) de_int (fun _ _ => rfl)) (da_cons (de_var 3) da_nil))) de_int (nomark _)) (dss_one (ds_retVar 5)) dss_nil)
  (dss_one (ds_ret (de_call F_share_seen (hr.mono (by decide)) (by rfl) (da_cons (de_var 0) (da_cons (de_var 1) (da_cons (de_var 2) (da_cons (de_var 3) (da_cons (de_var 6) da_nil))))))))) dss_nil)))
  (dss_one (ds_ret de_non)))
theorem sc_seen_part : FnScope ["ridge", "h", "i", "x", "low", "high"] ["ridge", "h", "i", "x"] (defScope (top 41)) := ⟨rfl, rfl, rfl, by decide +kernel, rfl, by decide +kernel, by decide +kernel⟩
theorem F_seen_part (FD : FnP K "seen_part" (top 41) f fd) (hm : mg "seen_part" = some (.ref f)) (F_is_under : Fn P w K mg base 2 "is_under" ["x", "y"] C_is_under) (F_first_left : Fn P w K mg base 12 "first_left" ["ridge", "h", "i", "x"] C_first_left) (F_last_right : Fn P w K mg base 12 "last_right" ["ridge", "h", "i", "x"] C_last_right) : Fn P w K mg base 13 "seen_part" ["ridge", "h", "i", "x"] C_seen_part := by
  have nd := (sc_seen_part).nd
  refine ⟨f, fd, hm, FD.kp, FD.bindsN fun _ _ _ _ _ _ us hl => match us, hl with | [_, _, _, _], _ => rfl, dfnA FD sc_seen_part sem_seen_part (fun cdv A outer s H E hr => ?_)⟩
  exact (dss_cons (ds_par2 false false rfl nd rfl rfl (by decide) rfl rfl (da_cons (de_call F_first_left hr (by rfl) (da_cons (de_var 0) (da_cons (de_var 1) (da_cons (de_var 2) (da_cons (de_var 3) da_nil))))) (da_cons (de_call F_last_right hr (by rfl) (da_cons (de_var 0) (da_cons (de_var 1) (da_cons (de_var 2) (da_cons (de_var 3) da_nil))))) da_nil)) rfl)
  (dss_cons (ds_if (dw_or (dt_cmp opd_isN op_isN (de_var 4) de_non (nomark _)) (dw_or (dt_cmp opd_isN op_isN (de_var 5) de_non (nomark _)) (dw_or1 (dt_val (de_call F_is_under (hr.mono (by decide)) (by rfl) (da_cons (de_var 5) (da_cons (de_var 4) da_nil))))))).dt (dss_one (ds_ret de_non)) dss_nil)
  (dss_one (ds_ret (de_tup (da_cons (de_var 4) (da_cons (de_var 5) da_nil)))))))
theorem sc_unseen_end : FnScope ["ridge", "h", "part", "x", "i", "a", "b", "t"] ["ridge", "h", "part", "x"] (defScope (top 50)) := ⟨rfl, rfl, rfl, by decide +kernel, rfl, by decide +kernel, by decide +kernel⟩
theorem F_unseen_end (FD : FnP K "unseen_end" (top 50) f fd) (hm : mg "unseen_end" = some (.ref f)) (F_compared : Fn P w K mg base 1 "compared" ["x", "y"] C_compared) (F_slope_reach : Fn P w K mg base 9 "slope_reach" ["ridge", "h", "i", "t"] C_slope_reach) (F_first_left : Fn P w K mg base 12 "first_left" ["ridge", "h", "i", "x"] C_first_left) : Fn P w K mg base 13 "unseen_end" ["ridge", "h", "part", "x"] C_unseen_end := by
  have nd := (sc_unseen_end).nd
  refine ⟨f, fd, hm, FD.kp, FD.bindsN fun _ _ _ _ _ _ us hl => match us, hl with | [_, _, _, _], _ => rfl, dfnA FD sc_unseen_end sem_unseen_end (fun cdv A outer s H E hr => ?_)⟩
  exact (dss_cons (ds_asg (de_var 2) (dg_t rfl (dgs_cons (dg_n nd rfl (by first | exact Or.inl rfl | exact Or.inr rfl) (by first | exact Or.inl rfl | exact Or.inr rfl)) (dgs_cons (dg_n nd rfl (by first | exact Or.inl rfl | exact Or.inr rfl) (by first | exact Or.inl rfl | exact Or.inr rfl)) (dgs_cons (dg_n nd rfl (by first | exact Or.inl rfl | exact Or.inr rfl) (by first | exact Or.inl rfl | exact Or.inr rfl)) dgs_nil)))))
  (dss_cons (ds_if (dt_cmp opd_isN op_isN (de_var 3) de_non (nomark _)) (dss_one (ds_retVar 6)) dss_nil)
  (dss_cons (ds_if (dt_cmp opd_IB op_le (de_call F_compared (hr.mono (by decide)) (by rfl) (da_cons (de_ix opd_ix ix_lt (de_call F_slope_reach (hr.mono (by decide)) (by rfl) (da_cons (de_var 0) (da_cons (de_var 1) (da_cons (de_var 4) (da_cons (de_var 5) da_nil))))) de_int (fun _ _ => rfl)) (da_cons (de_var 3) da_nil))) de_int (nomark _)) (dss_one (ds_ret de_non)) dss_nil)
  (dss_cons (ds_set false nd rfl (by first | exact Or.inl rfl | exact Or.inr rfl) (de_call F_first_left hr (by rfl) (da_cons (de_var 0) (da_cons (de_var 1) (da_cons (de_var 4) (da_cons (de_var 3) da_nil))))))
  (dss_one (ds_ret (de_if (dw_or (dt_cmp opd_isN op_isN (de_var 7) de_non (nomark _)) (dw_or1 (dt_cmp opd_IB op_gt (de_call F_compared (hr.mono (by decide)) (by rfl) (da_cons (de_var 7) (da_cons (de_var 6) da_nil))) de_int (nomark _)))).dt (de_var 6) (de_var 7))))))))
theorem sc_slope_layers : FnScope ["ridge", "h", "i", "drones", "seen", "cuts", "found", "lot", "a", "b", "x", "part", "t", "k"] ["ridge", "h", "i", "drones"] (defScope (top 44)) := ⟨rfl, rfl, rfl, by decide +kernel, rfl, by decide +kernel, by decide +kernel⟩
theorem F_slope_layers (FD : FnP K "slope_layers" (top 44) f fd) (hm : mg "slope_layers" = some (.ref f)) (F_is_part_within : Fn P w K mg base 2 "is_part_within" ["one", "other"] C_is_part_within) (F_ascending : Fn P w K mg base 3 "ascending" ["some"] C_ascending) (F_seen_part : Fn P w K mg base 13 "seen_part" ["ridge", "h", "i", "x"] C_seen_part) (gb_enumerate : mg "enumerate" = none) (gb_tuple : mg "tuple" = none) (gb_zip : mg "zip" = none) : Fn P w K mg base 14 "slope_layers" ["ridge", "h", "i", "drones"] C_slope_layers := by
  have nd := (sc_slope_layers).nd
  refine ⟨f, fd, hm, FD.kp, FD.bindsN fun _ _ _ _ _ _ us hl => match us, hl with | [_, _, _, _], _ => rfl, dfnA FD sc_slope_layers sem_slope_layers (fun cdv A outer s H E hr => ?_)⟩
  exact (dss_cons (ds_setLc false (own := [("x", 10)]) rfl nd rfl rfl (sw_true rfl rfl rfl (by decide +kernel)) (di_seq (de_var 3)) (blkOk_by (by kernel_rfl)) (fun _ _ _ _ _ => (dg_n nd rfl (by first | exact Or.inl rfl | exact Or.inr rfl) (by first | exact Or.inl rfl | exact Or.inr rfl))) (fun _ _ _ _ _ => dts_nil) (fun _ _ _ _ _ => (de_call F_seen_part hr (by rfl) (da_cons (de_var 0) (da_cons (de_var 1) (da_cons (de_var 2) (da_cons (de_var 10) da_nil)))))) (by decide))
  (dss_cons (ds_set false nd rfl (by first | exact Or.inl rfl | exact Or.inr rfl) (de_call F_ascending (hr.mono (by decide)) (by rfl) (da_cons (de_lst (da_cons (de_tup (da_cons de_int (da_cons de_int da_nil))) (da_cons (de_tup (da_cons de_int (da_cons de_int da_nil))) (da_star (de_lc2 (own := [("part", 11), ("t", 12)]) (vs1 := [12]) rfl nd (di_seq (de_var 4)) (blkOk_by (by kernel_rfl)) (by decide) (fun _ _ _ _ _ => (dg_n nd rfl (by first | exact Or.inl rfl | exact Or.inr rfl) (by first | exact Or.inl rfl | exact Or.inr rfl))) (fun _ _ _ _ _ => (dts_one (dt_cmp opd_notN op_notN (de_var 11) de_non (nomark _)))) (fun _ _ _ _ _ => (di_seqF (de_var 11))) (fun _ _ _ _ _ => (dg_n nd rfl (by first | exact Or.inl rfl | exact Or.inr rfl) (by first | exact Or.inl rfl | exact Or.inr rfl))) (fun _ _ _ _ _ => dts_nil) (fun _ _ _ _ _ => (de_var 12)) (by decide) (by decide)) da_nil)))) da_nil)))
  (dss_cons (ds_set true nd rfl (by first | exact Or.inl rfl | exact Or.inr rfl) (de_lst da_nil))
  (dss_cons (ds_for PassesOwn.never rfl (di_zipK (by rfl) gb_zip (da_cons (de_var 5) (da_cons (de_sl (de_var 5) (do_some de_int) do_none) da_nil))) (dg_t rfl (dgs_cons (dg_n nd rfl (by first | exact Or.inl rfl | exact Or.inr rfl) (by first | exact Or.inl rfl | exact Or.inr rfl)) (dgs_cons (dg_n nd rfl (by first | exact Or.inl rfl | exact Or.inr rfl) (by first | exact Or.inl rfl | exact Or.inr rfl)) dgs_nil))) (dss_cons (ds_set false nd rfl (by first | exact Or.inl rfl | exact Or.inr rfl) (de_callTy cd_tuple call_tuple_of (by rfl) gb_tuple (by decide +kernel) (da_cons (de_lc (own := [("k", 13), ("part", 11)]) rfl nd (di_enum (by rfl) gb_enumerate (da_cons (de_var 4) da_nil)) (blkOk_by (by kernel_rfl)) (fun _ _ _ _ _ => (dg_t rfl (dgs_cons (dg_n nd rfl (by first | exact Or.inl rfl | exact Or.inr rfl) (by first | exact Or.inl rfl | exact Or.inr rfl)) (dgs_cons (dg_n nd rfl (by first | exact Or.inl rfl | exact Or.inr rfl) (by first | exact Or.inl rfl | exact Or.inr rfl)) dgs_nil)))) (fun _ _ _ _ _ => (dts_one (dw_and (dt_cmp opd_notN op_notN (de_var 11) de_non (nomark _)) (dw_and1 (dt_val (de_call F_is_part_within (hr.mono (by decide)) (by rfl) (da_cons (de_tup (da_cons (de_var 8) (da_cons (de_var 9) da_nil))) (da_cons (de_var 11) da_nil)))))).dt)) (fun _ _ _ _ _ => (de_var 13)) (by decide)) da_nil)))
  (dss_cons (ds_if (dw_and (dt_truth (de_var 6)) (dw_and1 (dt_cmp opd_eq (op_eqD hr.units) (de_ix opd_ix ix_lt (de_ix opd_ix ix_lt (de_var 6) (de_un und_neg un_neg de_int) (fun _ _ => rfl)) de_int (fun _ _ => rfl)) (de_var 7) (nomark _)))).dt (dss_one (ds_popIx nd rfl (by first | exact Or.inl rfl | exact Or.inr rfl) rfl (by first | exact Or.inl rfl | exact Or.inr (Or.inl rfl) | exact Or.inr (Or.inr rfl)) (by decide) (by decide) (pe_bm0 PySem.F.plainAttrs_list PySem.F.slot_list_pop PySem.F.type_list_pop mt_pop (pv 6)) de_int (fun _ _ => rfl))) dss_nil)
  (dss_one (ds_meth (name := "append") (id := "list.append") md_app rfl (by first | exact Or.inl rfl | exact Or.inr (Or.inl rfl) | exact Or.inr (Or.inr rfl)) (by decide) (by decide) (da_cons (de_tup (da_cons (de_var 2) (da_cons (de_var 8) (da_cons (de_var 9) (da_cons (de_var 7) da_nil))))) da_nil) (fun h => pe_bm PySem.F.plainAttrs_list PySem.F.slot_list_append PySem.F.type_list_append mt_append (pv 6) h))))))
  (dss_one (ds_retVar 6))))))
theorem sc_next_step : FnScope ["ridge", "h", "parts", "x", "found", "c", "here", "part"] ["ridge", "h", "parts", "x"] (defScope (top 51)) := ⟨rfl, rfl, rfl, by decide +kernel, rfl, by decide +kernel, by decide +kernel⟩
theorem F_next_step (FD : FnP K "next_step" (top 51) f fd) (hm : mg "next_step" = some (.ref f)) (F_compared : Fn P w K mg base 1 "compared" ["x", "y"] C_compared) (F_slope_reach : Fn P w K mg base 9 "slope_reach" ["ridge", "h", "i", "t"] C_slope_reach) (F_unseen_end : Fn P w K mg base 13 "unseen_end" ["ridge", "h", "part", "x"] C_unseen_end) : Fn P w K mg base 14 "next_step" ["ridge", "h", "parts", "x"] C_next_step := by
  have nd := (sc_next_step).nd
  refine ⟨f, fd, hm, FD.kp, FD.bindsN fun _ _ _ _ _ _ us hl => match us, hl with | [_, _, _, _], _ => rfl, dfnA FD sc_next_step sem_next_step (fun cdv A outer s H E hr => ?_)⟩
  exact (dss_cons (ds_set false nd rfl (by first | exact Or.inl rfl | exact Or.inr rfl) de_non)
  (dss_cons (ds_for PassesOwn.never rfl (di_seqF (de_var 2)) (dg_n nd rfl (by first | exact Or.inl rfl | exact Or.inr rfl) (by first | exact Or.inl rfl | exact Or.inr rfl)) (dss_cons (ds_set false nd rfl (by first | exact Or.inl rfl | exact Or.inr rfl) (de_call F_unseen_end hr (by rfl) (da_cons (de_var 0) (da_cons (de_var 1) (da_cons (de_var 7) (da_cons (de_var 3) da_nil))))))
  (dss_one (ds_if (dt_cmp opd_notN op_notN (de_var 5) de_non (nomark _)) (dss_cons (ds_set false nd rfl (by first | exact Or.inl rfl | exact Or.inr rfl) (de_ix opd_ix ix_lt (de_call F_slope_reach (hr.mono (by decide)) (by rfl) (da_cons (de_var 0) (da_cons (de_var 1) (da_cons (de_ix opd_ix ix_lt (de_var 7) de_int (fun _ _ => rfl)) (da_cons (de_var 5) da_nil))))) de_int (fun _ _ => rfl)))
  (dss_one (ds_if (dw_or (dt_cmp opd_isN op_isN (de_var 4) de_non (nomark _)) (dw_or1 (dt_cmp opd_IB op_lt (de_call F_compared (hr.mono (by decide)) (by rfl) (da_cons (de_var 6) (da_cons (de_ix opd_ix ix_lt (de_var 4) de_int (fun _ _ => rfl)) da_nil))) de_int (nomark _)))).dt (dss_one (ds_set false nd rfl (by first | exact Or.inl rfl | exact Or.inr rfl) (de_tup (da_cons (de_var 6) (da_cons (de_var 7) (da_cons (de_var 5) da_nil)))))) dss_nil))) dss_nil))))
  (dss_one (ds_retVar 4))))
theorem sc_layers : FnScope ["ridge", "h", "drones", "i", "layer"] ["ridge", "h", "drones"] (defScope (top 46)) := ⟨rfl, rfl, rfl, by decide +kernel, rfl, by decide +kernel, by decide +kernel⟩
theorem F_layers (FD : FnP K "layers" (top 46) f fd) (hm : mg "layers" = some (.ref f)) (F_slopes_of : Fn P w K mg base 1 "slopes_of" ["ridge"] C_slopes_of) (F_slope_layers : Fn P w K mg base 14 "slope_layers" ["ridge", "h", "i", "drones"] C_slope_layers) (gb_range : mg "range" = none) (gb_tuple : mg "tuple" = none) : Fn P w K mg base 15 "layers" ["ridge", "h", "drones"] C_layers := by
  have nd := (sc_layers).nd
  refine ⟨f, fd, hm, FD.kp, FD.bindsN fun _ _ _ _ _ _ us hl => match us, hl with | [_, _, _], _ => rfl, dfnA FD sc_layers sem_layers (fun cdv A outer s H E hr => ?_)⟩
  exact (dss_one (ds_ret (de_callTy cd_tuple call_tuple_of (by rfl) gb_tuple (by decide +kernel) (da_cons (de_lc2 (own := [("i", 3), ("layer", 4)]) (vs1 := [4]) rfl nd (di_range1 (by rfl) gb_range (da_cons (de_call F_slopes_of (hr.mono (by decide)) (by rfl) (da_cons (de_var 0) da_nil)) da_nil)) (blkOk_by (by kernel_rfl)) (by decide) (fun _ _ _ _ _ => (dg_n nd rfl (by first | exact Or.inl rfl | exact Or.inr rfl) (by first | exact Or.inl rfl | exact Or.inr rfl))) (fun _ _ _ _ _ => dts_nil) (fun _ _ _ _ _ => (di_seqF (de_call F_slope_layers hr (by rfl) (da_cons (de_var 0) (da_cons (de_var 1) (da_cons (de_var 3) (da_cons (de_var 2) da_nil))))))) (fun _ _ _ _ _ => (dg_n nd rfl (by first | exact Or.inl rfl | exact Or.inr rfl) (by first | exact Or.inl rfl | exact Or.inr rfl))) (fun _ _ _ _ _ => dts_nil) (fun _ _ _ _ _ => (de_var 4)) (by decide) (by decide)) da_nil))))
theorem sc_steps_for : FnScope ["ridge", "h", "parts", "steps", "found"] ["ridge", "h", "parts"] (defScope (top 52)) := ⟨rfl, rfl, rfl, by decide +kernel, rfl, by decide +kernel, by decide +kernel⟩
theorem F_steps_for (FD : FnP K "steps_for" (top 52) f fd) (hm : mg "steps_for" = some (.ref f)) (F_next_step : Fn P w K mg base 14 "next_step" ["ridge", "h", "parts", "x"] C_next_step) : Fn P w K mg base 15 "steps_for" ["ridge", "h", "parts"] C_steps_for := by
  have nd := (sc_steps_for).nd
  refine ⟨f, fd, hm, FD.kp, FD.bindsN fun _ _ _ _ _ _ us hl => match us, hl with | [_, _, _], _ => rfl, dfnA FD sc_steps_for sem_steps_for (fun cdv A outer s H E hr => ?_)⟩
  exact (dss_cons (ds_set true nd rfl (by first | exact Or.inl rfl | exact Or.inr rfl) (de_lst da_nil))
  (dss_cons (ds_set false nd rfl (by first | exact Or.inl rfl | exact Or.inr rfl) (de_call F_next_step hr (by rfl) (da_cons (de_var 0) (da_cons (de_var 1) (da_cons (de_var 2) (da_cons de_non da_nil))))))
  (dss_cons (ds_while PassesOwn.never (dt_cmp opd_notN op_notN (de_var 4) de_non (nomark _)) (dss_cons (ds_meth (name := "append") (id := "list.append") md_app rfl (by first | exact Or.inl rfl | exact Or.inr (Or.inl rfl) | exact Or.inr (Or.inr rfl)) (by decide) (by decide) (da_cons (de_var 4) da_nil) (fun h => pe_bm PySem.F.plainAttrs_list PySem.F.slot_list_append PySem.F.type_list_append mt_append (pv 3) h))
  (dss_one (ds_set false nd rfl (by first | exact Or.inl rfl | exact Or.inr rfl) (de_call F_next_step hr (by rfl) (da_cons (de_var 0) (da_cons (de_var 1) (da_cons (de_var 2) (da_cons (de_ix opd_ix ix_lt (de_var 4) de_int (fun _ _ => rfl)) da_nil)))))))))
  (dss_one (ds_retVar 3)))))
theorem sc_dark_parts : FnScope ["ridge", "h", "drones", "i", "a", "b", "lot"] ["ridge", "h", "drones"] (defScope (top 47)) := ⟨rfl, rfl, rfl, by decide +kernel, rfl, by decide +kernel, by decide +kernel⟩
theorem F_dark_parts (FD : FnP K "dark_parts" (top 47) f fd) (hm : mg "dark_parts" = some (.ref f)) (F_layers : Fn P w K mg base 15 "layers" ["ridge", "h", "drones"] C_layers) (gb_tuple : mg "tuple" = none) : Fn P w K mg base 16 "dark_parts" ["ridge", "h", "drones"] C_dark_parts := by
  have nd := (sc_dark_parts).nd
  refine ⟨f, fd, hm, FD.kp, FD.bindsN fun _ _ _ _ _ _ us hl => match us, hl with | [_, _, _], _ => rfl, dfnA FD sc_dark_parts sem_dark_parts (fun cdv A outer s H E hr => ?_)⟩
  exact (dss_one (ds_ret (de_callTy cd_tuple call_tuple_of (by rfl) gb_tuple (by decide +kernel) (da_cons (de_lc (own := [("i", 3), ("a", 4), ("b", 5), ("lot", 6)]) rfl nd (di_seq (de_call F_layers hr (by rfl) (da_cons (de_var 0) (da_cons (de_var 1) (da_cons (de_var 2) da_nil))))) (blkOk_by (by kernel_rfl)) (fun _ _ _ _ _ => (dg_t rfl (dgs_cons (dg_n nd rfl (by first | exact Or.inl rfl | exact Or.inr rfl) (by first | exact Or.inl rfl | exact Or.inr rfl)) (dgs_cons (dg_n nd rfl (by first | exact Or.inl rfl | exact Or.inr rfl) (by first | exact Or.inl rfl | exact Or.inr rfl)) (dgs_cons (dg_n nd rfl (by first | exact Or.inl rfl | exact Or.inr rfl) (by first | exact Or.inl rfl | exact Or.inr rfl)) (dgs_cons (dg_n nd rfl (by first | exact Or.inl rfl | exact Or.inr rfl) (by first | exact Or.inl rfl | exact Or.inr rfl)) dgs_nil)))))) (fun _ _ _ _ _ => (dts_one (dt_cmp opd_eq (op_eqD hr.units) (de_var 6) (de_tup da_nil) (nomark _)))) (fun _ _ _ _ _ => (de_tup (da_cons (de_var 3) (da_cons (de_var 4) (da_cons (de_var 5) da_nil))))) (by decide)) da_nil))))
theorem sc_cover_for : FnScope ["ridge", "h", "parts", "step"] ["ridge", "h", "parts"] (defScope (top 53)) := ⟨rfl, rfl, rfl, by decide +kernel, rfl, by decide +kernel, by decide +kernel⟩
theorem F_cover_for (FD : FnP K "cover_for" (top 53) f fd) (hm : mg "cover_for" = some (.ref f)) (F_steps_for : Fn P w K mg base 15 "steps_for" ["ridge", "h", "parts"] C_steps_for) (gb_tuple : mg "tuple" = none) : Fn P w K mg base 16 "cover_for" ["ridge", "h", "parts"] C_cover_for := by
  have nd := (sc_cover_for).nd
  refine ⟨f, fd, hm, FD.kp, FD.bindsN fun _ _ _ _ _ _ us hl => match us, hl with | [_, _, _], _ => rfl, dfnA FD sc_cover_for sem_cover_for (fun cdv A outer s H E hr => ?_)⟩
  exact (dss_one (ds_ret (de_callTy cd_tuple call_tuple_of (by rfl) gb_tuple (by decide +kernel) (da_cons (de_lc (own := [("step", 3)]) rfl nd (di_seq (de_call F_steps_for hr (by rfl) (da_cons (de_var 0) (da_cons (de_var 1) (da_cons (de_var 2) da_nil))))) (blkOk_by (by kernel_rfl)) (fun _ _ _ _ _ => (dg_n nd rfl (by first | exact Or.inl rfl | exact Or.inr rfl) (by first | exact Or.inl rfl | exact Or.inr rfl))) (fun _ _ _ _ _ => dts_nil) (fun _ _ _ _ _ => (de_ix opd_ix ix_lt (de_var 3) de_int (fun _ _ => rfl))) (by decide)) da_nil))))
theorem sc_fewest_for : FnScope ["ridge", "h", "parts"] ["ridge", "h", "parts"] (defScope (top 55)) := ⟨rfl, rfl, rfl, by decide +kernel, rfl, by decide +kernel, by decide +kernel⟩
theorem F_fewest_for (FD : FnP K "fewest_for" (top 55) f fd) (hm : mg "fewest_for" = some (.ref f)) (F_steps_for : Fn P w K mg base 15 "steps_for" ["ridge", "h", "parts"] C_steps_for) (gb_len : mg "len" = none) : Fn P w K mg base 16 "fewest_for" ["ridge", "h", "parts"] C_fewest_for := by
  have nd := (sc_fewest_for).nd
  refine ⟨f, fd, hm, FD.kp, FD.bindsN fun _ _ _ _ _ _ us hl => match us, hl with | [_, _, _], _ => rfl, dfnA FD sc_fewest_for sem_fewest_for (fun cdv A outer s H E hr => ?_)⟩
  exact (dss_one (ds_ret (de_callB cd_len call_len_seq (by rfl) gb_len PySem.boot_len (da_cons (de_call F_steps_for hr (by rfl) (da_cons (de_var 0) (da_cons (de_var 1) (da_cons (de_var 2) da_nil)))) da_nil))))
theorem sc_cover : FnScope ["ridge", "h"] ["ridge", "h"] (defScope (top 54)) := ⟨rfl, rfl, rfl, by decide +kernel, rfl, by decide +kernel, by decide +kernel⟩
theorem F_cover (FD : FnP K "cover" (top 54) f fd) (hm : mg "cover" = some (.ref f)) (F_whole_ground : Fn P w K mg base 2 "whole_ground" ["ridge"] C_whole_ground) (F_cover_for : Fn P w K mg base 16 "cover_for" ["ridge", "h", "parts"] C_cover_for) : Fn P w K mg base 17 "cover" ["ridge", "h"] C_cover := by
  have nd := (sc_cover).nd
  refine ⟨f, fd, hm, FD.kp, FD.bindsN fun _ _ _ _ _ _ us hl => match us, hl with | [_, _], _ => rfl, dfnA FD sc_cover sem_cover (fun cdv A outer s H E hr => ?_)⟩
  exact (dss_one (ds_ret (de_call F_cover_for hr (by rfl) (da_cons (de_var 0) (da_cons (de_var 1) (da_cons (de_call F_whole_ground (hr.mono (by decide)) (by rfl) (da_cons (de_var 0) da_nil)) da_nil))))))
theorem sc_fewest : FnScope ["ridge", "h"] ["ridge", "h"] (defScope (top 56)) := ⟨rfl, rfl, rfl, by decide +kernel, rfl, by decide +kernel, by decide +kernel⟩
theorem F_fewest (FD : FnP K "fewest" (top 56) f fd) (hm : mg "fewest" = some (.ref f)) (F_whole_ground : Fn P w K mg base 2 "whole_ground" ["ridge"] C_whole_ground) (F_fewest_for : Fn P w K mg base 16 "fewest_for" ["ridge", "h", "parts"] C_fewest_for) : Fn P w K mg base 17 "fewest" ["ridge", "h"] C_fewest := by
  have nd := (sc_fewest).nd
  refine ⟨f, fd, hm, FD.kp, FD.bindsN fun _ _ _ _ _ _ us hl => match us, hl with | [_, _], _ => rfl, dfnA FD sc_fewest sem_fewest (fun cdv A outer s H E hr => ?_)⟩
  exact (dss_one (ds_ret (de_call F_fewest_for hr (by rfl) (da_cons (de_var 0) (da_cons (de_var 1) (da_cons (de_call F_whole_ground (hr.mono (by decide)) (by rfl) (da_cons (de_var 0) da_nil)) da_nil))))))
theorem sc_judge_cover : FnScope ["ridge", "h", "value", "dark"] ["ridge", "h", "value"] (defScope (top 58)) := ⟨rfl, rfl, rfl, by decide +kernel, rfl, by decide +kernel, by decide +kernel⟩
theorem F_judge_cover (FD : FnP K "judge_cover" (top 58) f fd) (hm : mg "judge_cover" = some (.ref f)) (F_has_cover_form : Fn P w K mg base 5 "has_cover_form" ["ridge", "value"] C_has_cover_form) (F_dark_parts : Fn P w K mg base 16 "dark_parts" ["ridge", "h", "drones"] C_dark_parts) : Fn P w K mg base 17 "judge_cover" ["ridge", "h", "value"] C_judge_cover := by
  have nd := (sc_judge_cover).nd
  refine ⟨f, fd, hm, FD.kp, FD.bindsN fun _ _ _ _ _ _ us hl => match us, hl with | [_, _, _], _ => rfl, dfnA FD sc_judge_cover sem_judge_cover (fun cdv A outer s H E hr => ?_)⟩
  exact (dss_cons (ds_if (dt_not (dt_val (de_call F_has_cover_form (hr.mono (by decide)) (by rfl) (da_cons (de_var 0) (da_cons (de_var 2) da_nil))))) (dss_one (ds_ret (de_tup (da_cons de_str da_nil)))) dss_nil)
  (dss_cons (ds_set false nd rfl (by first | exact Or.inl rfl | exact Or.inr rfl) (de_call F_dark_parts hr (by rfl) (da_cons (de_var 0) (da_cons (de_var 1) (da_cons (de_var 2) da_nil)))))
  (dss_one (ds_ret (de_if (dt_cmp opd_eq (op_eqD hr.units) (de_var 3) (de_tup da_nil) (nomark _)) de_non (de_tup (da_cons de_str (da_cons (de_ix opd_ix ix_lt (de_var 3) de_int (fun _ _ => rfl)) da_nil))))))))
end
section
variable {P : Program} {w : World} {K : PySem.W.Frag} {mg : Str → Option Value} {base : Heap} {f : Addr} {fd : FuncData}
theorem sc_open : FnScope ["script", "stirred", "cell", "cells"] ["script"] (defScope (top 60)) := ⟨rfl, rfl, rfl, by decide +kernel, rfl, by decide +kernel, by decide +kernel⟩
theorem ok_open (FD : FnP K "_law_open_cells" (top 60) f fd) (gb_abs : mg "abs" = none) (gb_int : mg "int" = none) : FnOk P w K mg base CX0 1 f fd ["script"] (spOpen K) := by
  have nd := sc_open.nd
  refine FD.ok sc_open (fun vs H Q E h => ?_) (fun cdv A outer s H vs Q E hr h => ⟨tOpenB K, PSs.nox ?_, pure_open vs H Q E h⟩)
  · obtain ⟨a, ns, rfl, _⟩ := h
    rfl
  · exact pss_cons (ps_set nd rfl (Or.inl rfl) pe_int) (pss_cons (ps_for PassesOwn.never rfl (pi_list (pv 0)) (pg_name (i := 2) nd rfl (Or.inl rfl)) (pss_one (ps_set (i := 1) nd rfl (Or.inl rfl)
      (pe_op op_modN (pe_callTy call_int1 (by rfl) gb_int (by decide +kernel) (pa_cons (pe_op op_add (pe_op op_add (pe_op op_mul (pv 1) pe_int) (pe_op op_mul (pv 2) pe_int)) pe_int) pa_nil)) pe_int))))
      (pss_cons (ps_setLc (i := 3) (own := [("cell", 2)]) rfl nd rfl rfl (sw_true rfl rfl rfl (by decide +kernel)) (pi_list (pv 0)) (blkOk_by (by kernel_rfl)) (fun _ _ _ _ _ => pg_name (i := 2) nd rfl (Or.inl rfl)) (fun _ _ _ _ _ => pts_nil)
        (fun _ _ _ _ _ => pe_callB call_abs (by rfl) gb_abs (by decide +kernel) (pa_cons (pv 2) pa_nil)))
      (pss_one (ps_ret (pe_open rfl (Or.inl rfl) (by decide) (by decide) rfl (Or.inl rfl) (by decide) (by decide))))))
theorem sc_law : FnScope ["script", "source", "ridge", "one", "other", "drones", "i", "t", "spot", "near", "far", "lap"] ["script"] (defScope (top 75)) := ⟨rfl, rfl, rfl, by decide +kernel, rfl, by decide +kernel, by decide +kernel⟩
theorem ok_law {fO : Addr} {fdO : FuncData} (FD : FnP K "law" (top 75) f fd) (FO : FnP K "_law_open_cells" (top 60) fO fdO) (mO : mg "_law_open_cells" = some (.ref fO)) (F__law_pick : Fn P w K mg base 1 "_law_pick" ["source", "most"] C_law_pick) (F__law_below : Fn P w K mg base 1 "_law_below" ["x", "y"] C_law_below) (F__law_fraction : Fn P w K mg base 2 "_law_fraction" ["u", "d"] C_law_fraction) (F__law_sum : Fn P w K mg base 3 "_law_sum" ["x", "y"] C_law_sum) (F__law_draw_ridge : Fn P w K mg base 3 "_law_draw_ridge" ["source", "most"] C_law_draw_ridge) (F__law_draw_height : Fn P w K mg base 4 "_law_draw_height" ["source", "ridge"] C_law_draw_height) (F__law_spot : Fn P w K mg base 5 "_law_spot" ["ridge", "i", "t"] C_law_spot) (F__law_reach : Fn P w K mg base 5 "_law_reach" ["ridge", "height", "spot"] C_law_reach) (F_reach : Fn P w K mg base 8 "reach" ["ridge", "h", "g"] C_reach) (F_cover : Fn P w K mg base 17 "cover" ["ridge", "h"] C_cover) (F_fewest : Fn P w K mg base 17 "fewest" ["ridge", "h"] C_fewest) (F_judge_cover : Fn P w K mg base 17 "judge_cover" ["ridge", "h", "value"] C_judge_cover) (gb_abs : mg "abs" = none) (gb_int : mg "int" = none) (gb_len : mg "len" = none) (gb_range : mg "range" = none) : FnOk P w K mg base CX0 18 f fd ["script"] (spLaw K) := by
  have nd := sc_law.nd
  have GO : FnOk P w K mg base CX0 1 fO fdO ["script"] (spOpen K) := ok_open FO gb_abs gb_int
  have bO : Binds K fdO ["script"] [] := FO.bindsN fun _ _ _ _ _ _ us hl => match us, hl with | [_], _ => rfl
  refine FD.ok sc_law (fun vs H Q E h => ?_) (fun cdv A outer s H vs Q E hr h => ⟨_, PSs.nox ?_, law_go (n := 10) (d := d_law_rest) (fun P h => law_rest h) rfl vs H Q E h⟩)
  · obtain ⟨a, ns, rfl, _⟩ := h
    rfl
  · exact pss_cons (ps_set (i := 1) nd rfl (Or.inl rfl) (pe_call GO (hr.mono (by decide)) rfl mO FO.kp bO .nil pass0 (pa_cons (pv 0) pa_nil))) (DSs.run
      (dss_cons (ds_set false nd rfl (by first | exact Or.inl rfl | exact Or.inr rfl) (de_call F__law_draw_ridge (hr.mono (by decide)) (by rfl) (da_cons (de_var 1) (da_cons de_int da_nil))))
  (dss_cons (ds_set false nd rfl (by first | exact Or.inl rfl | exact Or.inr rfl) (de_call F__law_draw_height (hr.mono (by decide)) (by rfl) (da_cons (de_var 1) (da_cons (de_var 2) da_nil))))
  (dss_cons (ds_set false nd rfl (by first | exact Or.inl rfl | exact Or.inr rfl) (de_call F__law_sum (hr.mono (by decide)) (by rfl) (da_cons (de_var 3) (da_cons (de_call F__law_fraction (hr.mono (by decide)) (by rfl) (da_cons (de_op opd_add op_add3 de_int (de_call F__law_pick (hr.mono (by decide)) (by rfl) (da_cons (de_var 1) (da_cons de_int da_nil)))) (da_cons (de_op opd_add op_add3 de_int (de_call F__law_pick (hr.mono (by decide)) (by rfl) (da_cons (de_var 1) (da_cons de_int da_nil)))) da_nil))) da_nil))))
  (dss_cons (ds_set false nd rfl (by first | exact Or.inl rfl | exact Or.inr rfl) (de_call F_cover hr (by rfl) (da_cons (de_var 2) (da_cons (de_var 3) da_nil))))
  (dss_cons (ds_if (dw_or (dt_cmp opd_notN op_notN (de_call F_judge_cover hr (by rfl) (da_cons (de_var 2) (da_cons (de_var 4) (da_cons (de_var 5) da_nil)))) de_non (nomark _)) (dw_or1 (dt_cmp opd_IB op_gt (de_call F_fewest hr (by rfl) (da_cons (de_var 2) (da_cons (de_var 4) da_nil))) (de_callB cd_len call_len_seq (by rfl) gb_len PySem.boot_len (da_cons (de_var 5) da_nil)) (nomark _)))).dt (dss_one (ds_ret de_bl)) dss_nil)
  (dss_cons (ds_for PassesOwn.never rfl (di_range1 (by rfl) gb_range (da_cons de_int da_nil)) (dg_n nd rfl (by first | exact Or.inl rfl | exact Or.inr rfl) (by first | exact Or.inl rfl | exact Or.inr rfl)) (dss_cons (ds_par2 false false rfl nd rfl rfl (by decide) rfl rfl (da_cons (de_call F__law_pick (hr.mono (by decide)) (by rfl) (da_cons (de_var 1) (da_cons (de_op opd_I op_sub (de_callB cd_len call_len_seq (by rfl) gb_len PySem.boot_len (da_cons (de_var 2) da_nil)) de_int) da_nil))) (da_cons (de_call F__law_fraction (hr.mono (by decide)) (by rfl) (da_cons (de_call F__law_pick (hr.mono (by decide)) (by rfl) (da_cons (de_var 1) (da_cons de_int da_nil))) (da_cons de_int da_nil))) da_nil)) rfl)
  (dss_cons (ds_set false nd rfl (by first | exact Or.inl rfl | exact Or.inr rfl) (de_call F__law_spot (hr.mono (by decide)) (by rfl) (da_cons (de_var 2) (da_cons (de_var 6) (da_cons (de_var 7) da_nil)))))
  (dss_cons (ds_par2 false false rfl nd rfl rfl (by decide) rfl rfl (da_cons (de_call F_reach (hr.mono (by decide)) (by rfl) (da_cons (de_var 2) (da_cons (de_var 3) (da_cons (de_tup (da_cons (de_var 6) (da_cons (de_var 7) da_nil))) da_nil)))) (da_cons (de_call F_reach (hr.mono (by decide)) (by rfl) (da_cons (de_var 2) (da_cons (de_var 4) (da_cons (de_tup (da_cons (de_var 6) (da_cons (de_var 7) da_nil))) da_nil)))) da_nil)) rfl)
  (dss_cons (ds_if (dw_or (dt_cmp opd_ne (op_neD hr.units) (de_var 9) (de_call F__law_reach (hr.mono (by decide)) (by rfl) (da_cons (de_var 2) (da_cons (de_var 3) (da_cons (de_var 8) da_nil)))) (nomark _)) (dw_or1 (dt_cmp opd_ne (op_neD hr.units) (de_var 10) (de_call F__law_reach (hr.mono (by decide)) (by rfl) (da_cons (de_var 2) (da_cons (de_var 4) (da_cons (de_var 8) da_nil)))) (nomark _)))).dt (dss_one (ds_ret de_bl)) dss_nil)
  (dss_cons (ds_if (dw_or (dt_val (de_call F__law_below (hr.mono (by decide)) (by rfl) (da_cons (de_ix opd_ix ix_lt (de_var 9) de_int (fun _ _ => rfl)) (da_cons (de_ix opd_ix ix_lt (de_var 10) de_int (fun _ _ => rfl)) da_nil)))) (dw_or1 (dt_val (de_call F__law_below (hr.mono (by decide)) (by rfl) (da_cons (de_ix opd_ix ix_lt (de_var 10) de_int (fun _ _ => rfl)) (da_cons (de_ix opd_ix ix_lt (de_var 9) de_int (fun _ _ => rfl)) da_nil)))))).dt (dss_one (ds_ret de_bl)) dss_nil)
  (dss_one (ds_if (dw_or (dt_val (de_call F__law_below (hr.mono (by decide)) (by rfl) (da_cons (de_ix opd_ix ix_lt (de_var 8) de_int (fun _ _ => rfl)) (da_cons (de_ix opd_ix ix_lt (de_var 9) de_int (fun _ _ => rfl)) da_nil)))) (dw_or1 (dt_val (de_call F__law_below (hr.mono (by decide)) (by rfl) (da_cons (de_ix opd_ix ix_lt (de_var 9) de_int (fun _ _ => rfl)) (da_cons (de_ix opd_ix ix_lt (de_var 8) de_int (fun _ _ => rfl)) da_nil)))))).dt (dss_one (ds_ret de_bl)) dss_nil))))))))
  (dss_one (ds_ret de_bl)))))))))
end
def dd (x : PySem.Str) (i : Nat) : He.DefD := ⟨(x, none), x, x, defArgs (top i), defBody (top i), defScope (top i), [], []⟩
def fn : List He.DefD := ([dd "is_integer" 1, dd "common" 2, dd "is_fraction" 3, dd "fraction" 4, dd "added" 5, dd "lessened" 6, dd "multiplied" 7, dd "divided" 8, dd "compared" 9, dd "least_of" 10, dd "greatest_of" 11, dd "between" 12, dd "turned_by" 14, dd "place_at" 15, dd "crossing" 16, dd "spot_between" 17, dd "slopes_of" 19, dd "is_within" 20, dd "spot_of" 21, dd "line_of" 22, dd "is_place" 23, dd "is_under" 25, dd "sight_places" 26, dd "reach" 27, dd "bar_corners" 28, dd "own_sight" 30, dd "slope_reach" 31, dd "share_on_slope" 32, dd "turning_shares" 33, dd "ascending_fractions" 34] : List He.DefD) ++ ([dd "pieces_by" 35, dd "left_pieces" 36, dd "right_pieces" 37, dd "share_seen" 38, dd "first_left" 39, dd "last_right" 40, dd "seen_part" 41, dd "ascending" 43, dd "slope_layers" 44, dd "is_part_within" 45, dd "layers" 46, dd "dark_parts" 47, dd "whole_ground" 49, dd "unseen_end" 50, dd "next_step" 51, dd "steps_for" 52, dd "cover_for" 53, dd "cover" 54, dd "fewest_for" 55, dd "fewest" 56, dd "has_cover_form" 57, dd "judge_cover" 58, dd "_law_open_cells" 60, dd "_law_pick" 61, dd "_law_common" 62, dd "_law_fraction" 63, dd "_law_sum" 64, dd "_law_times" 65, dd "_law_less" 66, dd "_law_below" 67] : List He.DefD) ++ ([dd "_law_over" 68, dd "_law_least" 69, dd "_law_most" 70, dd "_law_spot" 71, dd "_law_reach" 72, dd "_law_draw_ridge" 73, dd "_law_draw_height" 74, dd "law" 75] : List He.DefD)
def fa : List He.Fa := ([.glo "is_integer", .glo "common", .glo "is_fraction", .glo "fraction", .glo "added", .glo "lessened", .glo "multiplied", .glo "divided", .glo "compared", .glo "least_of", .glo "greatest_of", .glo "between", .glo "turned_by", .glo "place_at", .glo "crossing", .glo "spot_between", .glo "slopes_of", .glo "is_within", .glo "spot_of", .glo "line_of", .glo "is_place", .glo "is_under", .glo "sight_places", .glo "reach", .glo "bar_corners", .glo "own_sight", .glo "slope_reach", .glo "share_on_slope", .glo "turning_shares", .glo "ascending_fractions"] : List He.Fa) ++ ([.glo "pieces_by", .glo "left_pieces", .glo "right_pieces", .glo "share_seen", .glo "first_left", .glo "last_right", .glo "seen_part", .glo "ascending", .glo "slope_layers", .glo "is_part_within", .glo "layers", .glo "dark_parts", .glo "whole_ground", .glo "unseen_end", .glo "next_step", .glo "steps_for", .glo "cover_for", .glo "cover", .glo "fewest_for", .glo "fewest", .glo "has_cover_form", .glo "judge_cover", .glo "_law_open_cells", .glo "_law_pick", .glo "_law_common", .glo "_law_fraction", .glo "_law_sum", .glo "_law_times", .glo "_law_less", .glo "_law_below"] : List He.Fa) ++ ([.glo "_law_over", .glo "_law_least", .glo "_law_most", .glo "_law_spot", .glo "_law_reach", .glo "_law_draw_ridge", .glo "_law_draw_height", .glo "law", .free "abs", .free "all", .free "bool", .free "enumerate", .free "int", .free "isinstance", .free "len", .free "list", .free "max", .free "min", .free "range", .free "tuple", .free "zip"] : List He.Fa)
abbrev R : PySem.W.OpenRow := PySem.W.OpenLaw.row PySem.Challenge.rw_ridgewatch_k84_whole_higher_sees_more
abbrev hk : PySem.W.Hook := He.hookD 4 fa fn
def ob (s : PySem.W.SharedT) : He.AlD := He.obsDG 4 fa fn (HandSHeadRun.getT s)
theorem ob_eq (s : PySem.W.SharedT) : ob s = hk.obs s.abs := He.obsDG_eq (HandSHeadRun.getT_eq s)
def loose : List PySem.Str := (["is_integer", "common", "is_fraction", "fraction", "added", "lessened", "multiplied", "divided", "compared", "least_of", "greatest_of", "between", "turned_by", "place_at", "crossing", "spot_between", "slopes_of", "is_within", "spot_of", "line_of", "is_place", "is_under", "sight_places", "reach", "bar_corners", "own_sight", "slope_reach", "share_on_slope", "turning_shares", "ascending_fractions"] : List PySem.Str) ++ (["pieces_by", "left_pieces", "right_pieces", "share_seen", "first_left", "last_right", "seen_part", "ascending", "slope_layers", "is_part_within", "layers", "dark_parts", "whole_ground", "unseen_end", "next_step", "steps_for", "cover_for", "cover", "fewest_for", "fewest", "has_cover_form", "judge_cover", "_law_open_cells", "_law_pick", "_law_common", "_law_fraction", "_law_sum", "_law_times", "_law_less", "_law_below"] : List PySem.Str) ++ (["_law_over", "_law_least", "_law_most", "_law_spot", "_law_reach", "_law_draw_ridge", "_law_draw_height"] : List PySem.Str)
theorem run (w : World) : HandSHeadRun.RunEq R (PySem.W.view R.prog [75]) hk ob 3000 loose w := by
  intro os
  kernel_rfl
theorem facts {P : Program} {w : World} {K : PySem.W.Frag} {h : Heap} {mg : Str → Option Value} {f : Addr} (X : K.In h) (G : h.Ns mainGlobals mg) (hfa : mg ("law" : Str) = some (.ref f)) (c : He.SaysD fa fn K) :
    ∃ fd : FuncData, (∀ (s : Shared) (v : Value), BindsTo s fd ⟨[v], []⟩ [("script", v)]) ∧ ∀ base : Heap, K.In base → base.Ns mainGlobals mg → FnOk P w K mg base CX0 18 f fd ["script"] (spLaw K) := by
  obtain ⟨fd_is_integer, FD_is_integer⟩ := c.def_ 0 (d := dd "is_integer" 1) rfl
  have m_is_integer := He.glo_ok X G (c.fact 0 (f := .glo "is_integer") rfl)
  obtain ⟨fd_common, FD_common⟩ := c.def_ 1 (d := dd "common" 2) rfl
  have m_common := He.glo_ok X G (c.fact 1 (f := .glo "common") rfl)
  obtain ⟨fd_compared, FD_compared⟩ := c.def_ 8 (d := dd "compared" 9) rfl
  have m_compared := He.glo_ok X G (c.fact 8 (f := .glo "compared") rfl)
  obtain ⟨fd_slopes_of, FD_slopes_of⟩ := c.def_ 16 (d := dd "slopes_of" 19) rfl
  have m_slopes_of := He.glo_ok X G (c.fact 16 (f := .glo "slopes_of") rfl)
  obtain ⟨fd_line_of, FD_line_of⟩ := c.def_ 19 (d := dd "line_of" 22) rfl
  have m_line_of := He.glo_ok X G (c.fact 19 (f := .glo "line_of") rfl)
  obtain ⟨fd__law_pick, FD__law_pick⟩ := c.def_ 53 (d := dd "_law_pick" 61) rfl
  have m__law_pick := He.glo_ok X G (c.fact 53 (f := .glo "_law_pick") rfl)
  obtain ⟨fd__law_common, FD__law_common⟩ := c.def_ 54 (d := dd "_law_common" 62) rfl
  have m__law_common := He.glo_ok X G (c.fact 54 (f := .glo "_law_common") rfl)
  obtain ⟨fd__law_below, FD__law_below⟩ := c.def_ 59 (d := dd "_law_below" 67) rfl
  have m__law_below := He.glo_ok X G (c.fact 59 (f := .glo "_law_below") rfl)
  obtain ⟨fd_is_fraction, FD_is_fraction⟩ := c.def_ 2 (d := dd "is_fraction" 3) rfl
  have m_is_fraction := He.glo_ok X G (c.fact 2 (f := .glo "is_fraction") rfl)
  obtain ⟨fd_fraction, FD_fraction⟩ := c.def_ 3 (d := dd "fraction" 4) rfl
  have m_fraction := He.glo_ok X G (c.fact 3 (f := .glo "fraction") rfl)
  obtain ⟨fd_least_of, FD_least_of⟩ := c.def_ 9 (d := dd "least_of" 10) rfl
  have m_least_of := He.glo_ok X G (c.fact 9 (f := .glo "least_of") rfl)
  obtain ⟨fd_greatest_of, FD_greatest_of⟩ := c.def_ 10 (d := dd "greatest_of" 11) rfl
  have m_greatest_of := He.glo_ok X G (c.fact 10 (f := .glo "greatest_of") rfl)
  obtain ⟨fd_is_under, FD_is_under⟩ := c.def_ 21 (d := dd "is_under" 25) rfl
  have m_is_under := He.glo_ok X G (c.fact 21 (f := .glo "is_under") rfl)
  obtain ⟨fd_is_part_within, FD_is_part_within⟩ := c.def_ 39 (d := dd "is_part_within" 45) rfl
  have m_is_part_within := He.glo_ok X G (c.fact 39 (f := .glo "is_part_within") rfl)
  obtain ⟨fd_whole_ground, FD_whole_ground⟩ := c.def_ 42 (d := dd "whole_ground" 49) rfl
  have m_whole_ground := He.glo_ok X G (c.fact 42 (f := .glo "whole_ground") rfl)
  obtain ⟨fd__law_fraction, FD__law_fraction⟩ := c.def_ 55 (d := dd "_law_fraction" 63) rfl
  have m__law_fraction := He.glo_ok X G (c.fact 55 (f := .glo "_law_fraction") rfl)
  obtain ⟨fd__law_least, FD__law_least⟩ := c.def_ 61 (d := dd "_law_least" 69) rfl
  have m__law_least := He.glo_ok X G (c.fact 61 (f := .glo "_law_least") rfl)
  obtain ⟨fd__law_most, FD__law_most⟩ := c.def_ 62 (d := dd "_law_most" 70) rfl
  have m__law_most := He.glo_ok X G (c.fact 62 (f := .glo "_law_most") rfl)
  obtain ⟨fd_added, FD_added⟩ := c.def_ 4 (d := dd "added" 5) rfl
  have m_added := He.glo_ok X G (c.fact 4 (f := .glo "added") rfl)
  obtain ⟨fd_lessened, FD_lessened⟩ := c.def_ 5 (d := dd "lessened" 6) rfl
  have m_lessened := He.glo_ok X G (c.fact 5 (f := .glo "lessened") rfl)
  obtain ⟨fd_multiplied, FD_multiplied⟩ := c.def_ 6 (d := dd "multiplied" 7) rfl
  have m_multiplied := He.glo_ok X G (c.fact 6 (f := .glo "multiplied") rfl)
  obtain ⟨fd_divided, FD_divided⟩ := c.def_ 7 (d := dd "divided" 8) rfl
  have m_divided := He.glo_ok X G (c.fact 7 (f := .glo "divided") rfl)
  obtain ⟨fd_is_within, FD_is_within⟩ := c.def_ 17 (d := dd "is_within" 20) rfl
  have m_is_within := He.glo_ok X G (c.fact 17 (f := .glo "is_within") rfl)
  obtain ⟨fd_ascending_fractions, FD_ascending_fractions⟩ := c.def_ 29 (d := dd "ascending_fractions" 34) rfl
  have m_ascending_fractions := He.glo_ok X G (c.fact 29 (f := .glo "ascending_fractions") rfl)
  obtain ⟨fd_ascending, FD_ascending⟩ := c.def_ 37 (d := dd "ascending" 43) rfl
  have m_ascending := He.glo_ok X G (c.fact 37 (f := .glo "ascending") rfl)
  obtain ⟨fd__law_sum, FD__law_sum⟩ := c.def_ 56 (d := dd "_law_sum" 64) rfl
  have m__law_sum := He.glo_ok X G (c.fact 56 (f := .glo "_law_sum") rfl)
  obtain ⟨fd__law_times, FD__law_times⟩ := c.def_ 57 (d := dd "_law_times" 65) rfl
  have m__law_times := He.glo_ok X G (c.fact 57 (f := .glo "_law_times") rfl)
  obtain ⟨fd__law_over, FD__law_over⟩ := c.def_ 60 (d := dd "_law_over" 68) rfl
  have m__law_over := He.glo_ok X G (c.fact 60 (f := .glo "_law_over") rfl)
  obtain ⟨fd__law_draw_ridge, FD__law_draw_ridge⟩ := c.def_ 65 (d := dd "_law_draw_ridge" 73) rfl
  have m__law_draw_ridge := He.glo_ok X G (c.fact 65 (f := .glo "_law_draw_ridge") rfl)
  obtain ⟨fd_between, FD_between⟩ := c.def_ 11 (d := dd "between" 12) rfl
  have m_between := He.glo_ok X G (c.fact 11 (f := .glo "between") rfl)
  obtain ⟨fd_turned_by, FD_turned_by⟩ := c.def_ 12 (d := dd "turned_by" 14) rfl
  have m_turned_by := He.glo_ok X G (c.fact 12 (f := .glo "turned_by") rfl)
  obtain ⟨fd_is_place, FD_is_place⟩ := c.def_ 20 (d := dd "is_place" 23) rfl
  have m_is_place := He.glo_ok X G (c.fact 20 (f := .glo "is_place") rfl)
  obtain ⟨fd_share_on_slope, FD_share_on_slope⟩ := c.def_ 27 (d := dd "share_on_slope" 32) rfl
  have m_share_on_slope := He.glo_ok X G (c.fact 27 (f := .glo "share_on_slope") rfl)
  obtain ⟨fd__law_less, FD__law_less⟩ := c.def_ 58 (d := dd "_law_less" 66) rfl
  have m__law_less := He.glo_ok X G (c.fact 58 (f := .glo "_law_less") rfl)
  obtain ⟨fd__law_draw_height, FD__law_draw_height⟩ := c.def_ 66 (d := dd "_law_draw_height" 74) rfl
  have m__law_draw_height := He.glo_ok X G (c.fact 66 (f := .glo "_law_draw_height") rfl)
  obtain ⟨fd_place_at, FD_place_at⟩ := c.def_ 13 (d := dd "place_at" 15) rfl
  have m_place_at := He.glo_ok X G (c.fact 13 (f := .glo "place_at") rfl)
  obtain ⟨fd_spot_between, FD_spot_between⟩ := c.def_ 15 (d := dd "spot_between" 17) rfl
  have m_spot_between := He.glo_ok X G (c.fact 15 (f := .glo "spot_between") rfl)
  obtain ⟨fd_has_cover_form, FD_has_cover_form⟩ := c.def_ 50 (d := dd "has_cover_form" 57) rfl
  have m_has_cover_form := He.glo_ok X G (c.fact 50 (f := .glo "has_cover_form") rfl)
  obtain ⟨fd__law_spot, FD__law_spot⟩ := c.def_ 63 (d := dd "_law_spot" 71) rfl
  have m__law_spot := He.glo_ok X G (c.fact 63 (f := .glo "_law_spot") rfl)
  obtain ⟨fd__law_reach, FD__law_reach⟩ := c.def_ 64 (d := dd "_law_reach" 72) rfl
  have m__law_reach := He.glo_ok X G (c.fact 64 (f := .glo "_law_reach") rfl)
  obtain ⟨fd_crossing, FD_crossing⟩ := c.def_ 14 (d := dd "crossing" 16) rfl
  have m_crossing := He.glo_ok X G (c.fact 14 (f := .glo "crossing") rfl)
  obtain ⟨fd_spot_of, FD_spot_of⟩ := c.def_ 18 (d := dd "spot_of" 21) rfl
  have m_spot_of := He.glo_ok X G (c.fact 18 (f := .glo "spot_of") rfl)
  obtain ⟨fd_own_sight, FD_own_sight⟩ := c.def_ 25 (d := dd "own_sight" 30) rfl
  have m_own_sight := He.glo_ok X G (c.fact 25 (f := .glo "own_sight") rfl)
  obtain ⟨fd_sight_places, FD_sight_places⟩ := c.def_ 22 (d := dd "sight_places" 26) rfl
  have m_sight_places := He.glo_ok X G (c.fact 22 (f := .glo "sight_places") rfl)
  obtain ⟨fd_turning_shares, FD_turning_shares⟩ := c.def_ 28 (d := dd "turning_shares" 33) rfl
  have m_turning_shares := He.glo_ok X G (c.fact 28 (f := .glo "turning_shares") rfl)
  obtain ⟨fd_share_seen, FD_share_seen⟩ := c.def_ 33 (d := dd "share_seen" 38) rfl
  have m_share_seen := He.glo_ok X G (c.fact 33 (f := .glo "share_seen") rfl)
  obtain ⟨fd_reach, FD_reach⟩ := c.def_ 23 (d := dd "reach" 27) rfl
  have m_reach := He.glo_ok X G (c.fact 23 (f := .glo "reach") rfl)
  obtain ⟨fd_bar_corners, FD_bar_corners⟩ := c.def_ 24 (d := dd "bar_corners" 28) rfl
  have m_bar_corners := He.glo_ok X G (c.fact 24 (f := .glo "bar_corners") rfl)
  obtain ⟨fd_slope_reach, FD_slope_reach⟩ := c.def_ 26 (d := dd "slope_reach" 31) rfl
  have m_slope_reach := He.glo_ok X G (c.fact 26 (f := .glo "slope_reach") rfl)
  obtain ⟨fd_pieces_by, FD_pieces_by⟩ := c.def_ 30 (d := dd "pieces_by" 35) rfl
  have m_pieces_by := He.glo_ok X G (c.fact 30 (f := .glo "pieces_by") rfl)
  obtain ⟨fd_left_pieces, FD_left_pieces⟩ := c.def_ 31 (d := dd "left_pieces" 36) rfl
  have m_left_pieces := He.glo_ok X G (c.fact 31 (f := .glo "left_pieces") rfl)
  obtain ⟨fd_right_pieces, FD_right_pieces⟩ := c.def_ 32 (d := dd "right_pieces" 37) rfl
  have m_right_pieces := He.glo_ok X G (c.fact 32 (f := .glo "right_pieces") rfl)
  obtain ⟨fd_first_left, FD_first_left⟩ := c.def_ 34 (d := dd "first_left" 39) rfl
  have m_first_left := He.glo_ok X G (c.fact 34 (f := .glo "first_left") rfl)
  obtain ⟨fd_last_right, FD_last_right⟩ := c.def_ 35 (d := dd "last_right" 40) rfl
  have m_last_right := He.glo_ok X G (c.fact 35 (f := .glo "last_right") rfl)
  obtain ⟨fd_seen_part, FD_seen_part⟩ := c.def_ 36 (d := dd "seen_part" 41) rfl
  have m_seen_part := He.glo_ok X G (c.fact 36 (f := .glo "seen_part") rfl)
  obtain ⟨fd_unseen_end, FD_unseen_end⟩ := c.def_ 43 (d := dd "unseen_end" 50) rfl
  have m_unseen_end := He.glo_ok X G (c.fact 43 (f := .glo "unseen_end") rfl)
  obtain ⟨fd_slope_layers, FD_slope_layers⟩ := c.def_ 38 (d := dd "slope_layers" 44) rfl
  have m_slope_layers := He.glo_ok X G (c.fact 38 (f := .glo "slope_layers") rfl)
  obtain ⟨fd_next_step, FD_next_step⟩ := c.def_ 44 (d := dd "next_step" 51) rfl
  have m_next_step := He.glo_ok X G (c.fact 44 (f := .glo "next_step") rfl)
  obtain ⟨fd_layers, FD_layers⟩ := c.def_ 40 (d := dd "layers" 46) rfl
  have m_layers := He.glo_ok X G (c.fact 40 (f := .glo "layers") rfl)
  obtain ⟨fd_steps_for, FD_steps_for⟩ := c.def_ 45 (d := dd "steps_for" 52) rfl
  have m_steps_for := He.glo_ok X G (c.fact 45 (f := .glo "steps_for") rfl)
  obtain ⟨fd_dark_parts, FD_dark_parts⟩ := c.def_ 41 (d := dd "dark_parts" 47) rfl
  have m_dark_parts := He.glo_ok X G (c.fact 41 (f := .glo "dark_parts") rfl)
  obtain ⟨fd_cover_for, FD_cover_for⟩ := c.def_ 46 (d := dd "cover_for" 53) rfl
  have m_cover_for := He.glo_ok X G (c.fact 46 (f := .glo "cover_for") rfl)
  obtain ⟨fd_fewest_for, FD_fewest_for⟩ := c.def_ 48 (d := dd "fewest_for" 55) rfl
  have m_fewest_for := He.glo_ok X G (c.fact 48 (f := .glo "fewest_for") rfl)
  obtain ⟨fd_cover, FD_cover⟩ := c.def_ 47 (d := dd "cover" 54) rfl
  have m_cover := He.glo_ok X G (c.fact 47 (f := .glo "cover") rfl)
  obtain ⟨fd_fewest, FD_fewest⟩ := c.def_ 49 (d := dd "fewest" 56) rfl
  have m_fewest := He.glo_ok X G (c.fact 49 (f := .glo "fewest") rfl)
  obtain ⟨fd_judge_cover, FD_judge_cover⟩ := c.def_ 51 (d := dd "judge_cover" 58) rfl
  have m_judge_cover := He.glo_ok X G (c.fact 51 (f := .glo "judge_cover") rfl)
  obtain ⟨fd__law_open_cells, FD__law_open_cells⟩ := c.def_ 52 (d := dd "_law_open_cells" 60) rfl
  have m__law_open_cells := He.glo_ok X G (c.fact 52 (f := .glo "_law_open_cells") rfl)
  have gb_abs := He.free_ok X G (c.fact 68 (f := .free "abs") rfl)
  have gb_all := He.free_ok X G (c.fact 69 (f := .free "all") rfl)
  have gb_bool := He.free_ok X G (c.fact 70 (f := .free "bool") rfl)
  have gb_enumerate := He.free_ok X G (c.fact 71 (f := .free "enumerate") rfl)
  have gb_int := He.free_ok X G (c.fact 72 (f := .free "int") rfl)
  have gb_isinstance := He.free_ok X G (c.fact 73 (f := .free "isinstance") rfl)
  have gb_len := He.free_ok X G (c.fact 74 (f := .free "len") rfl)
  have gb_list := He.free_ok X G (c.fact 75 (f := .free "list") rfl)
  have gb_max := He.free_ok X G (c.fact 76 (f := .free "max") rfl)
  have gb_min := He.free_ok X G (c.fact 77 (f := .free "min") rfl)
  have gb_range := He.free_ok X G (c.fact 78 (f := .free "range") rfl)
  have gb_tuple := He.free_ok X G (c.fact 79 (f := .free "tuple") rfl)
  have gb_zip := He.free_ok X G (c.fact 80 (f := .free "zip") rfl)
  obtain ⟨fd, F⟩ := c.def_ 67 (d := dd "law" 75) rfl
  have e := hfa.symm.trans (He.glo_ok X G (c.fact 67 (f := .glo "law") rfl))
  cases e
  have b := FunD.bindsA (ps := ["script"]) F fun _ _ _ _ _ _ us hl => match us, hl with | [_], _ => rfl
  refine ⟨fd, fun s v => b s [v] rfl, fun base _ _ => ?_⟩
  have F_is_integer : Fn P w K mg base 1 "is_integer" ["value"] C_is_integer := DV.F_is_integer FD_is_integer m_is_integer gb_bool gb_int gb_isinstance
  have F_common : Fn P w K mg base 1 "common" ["one", "other"] C_common := DV.F_common FD_common m_common gb_abs
  have F_compared : Fn P w K mg base 1 "compared" ["x", "y"] C_compared := DV.F_compared FD_compared m_compared
  have F_slopes_of : Fn P w K mg base 1 "slopes_of" ["ridge"] C_slopes_of := DV.F_slopes_of FD_slopes_of m_slopes_of gb_len
  have F_line_of : Fn P w K mg base 1 "line_of" ["ridge"] C_line_of := DV.F_line_of FD_line_of m_line_of
  have F__law_pick : Fn P w K mg base 1 "_law_pick" ["source", "most"] C_law_pick := DV.F__law_pick FD__law_pick m__law_pick gb_int gb_len
  have F__law_common : Fn P w K mg base 1 "_law_common" ["a", "b"] C_law_common := DV.F__law_common FD__law_common m__law_common gb_abs gb_int
  have F__law_below : Fn P w K mg base 1 "_law_below" ["x", "y"] C_law_below := DV.F__law_below FD__law_below m__law_below
  have F_is_fraction : Fn P w K mg base 2 "is_fraction" ["value"] C_is_fraction := DV.F_is_fraction FD_is_fraction m_is_fraction F_is_integer F_common gb_isinstance gb_len gb_tuple
  have F_fraction : Fn P w K mg base 2 "fraction" ["u", "e"] C_fraction := DV.F_fraction FD_fraction m_fraction F_common
  have F_least_of : Fn P w K mg base 2 "least_of" ["some"] C_least_of := DV.F_least_of FD_least_of m_least_of F_compared
  have F_greatest_of : Fn P w K mg base 2 "greatest_of" ["some"] C_greatest_of := DV.F_greatest_of FD_greatest_of m_greatest_of F_compared
  have F_is_under : Fn P w K mg base 2 "is_under" ["x", "y"] C_is_under := DV.F_is_under FD_is_under m_is_under F_compared
  have F_is_part_within : Fn P w K mg base 2 "is_part_within" ["one", "other"] C_is_part_within := DV.F_is_part_within FD_is_part_within m_is_part_within F_compared
  have F_whole_ground : Fn P w K mg base 2 "whole_ground" ["ridge"] C_whole_ground := DV.F_whole_ground FD_whole_ground m_whole_ground F_slopes_of gb_range gb_tuple
  have F__law_fraction : Fn P w K mg base 2 "_law_fraction" ["u", "d"] C_law_fraction := DV.F__law_fraction FD__law_fraction m__law_fraction F__law_common
  have F__law_least : Fn P w K mg base 2 "_law_least" ["fractions"] C_law_least := DV.F__law_least FD__law_least m__law_least F__law_below
  have F__law_most : Fn P w K mg base 2 "_law_most" ["fractions"] C_law_most := DV.F__law_most FD__law_most m__law_most F__law_below
  have F_added : Fn P w K mg base 3 "added" ["x", "y"] C_added := DV.F_added FD_added m_added F_fraction
  have F_lessened : Fn P w K mg base 3 "lessened" ["x", "y"] C_lessened := DV.F_lessened FD_lessened m_lessened F_fraction
  have F_multiplied : Fn P w K mg base 3 "multiplied" ["x", "y"] C_multiplied := DV.F_multiplied FD_multiplied m_multiplied F_fraction
  have F_divided : Fn P w K mg base 3 "divided" ["x", "y"] C_divided := DV.F_divided FD_divided m_divided F_fraction
  have F_is_within : Fn P w K mg base 3 "is_within" ["value", "least", "greatest"] C_is_within := DV.F_is_within FD_is_within m_is_within F_compared F_is_fraction
  have F_ascending_fractions : Fn P w K mg base 3 "ascending_fractions" ["some"] C_ascending_fractions := DV.F_ascending_fractions FD_ascending_fractions m_ascending_fractions F_is_under gb_len
  have F_ascending : Fn P w K mg base 3 "ascending" ["some"] C_ascending := DV.F_ascending FD_ascending m_ascending F_least_of gb_list gb_tuple
  have F__law_sum : Fn P w K mg base 3 "_law_sum" ["x", "y"] C_law_sum := DV.F__law_sum FD__law_sum m__law_sum F__law_fraction
  have F__law_times : Fn P w K mg base 3 "_law_times" ["x", "y"] C_law_times := DV.F__law_times FD__law_times m__law_times F__law_fraction
  have F__law_over : Fn P w K mg base 3 "_law_over" ["x", "y"] C_law_over := DV.F__law_over FD__law_over m__law_over F__law_fraction
  have F__law_draw_ridge : Fn P w K mg base 3 "_law_draw_ridge" ["source", "most"] C_law_draw_ridge := DV.F__law_draw_ridge FD__law_draw_ridge m__law_draw_ridge F__law_pick F__law_fraction gb_int gb_len gb_range gb_tuple
  have F_between : Fn P w K mg base 4 "between" ["x", "y", "t"] C_between := DV.F_between FD_between m_between F_added F_lessened F_multiplied
  have F_turned_by : Fn P w K mg base 4 "turned_by" ["a", "b", "c"] C_turned_by := DV.F_turned_by FD_turned_by m_turned_by F_lessened F_multiplied
  have F_is_place : Fn P w K mg base 4 "is_place" ["ridge", "value"] C_is_place := DV.F_is_place FD_is_place m_is_place F_is_within
  have F_share_on_slope : Fn P w K mg base 4 "share_on_slope" ["ridge", "i", "spot"] C_share_on_slope := DV.F_share_on_slope FD_share_on_slope m_share_on_slope F_lessened F_divided
  have F__law_less : Fn P w K mg base 4 "_law_less" ["x", "y"] C_law_less := DV.F__law_less FD__law_less m__law_less F__law_sum
  have F__law_draw_height : Fn P w K mg base 4 "_law_draw_height" ["source", "ridge"] C_law_draw_height := DV.F__law_draw_height FD__law_draw_height m__law_draw_height F__law_pick F__law_fraction F__law_most F__law_sum
  have F_place_at : Fn P w K mg base 5 "place_at" ["a", "b", "y"] C_place_at := DV.F_place_at FD_place_at m_place_at F_lessened F_divided F_between
  have F_spot_between : Fn P w K mg base 5 "spot_between" ["a", "b", "t"] C_spot_between := DV.F_spot_between FD_spot_between m_spot_between F_between
  have F_has_cover_form : Fn P w K mg base 5 "has_cover_form" ["ridge", "value"] C_has_cover_form := DV.F_has_cover_form FD_has_cover_form m_has_cover_form F_compared F_is_place gb_all gb_isinstance gb_tuple gb_zip
  have F__law_spot : Fn P w K mg base 5 "_law_spot" ["ridge", "i", "t"] C_law_spot := DV.F__law_spot FD__law_spot m__law_spot F__law_sum F__law_times F__law_less
  have F__law_reach : Fn P w K mg base 5 "_law_reach" ["ridge", "height", "spot"] C_law_reach := DV.F__law_reach FD__law_reach m__law_reach F__law_below F__law_least F__law_most F__law_sum F__law_times F__law_over F__law_less
  have F_crossing : Fn P w K mg base 6 "crossing" ["a", "b", "c", "d"] C_crossing := DV.F_crossing FD_crossing m_crossing F_lessened F_divided F_turned_by F_spot_between
  have F_spot_of : Fn P w K mg base 6 "spot_of" ["ridge", "ground"] C_spot_of := DV.F_spot_of FD_spot_of m_spot_of F_spot_between
  have F_own_sight : Fn P w K mg base 6 "own_sight" ["ridge", "h", "i"] C_own_sight := DV.F_own_sight FD_own_sight m_own_sight F_compared F_place_at
  have F_sight_places : Fn P w K mg base 7 "sight_places" ["ridge", "h", "g"] C_sight_places := DV.F_sight_places FD_sight_places m_sight_places F_is_under F_place_at F_spot_of gb_enumerate
  have F_turning_shares : Fn P w K mg base 7 "turning_shares" ["ridge", "i", "spots"] C_turning_shares := DV.F_turning_shares FD_turning_shares m_turning_shares F_is_under F_ascending_fractions F_share_on_slope F_crossing gb_enumerate gb_list
  have F_share_seen : Fn P w K mg base 7 "share_seen" ["ridge", "h", "i", "x", "c"] C_share_seen := DV.F_share_seen FD_share_seen m_share_seen F_share_on_slope F_crossing
  have F_reach : Fn P w K mg base 8 "reach" ["ridge", "h", "g"] C_reach := DV.F_reach FD_reach m_reach F_line_of F_least_of F_greatest_of F_sight_places
  have F_bar_corners : Fn P w K mg base 9 "bar_corners" ["ridge", "h", "g"] C_bar_corners := DV.F_bar_corners FD_bar_corners m_bar_corners F_compared F_sight_places F_reach gb_max gb_min
  have F_slope_reach : Fn P w K mg base 9 "slope_reach" ["ridge", "h", "i", "t"] C_slope_reach := DV.F_slope_reach FD_slope_reach m_slope_reach F_compared F_least_of F_greatest_of F_own_sight F_reach
  have F_pieces_by : Fn P w K mg base 10 "pieces_by" ["ridge", "h", "i", "shares", "side"] C_pieces_by := DV.F_pieces_by FD_pieces_by m_pieces_by F_added F_divided F_bar_corners gb_tuple gb_zip
  have F_left_pieces : Fn P w K mg base 11 "left_pieces" ["ridge", "h", "i"] C_left_pieces := DV.F_left_pieces FD_left_pieces m_left_pieces F_line_of F_turning_shares F_pieces_by
  have F_right_pieces : Fn P w K mg base 11 "right_pieces" ["ridge", "h", "i"] C_right_pieces := DV.F_right_pieces FD_right_pieces m_right_pieces F_line_of F_turning_shares F_pieces_by
  have F_first_left : Fn P w K mg base 12 "first_left" ["ridge", "h", "i", "x"] C_first_left := DV.F_first_left FD_first_left m_first_left F_compared F_share_seen F_slope_reach F_left_pieces
  have F_last_right : Fn P w K mg base 12 "last_right" ["ridge", "h", "i", "x"] C_last_right := DV.F_last_right FD_last_right m_last_right F_compared F_share_seen F_slope_reach F_right_pieces
  have F_seen_part : Fn P w K mg base 13 "seen_part" ["ridge", "h", "i", "x"] C_seen_part := DV.F_seen_part FD_seen_part m_seen_part F_is_under F_first_left F_last_right
  have F_unseen_end : Fn P w K mg base 13 "unseen_end" ["ridge", "h", "part", "x"] C_unseen_end := DV.F_unseen_end FD_unseen_end m_unseen_end F_compared F_slope_reach F_first_left
  have F_slope_layers : Fn P w K mg base 14 "slope_layers" ["ridge", "h", "i", "drones"] C_slope_layers := DV.F_slope_layers FD_slope_layers m_slope_layers F_is_part_within F_ascending F_seen_part gb_enumerate gb_tuple gb_zip
  have F_next_step : Fn P w K mg base 14 "next_step" ["ridge", "h", "parts", "x"] C_next_step := DV.F_next_step FD_next_step m_next_step F_compared F_slope_reach F_unseen_end
  have F_layers : Fn P w K mg base 15 "layers" ["ridge", "h", "drones"] C_layers := DV.F_layers FD_layers m_layers F_slopes_of F_slope_layers gb_range gb_tuple
  have F_steps_for : Fn P w K mg base 15 "steps_for" ["ridge", "h", "parts"] C_steps_for := DV.F_steps_for FD_steps_for m_steps_for F_next_step
  have F_dark_parts : Fn P w K mg base 16 "dark_parts" ["ridge", "h", "drones"] C_dark_parts := DV.F_dark_parts FD_dark_parts m_dark_parts F_layers gb_tuple
  have F_cover_for : Fn P w K mg base 16 "cover_for" ["ridge", "h", "parts"] C_cover_for := DV.F_cover_for FD_cover_for m_cover_for F_steps_for gb_tuple
  have F_fewest_for : Fn P w K mg base 16 "fewest_for" ["ridge", "h", "parts"] C_fewest_for := DV.F_fewest_for FD_fewest_for m_fewest_for F_steps_for gb_len
  have F_cover : Fn P w K mg base 17 "cover" ["ridge", "h"] C_cover := DV.F_cover FD_cover m_cover F_whole_ground F_cover_for
  have F_fewest : Fn P w K mg base 17 "fewest" ["ridge", "h"] C_fewest := DV.F_fewest FD_fewest m_fewest F_whole_ground F_fewest_for
  have F_judge_cover : Fn P w K mg base 17 "judge_cover" ["ridge", "h", "value"] C_judge_cover := DV.F_judge_cover FD_judge_cover m_judge_cover F_has_cover_form F_dark_parts
  exact ok_law F FD__law_open_cells m__law_open_cells F__law_pick F__law_below F__law_fraction F__law_sum F__law_draw_ridge F__law_draw_height F__law_spot F__law_reach F_reach F_cover F_fewest F_judge_cover gb_abs gb_int gb_len gb_range
end DV
open PySem PySem.W PySem.Calls PyProof.Rows
theorem PySem.Challenge.cw_ridgewatch_k84_whole_higher_sees_more_holds : PySem.Challenge.rw_ridgewatch_k84_whole_higher_sees_more.Holds := by
  w_on; o_law
  refine HandSHeadRun.head_any (r := OpenLaw.row PySem.Challenge.rw_ridgewatch_k84_whole_higher_sees_more) (q := view (OpenLaw.row PySem.Challenge.rw_ridgewatch_k84_whole_higher_sees_more).prog [75]) (H := DV.hk) (ob := DV.ob) (M := 3000) (loose := DV.loose) (d := HandSHeadRun.topDef (OpenLaw.row PySem.Challenge.rw_ridgewatch_k84_whole_higher_sees_more).prog 75) (kwd := []) DV.ob_eq
    (by kernel_rfl) (fun s => by kernel_rfl) DV.run (by kernel_rfl) (by kernel_rfl) (by kernel_rfl) (by rfl) (by first | assumption | decide +kernel) (by decide +kernel) ⟨rfl, rfl, rfl, rfl, rfl, by decide +kernel⟩ ?hw ?hc
  case hw => w_witness2
  case hc =>
    refine L2.walk_ofE (l := PySem.Challenge.rw_ridgewatch_k84_whole_higher_sees_more) (n := 63) (k := 18) (x := "script") (CX := L2.CX0) rfl (by decide) (by kernel_rfl) ⟨rfl, by decide, by decide⟩ ?F (fun _ _ _ _ z => z)
    intro w mg fa h Y G hmg0
    obtain ⟨K, KX, c⟩ := Y
    have hmg : mg ("law" : PySem.Str) = some (.ref fa) := by
      have e : (HandSHeadRun.topDef (OpenLaw.row PySem.Challenge.rw_ridgewatch_k84_whole_higher_sees_more).prog 75).name = ("law" : PySem.Str) := by kernel_rfl
      rw [← e]
      exact hmg0
    obtain ⟨fd, hb, hF⟩ := DV.facts (P := (PySem.Challenge.rw_ridgewatch_k84_whole_higher_sees_more).prog) (w := w) KX G hmg c
    exact ⟨K, fd, DL.spLaw K, KX, hb, fun H a ns hl _ hS => ⟨a, ns, rfl, hS, hl, fun _ => rfl⟩, hF⟩
end
