import PyProof.Rows.All
import Wide.All
import OpenK.AllK
import Wide.FinOn
import HandS.ForMost
import HandS.ForExc
import HandS.Deep
import HandS.Conv
import HandS.TryOnly
import HandS.ExcOwn
import HandS.WordsExc
import HandS.SetFor
import HandS.TupSets
import HandS.Zip
import HandS.ExcIs
import HandS.IsInst
import HandS.Iter
import HandS.Walk
import KE.DataFind
import PySem.Challenge.RW_signalbox_k10_box
set_option Elab.async false
set_option linter.all false
set_option maxRecDepth 100000
set_option maxHeartbeats 4000000
namespace SB
open PySem L2

/-! ### data in the known part of the heap -/
mutual
inductive Dq (B : Hp) : V → PyData → Prop
  | non : Dq B .non .none
  | bl (b : Bool) : Dq B (.bl b) (.bool b)
  | int (i : Int) : Dq B (.int i) (.int i)
  | str (x : Str) : Dq B (.str x) (.str x)
  | lst {a : Addr} {xs : List V} {ds : List PyData} : B a = some (.lst xs) → DqAll B xs ds → Dq B (.ref a) (.list ds)
  | tup {a : Addr} {xs : List V} {ds : List PyData} : B a = some (.tup xs) → DqAll B xs ds → Dq B (.ref a) (.tuple ds)
inductive DqAll (B : Hp) : List V → List PyData → Prop
  | nil : DqAll B [] []
  | cons {v : V} {vs : List V} {d : PyData} {ds : List PyData} : Dq B v d → DqAll B vs ds → DqAll B (v :: vs) (d :: ds)
end
mutual
theorem Dq.mono {B B' : Hp} (e : Same B B') : ∀ {v : V} {d : PyData}, Dq B v d → Dq B' v d
  | _, _, .non => .non
  | _, _, .bl b => .bl b
  | _, _, .int i => .int i
  | _, _, .str x => .str x
  | _, _, .lst h t => .lst (e _ _ h) (DqAll.mono e t)
  | _, _, .tup h t => .tup (e _ _ h) (DqAll.mono e t)
theorem DqAll.mono {B B' : Hp} (e : Same B B') : ∀ {v : List V} {d : List PyData}, DqAll B v d → DqAll B' v d
  | _, _, .nil => .nil
  | _, _, .cons h t => .cons (Dq.mono e h) (DqAll.mono e t)
end
mutual
theorem Dq.dp {K : PySem.W.Frag} {B : Hp} : ∀ {v : V} {d : PyData}, Dq B v d → Dp K B v d
  | _, _, .non => .non
  | _, _, .bl b => .bl b
  | _, _, .int i => .int i
  | _, _, .str x => .str x
  | _, _, .lst h t => .lst (SqL.of h) (DqAll.dp t)
  | _, _, .tup h t => .tup (SqT.of h) (DqAll.dp t)
theorem DqAll.dp {K : PySem.W.Frag} {B : Hp} : ∀ {v : List V} {d : List PyData}, DqAll B v d → DpAll K B v d
  | _, _, .nil => .nil
  | _, _, .cons h t => .cons (Dq.dp h) (DqAll.dp t)
end
theorem DqAll.length {B : Hp} : ∀ {vs : List V} {ds : List PyData}, DqAll B vs ds → vs.length = ds.length
  | _, _, .nil => rfl
  | _, _, .cons _ t => congrArg (· + 1) (DqAll.length t)
theorem DqAll.get {B : Hp} : ∀ {vs : List V} {ds : List PyData} {i : Nat} {d : PyData}, DqAll B vs ds → ds[i]? = some d → ∃ v, vs[i]? = some v ∧ Dq B v d
  | _, _, _, _, .nil, h => by simp at h
  | _, _, 0, _, .cons h _, e => by
    simp at e
    subst e
    exact ⟨_, rfl, h⟩
  | _, _, i + 1, d, .cons _ t, e => by
    obtain ⟨v, h1, h2⟩ := DqAll.get (i := i) (d := d) t (by simpa using e)
    exact ⟨v, by simpa using h1, h2⟩
theorem DqAll.getV {B : Hp} {vs : List V} {ds : List PyData} {i : Nat} {v : V} (t : DqAll B vs ds) (h : vs[i]? = some v) : ∃ d, ds[i]? = some d ∧ Dq B v d := by
  have hl := t.length
  have hi : i < ds.length := by rw [← hl]; exact (List.getElem?_eq_some_iff.mp h).1
  obtain ⟨w, h1, h2⟩ := t.get (List.getElem?_eq_getElem hi)
  rw [h] at h1
  cases h1
  exact ⟨_, List.getElem?_eq_getElem hi, h2⟩
theorem DqAll.append {B : Hp} : ∀ {vs ws : List V} {ds es : List PyData}, DqAll B vs ds → DqAll B ws es → DqAll B (vs ++ ws) (ds ++ es)
  | _, _, _, _, .nil, t => t
  | _, _, _, _, .cons h r, t => .cons h (DqAll.append r t)
theorem DqAll.one {B : Hp} {v : V} {d : PyData} (h : Dq B v d) : DqAll B [v] [d] := .cons h .nil
theorem DqAll.drop {B : Hp} : ∀ (n : Nat) {vs : List V} {ds : List PyData}, DqAll B vs ds → DqAll B (vs.drop n) (ds.drop n)
  | 0, _, _, h => h
  | _ + 1, _, _, .nil => .nil
  | n + 1, _, _, .cons _ t => DqAll.drop n t
theorem DqAll.take {B : Hp} : ∀ (n : Nat) {vs : List V} {ds : List PyData}, DqAll B vs ds → DqAll B (vs.take n) (ds.take n)
  | 0, _, _, _ => .nil
  | _ + 1, _, _, .nil => .nil
  | n + 1, _, _, .cons h t => .cons h (DqAll.take n t)
theorem DqAll.set {B : Hp} {v : V} {d : PyData} (h : Dq B v d) : ∀ (i : Nat) {vs : List V} {ds : List PyData}, DqAll B vs ds → DqAll B (vs.set i v) (ds.set i d)
  | _, _, _, .nil => .nil
  | 0, _, _, .cons _ t => .cons h t
  | i + 1, _, _, .cons q t => .cons q (DqAll.set h i t)
theorem DqAll.rev {B : Hp} : ∀ {vs : List V} {ds : List PyData}, DqAll B vs ds → DqAll B vs.reverse ds.reverse
  | _, _, .nil => .nil
  | _, _, .cons h t => by
    rw [List.reverse_cons, List.reverse_cons]
    exact (DqAll.rev t).append (.one h)
theorem DqAll.ints {B : Hp} : ∀ {vs : List V} {ns : List Int}, DqAll B vs (ns.map PyData.int) → vs = ns.map V.int
  | _, [], h => by cases h; rfl
  | _, n :: ns, h => by
    cases h with
    | cons h t => cases h; rw [DqAll.ints t]; rfl
theorem DqAll.ofInts {B : Hp} : ∀ (ns : List Int), DqAll B (ns.map V.int) (ns.map PyData.int)
  | [] => .nil
  | n :: ns => .cons (.int n) (DqAll.ofInts ns)
theorem DqAll.bools {B : Hp} : ∀ {vs : List V} {ns : List Bool}, DqAll B vs (ns.map PyData.bool) → vs = ns.map V.bl
  | _, [], h => by cases h; rfl
  | _, n :: ns, h => by
    cases h with
    | cons h t => cases h; rw [DqAll.bools t]; rfl

/-- an abstract value: data of the known part, or a value as it is -/
inductive AV where
  | d (x : PyData)
  | v (x : V)
def Is (B : Hp) (u : V) : AV → Prop
  | .d x => Dq B u x
  | .v x => u = x
theorem Is.mono {B B' : Hp} {u : V} (e : Same B B') : ∀ {g : AV}, Is B u g → Is B' u g
  | .d _, h => Dq.mono e h
  | .v _, h => h
abbrev AI (i : Int) : AV := .d (.int i)
abbrev AB (b : Bool) : AV := .d (.bool b)
abbrev AS (x : Str) : AV := .d (.str x)
abbrev AN : AV := .d .none

/-! ### the known part B within the heap H, and how both grow -/
structure Ext (B H B' H' : Hp) : Prop where
  bb : Same B B'
  bh : Same B' H'
  hh : Same H H'
  fr : ∀ a, B' a ≠ none → B a ≠ none ∨ H a = none
theorem Ext.refl {B H : Hp} (e : Same B H) : Ext B H B H := ⟨Same.refl _, e, Same.refl _, fun _ h => .inl h⟩
theorem Ext.trans {B H B1 H1 B2 H2 : Hp} (a : Ext B H B1 H1) (b : Ext B1 H1 B2 H2) : Ext B H B2 H2 :=
  ⟨a.bb.trans b.bb, b.bh, a.hh.trans b.hh, fun x h => by
    rcases b.fr x h with q | q
    · exact a.fr x q
    · exact .inr (a.hh.free q)⟩
theorem Ext.off {B H B' H' : Hp} (x : Ext B H B' H') {p : Addr} (hb : B p = none) (hh : H p ≠ none) : B' p = none := by
  cases h : B' p with
  | none => rfl
  | some o =>
    rcases x.fr p (by rw [h]; simp) with q | q
    · exact absurd hb q
    · exact absurd q hh
/-- a new object that the known part takes in -/
theorem Ext.new {B H : Hp} {p : Addr} {o : HO} (e : Same B H) (hp : H p = none) : Ext B H (upd B p o) (upd H p o) :=
  ⟨fun a u h => by rw [upd_ne (ne_of_none (e _ _ h) hp)]; exact h, fun a u h => by
    by_cases q : a = p
    · subst q
      rw [upd_same] at h ⊢
      exact h
    · rw [upd_ne q] at h ⊢
      exact e _ _ h, fun a u h => by rw [upd_ne (ne_of_none h hp)]; exact h, fun a h => by
    by_cases q : a = p
    · exact .inr (q ▸ hp)
    · rw [upd_ne q] at h
      exact .inl h⟩
/-- a new object that stays out of the known part -/
theorem Ext.out {B H : Hp} {p : Addr} {o : HO} (e : Same B H) (hp : H p = none) : Ext B H B (upd H p o) :=
  ⟨Same.refl _, fun a u h => by rw [upd_ne (ne_of_none (e _ _ h) hp)]; exact e _ _ h, fun a u h => by rw [upd_ne (ne_of_none h hp)]; exact h, fun a h => .inl h⟩
/-- an own object is changed -/
theorem Ext.mut {B0 H0 B H : Hp} {p : Addr} {o : HO} (x : Ext B0 H0 B H) (h0 : H0 p = Option.none) (hb : B p = Option.none) : Ext B0 H0 B (upd H p o) :=
  ⟨x.bb, fun a u h => by rw [upd_ne (ne_of_none h hb)]; exact x.bh _ _ h, fun a u h => by rw [upd_ne (ne_of_none h h0)]; exact x.hh _ _ h, x.fr⟩
/-- .. and taken in -/
theorem Ext.take {B0 H0 B H : Hp} {p : Addr} {o : HO} (x : Ext B0 H0 B H) (h0 : H0 p = Option.none) (hb : B p = Option.none) (hp : H p = some o) : Ext B0 H0 (upd B p o) H :=
  ⟨fun a u h => by rw [upd_ne (ne_of_none (x.bb _ _ h) hb)]; exact x.bb _ _ h, fun a u h => by
    by_cases q : a = p
    · subst q
      rw [upd_same] at h
      rw [hp]
      exact h
    · rw [upd_ne q] at h
      exact x.bh _ _ h, x.hh, fun a h => by
    by_cases q : a = p
    · exact .inr (q ▸ h0)
    · rw [upd_ne q] at h
      exact x.fr _ h⟩

/-- the frame: what its slots hold, as far as it is told -/
def Fr (B : Hp) (σ : L2.St) (Γ : List (Option AV)) : Prop := σ.length = Γ.length ∧ ∀ (i : Nat) (g : AV), Γ[i]? = some (some g) → ∃ u, σ[i]? = some (some u) ∧ Is B u g
theorem Fr.mono {B B' : Hp} {σ : L2.St} {Γ : List (Option AV)} (e : Same B B') (h : Fr B σ Γ) : Fr B' σ Γ := ⟨h.1, fun i g q => by
  obtain ⟨u, a, b⟩ := h.2 i g q
  exact ⟨u, a, b.mono e⟩⟩
theorem Fr.set {B : Hp} {σ : L2.St} {Γ : List (Option AV)} {u : V} {g : AV} (h : Fr B σ Γ) (i : Nat) (hu : Is B u g) : Fr B (σ.set i (some u)) (Γ.set i (some g)) := by
  refine ⟨by rw [List.length_set, List.length_set]; exact h.1, fun j k q => ?_⟩
  by_cases e : i = j
  · subst e
    by_cases hi : i < Γ.length
    · rw [List.getElem?_set_self hi] at q
      cases q
      exact ⟨u, List.getElem?_set_self (by rw [h.1]; exact hi), hu⟩
    · rw [List.getElem?_eq_none (by rw [List.length_set]; omega)] at q
      cases q
  · rw [List.getElem?_set_ne e] at q
    obtain ⟨w, a, b⟩ := h.2 j k q
    exact ⟨w, by rw [List.getElem?_set_ne e]; exact a, b⟩
/-- Δ tells no more than Γ -/
def Le (Δ Γ : List (Option AV)) : Prop := Δ.length = Γ.length ∧ ∀ (i : Nat) (g : AV), Δ[i]? = some (some g) → Γ[i]? = some (some g)
theorem Fr.le {B : Hp} {σ : L2.St} {Γ Δ : List (Option AV)} (h : Fr B σ Γ) (l : Le Δ Γ) : Fr B σ Δ := ⟨h.1.trans l.1.symm, fun i g q => h.2 i g (l.2 i g q)⟩
theorem Fr.wipe {B : Hp} {σ : L2.St} {Γ : List (Option AV)} (h : Fr B σ Γ) : ∀ (vs : List Nat), Fr B (wipe σ vs) (vs.foldr (fun i Δ => Δ.set i none) Γ)
  | [] => h
  | v :: vs => by
    have ih := Fr.wipe h vs
    refine ⟨by rw [wipe_length, List.foldr_cons, List.length_set, ← ih.1, wipe_length], fun i g q => ?_⟩
    rw [List.foldr_cons] at q
    by_cases e : v = i
    · subst e
      rw [List.getElem?_set] at q
      split at q
      · split at q <;> cases q
      · exact absurd rfl (by assumption)
    · rw [List.getElem?_set_ne e] at q
      obtain ⟨u, a, b⟩ := ih.2 i g q
      refine ⟨u, ?_, b⟩
      show ((L2.wipe σ vs).set v none)[i]? = _
      rw [List.getElem?_set_ne e]
      exact a

/-! ### what an expression gives -/
def Gv (te : TE) (Γ : List (Option AV)) (B H : Hp) (g : AV) : Prop :=
  ∀ B1 H1 σ, Ext B H B1 H1 → Fr B1 σ Γ → ∀ Q : VK, (∀ u B2 H2, Ext B1 H1 B2 H2 → Is B2 u g → Q u H2) → te σ H1 Q
def Gt (tt : TT) (Γ : List (Option AV)) (B H : Hp) (b : Bool) : Prop :=
  ∀ B1 H1 σ, Ext B H B1 H1 → Fr B1 σ Γ → ∀ Q : Bool → Hp → Prop, (∀ B2 H2, Ext B1 H1 B2 H2 → Q b H2) → tt σ H1 Q
inductive IsAll (B : Hp) : List V → List AV → Prop
  | nil : IsAll B [] []
  | cons {u : V} {us : List V} {g : AV} {gs : List AV} : Is B u g → IsAll B us gs → IsAll B (u :: us) (g :: gs)
theorem IsAll.mono {B B' : Hp} (e : Same B B') : ∀ {us : List V} {gs : List AV}, IsAll B us gs → IsAll B' us gs
  | _, _, .nil => .nil
  | _, _, .cons h t => .cons (h.mono e) (IsAll.mono e t)
theorem IsAll.length {B : Hp} : ∀ {us : List V} {gs : List AV}, IsAll B us gs → us.length = gs.length
  | _, _, .nil => rfl
  | _, _, .cons _ t => congrArg (· + 1) (IsAll.length t)
def Ga (ta : TA) (Γ : List (Option AV)) (B H : Hp) (gs : List AV) : Prop :=
  ∀ B1 H1 σ, Ext B H B1 H1 → Fr B1 σ Γ → ∀ Q : List V → Hp → Prop, (∀ us B2 H2, Ext B1 H1 B2 H2 → IsAll B2 us gs → Q us H2) → ta σ H1 Q
/-- a two-place operation, by values; a call -/
def Ro (r : R2) (B H : Hp) (x y z : AV) : Prop :=
  ∀ B1 H1 u w, Ext B H B1 H1 → Is B1 u x → Is B1 w y → ∀ Q : VK, (∀ q B2 H2, Ext B1 H1 B2 H2 → Is B2 q z → Q q H2) → r u w H1 Q
def Rc (r : List V → Hp → VK → Prop) (B H : Hp) (gs : List AV) (z : AV) : Prop :=
  ∀ B1 H1 us, Ext B H B1 H1 → IsAll B1 us gs → ∀ Q : VK, (∀ q B2 H2, Ext B1 H1 B2 H2 → Is B2 q z → Q q H2) → r us H1 Q

section
variable {K : PySem.W.Frag} {Γ : List (Option AV)} {B H B' H' : Hp} {g x y z : AV} {te ta tb tc : TE} {t u : TT} {b c : Bool}
theorem Gv.ext (e : Ext B H B' H') (h : Gv te Γ B H g) : Gv te Γ B' H' g := fun B1 H1 σ x f Q q => h B1 H1 σ (e.trans x) f Q q
theorem Gt.ext (e : Ext B H B' H') (h : Gt t Γ B H b) : Gt t Γ B' H' b := fun B1 H1 σ x f Q q => h B1 H1 σ (e.trans x) f Q q
theorem gv_is (h : Gv te Γ B H g) (e : g = x) : Gv te Γ B H x := e ▸ h
theorem gt_is (h : Gt t Γ B H b) (e : b = c) : Gt t Γ B H c := e ▸ h
theorem gv_var {i : Nat} (h : Γ[i]? = some (some g)) : Gv (tVar i) Γ B H g := fun B1 H1 σ e f Q q => by
  obtain ⟨u, a, b⟩ := f.2 i g h
  exact ⟨u, a, q u B1 H1 (Ext.refl e.bh) b⟩
theorem gv_int {i : Int} : Gv (tC (.int i)) Γ B H (AI i) := fun B1 H1 σ e _ Q q => q _ B1 H1 (Ext.refl e.bh) (.int i)
theorem gv_bl {i : Bool} : Gv (tC (.bl i)) Γ B H (AB i) := fun B1 H1 σ e _ Q q => q _ B1 H1 (Ext.refl e.bh) (.bl i)
theorem gv_str {i : Str} : Gv (tC (.str i)) Γ B H (AS i) := fun B1 H1 σ e _ Q q => q _ B1 H1 (Ext.refl e.bh) (.str i)
theorem gv_non : Gv (tC .non) Γ B H AN := fun B1 H1 σ e _ Q q => q _ B1 H1 (Ext.refl e.bh) .non
theorem gv_C {u : V} : Gv (tC u) Γ B H (.v u) := fun B1 H1 σ e _ Q q => q _ B1 H1 (Ext.refl e.bh) rfl
theorem gv_op {r : R2} (ha : Gv ta Γ B H x) (hb : Gv tb Γ B H y) (hr : Ro r B H x y z) : Gv (tOp r ta tb) Γ B H z := fun B1 H1 σ e f Q q =>
  ha B1 H1 σ e f _ fun u B2 H2 e2 hu => hb B2 H2 σ (e.trans e2) (f.mono e2.bb) _ fun w B3 H3 e3 hw =>
    hr B3 H3 u w ((e.trans e2).trans e3) (hu.mono e3.bb) hw Q fun k B4 H4 e4 hk => q k B4 H4 ((e2.trans e3).trans e4) hk
theorem ga_nil : Ga tNil Γ B H [] := fun B1 H1 σ e _ Q q => q _ B1 H1 (Ext.refl e.bh) .nil
theorem ga_cons {tr : TA} {gs : List AV} (h : Gv ta Γ B H x) (hr : Ga tr Γ B H gs) : Ga (tCons ta tr) Γ B H (x :: gs) := fun B1 H1 σ e f Q q =>
  h B1 H1 σ e f _ fun u B2 H2 e2 hu => hr B2 H2 σ (e.trans e2) (f.mono e2.bb) _ fun us B3 H3 e3 hus => q _ B3 H3 (e2.trans e3) (.cons (hu.mono e3.bb) hus)
theorem gv_cb {r : List V → Hp → VK → Prop} {tr : TA} {gs : List AV} (h : Ga tr Γ B H gs) (hr : Rc r B H gs z) : Gv (tCB r tr) Γ B H z := fun B1 H1 σ e f Q q =>
  h B1 H1 σ e f _ fun us B2 H2 e2 hu => hr B2 H2 us (e.trans e2) hu Q fun k B3 H3 e3 hk => q k B3 H3 (e2.trans e3) hk
/-! truths -/
theorem gt_test (h : Gv te Γ B H (AB b)) : Gt (tTest te) Γ B H b := fun B1 H1 σ e f Q q => h B1 H1 σ e f _ fun u B2 H2 e2 hu => by
  cases hu
  exact ⟨b, rfl, q B2 H2 e2⟩
theorem gt_B (h : Gv te Γ B H (AB b)) : Gt (tB te) Γ B H b := fun B1 H1 σ e f Q q => h B1 H1 σ e f _ fun u B2 H2 e2 hu => by
  cases hu
  exact ⟨b, rfl, q B2 H2 e2⟩
theorem gt_and (h1 : Gt t Γ B H b) (h2 : b = true → Gt u Γ B H c) : Gt (tAnd t u) Γ B H (b && c) := fun B1 H1 σ e f Q q => h1 B1 H1 σ e f _ fun B2 H2 e2 => by
  cases b with
  | true =>
    show u σ H2 Q
    exact h2 rfl B2 H2 σ (e.trans e2) (f.mono e2.bb) Q fun B3 H3 e3 => q B3 H3 (e2.trans e3)
  | false =>
    show Q false H2
    exact q B2 H2 e2
theorem gt_or (h1 : Gt t Γ B H b) (h2 : b = false → Gt u Γ B H c) : Gt (tOr t u) Γ B H (b || c) := fun B1 H1 σ e f Q q => h1 B1 H1 σ e f _ fun B2 H2 e2 => by
  cases b with
  | true =>
    show Q true H2
    exact q B2 H2 e2
  | false =>
    show u σ H2 Q
    exact h2 rfl B2 H2 σ (e.trans e2) (f.mono e2.bb) Q fun B3 H3 e3 => q B3 H3 (e2.trans e3)
theorem gt_not (h1 : Gt t Γ B H b) : Gt (tNot t) Γ B H (!b) := fun B1 H1 σ e f Q q => h1 B1 H1 σ e f _ fun B2 H2 e2 => q B2 H2 e2
theorem gv_andV (h1 : Gv ta Γ B H (AB b)) (h2 : b = true → Gv tb Γ B H (AB c)) : Gv (tAndV ta tb) Γ B H (AB (b && c)) := fun B1 H1 σ e f Q q => h1 B1 H1 σ e f _ fun u B2 H2 e2 hu => by
  cases hu
  refine ⟨b, rfl, ?_⟩
  cases b with
  | true =>
    show tb σ H2 Q
    exact h2 rfl B2 H2 σ (e.trans e2) (f.mono e2.bb) Q fun w B3 H3 e3 hw => q w B3 H3 (e2.trans e3) hw
  | false =>
    show Q (.bl false) H2
    exact q _ B2 H2 e2 (.bl false)
theorem gv_orV (h1 : Gv ta Γ B H (AB b)) (h2 : b = false → Gv tb Γ B H (AB c)) : Gv (tOrV ta tb) Γ B H (AB (b || c)) := fun B1 H1 σ e f Q q => h1 B1 H1 σ e f _ fun u B2 H2 e2 hu => by
  cases hu
  refine ⟨b, rfl, ?_⟩
  cases b with
  | true =>
    show Q (.bl true) H2
    exact q _ B2 H2 e2 (.bl true)
  | false =>
    show tb σ H2 Q
    exact h2 rfl B2 H2 σ (e.trans e2) (f.mono e2.bb) Q fun w B3 H3 e3 hw => q w B3 H3 (e2.trans e3) hw
theorem gv_notV (h1 : Gv ta Γ B H (AB b)) : Gv (tNotV ta) Γ B H (AB (!b)) := fun B1 H1 σ e f Q q => h1 B1 H1 σ e f _ fun u B2 H2 e2 hu => by
  cases hu
  exact ⟨b, rfl, q _ B2 H2 e2 (.bl _)⟩
theorem gv_if (h : Gt t Γ B H b) (h1 : b = true → Gv ta Γ B H g) (h2 : b = false → Gv tb Γ B H g) : Gv (tIf t ta tb) Γ B H g := fun B1 H1 σ e f Q q => h B1 H1 σ e f _ fun B2 H2 e2 => by
  cases b with
  | true =>
    show ta σ H2 Q
    exact h1 rfl B2 H2 σ (e.trans e2) (f.mono e2.bb) Q fun w B3 H3 e3 hw => q w B3 H3 (e2.trans e3) hw
  | false =>
    show tb σ H2 Q
    exact h2 rfl B2 H2 σ (e.trans e2) (f.mono e2.bb) Q fun w B3 H3 e3 hw => q w B3 H3 (e2.trans e3) hw
theorem gv_ite (h : Gt t Γ B H b) (h1 : b = true → Gv ta Γ B H x) (h2 : b = false → Gv tb Γ B H y) : Gv (tIf t ta tb) Γ B H (if b = true then x else y) := by
  cases b with
  | true => exact gv_if h (fun _ => h1 rfl) fun z => nomatch z
  | false => exact gv_if h (fun z => nomatch z) fun _ => h2 rfl
end
end SB
namespace SB
open PySem L2

/-! ### typed data -/
class Enc (α : Type) [DecidableEq α] where
  enc : α → PyData
  eqv : ∀ a b, PyData.eqv (enc a) (enc b) = decide (a = b)
  lay : ∀ a, (enc a).canLay0 = true
  dep : Nat
  dep_le : ∀ a, (enc a).depth ≤ dep
open Enc (enc)
theorem eqvAll_map {α : Type} [DecidableEq α] [Enc α] : ∀ xs ys : List α, PyData.eqvAll (xs.map enc) (ys.map enc) = decide (xs = ys)
  | [], [] => by simp [PyData.eqvAll]
  | [], y :: ys => by simp [PyData.eqvAll]
  | x :: xs, [] => by simp [PyData.eqvAll]
  | x :: xs, y :: ys => by
    simp only [List.map_cons, PyData.eqvAll]
    rw [Enc.eqv, eqvAll_map xs ys, ← Bool.decide_and]
    exact decide_eq_decide.mpr (by rw [List.cons.injEq])
theorem layAll_map {α : Type} [DecidableEq α] [Enc α] : ∀ xs : List α, PyData.canLayAll0 (xs.map enc) = true
  | [] => by simp [PyData.canLayAll0]
  | x :: xs => by simp [PyData.canLayAll0, Enc.lay x, layAll_map xs]
theorem depAll_map {α : Type} [DecidableEq α] [Enc α] : ∀ xs : List α, PyData.depthAll (xs.map enc) ≤ Enc.dep α
  | [] => by simp [PyData.depthAll]
  | x :: xs => by
    have h1 := Enc.dep_le x
    have h2 := depAll_map xs
    simp only [List.map_cons, PyData.depthAll]
    omega
instance : Enc Int where
  enc := .int
  eqv a b := by simp only [PyData.eqv]; rw [Bool.eq_iff_iff]; simp
  lay _ := by simp [PyData.canLay0]
  dep := 0
  dep_le _ := by simp [PyData.depth]
instance : Enc Bool where
  enc := .bool
  eqv a b := by simp only [PyData.eqv]; rw [Bool.eq_iff_iff]; simp
  lay _ := by simp [PyData.canLay0]
  dep := 0
  dep_le _ := by simp [PyData.depth]
def encL {α : Type} [DecidableEq α] [Enc α] (xs : List α) : PyData := .list (xs.map enc)
instance {α : Type} [DecidableEq α] [Enc α] : Enc (List α) where
  enc := encL
  eqv a b := by simp only [encL, PyData.eqv]; exact eqvAll_map a b
  lay a := by simp only [encL, PyData.canLay0]; exact layAll_map a
  dep := Enc.dep α + 1
  dep_le a := by
    simp only [encL, PyData.depth]
    have := depAll_map a
    omega
def encP {α β : Type} [DecidableEq α] [Enc α] [DecidableEq β] [Enc β] (p : α × β) : PyData := .tuple [enc p.1, enc p.2]
instance {α β : Type} [DecidableEq α] [Enc α] [DecidableEq β] [Enc β] : Enc (α × β) where
  enc := encP
  eqv a b := by
    simp only [encP, PyData.eqv, PyData.eqvAll]
    rw [Enc.eqv, Enc.eqv, Bool.and_true, ← Bool.decide_and]
    exact decide_eq_decide.mpr (by rw [Prod.ext_iff])
  lay a := by simp [encP, PyData.canLay0, PyData.canLayAll0, Enc.lay]
  dep := max (Enc.dep α) (Enc.dep β) + 1
  dep_le a := by
    simp only [encP, PyData.depth, PyData.depthAll]
    have h1 := Enc.dep_le a.1
    have h2 := Enc.dep_le a.2
    omega
/-- three ints in a tuple -/
structure Stp where
  p : Int
  i : Int
  o : Int
  deriving DecidableEq
def encStp (s : Stp) : PyData := .tuple [.int s.p, .int s.i, .int s.o]
instance : Enc Stp where
  enc := encStp
  eqv a b := by
    obtain ⟨a1, a2, a3⟩ := a
    obtain ⟨b1, b2, b3⟩ := b
    simp only [encStp, PyData.eqv, PyData.eqvAll, Bool.and_true]
    rw [Bool.eq_iff_iff]
    simp
  lay a := by simp [encStp, PyData.canLay0, PyData.canLayAll0]
  dep := 1
  dep_le a := by simp [encStp, PyData.depth, PyData.depthAll]
theorem shaped_enc {α : Type} [DecidableEq α] [Enc α] (h : Enc.dep α ≤ 64) (a : α) : SeqAt.shaped (enc a) = true := by
  unfold SeqAt.shaped
  rw [Enc.lay, decide_eq_true (Nat.le_trans (Enc.dep_le a) h)]
  rfl
theorem shaped_int (i : Int) : SeqAt.shaped (.int i) = true := by simp [SeqAt.shaped, PyData.canLay0, PyData.depth]
theorem shaped_tuple2 (i j : Int) : SeqAt.shaped (.tuple [.int i, .int j]) = true := by simp [SeqAt.shaped, PyData.canLay0, PyData.canLayAll0, PyData.depth, PyData.depthAll]
theorem shaped_list {α : Type} [DecidableEq α] [Enc α] (h : Enc.dep α ≤ 63) (xs : List α) : SeqAt.shaped (.list (xs.map enc)) = true := by
  exact shaped_enc (α := List α) (by show Enc.dep α + 1 ≤ 64; omega) xs
theorem any_enc {α : Type} [DecidableEq α] [Enc α] (a : α) : ∀ xs : List α, ((xs.map enc).any fun z => PyData.eqv z (enc a)) = decide (a ∈ xs)
  | [] => by simp
  | x :: xs => by
    rw [List.map_cons, List.any_cons, any_enc a xs, Enc.eqv]
    rw [Bool.eq_iff_iff]
    simp only [Bool.or_eq_true, decide_eq_true_eq, List.mem_cons]
    constructor
    · rintro (h | h)
      · exact .inl h.symm
      · exact .inr h
    · rintro (h | h)
      · exact .inl h.symm
      · exact .inr h

/-! ### sizes -/
theorem sz {n : Nat} (h : n ≤ 16000000) : n ≤ sizeLine := Nat.le_trans h (by decide)
theorem szl {n : Nat} (h : n < 16000000) : n < sizeLine := Nat.lt_of_lt_of_le h (by decide)

/-! ### operations by values -/
section
variable {K : PySem.W.Frag} {Γ : List (Option AV)} {B H B' H' : Hp} {g x y z : AV} {te ta tb tc : TE} {t u : TT} {b c : Bool} {i j : Int}
theorem ro_I0 {f : Int → Int → Int} : Ro (rI0 fun i j => .int (f i j)) B H (AI i) (AI j) (AI (f i j)) := fun B1 H1 u w e hu hw Q q => by
  cases hu
  cases hw
  exact ⟨i, j, rfl, rfl, q _ B1 H1 (Ext.refl e.bh) (.int _)⟩
theorem ro_B0 {f : Int → Int → Bool} : Ro (rI0 fun i j => .bl (f i j)) B H (AI i) (AI j) (AB (f i j)) := fun B1 H1 u w e hu hw Q q => by
  cases hu
  cases hw
  exact ⟨i, j, rfl, rfl, q _ B1 H1 (Ext.refl e.bh) (.bl _)⟩
theorem ro_I {C : Int → Int → Prop} {f : Int → Int → Int} (h : C i j) : Ro (rI C fun i j => .int (f i j)) B H (AI i) (AI j) (AI (f i j)) := fun B1 H1 u w e hu hw Q q => by
  cases hu
  cases hw
  exact ⟨i, j, rfl, rfl, h, q _ B1 H1 (Ext.refl e.bh) (.int _)⟩
/-- scalars that == tells as data does -/
def scD : PyData → PyData → Bool
  | .none, .none => true | .none, .int _ => true | .int _, .none => true | .none, .bool _ => true | .bool _, .none => true | .none, .str _ => true | .str _, .none => true
  | .int _, .int _ => true | .bool _, .bool _ => true | .str _, .str _ => true
  | .int _, .str _ => true | .str _, .int _ => true | .bool _, .str _ => true | .str _, .bool _ => true
  | _, _ => false
theorem scD_ok {d e : PyData} {u w : V} (hu : Dq B u d) (hw : Dq B w e) (h : scD d e = true) : scal u w = true ∧ decide (u = w) = PyData.eqv d e := by
  cases hu <;> cases hw <;> first
    | (cases h; done)
    | (refine ⟨rfl, ?_⟩; simp only [PyData.eqv]; rw [Bool.eq_iff_iff]; simp; done)
    | (refine ⟨rfl, ?_⟩; simp [PyData.eqv]; done)
theorem ro_eq {d e : PyData} (h : scD d e = true) : Ro rEq B H (.d d) (.d e) (AB (PyData.eqv d e)) := fun B1 H1 u w x hu hw Q q => by
  obtain ⟨h1, h2⟩ := scD_ok hu hw h
  exact ⟨h1, by rw [h2]; exact q _ B1 H1 (Ext.refl x.bh) (.bl _)⟩
theorem ro_ne {d e : PyData} (h : scD d e = true) : Ro rNe B H (.d d) (.d e) (AB (!PyData.eqv d e)) := fun B1 H1 u w x hu hw Q q => by
  obtain ⟨h1, h2⟩ := scD_ok hu hw h
  exact ⟨h1, by rw [h2]; exact q _ B1 H1 (Ext.refl x.bh) (.bl _)⟩
theorem ro_eqD {d e : PyData} (h1 : SeqAt.shaped d = true) (h2 : SeqAt.shaped e = true) : Ro (rEqD K) B H (.d d) (.d e) (AB (PyData.eqv d e)) := fun B1 H1 u w x hu hw Q q =>
  ⟨d, e, (hu.mono x.bh).dp, (hw.mono x.bh).dp, h1, h2, q _ B1 H1 (Ext.refl x.bh) (.bl _)⟩
theorem ro_neD {d e : PyData} (h1 : SeqAt.shaped d = true) (h2 : SeqAt.shaped e = true) : Ro (rNeD K) B H (.d d) (.d e) (AB (!PyData.eqv d e)) := fun B1 H1 u w x hu hw Q q =>
  ⟨d, e, (hu.mono x.bh).dp, (hw.mono x.bh).dp, h1, h2, q _ B1 H1 (Ext.refl x.bh) (.bl _)⟩
def isN : AV → Bool
  | .d .none => true
  | .v .non => true
  | _ => false
theorem isN_ok {u : V} (h : Is B u x) : decide (u = .non) = isN x := by
  cases x with
  | d d => cases h <;> rfl
  | v w =>
    have e : u = w := h
    subst e
    cases u <;> rfl
theorem ro_isN : Ro (fun x y H Q => y = .non ∧ Q (.bl (decide (x = .non))) H) B H x AN (AB (isN x)) := fun B1 H1 u w e hu hw Q q => by
  cases hw
  rw [isN_ok hu]
  exact ⟨rfl, q _ B1 H1 (Ext.refl e.bh) (.bl _)⟩
theorem ro_notN : Ro (fun x y H Q => y = .non ∧ Q (.bl (!decide (x = .non))) H) B H x AN (AB (!isN x)) := fun B1 H1 u w e hu hw Q q => by
  cases hw
  rw [isN_ok hu]
  exact ⟨rfl, q _ B1 H1 (Ext.refl e.bh) (.bl _)⟩
/-- an item of data -/
theorem atI_dq {us : List V} {ds : List PyData} {k : Int} {d : PyData} (h : DqAll B us ds) (a : atI ds k = some d) : ∃ u, atI us k = some u ∧ Dq B u d := by
  unfold atI at a ⊢
  rw [h.length]
  cases q : ixN ds.length k with
  | none => rw [q] at a; cases a
  | some n =>
    rw [q] at a
    exact h.get a
theorem ro_ixL {ds : List PyData} {k : Int} {d : PyData} (a : atI ds k = some d) : Ro (rIxL K) B H (.d (.list ds)) (AI k) (.d d) := fun B1 H1 u w e hu hw Q q => by
  cases hw
  cases hu with
  | lst h t =>
    obtain ⟨v, a1, a2⟩ := atI_dq t a
    exact ⟨_, _, k, v, rfl, rfl, SqL.of (e.bh _ _ h), a1, q v B1 H1 (Ext.refl e.bh) a2⟩
theorem ro_ixT {ds : List PyData} {k : Int} {d : PyData} (a : atI ds k = some d) : Ro (rIxT K) B H (.d (.tuple ds)) (AI k) (.d d) := fun B1 H1 u w e hu hw Q q => by
  cases hw
  cases hu with
  | tup h t =>
    obtain ⟨v, a1, a2⟩ := atI_dq t a
    exact ⟨_, _, k, v, rfl, rfl, SqT.of (e.bh _ _ h), a1, q v B1 H1 (Ext.refl e.bh) a2⟩
/-- x in xs, flat items -/
def flatD : PyData → Bool
  | .none => true | .bool _ => true | .int _ => true | .str _ => true
  | _ => false
theorem flatD_ok {u : V} {d : PyData} (h : Dq B u d) (f : flatD d = true) : flatV u = true := by
  cases h <;> first | rfl | cases f
theorem eqV_ok {u w : V} {d e : PyData} (h : Dq B u d) (h' : Dq B w e) (f : flatD d = true) (f' : flatD e = true) : eqV u w = PyData.eqv d e := by
  cases h <;> cases h' <;> first
    | (cases f; done)
    | (cases f'; done)
    | (simp only [PyData.eqv]; rfl)
    | (simp only [PyData.eqv, eqV]; rw [Bool.eq_iff_iff]; simp)
    | (unfold eqV; simp [PyData.eqv])
theorem flatAll_ok : ∀ {us : List V} {ds : List PyData}, DqAll B us ds → ds.all flatD = true → us.all flatV = true
  | _, _, .nil, _ => rfl
  | _, _, .cons h t, f => by
    rw [List.all_cons, Bool.and_eq_true] at f
    rw [List.all_cons, flatD_ok h f.1, flatAll_ok t f.2]
    rfl
theorem inV_ok {u : V} {d : PyData} (h : Dq B u d) (f : flatD d = true) : ∀ {us : List V} {ds : List PyData}, DqAll B us ds → ds.all flatD = true → inV u us = ds.any fun z => PyData.eqv z d
  | _, _, .nil, _ => rfl
  | _, _, .cons q t, g => by
    rw [List.all_cons, Bool.and_eq_true] at g
    have ih := inV_ok h f t g.2
    unfold inV at ih ⊢
    rw [List.any_cons, List.any_cons, ih, eqV_ok q h g.1 f]
theorem ro_in {d : PyData} {ds : List PyData} (f : flatD d = true) (g : ds.all flatD = true) : Ro (rIn K false) B H (.d d) (.d (.list ds)) (AB (ds.any fun z => PyData.eqv z d)) := fun B1 H1 u w e hu hw Q q => by
  cases hw with
  | lst h t =>
    refine ⟨_, _, rfl, .inl (SqL.of (e.bh _ _ h)), flatD_ok hu f, flatAll_ok t g, ?_⟩
    rw [if_neg Bool.false_ne_true, inV_ok hu f t g]
    exact q _ B1 H1 (Ext.refl e.bh) (.bl _)
theorem ro_notIn {d : PyData} {ds : List PyData} (f : flatD d = true) (g : ds.all flatD = true) : Ro (rIn K true) B H (.d d) (.d (.list ds)) (AB (!ds.any fun z => PyData.eqv z d)) := fun B1 H1 u w e hu hw Q q => by
  cases hw with
  | lst h t =>
    refine ⟨_, _, rfl, .inl (SqL.of (e.bh _ _ h)), flatD_ok hu f, flatAll_ok t g, ?_⟩
    rw [if_pos rfl, inV_ok hu f t g]
    exact q _ B1 H1 (Ext.refl e.bh) (.bl _)
theorem ro_inT {d : PyData} {ds : List PyData} (f : flatD d = true) (g : ds.all flatD = true) : Ro (rIn K false) B H (.d d) (.d (.tuple ds)) (AB (ds.any fun z => PyData.eqv z d)) := fun B1 H1 u w e hu hw Q q => by
  cases hw with
  | tup h t =>
    refine ⟨_, _, rfl, .inr (SqT.of (e.bh _ _ h)), flatD_ok hu f, flatAll_ok t g, ?_⟩
    rw [if_neg Bool.false_ne_true, inV_ok hu f t g]
    exact q _ B1 H1 (Ext.refl e.bh) (.bl _)
theorem ro_notInT {d : PyData} {ds : List PyData} (f : flatD d = true) (g : ds.all flatD = true) : Ro (rIn K true) B H (.d d) (.d (.tuple ds)) (AB (!ds.any fun z => PyData.eqv z d)) := fun B1 H1 u w e hu hw Q q => by
  cases hw with
  | tup h t =>
    refine ⟨_, _, rfl, .inr (SqT.of (e.bh _ _ h)), flatD_ok hu f, flatAll_ok t g, ?_⟩
    rw [if_pos rfl, inV_ok hu f t g]
    exact q _ B1 H1 (Ext.refl e.bh) (.bl _)
/-- ints in a list of ints -/
theorem flat_ints (ns : List Int) : (ns.map PyData.int).all flatD = true := by
  rw [List.all_map]
  exact List.all_eq_true.mpr fun _ _ => rfl
theorem any_ints (n : Int) (ns : List Int) : ((ns.map PyData.int).any fun z => PyData.eqv z (.int n)) = decide (n ∈ ns) := any_enc (α := Int) n ns
theorem ro_inI {n : Int} {ns : List Int} : Ro (rIn K false) B H (AI n) (.d (.list (ns.map PyData.int))) (AB (decide (n ∈ ns))) := by
  have h := ro_in (K := K) (B := B) (H := H) (d := .int n) (ds := ns.map PyData.int) rfl (flat_ints ns)
  rw [any_ints] at h
  exact h
theorem ro_notInI {n : Int} {ns : List Int} : Ro (rIn K true) B H (AI n) (.d (.list (ns.map PyData.int))) (AB (!decide (n ∈ ns))) := by
  have h := ro_notIn (K := K) (B := B) (H := H) (d := .int n) (ds := ns.map PyData.int) rfl (flat_ints ns)
  rw [any_ints] at h
  exact h
theorem ro_inTI {n : Int} {ns : List Int} : Ro (rIn K false) B H (AI n) (.d (.tuple (ns.map PyData.int))) (AB (decide (n ∈ ns))) := by
  have h := ro_inT (K := K) (B := B) (H := H) (d := .int n) (ds := ns.map PyData.int) rfl (flat_ints ns)
  rw [any_ints] at h
  exact h
/-- x in xs, any data -/
theorem ro_inD {d : PyData} {ds : List PyData} (h1 : SeqAt.shaped d = true) (h2 : SeqAt.shaped (.list ds) = true) : Ro (rInD K) B H (.d d) (.d (.list ds)) (AB (ds.any fun z => PyData.eqv z d)) := fun B1 H1 u w e hu hw Q q =>
  ⟨d, ds, (hu.mono e.bh).dp, (hw.mono e.bh).dp, h1, h2, q _ B1 H1 (Ext.refl e.bh) (.bl _)⟩
theorem ro_notInD {d : PyData} {ds : List PyData} (h1 : SeqAt.shaped d = true) (h2 : SeqAt.shaped (.list ds) = true) : Ro (rNotInD K) B H (.d d) (.d (.list ds)) (AB (!ds.any fun z => PyData.eqv z d)) := fun B1 H1 u w e hu hw Q q =>
  ⟨d, ds, (hu.mono e.bh).dp, (hw.mono e.bh).dp, h1, h2, q _ B1 H1 (Ext.refl e.bh) (.bl _)⟩
/-- new lists and tuples -/
theorem dq_newL {p : Addr} {us : List V} {ds : List PyData} (e : Same B H) (hp : H p = none) (h : DqAll B us ds) : Dq (upd B p (.lst us)) (.ref p) (.list ds) :=
  .lst upd_same (h.mono (Ext.new (o := .lst us) e hp).bb)
theorem dq_newT {p : Addr} {us : List V} {ds : List PyData} (e : Same B H) (hp : H p = none) (h : DqAll B us ds) : Dq (upd B p (.tup us)) (.ref p) (.tuple ds) :=
  .tup upd_same (h.mono (Ext.new (o := .tup us) e hp).bb)
theorem ro_cat {ds es : List PyData} (hz : ds.length + es.length ≤ 16000000) : Ro rCat B H (.d (.list ds)) (.d (.list es)) (.d (.list (ds ++ es))) := fun B1 H1 u w e hu hw Q q => by
  cases hu with
  | lst h t =>
    cases hw with
    | lst h' t' =>
      refine ⟨_, _, _, _, rfl, rfl, e.bh _ _ h, e.bh _ _ h', sz (by rw [t.length, t'.length]; exact hz), fun p hp => ?_⟩
      exact q _ _ _ (Ext.new e.bh hp) (dq_newL e.bh hp (t.append t'))
theorem ro_catT {ds es : List PyData} (hz : ds.length + es.length ≤ 16000000) (h1 : ds ≠ []) (h2 : es ≠ []) : Ro (rCatT K) B H (.d (.tuple ds)) (.d (.tuple es)) (.d (.tuple (ds ++ es))) := fun B1 H1 u w e hu hw Q q => by
  cases hu with
  | tup h t =>
    cases hw with
    | tup h' t' =>
      refine ⟨_, _, _, _, rfl, rfl, SqT.of (e.bh _ _ h), SqT.of (e.bh _ _ h'), ?_, sz (by rw [t.length, t'.length]; exact hz), ?_, fun _ p hp => ?_⟩
      · intro q
        subst q
        cases t
        exact h1 rfl
      · intro q
        subst q
        cases t'
        exact absurd rfl h2
      · exact q _ _ _ (Ext.new e.bh hp) (dq_newT e.bh hp (t.append t'))
theorem DqAll.rep {us : List V} {ds : List PyData} (h : DqAll B us ds) : ∀ n : Nat, DqAll B (List.replicate n us).flatten (List.replicate n ds).flatten
  | 0 => .nil
  | n + 1 => by
    rw [List.replicate_succ, List.replicate_succ, List.flatten_cons, List.flatten_cons]
    exact h.append (DqAll.rep h n)
theorem ro_rep {ds : List PyData} {k : Int} (h1 : -(2 ^ 63) ≤ k) (h2 : k < 2 ^ 63) (hz : ds.length * k.toNat ≤ 16000000) : Ro rRep B H (.d (.list ds)) (AI k) (.d (.list (List.replicate k.toNat ds).flatten)) := fun B1 H1 u w e hu hw Q q => by
  cases hw
  cases hu with
  | lst h t =>
    refine ⟨_, _, _, rfl, rfl, e.bh _ _ h, h1, h2, sz (by rw [t.length]; exact hz), fun p hp => ?_⟩
    exact q _ _ _ (Ext.new e.bh hp) (dq_newL e.bh hp (t.rep _))

/-! displays -/
def AV.data : AV → Option PyData
  | .d x => some x
  | _ => none
theorem dqAll_of : ∀ {us : List V} {ds : List PyData}, IsAll B us (ds.map AV.d) → DqAll B us ds
  | _, [], h => by cases h; exact .nil
  | _, d :: ds, h => by
    cases h with
    | cons h t => exact .cons h (dqAll_of t)
theorem gd_nil : Ga tNil Γ B H (([] : List PyData).map AV.d) := ga_nil
theorem gd_cons {tr : TA} {d : PyData} {ds : List PyData} (h : Gv ta Γ B H (.d d)) (hr : Ga tr Γ B H (ds.map AV.d)) : Ga (tCons ta tr) Γ B H ((d :: ds).map AV.d) := ga_cons h hr
theorem gv_lst {ta : TA} {ds : List PyData} (h : Ga ta Γ B H (ds.map AV.d)) (hz : ds.length ≤ 16000000) : Gv (tLst ta) Γ B H (.d (.list ds)) := fun B1 H1 σ e f Q q =>
  h B1 H1 σ e f _ fun us B2 H2 e2 hu => by
    have t := dqAll_of hu
    exact ⟨sz (by rw [t.length]; exact hz), fun p hp => q _ _ _ (e2.trans (Ext.new e2.bh hp)) (dq_newL e2.bh hp t)⟩
theorem gv_tup {ta : TA} {ds : List PyData} (h : Ga ta Γ B H (ds.map AV.d)) (hz : ds.length ≤ 16000000) : Gv (tTup ta) Γ B H (.d (.tuple ds)) := fun B1 H1 σ e f Q q =>
  h B1 H1 σ e f _ fun us B2 H2 e2 hu => by
    have t := dqAll_of hu
    exact ⟨sz (by rw [t.length]; exact hz), fun p hp => q _ _ _ (e2.trans (Ext.new e2.bh hp)) (dq_newT e2.bh hp t)⟩

/-! calls of built-ins -/
theorem rc_len {ds : List PyData} : Rc (fun xs H Q => ∃ p ys, xs = [.ref p] ∧ (SqL K H p ys ∨ SqT K H p ys) ∧ Q (.int ys.length) H) B H [.d (.list ds)] (AI ds.length) := fun B1 H1 us e hu Q q => by
  cases hu with
  | cons h t =>
    cases t
    cases h with
    | lst h t => exact ⟨_, _, rfl, .inl (SqL.of (e.bh _ _ h)), by rw [t.length]; exact q _ B1 H1 (Ext.refl e.bh) (.int _)⟩
theorem rc_lenT {ds : List PyData} : Rc (fun xs H Q => ∃ p ys, xs = [.ref p] ∧ (SqL K H p ys ∨ SqT K H p ys) ∧ Q (.int ys.length) H) B H [.d (.tuple ds)] (AI ds.length) := fun B1 H1 us e hu Q q => by
  cases hu with
  | cons h t =>
    cases t
    cases h with
    | tup h t => exact ⟨_, _, rfl, .inr (SqT.of (e.bh _ _ h)), by rw [t.length]; exact q _ B1 H1 (Ext.refl e.bh) (.int _)⟩
theorem rc_list {ds : List PyData} : Rc (fun xs H Q => ∃ p ys, xs = [.ref p] ∧ (SqL K H p ys ∨ SqT K H p ys) ∧ ∀ l, H l = none → Q (.ref l) (upd H l (.lst ys))) B H [.d (.list ds)] (.d (.list ds)) := fun B1 H1 us e hu Q q => by
  cases hu with
  | cons h t =>
    cases t
    cases h with
    | lst h t => exact ⟨_, _, rfl, .inl (SqL.of (e.bh _ _ h)), fun p hp => q _ _ _ (Ext.new e.bh hp) (dq_newL e.bh hp t)⟩
theorem rc_listT {ds : List PyData} : Rc (fun xs H Q => ∃ p ys, xs = [.ref p] ∧ (SqL K H p ys ∨ SqT K H p ys) ∧ ∀ l, H l = none → Q (.ref l) (upd H l (.lst ys))) B H [.d (.tuple ds)] (.d (.list ds)) := fun B1 H1 us e hu Q q => by
  cases hu with
  | cons h t =>
    cases t
    cases h with
    | tup h t => exact ⟨_, _, rfl, .inr (SqT.of (e.bh _ _ h)), fun p hp => q _ _ _ (Ext.new e.bh hp) (dq_newL e.bh hp t)⟩
theorem rc_tuple {ds : List PyData} : Rc (fun xs H Q => ∃ p ys, xs = [.ref p] ∧ ((SqL K H p ys ∧ ∀ l, H l = none → Q (.ref l) (upd H l (.tup ys))) ∨ (SqT K H p ys ∧ Q (.ref p) H))) B H [.d (.list ds)] (.d (.tuple ds)) := fun B1 H1 us e hu Q q => by
  cases hu with
  | cons h t =>
    cases t
    cases h with
    | lst h t => exact ⟨_, _, rfl, .inl ⟨SqL.of (e.bh _ _ h), fun p hp => q _ _ _ (Ext.new e.bh hp) (dq_newT e.bh hp t)⟩⟩
theorem rc_any {bs : List Bool} : Rc (rAny K) B H [.d (.list (bs.map PyData.bool))] (AB (bs.any id)) := fun B1 H1 us e hu Q q => by
  cases hu with
  | cons h t =>
    cases t
    cases h with
    | lst h t =>
      have := t.bools
      subst this
      exact ⟨_, bs, rfl, SqL.of (e.bh _ _ h), q _ B1 H1 (Ext.refl e.bh) (.bl _)⟩
theorem rc_all {bs : List Bool} : Rc (rAll K) B H [.d (.list (bs.map PyData.bool))] (AB (bs.all id)) := fun B1 H1 us e hu Q q => by
  cases hu with
  | cons h t =>
    cases t
    cases h with
    | lst h t =>
      have := t.bools
      subst this
      exact ⟨_, bs, rfl, SqL.of (e.bh _ _ h), q _ B1 H1 (Ext.refl e.bh) (.bl _)⟩
theorem rc_max2 : Rc (fun xs H Q => ∃ i j, xs = [.int i, .int j] ∧ Q (.int (if j > i then j else i)) H) B H [AI i, AI j] (AI (if j > i then j else i)) := fun B1 H1 us e hu Q q => by
  cases hu with
  | cons h t =>
    cases t with
    | cons h' t =>
      cases t
      cases h
      cases h'
      exact ⟨i, j, rfl, q _ B1 H1 (Ext.refl e.bh) (.int _)⟩
theorem rc_min2 : Rc (fun xs H Q => ∃ i j, xs = [.int i, .int j] ∧ Q (.int (if j < i then j else i)) H) B H [AI i, AI j] (AI (if j < i then j else i)) := fun B1 H1 us e hu Q q => by
  cases hu with
  | cons h t =>
    cases t with
    | cons h' t =>
      cases t
      cases h
      cases h'
      exact ⟨i, j, rfl, q _ B1 H1 (Ext.refl e.bh) (.int _)⟩
theorem rc_intB : Rc (fun xs H Q => (∃ i, xs = [.int i] ∧ Q (.int i) H) ∨ ∃ k, xs = [.bl k] ∧ Q (.int (if k then 1 else 0)) H) B H [AB b] (AI (if b then 1 else 0)) := fun B1 H1 us e hu Q q => by
  cases hu with
  | cons h t =>
    cases t
    cases h
    exact .inr ⟨b, rfl, q _ B1 H1 (Ext.refl e.bh) (.int _)⟩

/-! slices -/
def cutD (xs : List PyData) (lo hi : Option Int) : List PyData := (xs.drop (HT.sIx xs.length 0 lo)).take (HT.sIx xs.length xs.length hi - HT.sIx xs.length 0 lo)
theorem DqAll.cut {us : List V} {ds : List PyData} (h : DqAll B us ds) (lo hi : Option Int) : DqAll B (cutV us lo hi) (cutD ds lo hi) := by
  unfold cutV cutD
  rw [h.length]
  exact (h.drop _).take _
def Go (to : TO) (Γ : List (Option AV)) (B H : Hp) (o : Option Int) : Prop :=
  ∀ B1 H1 σ, Ext B H B1 H1 → Fr B1 σ Γ → ∀ Q : Option Int → Hp → Prop, (∀ B2 H2, Ext B1 H1 B2 H2 → Q o H2) → to σ H1 Q
theorem go_none : Go tNoPart Γ B H none := fun B1 H1 σ e _ Q q => q B1 H1 (Ext.refl e.bh)
theorem go_some (h : Gv te Γ B H (AI i)) : Go (tPart te) Γ B H (some i) := fun B1 H1 σ e f Q q => h B1 H1 σ e f _ fun u B2 H2 e2 hu => by
  cases hu
  exact ⟨i, rfl, q B2 H2 e2⟩
theorem gv_sl {r : V → Option Int → Option Int → Hp → VK → Prop} {tl th : TO} {lo hi : Option Int} (ha : Gv ta Γ B H x) (h1 : Go tl Γ B H lo) (h2 : Go th Γ B H hi)
    (hr : ∀ B1 H1 u, Ext B H B1 H1 → Is B1 u x → ∀ Q : VK, (∀ q B2 H2, Ext B1 H1 B2 H2 → Is B2 q z → Q q H2) → r u lo hi H1 Q) : Gv (tSl r ta tl th) Γ B H z := fun B1 H1 σ e f Q q =>
  ha B1 H1 σ e f _ fun u B2 H2 e2 hu => h1 B2 H2 σ (e.trans e2) (f.mono e2.bb) _ fun B3 H3 e3 => h2 B3 H3 σ ((e.trans e2).trans e3) ((f.mono e2.bb).mono e3.bb) _ fun B4 H4 e4 =>
    hr B4 H4 u (((e.trans e2).trans e3).trans e4) ((hu.mono e3.bb).mono e4.bb) Q fun k B5 H5 e5 hk => q k B5 H5 (((e2.trans e3).trans e4).trans e5) hk
theorem gv_slL {tl th : TO} {lo hi : Option Int} {ds : List PyData} (ha : Gv ta Γ B H (.d (.list ds))) (h1 : Go tl Γ B H lo) (h2 : Go th Γ B H hi) :
    Gv (tSl (rSlL K) ta tl th) Γ B H (.d (.list (cutD ds lo hi))) :=
  gv_sl ha h1 h2 fun B1 H1 u e hu Q q => by
    cases hu with
    | lst h t => exact ⟨_, _, rfl, SqL.of (e.bh _ _ h), fun p hp => q _ _ _ (Ext.new e.bh hp) (dq_newL e.bh hp (t.cut lo hi))⟩
theorem gv_slT {tl th : TO} {lo hi : Option Int} {ds : List PyData} (ha : Gv ta Γ B H (.d (.tuple ds))) (h1 : Go tl Γ B H lo) (h2 : Go th Γ B H hi)
    (hw : ¬ (HT.sIx ds.length 0 lo = 0 ∧ HT.sIx ds.length ds.length hi = ds.length)) : Gv (tSl (rSlT K) ta tl th) Γ B H (.d (.tuple (cutD ds lo hi))) :=
  gv_sl ha h1 h2 fun B1 H1 u e hu Q q => by
    cases hu with
    | tup h t => exact ⟨_, _, rfl, SqT.of (e.bh _ _ h), by rw [t.length]; exact hw, fun p hp => q _ _ _ (Ext.new e.bh hp) (dq_newT e.bh hp (t.cut lo hi))⟩
end
end SB
namespace SB
open PySem L2
open Enc (enc)

/-! ### a heap in which objects of F change -/
structure ExtF (F : Addr → Prop) (B H B' H' : Hp) : Prop where
  bb : Same B B'
  bh : Same B' H'
  hh : ∀ a o, H a = some o → ¬ F a → H' a = some o
  tr : ∀ a, H a ≠ none → H' a ≠ none
  fr : ∀ a, B' a ≠ none → B a ≠ none ∨ H a = none
theorem Ext.f {F : Addr → Prop} {B H B' H' : Hp} (x : Ext B H B' H') : ExtF F B H B' H' := ⟨x.bb, x.bh, fun a o h _ => x.hh a o h, fun a h => by
  cases q : H a with
  | none => exact absurd q h
  | some o => rw [x.hh a o q]; simp, x.fr⟩
theorem ExtF.trans {F : Addr → Prop} {B H B1 H1 B2 H2 : Hp} (a : ExtF F B H B1 H1) (b : ExtF F B1 H1 B2 H2) : ExtF F B H B2 H2 :=
  ⟨a.bb.trans b.bb, b.bh, fun x o h n => b.hh x o (a.hh x o h n) n, fun x h => b.tr x (a.tr x h), fun x h => by
    rcases b.fr x h with q | q
    · exact a.fr x q
    · cases e : H x with
      | none => exact .inr rfl
      | some o => exact absurd q (a.tr x (by rw [e]; simp))⟩
theorem ExtF.mono {F G : Addr → Prop} {B H B1 H1 : Hp} (a : ExtF F B H B1 H1) (h : ∀ x, F x → G x) : ExtF G B H B1 H1 :=
  ⟨a.bb, a.bh, fun x o e n => a.hh x o e fun q => n (h x q), a.tr, a.fr⟩
/-- what changed was not there at the entry -/
theorem Ext.thenF {F : Addr → Prop} {B0 H0 B H B1 H1 : Hp} (x : Ext B0 H0 B H) (a : ExtF F B H B1 H1) (h : ∀ p, F p → H0 p = none) : Ext B0 H0 B1 H1 :=
  ⟨x.bb.trans a.bb, a.bh, fun p o e => a.hh p o (x.hh p o e) fun q => (by
    rw [h p q] at e
    cases e), fun p q => by
    rcases a.fr p q with q | q
    · exact x.fr p q
    · exact .inr (x.hh.free q)⟩
/-- .. what changed is in F, or was not there at the entry -/
theorem ExtF.thenF {F G : Addr → Prop} {B0 H0 B H B1 H1 : Hp} (x : ExtF F B0 H0 B H) (a : ExtF G B H B1 H1) (h : ∀ p, G p → F p ∨ H0 p = none) : ExtF F B0 H0 B1 H1 :=
  ⟨x.bb.trans a.bb, a.bh, fun p o e n => a.hh p o (x.hh p o e n) fun q => (by
    rcases h p q with q | q
    · exact n q
    · rw [q] at e
      cases e), fun p q => a.tr p (x.tr p q), fun p q => by
    rcases a.fr p q with q | q
    · exact x.fr p q
    · cases e : H0 p with
      | none => exact .inr rfl
      | some o => exact absurd q (x.tr p (by rw [e]; simp))⟩
theorem ExtF.off {F : Addr → Prop} {B H B' H' : Hp} (x : ExtF F B H B' H') {p : Addr} (hb : B p = none) (hh : H p ≠ none) : B' p = none := by
  cases h : B' p with
  | none => rfl
  | some o =>
    rcases x.fr p (by rw [h]; simp) with q | q
    · exact absurd hb q
    · exact absurd q hh
theorem ExtF.free {F : Addr → Prop} {B H B' H' : Hp} (x : ExtF F B H B' H') {p : Addr} (h : H' p = none) : H p = none := by
  cases e : H p with
  | none => rfl
  | some o => exact absurd h (x.tr p (by rw [e]; simp))
/-- one object is written -/
theorem ExtF.wr {B H : Hp} {p : Addr} {o : HO} (e : Same B H) (hb : B p = none) (hp : H p ≠ none) : ExtF (· = p) B H B (upd H p o) :=
  ⟨Same.refl _, fun a u h => by rw [upd_ne (ne_of_none h hb)]; exact e _ _ h, fun a u h n => by rw [upd_ne n]; exact h, fun a h => by
    by_cases q : a = p
    · subst q; rw [upd_same]; simp
    · rw [upd_ne q]; exact h, fun a h => .inl h⟩

/-! ### own lists -/
def Ml (B H : Hp) (p : Addr) (ds : List PyData) : Prop := B p = none ∧ ∃ us, H p = some (.lst us) ∧ DqAll B us ds
theorem Ml.ne {B H : Hp} {p : Addr} {ds : List PyData} (m : Ml B H p ds) : H p ≠ none := by
  obtain ⟨_, us, h, _⟩ := m
  rw [h]; simp
theorem Ml.ext {B H B' H' : Hp} {p : Addr} {ds : List PyData} (m : Ml B H p ds) (x : Ext B H B' H') : Ml B' H' p ds := by
  obtain ⟨hb, us, h, t⟩ := id m
  exact ⟨x.off hb m.ne, us, x.hh _ _ h, t.mono x.bb⟩
theorem Ml.extF {F : Addr → Prop} {B H B' H' : Hp} {p : Addr} {ds : List PyData} (m : Ml B H p ds) (x : ExtF F B H B' H') (n : ¬ F p) : Ml B' H' p ds := by
  obtain ⟨hb, us, h, t⟩ := id m
  exact ⟨x.off hb m.ne, us, x.hh _ _ h n, t.mono x.bb⟩
/-- an own list becomes data -/
theorem Ml.give {B0 H0 B H : Hp} {p : Addr} {ds : List PyData} (m : Ml B H p ds) (x : Ext B0 H0 B H) (h0 : H0 p = none) : ∃ B', Ext B0 H0 B' H ∧ Same B B' ∧ Dq B' (.ref p) (.list ds) := by
  obtain ⟨hb, us, h, t⟩ := m
  have s : Same B (upd B p (.lst us)) := fun a u e => by rw [upd_ne (ne_of_none e hb)]; exact e
  exact ⟨upd B p (.lst us), x.take h0 hb h, s, .lst upd_same (t.mono s)⟩

/-! ### statements -/
def Sx (t : TS) (D : Ends) (Γ : List (Option AV)) (B H : Hp) : Prop := Same B H → ∀ σ, Fr B σ Γ → t D σ H
/-- what holds of a frame between statements -/
def Lp (Bs : Hp) (Γ : List (Option AV)) (P : Hp → Hp → Prop) : L2.St → Hp → Prop := fun σ H => ∃ B, Same Bs B ∧ Same B H ∧ P B H ∧ Fr B σ Γ
section
variable {K : PySem.W.Frag} {Γ Δ : List (Option AV)} {B H : Hp} {g x y z : AV} {te ta tb tc : TE} {t u : TT} {b c : Bool} {i j : Nat} {D : Ends} {tz tu tw : TS} {ds es : List PyData} {d : PyData}
theorem Sx.run {t : TS} {σ : L2.St} (h : Sx t D Γ B H) (e : Same B H) (f : Fr B σ Γ) : t D σ H := h e σ f
theorem sx_next (k : Same B H → ∀ σ, Fr B σ Γ → D.nx σ H) : Sx tNext D Γ B H := fun e σ f => k e σ f
theorem sx_go {tz : TS} (h : Sx tz D Γ B H) : Sx tNext { D with nx := tz D } Γ B H := h
theorem sx_lp {Bs : Hp} {P : Hp → Hp → Prop} {rt : VK} {bk ct : L2.St → Hp → Prop} (s : Same Bs B) (l : Le Δ Γ) (p : P B H) : Sx tNext { nx := Lp Bs Δ P, rt := rt, bk := bk, ct := ct } Γ B H := fun e σ f => ⟨B, s, e, p, f.le l⟩
theorem sx_cont {Bs : Hp} {P : Hp → Hp → Prop} {nx : L2.St → Hp → Prop} {rt : VK} {bk : L2.St → Hp → Prop} {tz : TS} (s : Same Bs B) (l : Le Δ Γ) (p : P B H) : Sx (tSeq tCont tz) { nx := nx, rt := rt, bk := bk, ct := Lp Bs Δ P } Γ B H := fun e σ f => ⟨B, s, e, p, f.le l⟩
theorem Sx.le {t : TS} (h : Sx t D Δ B H) (l : Le Δ Γ) : Sx t D Γ B H := fun e σ f => h e σ (f.le l)
theorem qx_ret (h : Gv te Γ B H g) (k : ∀ u B2 H2, Ext B H B2 H2 → Is B2 u g → D.rt u H2) : Sx (tSeq (tRet te) tz) D Γ B H := fun e σ f => h B H σ (Ext.refl e) f D.rt k
theorem qx_retN (k : Same B H → D.rt .non H) : Sx (tSeq tRetN tz) D Γ B H := fun e σ f => k e
theorem qx_asg (h : Gv te Γ B H g) (k : ∀ B2 H2, Ext B H B2 H2 → Sx tz D (Γ.set i (some g)) B2 H2) : Sx (tSeq (tAsg te (gName i)) tz) D Γ B H := fun e σ f =>
  h B H σ (Ext.refl e) f _ fun u B2 H2 x hu => k B2 H2 x x.bh _ ((f.mono x.bb).set i hu)
theorem qx_drop (h : Gv te Γ B H g) (k : ∀ B2 H2, Ext B H B2 H2 → Sx tz D Γ B2 H2) : Sx (tSeq (tDrop te) tz) D Γ B H := fun e σ f =>
  h B H σ (Ext.refl e) f _ fun u B2 H2 x hu => k B2 H2 x x.bh _ (f.mono x.bb)
theorem qx_if (h : Gt t Γ B H b) (h1 : b = true → ∀ B2 H2, Ext B H B2 H2 → Sx tu { D with nx := tz D } Γ B2 H2) (h2 : b = false → ∀ B2 H2, Ext B H B2 H2 → Sx tw { D with nx := tz D } Γ B2 H2) : Sx (tSeq (tIfS t tu tw) tz) D Γ B H := fun e σ f =>
  h B H σ (Ext.refl e) f _ fun B2 H2 x => by
    cases b with
    | true => exact h1 rfl B2 H2 x x.bh σ (f.mono x.bb)
    | false => exact h2 rfl B2 H2 x x.bh σ (f.mono x.bb)
/-- without else -/
theorem qx_when (h : Gt t Γ B H b) (h1 : b = true → ∀ B2 H2, Ext B H B2 H2 → Sx tu { D with nx := tz D } Γ B2 H2) (h2 : b = false → ∀ B2 H2, Ext B H B2 H2 → Sx tz D Γ B2 H2) : Sx (tSeq (tIfS t tu tNext) tz) D Γ B H :=
  qx_if h h1 fun hb B2 H2 x => sx_go (h2 hb B2 H2 x)
/-- the same where the answer is known -/
theorem qx_yes (h : Gt t Γ B H b) (hb : b = true) (h1 : ∀ B2 H2, Ext B H B2 H2 → Sx tu { D with nx := tz D } Γ B2 H2) : Sx (tSeq (tIfS t tu tw) tz) D Γ B H := qx_if h (fun _ => h1) fun q => by rw [hb] at q; cases q
theorem qx_no (h : Gt t Γ B H b) (hb : b = false) (h2 : ∀ B2 H2, Ext B H B2 H2 → Sx tw { D with nx := tz D } Γ B2 H2) : Sx (tSeq (tIfS t tu tw) tz) D Γ B H := qx_if h (fun q => by rw [hb] at q; cases q) fun _ => h2
/-- a new own list -/
theorem qx_newL {ta : TA} (h : Ga ta Γ B H (ds.map AV.d)) (hz : ds.length ≤ 16000000) (k : ∀ p B2 H2, H p = none → Ext B H B2 H2 → Ml B2 H2 p ds → Sx tz D (Γ.set i (some (.v (.ref p)))) B2 H2) : Sx (tSeq (tAsg (tLst ta) (gName i)) tz) D Γ B H := fun e σ f =>
  h B H σ (Ext.refl e) f _ fun us B2 H2 x hu => by
    have t := dqAll_of hu
    refine ⟨sz (by rw [t.length]; exact hz), fun p hp => ?_⟩
    have y : Ext B2 H2 B2 (upd H2 p (.lst us)) := Ext.out x.bh hp
    have hb : B2 p = none := x.bh.free hp
    exact k p _ _ (x.hh.free hp) (x.trans y) ⟨hb, us, upd_same, t⟩ y.bh _ ((f.mono x.bb).set i rfl)
/-- p.append(e), p an own list -/
theorem qx_app {p : Addr} (m : Ml B H p ds) (ha : Gv ta Γ B H (.v (.ref p))) (h : Gv te Γ B H (.d d)) (hz : ds.length < 16000000) (k : ∀ B2 H2, ExtF (· = p) B H B2 H2 → Ml B2 H2 p (ds ++ [d]) → Sx tz D Γ B2 H2) :
    Sx (tSeq (tDrop (tBM K "list" rAppend ta (tCons te tNil))) tz) D Γ B H := fun e σ f =>
  ha B H σ (Ext.refl e) f _ fun u B2 H2 x hu => by
    cases hu
    obtain ⟨_, us, hp, _⟩ := m.ext x
    refine ⟨Or.inl ⟨rfl, us, SqL.of hp⟩, ?_⟩
    refine h B2 H2 σ x (f.mono x.bb) _ fun w B3 H3 y hw => ?_
    obtain ⟨hb, vs, hp, t⟩ := (m.ext x).ext y
    have x3 := (x.trans y)
    refine ⟨p, vs, w, rfl, rfl, hp, szl (by rw [t.length]; exact hz), ?_⟩
    have wr : ExtF (· = p) B3 H3 B3 (upd H3 p (.lst (vs ++ [w]))) := ExtF.wr x3.bh hb (by rw [hp]; simp)
    exact k B3 _ (x3.f.trans wr) ⟨hb, _, upd_same, t.append (.one hw)⟩ wr.bh _ (f.mono x3.bb)
/-- p.extend(e) -/
theorem qx_extend {p : Addr} (m : Ml B H p ds) (ha : Gv ta Γ B H (.v (.ref p))) (h : Gv te Γ B H (.d (.list es))) (hz : ds.length + es.length ≤ 16000000) (k : ∀ B2 H2, ExtF (· = p) B H B2 H2 → Ml B2 H2 p (ds ++ es) → Sx tz D Γ B2 H2) :
    Sx (tSeq (tDrop (tBM K "list" rExtend ta (tCons te tNil))) tz) D Γ B H := fun e σ f =>
  ha B H σ (Ext.refl e) f _ fun u B2 H2 x hu => by
    cases hu
    obtain ⟨_, us, hp, _⟩ := m.ext x
    refine ⟨Or.inl ⟨rfl, us, SqL.of hp⟩, ?_⟩
    refine h B2 H2 σ x (f.mono x.bb) _ fun w B3 H3 y hw => ?_
    obtain ⟨hb, vs, hp, t⟩ := (m.ext x).ext y
    have x3 := (x.trans y)
    cases hw with
    | lst hq tq =>
      refine ⟨p, _, vs, _, rfl, rfl, hp, x3.bh _ _ hq, sz (by rw [t.length, tq.length]; exact hz), ?_⟩
      have wr : ∀ o, ExtF (· = p) B3 H3 B3 (upd H3 p o) := fun o => ExtF.wr x3.bh hb (by rw [hp]; simp)
      exact k B3 _ (x3.f.trans (wr _)) ⟨hb, _, upd_same, t.append tq⟩ (wr _).bh _ (f.mono x3.bb)
/-- the own list is handed back -/
theorem qx_retM {p : Addr} {B0 H0 : Hp} (x0 : Ext B0 H0 B H) (h0 : H0 p = none) (m : Ml B H p ds) (ha : Gv ta Γ B H (.v (.ref p))) (k : ∀ u B2 H2, Ext B0 H0 B2 H2 → Dq B2 u (.list ds) → D.rt u H2) : Sx (tSeq (tRet ta) tz) D Γ B H :=
  qx_ret ha fun u B2 H2 x hu => by
    cases hu
    obtain ⟨B3, x3, _, q⟩ := (m.ext x).give (x0.trans x) h0
    exact k _ B3 H2 x3 q
/-- a, b = e -/
theorem qx_asg2 {d1 d2 : PyData} (h : Gv te Γ B H (.d (.tuple [d1, d2]))) (k : ∀ B2 H2, Ext B H B2 H2 → Sx tz D ((Γ.set i (some (.d d1))).set j (some (.d d2))) B2 H2) : Sx (tSeq (tAsg te (gTup K 2 (gCons (gName i) (gCons (gName j) gNil)))) tz) D Γ B H := fun e σ f =>
  h B H σ (Ext.refl e) f _ fun u B2 H2 x hu => by
    cases hu with
    | tup hp t =>
      cases t with
      | cons h1 t =>
        cases t with
        | cons h2 t =>
          cases t
          exact ⟨_, _, rfl, SqT.of (x.bh _ _ hp), rfl, _, _, rfl, _, _, rfl, rfl, k B2 H2 x x.bh _ (((f.mono x.bb).set (g := .d d1) i h1).set (g := .d d2) j h2)⟩
/-! loops -/
theorem le_refl (Γ : List (Option AV)) : Le Γ Γ := ⟨rfl, fun _ _ h => h⟩
/-- the three walks, in one -/
theorem qx_forD {α : Type} [DecidableEq α] [Enc α] {xs : List α} {tl : TE} (h : Gv tl Γ B H (.d (.list (xs.map enc)))) (G : Nat → List (Option AV)) (P : Nat → Hp → Hp → Prop) (hl : Le (G 0) Γ) (h0 : ∀ B1 H1, Ext B H B1 H1 → P 0 B1 H1)
    (hs : ∀ Bs k a B1 H1, xs[k]? = some a → Same B Bs → Same Bs B1 → P k B1 H1 → Sx tu { D with nx := Lp Bs (G (k + 1)) (P (k + 1)), ct := Lp Bs (G (k + 1)) (P (k + 1)), bk := tz D } ((G k).set j (some (.d (enc a)))) B1 H1)
    (hd : ∀ B1 H1, Same B B1 → P xs.length B1 H1 → Sx tz D (G xs.length) B1 H1) : Sx (tSeq (tFor (iList K tl) (gName j) tu) tz) D Γ B H := fun e σ f =>
  h B H σ (Ext.refl e) f _ fun u Bs Hs x hu => by
    cases hu with
    | @lst a us _ hp t =>
      have hlen : us.length = xs.length := by rw [t.length, List.length_map]
      refine ⟨a, rfl, ⟨_, SqL.of (x.bh _ _ hp)⟩, for_list (K := K) (a := a) (xs := us) (D := { D with nx := tz D }) (fun k => Lp Bs (G k) (P k)) ⟨Bs, Same.refl _, x.bh, h0 Bs Hs x, (f.mono x.bb).le hl⟩ ?_ ?_ ?_⟩
      · rintro k σ' H' _ ⟨B', s1, s2, _, _⟩
        exact SqL.of (s2 _ _ (s1 _ _ hp))
      · rintro k v σ' H' hk ⟨B', s1, s2, p, f'⟩
        obtain ⟨d, hd1, hd2⟩ := t.getV hk
        rw [List.getElem?_map] at hd1
        cases q : xs[k]? with
        | none => rw [q] at hd1; cases hd1
        | some a' =>
          rw [q] at hd1
          cases hd1
          exact hs Bs k a' B' H' q x.bb s1 p s2 _ (f'.set (g := .d (enc a')) j (hd2.mono s1))
      · rintro σ' H' ⟨B', s1, s2, p, f'⟩
        rw [hlen] at p f'
        exact hd B' H' (x.bb.trans s1) p s2 σ' f'
theorem qx_forT {α : Type} [DecidableEq α] [Enc α] {xs : List α} {tl : TE} (h : Gv tl Γ B H (.d (.tuple (xs.map enc)))) (G : Nat → List (Option AV)) (P : Nat → Hp → Hp → Prop) (hl : Le (G 0) Γ) (h0 : ∀ B1 H1, Ext B H B1 H1 → P 0 B1 H1)
    (hs : ∀ Bs k a B1 H1, xs[k]? = some a → Same B Bs → Same Bs B1 → P k B1 H1 → Sx tu { D with nx := Lp Bs (G (k + 1)) (P (k + 1)), ct := Lp Bs (G (k + 1)) (P (k + 1)), bk := tz D } ((G k).set j (some (.d (enc a)))) B1 H1)
    (hd : ∀ B1 H1, Same B B1 → P xs.length B1 H1 → Sx tz D (G xs.length) B1 H1) : Sx (tSeq (tFor (iTup K tl) (gName j) tu) tz) D Γ B H := fun e σ f =>
  h B H σ (Ext.refl e) f _ fun u Bs Hs x hu => by
    cases hu with
    | @tup a us _ hp t =>
      have hlen : us.length = xs.length := by rw [t.length, List.length_map]
      refine ⟨a, rfl, ⟨_, SqT.of (x.bh _ _ hp)⟩, for_tup (K := K) (a := a) (xs := us) (D := { D with nx := tz D }) (fun k => Lp Bs (G k) (P k)) ⟨Bs, Same.refl _, x.bh, h0 Bs Hs x, (f.mono x.bb).le hl⟩ ?_ ?_ ?_⟩
      · rintro k σ' H' _ ⟨B', s1, s2, _, _⟩
        exact SqT.of (s2 _ _ (s1 _ _ hp))
      · rintro k v σ' H' hk ⟨B', s1, s2, p, f'⟩
        obtain ⟨d, hd1, hd2⟩ := t.getV hk
        rw [List.getElem?_map] at hd1
        cases q : xs[k]? with
        | none => rw [q] at hd1; cases hd1
        | some a' =>
          rw [q] at hd1
          cases hd1
          exact hs Bs k a' B' H' q x.bb s1 p s2 _ (f'.set (g := .d (enc a')) j (hd2.mono s1))
      · rintro σ' H' ⟨B', s1, s2, p, f'⟩
        rw [hlen] at p f'
        exact hd B' H' (x.bb.trans s1) p s2 σ' f'
theorem qx_forR {ta : TA} {n : Int} (h : Ga ta Γ B H [AI n]) (hn : n ≤ 1000000) (hn0 : -1000000 ≤ n) (G : Nat → List (Option AV)) (P : Nat → Hp → Hp → Prop) (hl : Le (G 0) Γ) (h0 : ∀ B1 H1, Ext B H B1 H1 → P 0 B1 H1)
    (hs : ∀ Bs (k : Nat) B1 H1, k < n.toNat → Same B Bs → Same Bs B1 → P k B1 H1 → Sx tu { D with nx := Lp Bs (G (k + 1)) (P (k + 1)), ct := Lp Bs (G (k + 1)) (P (k + 1)), bk := tz D } ((G k).set j (some (AI (k : Int)))) B1 H1)
    (hd : ∀ B1 H1, Same B B1 → P n.toNat B1 H1 → Sx tz D (G n.toNat) B1 H1) : Sx (tSeq (tFor (iRng1 ta) (gName j) tu) tz) D Γ B H := fun e σ f =>
  h B H σ (Ext.refl e) f _ fun us Bs Hs x hu => by
    cases hu with
    | cons hu t =>
      cases t
      cases hu
      refine ⟨n, rfl, by omega, by omega, for_range (lo := 0) (n := n.toNat) (D := { D with nx := tz D }) (fun k => Lp Bs (G k) (P k)) ⟨Bs, Same.refl _, x.bh, h0 Bs Hs x, (f.mono x.bb).le hl⟩ ?_ ?_⟩
      · rintro k σ' H' hk ⟨B', s1, s2, p, f'⟩
        have e0 : (0 : Int) + (k : Int) = (k : Int) := Int.zero_add _
        show gName j (V.int ((0 : Int) + (k : Int))) σ' H' _
        rw [e0]
        exact hs Bs k B' H' hk x.bb s1 p s2 _ (f'.set (g := AI (k : Int)) j (.int _))
      · rintro σ' H' ⟨B', s1, s2, p, f'⟩
        exact hd B' H' (x.bb.trans s1) p s2 σ' f'

/-- a new own list comes out -/
def Gm (te : TE) (Γ : List (Option AV)) (B H : Hp) (ds : List PyData) : Prop :=
  ∀ B1 H1 σ, Ext B H B1 H1 → Fr B1 σ Γ → ∀ Q : VK, (∀ p B2 H2, Ext B1 H1 B2 H2 → H1 p = none → Ml B2 H2 p ds → Q (.ref p) H2) → te σ H1 Q
theorem Gm.gv (h : Gm te Γ B H ds) : Gv te Γ B H (.d (.list ds)) := fun B1 H1 σ e f Q q => h B1 H1 σ e f Q fun p B2 H2 x hp m => by
  obtain ⟨B3, x3, _, hq⟩ := m.give x hp
  exact q _ B3 H2 x3 hq
theorem gm_lst {ta : TA} (h : Ga ta Γ B H (ds.map AV.d)) (hz : ds.length ≤ 16000000) : Gm (tLst ta) Γ B H ds := fun B1 H1 σ e f Q q =>
  h B1 H1 σ e f _ fun us B2 H2 x hu => by
    have t := dqAll_of hu
    exact ⟨sz (by rw [t.length]; exact hz), fun p hp => q p B2 _ (x.trans (Ext.out x.bh hp)) (x.hh.free hp) ⟨x.bh.free hp, us, upd_same, t⟩⟩
theorem gm_rep {k : Int} (ha : Gv ta Γ B H (.d (.list ds))) (hb : Gv tb Γ B H (AI k)) (h1 : -(2 ^ 63) ≤ k) (h2 : k < 2 ^ 63) (hz : ds.length * k.toNat ≤ 16000000) : Gm (tOp rRep ta tb) Γ B H (List.replicate k.toNat ds).flatten := fun B1 H1 σ e f Q q =>
  ha B1 H1 σ e f _ fun u B2 H2 e2 hu => hb B2 H2 σ (e.trans e2) (f.mono e2.bb) _ fun w B3 H3 e3 hw => by
    cases hw
    cases hu with
    | lst h t =>
      refine ⟨_, _, _, rfl, rfl, e3.bh _ _ (e3.bb _ _ h), h1, h2, sz (by rw [t.length]; exact hz), fun p hp => ?_⟩
      have e23 := e2.trans e3
      exact q p B3 _ (e23.trans (Ext.out e3.bh hp)) (e23.hh.free hp) ⟨e3.bh.free hp, _, upd_same, (t.mono e3.bb).rep _⟩
/-! comprehensions -/
def Ow (Γ : List (Option AV)) (vs : List Nat) : List (Option AV) := vs.foldr (fun i Δ => Δ.set i none) Γ
theorem wipe_set {σ : L2.St} {vs : List Nat} {j : Nat} {x : V} (h : j ∈ vs) (hd : vs.Nodup) : wipe ((wipe σ vs).set j (some x)) vs = wipe σ vs := by
  have key : ∀ (vs : List Nat) (τ : L2.St) (i : Nat), (wipe τ vs)[i]? = if i ∈ vs then (if i < τ.length then some none else none) else τ[i]? := by
    intro vs
    induction vs with
    | nil => intro τ i; simp [wipe]
    | cons v r ih =>
      intro τ i
      show ((wipe τ r).set v none)[i]? = _
      rw [List.getElem?_set, wipe_length]
      by_cases e : v = i
      · subst e
        rw [if_pos rfl, if_pos List.mem_cons_self]
      · rw [if_neg e, ih]
        by_cases q : i ∈ r
        · rw [if_pos q, if_pos (List.mem_cons_of_mem _ q)]
        · rw [if_neg q, if_neg (by intro z; rcases List.mem_cons.mp z with z | z; exact e z.symm; exact q z)]
  refine List.ext_getElem? fun i => ?_
  rw [key, key]
  by_cases q : i ∈ vs
  · rw [if_pos q, if_pos q, List.length_set, wipe_length]
  · rw [if_neg q, if_neg q, List.getElem?_set_ne (by rintro rfl; exact q h), key, if_neg q]
/-- the list made so far, in a comprehension: it stands at p, out of the base -/
def Cq (Bs : Hp) (p : Addr) (ds : List PyData) (B0 H0 : Hp) : Hp → Prop := fun H' => ∃ B', Same Bs B' ∧ Ext B0 H0 B' H' ∧ Ml B' H' p ds
theorem gm_lcL {α β : Type} [DecidableEq α] [Enc α] [DecidableEq β] [Enc β] {xs : List α} {tl : TE} {vs : List Nat} (h : Gv tl Γ B H (.d (.list (xs.map enc)))) (hz : xs.length < 16000000) (hv : j ∈ vs) (hnd : vs.Nodup) (p : α → Bool) (f : α → β)
    (ht : ∀ a ∈ xs, ∀ B1 H1, Ext B H B1 H1 → Gt t ((Ow Γ vs).set j (some (.d (enc a)))) B1 H1 (p a)) (he : ∀ a ∈ xs, p a = true → ∀ B1 H1, Ext B H B1 H1 → Gv te ((Ow Γ vs).set j (some (.d (enc a)))) B1 H1 (.d (enc (f a)))) :
    Gm (tLc (iList K tl) (gName j) t te vs) Γ B H (((xs.filter p).map f).map enc) := fun B0 H0 σ e fr Q q =>
  h B0 H0 σ e fr _ fun u Bs Hs x hu => by
    cases hu with
    | @lst a us _ hp tq =>
      have hlen : us.length = xs.length := by rw [tq.length, List.length_map]
      refine ⟨a, rfl, ⟨_, SqL.of (x.bh _ _ hp)⟩, fun Dl hD => ?_⟩
      have hbs : Bs Dl = none := x.bh.free hD
      refine lc_list (K := K) (xs := us) (fun k => Cq Bs Dl ((((xs.take k).filter p).map f).map enc) Bs Hs) ⟨Bs, Same.refl _, Ext.out x.bh hD, hbs, [], upd_same, .nil⟩ ?_ ?_ ?_
      · rintro k H' _ ⟨B', s1, x', _⟩
        exact SqL.of (x'.bh _ _ (s1 _ _ hp))
      · rintro k v H' hk ⟨B', s1, x', m⟩
        obtain ⟨d, hd1, hd2⟩ := tq.getV hk
        rw [List.getElem?_map] at hd1
        cases qk : xs[k]? with
        | none => rw [qk] at hd1; cases hd1
        | some a' =>
          rw [qk] at hd1
          cases hd1
          have hmem : a' ∈ xs := List.mem_of_getElem? qk
          have htake : xs.take (k + 1) = xs.take k ++ [a'] := by
            rw [List.take_add_one, qk]
            rfl
          have fr1 : Fr B' ((wipe σ vs).set j (some v)) ((Ow Γ vs).set j (some (.d (enc a')))) := ((fr.mono (x.bb.trans s1)).wipe vs).set (g := .d (enc a')) j (hd2.mono s1)
          have eB : Ext B0 H0 B' H' := x.trans x'
          refine ⟨wipe_set hv hnd, ht a' hmem B' H' (e.trans eB) B' H' _ (Ext.refl x'.bh) fr1 _ fun B2 H2 x2 => ?_⟩
          cases pa : p a' with
          | true =>
            rw [if_pos rfl]
            refine he a' hmem pa B2 H2 ((e.trans eB).trans x2) B2 H2 _ (Ext.refl x2.bh) (fr1.mono x2.bb) _ fun w B3 H3 x3 hw => ?_
            obtain ⟨hb, acc, ha, t3⟩ := (m.ext x2).ext x3
            have xx := (x'.trans x2).trans x3
            refine ⟨acc, ha, szl ?_, B3, s1.trans (x2.bb.trans x3.bb), xx.mut hD hb, hb, _, upd_same, ?_⟩
            · rw [t3.length, List.length_map, List.length_map]
              have h1 := List.length_filter_le p (xs.take k)
              have h2 := List.length_take_le k xs
              have h3 := (List.getElem?_eq_some_iff.mp qk).1
              have h4 : (xs.take k).length ≤ xs.length := by rw [List.length_take]; omega
              omega
            · have hh : ((xs.take (k + 1)).filter p).map f = ((xs.take k).filter p).map f ++ [f a'] := by
                rw [htake, List.filter_append, List.map_append]
                congr 1
                simp [List.filter_cons, pa]
              rw [hh, List.map_append]
              exact t3.append (.one hw)
          | false =>
            rw [if_neg (by simp)]
            refine ⟨B2, s1.trans x2.bb, x'.trans x2, ?_⟩
            have hh : ((xs.take (k + 1)).filter p).map f = ((xs.take k).filter p).map f := by
              rw [htake, List.filter_append, List.map_append]
              simp [List.filter_cons, pa]
            rw [hh]
            exact m.ext x2
      · rintro H' ⟨B', s1, x', m⟩
        rw [hlen, List.take_length] at m
        exact q Dl B' H' (x.trans x') (x.hh.free hD) m
theorem gv_lcL {α β : Type} [DecidableEq α] [Enc α] [DecidableEq β] [Enc β] {xs : List α} {tl : TE} {vs : List Nat} (h : Gv tl Γ B H (.d (.list (xs.map enc)))) (hz : xs.length < 16000000) (hv : j ∈ vs) (hnd : vs.Nodup) (p : α → Bool) (f : α → β)
    (ht : ∀ a ∈ xs, ∀ B1 H1, Ext B H B1 H1 → Gt t ((Ow Γ vs).set j (some (.d (enc a)))) B1 H1 (p a)) (he : ∀ a ∈ xs, p a = true → ∀ B1 H1, Ext B H B1 H1 → Gv te ((Ow Γ vs).set j (some (.d (enc a)))) B1 H1 (.d (enc (f a)))) :
    Gv (tLc (iList K tl) (gName j) t te vs) Γ B H (.d (.list (((xs.filter p).map f).map enc))) := (gm_lcL h hz hv hnd p f ht he).gv
theorem gm_lcT {α β : Type} [DecidableEq α] [Enc α] [DecidableEq β] [Enc β] {xs : List α} {tl : TE} {vs : List Nat} (h : Gv tl Γ B H (.d (.tuple (xs.map enc)))) (hz : xs.length < 16000000) (hv : j ∈ vs) (hnd : vs.Nodup) (p : α → Bool) (f : α → β)
    (ht : ∀ a ∈ xs, ∀ B1 H1, Ext B H B1 H1 → Gt t ((Ow Γ vs).set j (some (.d (enc a)))) B1 H1 (p a)) (he : ∀ a ∈ xs, p a = true → ∀ B1 H1, Ext B H B1 H1 → Gv te ((Ow Γ vs).set j (some (.d (enc a)))) B1 H1 (.d (enc (f a)))) :
    Gm (tLc (iTup K tl) (gName j) t te vs) Γ B H (((xs.filter p).map f).map enc) := fun B0 H0 σ e fr Q q =>
  h B0 H0 σ e fr _ fun u Bs Hs x hu => by
    cases hu with
    | @tup a us _ hp tq =>
      have hlen : us.length = xs.length := by rw [tq.length, List.length_map]
      refine ⟨a, rfl, ⟨_, SqT.of (x.bh _ _ hp)⟩, fun Dl hD => ?_⟩
      have hbs : Bs Dl = none := x.bh.free hD
      refine lc_tup (K := K) (xs := us) (fun k => Cq Bs Dl ((((xs.take k).filter p).map f).map enc) Bs Hs) ⟨Bs, Same.refl _, Ext.out x.bh hD, hbs, [], upd_same, .nil⟩ ?_ ?_ ?_
      · rintro k H' _ ⟨B', s1, x', _⟩
        exact SqT.of (x'.bh _ _ (s1 _ _ hp))
      · rintro k v H' hk ⟨B', s1, x', m⟩
        obtain ⟨d, hd1, hd2⟩ := tq.getV hk
        rw [List.getElem?_map] at hd1
        cases qk : xs[k]? with
        | none => rw [qk] at hd1; cases hd1
        | some a' =>
          rw [qk] at hd1
          cases hd1
          have hmem : a' ∈ xs := List.mem_of_getElem? qk
          have htake : xs.take (k + 1) = xs.take k ++ [a'] := by
            rw [List.take_add_one, qk]
            rfl
          have fr1 : Fr B' ((wipe σ vs).set j (some v)) ((Ow Γ vs).set j (some (.d (enc a')))) := ((fr.mono (x.bb.trans s1)).wipe vs).set (g := .d (enc a')) j (hd2.mono s1)
          have eB : Ext B0 H0 B' H' := x.trans x'
          refine ⟨wipe_set hv hnd, ht a' hmem B' H' (e.trans eB) B' H' _ (Ext.refl x'.bh) fr1 _ fun B2 H2 x2 => ?_⟩
          cases pa : p a' with
          | true =>
            rw [if_pos rfl]
            refine he a' hmem pa B2 H2 ((e.trans eB).trans x2) B2 H2 _ (Ext.refl x2.bh) (fr1.mono x2.bb) _ fun w B3 H3 x3 hw => ?_
            obtain ⟨hb, acc, ha, t3⟩ := (m.ext x2).ext x3
            have xx := (x'.trans x2).trans x3
            refine ⟨acc, ha, szl ?_, B3, s1.trans (x2.bb.trans x3.bb), xx.mut hD hb, hb, _, upd_same, ?_⟩
            · rw [t3.length, List.length_map, List.length_map]
              have h1 := List.length_filter_le p (xs.take k)
              have h4 : (xs.take k).length ≤ xs.length := by rw [List.length_take]; omega
              omega
            · have hh : ((xs.take (k + 1)).filter p).map f = ((xs.take k).filter p).map f ++ [f a'] := by
                rw [htake, List.filter_append, List.map_append]
                congr 1
                simp [List.filter_cons, pa]
              rw [hh, List.map_append]
              exact t3.append (.one hw)
          | false =>
            rw [if_neg (by simp)]
            refine ⟨B2, s1.trans x2.bb, x'.trans x2, ?_⟩
            have hh : ((xs.take (k + 1)).filter p).map f = ((xs.take k).filter p).map f := by
              rw [htake, List.filter_append, List.map_append]
              simp [List.filter_cons, pa]
            rw [hh]
            exact m.ext x2
      · rintro H' ⟨B', s1, x', m⟩
        rw [hlen, List.take_length] at m
        exact q Dl B' H' (x.trans x') (x.hh.free hD) m
theorem gv_lcT {α β : Type} [DecidableEq α] [Enc α] [DecidableEq β] [Enc β] {xs : List α} {tl : TE} {vs : List Nat} (h : Gv tl Γ B H (.d (.tuple (xs.map enc)))) (hz : xs.length < 16000000) (hv : j ∈ vs) (hnd : vs.Nodup) (p : α → Bool) (f : α → β)
    (ht : ∀ a ∈ xs, ∀ B1 H1, Ext B H B1 H1 → Gt t ((Ow Γ vs).set j (some (.d (enc a)))) B1 H1 (p a)) (he : ∀ a ∈ xs, p a = true → ∀ B1 H1, Ext B H B1 H1 → Gv te ((Ow Γ vs).set j (some (.d (enc a)))) B1 H1 (.d (enc (f a)))) :
    Gv (tLc (iTup K tl) (gName j) t te vs) Γ B H (.d (.list (((xs.filter p).map f).map enc))) := (gm_lcT h hz hv hnd p f ht he).gv
theorem gm_lcR {β : Type} [DecidableEq β] [Enc β] {ta : TA} {n : Int} {vs : List Nat} (h : Ga ta Γ B H [AI n]) (hn : n ≤ 1000000) (hn0 : -1000000 ≤ n) (hv : j ∈ vs) (hnd : vs.Nodup) (p : Nat → Bool) (f : Nat → β)
    (ht : ∀ k : Nat, k < n.toNat → ∀ B1 H1, Ext B H B1 H1 → Gt t ((Ow Γ vs).set j (some (AI (k : Int)))) B1 H1 (p k)) (he : ∀ k : Nat, k < n.toNat → p k = true → ∀ B1 H1, Ext B H B1 H1 → Gv te ((Ow Γ vs).set j (some (AI (k : Int)))) B1 H1 (.d (enc (f k)))) :
    Gm (tLc (iRng1 ta) (gName j) t te vs) Γ B H ((((List.range n.toNat).filter p).map f).map enc) := fun B0 H0 σ e fr Q q =>
  h B0 H0 σ e fr _ fun us Bs Hs x hu => by
    cases hu with
    | cons hu t0 =>
      cases t0
      cases hu
      refine ⟨n, rfl, by omega, by omega, fun Dl hD => ?_⟩
      have hbs : Bs Dl = none := x.bh.free hD
      refine lc_range (lo := 0) (n := n.toNat) (fun k => Cq Bs Dl ((((List.range k).filter p).map f).map enc) Bs Hs) ⟨Bs, Same.refl _, Ext.out x.bh hD, hbs, [], upd_same, .nil⟩ ?_ ?_
      · rintro k H' hk ⟨B', s1, x', m⟩
        have e0 : (0 : Int) + (k : Int) = (k : Int) := Int.zero_add _
        show gName j (V.int ((0 : Int) + (k : Int))) _ H' _
        rw [e0]
        have fr1 : Fr B' ((wipe σ vs).set j (some (.int (k : Int)))) ((Ow Γ vs).set j (some (AI (k : Int)))) := ((fr.mono (x.bb.trans s1)).wipe vs).set (g := AI (k : Int)) j (.int _)
        have eB : Ext B0 H0 B' H' := x.trans x'
        refine ⟨wipe_set hv hnd, ht k hk B' H' (e.trans eB) B' H' _ (Ext.refl x'.bh) fr1 _ fun B2 H2 x2 => ?_⟩
        cases pa : p k with
        | true =>
          rw [if_pos rfl]
          refine he k hk pa B2 H2 ((e.trans eB).trans x2) B2 H2 _ (Ext.refl x2.bh) (fr1.mono x2.bb) _ fun w B3 H3 x3 hw => ?_
          obtain ⟨hb, acc, ha, t3⟩ := (m.ext x2).ext x3
          have xx := (x'.trans x2).trans x3
          refine ⟨acc, ha, szl ?_, B3, s1.trans (x2.bb.trans x3.bb), xx.mut hD hb, hb, _, upd_same, ?_⟩
          · rw [t3.length, List.length_map, List.length_map]
            have h1 := List.length_filter_le p (List.range k)
            rw [List.length_range] at h1
            omega
          · have hh : ((List.range (k + 1)).filter p).map f = ((List.range k).filter p).map f ++ [f k] := by
              rw [List.range_succ, List.filter_append, List.map_append]
              congr 1
              simp [List.filter_cons, pa]
            rw [hh, List.map_append]
            exact t3.append (.one hw)
        | false =>
          rw [if_neg (by simp)]
          refine ⟨B2, s1.trans x2.bb, x'.trans x2, ?_⟩
          have hh : ((List.range (k + 1)).filter p).map f = ((List.range k).filter p).map f := by
            rw [List.range_succ, List.filter_append, List.map_append]
            simp [List.filter_cons, pa]
          rw [hh]
          exact m.ext x2
      · rintro H' ⟨B', s1, x', m⟩
        exact q Dl B' H' (x.trans x') (x.hh.free hD) m

theorem gv_lcR {β : Type} [DecidableEq β] [Enc β] {ta : TA} {n : Int} {vs : List Nat} (h : Ga ta Γ B H [AI n]) (hn : n ≤ 1000000) (hn0 : -1000000 ≤ n) (hv : j ∈ vs) (hnd : vs.Nodup) (p : Nat → Bool) (f : Nat → β)
    (ht : ∀ k : Nat, k < n.toNat → ∀ B1 H1, Ext B H B1 H1 → Gt t ((Ow Γ vs).set j (some (AI (k : Int)))) B1 H1 (p k)) (he : ∀ k : Nat, k < n.toNat → p k = true → ∀ B1 H1, Ext B H B1 H1 → Gv te ((Ow Γ vs).set j (some (AI (k : Int)))) B1 H1 (.d (enc (f k)))) :
    Gv (tLc (iRng1 ta) (gName j) t te vs) Γ B H (.d (.list ((((List.range n.toNat).filter p).map f).map enc))) := (gm_lcR h hn hn0 hv hnd p f ht he).gv
/-! the promises -/
/-- nothing is changed, the answer is data by the arguments -/
def spP {T : Type} (args : T → List AV) (pre : T → Hp → Hp → Prop) (res : T → AV) : Sp := fun vs H Q _ =>
  ∃ (a : T) (B : Hp), Same B H ∧ IsAll B vs (args a) ∧ pre a B H ∧ ∀ u B2 H2, Ext B H B2 H2 → Is B2 u (res a) → Q u H2
theorem gv_call {T : Type} {args : T → List AV} {pre : T → Hp → Hp → Prop} {res : T → AV} {E : XK} {tr : TA} (a : T) (h : Ga tr Γ B H (args a)) (hp : ∀ B1 H1, Ext B H B1 H1 → pre a B1 H1) : Gv (tCall (spP args pre res) [] E tr) Γ B H (res a) := fun B1 H1 σ e f Q q =>
  h B1 H1 σ e f _ fun us B2 H2 e2 hu => ⟨a, B2, e2.bh, by rw [List.append_nil]; exact hu, hp B2 H2 (e.trans e2), fun u B3 H3 e3 h3 => q u B3 H3 (e2.trans e3) h3⟩
/-- .. or it raises an error of a class -/
def spR {T : Type} (args : T → List AV) (pre : T → Hp → Hp → Prop) (res : T → Except Addr AV) : Sp := fun vs H Q E =>
  ∃ (a : T) (B : Hp), Same B H ∧ IsAll B vs (args a) ∧ pre a B H ∧ (∀ u B2 H2 g, res a = .ok g → Ext B H B2 H2 → Is B2 u g → Q u H2) ∧ (∀ B2 H2 C, res a = .error C → Ext B H B2 H2 → E (.ref C) none H2)
def Gx (E : XK) (te : TE) (Γ : List (Option AV)) (B H : Hp) (r : Except Addr AV) : Prop :=
  ∀ B1 H1 σ, Ext B H B1 H1 → Fr B1 σ Γ → ∀ Q : VK, (∀ u B2 H2 g, r = .ok g → Ext B1 H1 B2 H2 → Is B2 u g → Q u H2) → (∀ B2 H2 C, r = .error C → Ext B1 H1 B2 H2 → E (.ref C) none H2) → te σ H1 Q
theorem gx_call {T : Type} {args : T → List AV} {pre : T → Hp → Hp → Prop} {res : T → Except Addr AV} {E : XK} {tr : TA} (a : T) (h : Ga tr Γ B H (args a)) (hp : ∀ B1 H1, Ext B H B1 H1 → pre a B1 H1) : Gx E (tCall (spR args pre res) [] E tr) Γ B H (res a) := fun B1 H1 σ e f Q q qe =>
  h B1 H1 σ e f _ fun us B2 H2 e2 hu => ⟨a, B2, e2.bh, by rw [List.append_nil]; exact hu, hp B2 H2 (e.trans e2), fun u B3 H3 g hg e3 h3 => q u B3 H3 g hg (e2.trans e3) h3, fun B3 H3 C hC e3 => qe B3 H3 C hC (e2.trans e3)⟩
theorem qx_dropX {E : XK} {r : Except Addr AV} (h : Gx E te Γ B H r) (k : ∀ g B2 H2, r = .ok g → Ext B H B2 H2 → Sx tz D Γ B2 H2) (ke : ∀ C B2 H2, r = .error C → Ext B H B2 H2 → E (.ref C) none H2) : Sx (tSeq (tDrop te) tz) D Γ B H := fun e σ f =>
  h B H σ (Ext.refl e) f _ (fun u B2 H2 g hg x hu => k g B2 H2 hg x x.bh _ (f.mono x.bb)) fun B2 H2 C hC x => ke C B2 H2 hC x
theorem qx_asgX {E : XK} {r : Except Addr AV} (h : Gx E te Γ B H r) (k : ∀ g B2 H2, r = .ok g → Ext B H B2 H2 → Sx tz D (Γ.set i (some g)) B2 H2) (ke : ∀ C B2 H2, r = .error C → Ext B H B2 H2 → E (.ref C) none H2) : Sx (tSeq (tAsg te (gName i)) tz) D Γ B H := fun e σ f =>
  h B H σ (Ext.refl e) f _ (fun u B2 H2 g hg x hu => k g B2 H2 hg x x.bh _ ((f.mono x.bb).set i hu)) fun B2 H2 C hC x => ke C B2 H2 hC x
theorem qx_retX {E : XK} {r : Except Addr AV} (h : Gx E te Γ B H r) (k : ∀ u g B2 H2, r = .ok g → Ext B H B2 H2 → Is B2 u g → D.rt u H2) (ke : ∀ C B2 H2, r = .error C → Ext B H B2 H2 → E (.ref C) none H2) : Sx (tSeq (tRet te) tz) D Γ B H := fun e σ f =>
  h B H σ (Ext.refl e) f _ (fun u B2 H2 g hg x hu => k u g B2 H2 hg x hu) fun B2 H2 C hC x => ke C B2 H2 hC x
/-- a frame at its start -/
theorem fr_start {N : List Str} {us : List V} {gs : List AV} (h : IsAll B us gs) (hl : us.length ≤ N.length) : Fr B (L2.start N us) (gs.map some ++ List.replicate (N.length - gs.length) none) := by
  have hl2 := h.length
  refine ⟨by simp [L2.start, hl2], fun i g q => ?_⟩
  have key : ∀ {us : List V} {gs : List AV}, IsAll B us gs → ∀ (i : Nat) (g : AV), gs[i]? = some g → ∃ u, us[i]? = some u ∧ Is B u g := by
    intro us gs h
    induction h with
    | nil => intro i g q; simp at q
    | cons h _ ih =>
      intro i g q
      cases i with
      | zero => simp at q; subst q; exact ⟨_, rfl, h⟩
      | succ i => exact ih i g (by simpa using q)
  by_cases hi : i < gs.length
  · rw [List.getElem?_append_left (by simpa using hi), List.getElem?_map] at q
    cases e : gs[i]? with
    | none => rw [e] at q; cases q
    | some g' =>
      rw [e] at q
      cases q
      obtain ⟨u, h1, h2⟩ := key h i g e
      refine ⟨u, ?_, h2⟩
      unfold L2.start
      rw [List.getElem?_append_left (by simpa [hl2] using hi), List.getElem?_map, h1]
      rfl
  · rw [List.getElem?_append_right (by simpa using hi)] at q
    rw [List.getElem?_replicate] at q
    split at q <;> cases q
end
end SB
namespace SB
open PySem PySem.Spec PyProof.Rows L2
open Enc (enc)

/-! ### Le, slot by slot -/
theorem le_nil : Le [] [] := ⟨rfl, fun _ _ h => by simp at h⟩
theorem le_keep {o : Option AV} {Δ Γ : List (Option AV)} (h : Le Δ Γ) : Le (o :: Δ) (o :: Γ) := ⟨congrArg (· + 1) h.1, fun i g q => by
  cases i with
  | zero => exact q
  | succ i => exact h.2 i g (by simpa using q)⟩
theorem le_drop {o : Option AV} {Δ Γ : List (Option AV)} (h : Le Δ Γ) : Le (none :: Δ) (o :: Γ) := ⟨congrArg (· + 1) h.1, fun i g q => by
  cases i with
  | zero => simp at q
  | succ i => exact h.2 i g (by simpa using q)⟩
theorem Le.trans {A B C : List (Option AV)} (a : Le A B) (b : Le B C) : Le A C := ⟨a.1.trans b.1, fun i g h => b.2 i g (a.2 i g h)⟩

theorem _root_.L2.Room.u65 {k : Nat} {A : Around} (r : Room k A) : A.units + 65 < cLine := by have := r.un; omega
/-! ### defs that may be called by their names -/
/-- a def, under its name; CX0: nothing is raised -/
structure Cal (P : Program) (w : World) (K : PySem.W.Frag) (mg : Str → Option Value) (base : Heap) (CX : CXT) (k : Nat) (x : Str) (sp : Sp) : Prop where
  ex : ∃ (f : Addr) (fd : FuncData) (ps : List Str), FnOk P w K mg base CX k f fd ps sp ∧ mg x = some (.ref f) ∧ PySem.W.keepIn K (.ref f) = true ∧ Binds K fd ps []
theorem Cal.mono {P : Program} {w : World} {K : PySem.W.Frag} {mg : Str → Option Value} {base : Heap} {CX : CXT} {j k : Nat} {x : Str} {sp : Sp} (c : Cal P w K mg base CX j x sp) (h : j ≤ k) : Cal P w K mg base CX k x sp := by
  obtain ⟨f, fd, ps, F, a, b, d⟩ := c.ex
  exact ⟨f, fd, ps, F.mono h, a, b, d⟩
/-- a method of the class at C -/
structure Met (P : Program) (w : World) (K : PySem.W.Frag) (mg : Str → Option Value) (base : Heap) (CX : CXT) (k : Nat) (C : Addr) (m : Str) (sp : Sp) : Prop where
  ex : ∃ (f : Addr) (fd : FuncData) (ps : List Str), FnOk P w K mg base CX k f fd ps sp ∧ Meth K C m f ∧ Binds K fd ps []
/-- a class, by its name: its __init__ -/
structure Mak (P : Program) (w : World) (K : PySem.W.Frag) (mg : Str → Option Value) (base : Heap) (CX : CXT) (k : Nat) (x : Str) (C : Addr) (sp : Sp) : Prop where
  ex : ∃ (f : Addr) (fd : FuncData) (ps : List Str), FnOk P w K mg base CX k f fd ps sp ∧ mg x = some (.ref C) ∧ Mk K C f ∧ Binds K fd ps []
section
variable {X : Cx} {k j : Nat} {C : Addr} {x m : Str} {sp : Sp} {E : XK} {CX : CXT} {W : WX} {p pos apos : Pos} {e o : Expr} {es : List Expr} {ta : TE} {t : TA}
theorem pe_cal (c : Cal X.prog X.w X.K X.mg X.base CX k x sp) (hr : Room j X.A) (hk : k ≤ j) (hg : Gl X x) (hx : Passes CX X E) (ha : PA X (e :: es) t)
    (hdb : (x == ("__debug__" : Str)) = false := by decide) (he : starEach (e :: es) X.env = (false, eval e X.env) :: starEach es X.env := by rfl) (hpl : (backTo pos (starEach es X.env)).any (·.1) = false := by rfl) :
    PE X (.Call (.Name x p) (e :: es) [] pos) (tCall sp [] E t) := by
  obtain ⟨f, fd, ps, F, hm, kp, b⟩ := c.ex
  exact pe_call F (hr.mono hk) hg hm kp b .nil hx ha hdb he hpl
/-- .. in the body of a try, or where the exception is told by the slots -/
theorem pe_calS {E : L2.St → XK} (c : Cal X.prog X.w X.K X.mg X.base CX k x sp) (hr : Room j X.A) (hk : k ≤ j) (hg : Gl X x) (hx : ∀ σ, PassesAt CX X σ (E σ)) (ha : PA X (e :: es) t)
    (hdb : (x == ("__debug__" : Str)) = false := by decide) (he : starEach (e :: es) X.env = (false, eval e X.env) :: starEach es X.env := by rfl) (hpl : (backTo pos (starEach es X.env)).any (·.1) = false := by rfl) :
    PE X (.Call (.Name x p) (e :: es) [] pos) (tCallS sp E t) := by
  obtain ⟨f, fd, ps, F, hm, kp, b⟩ := c.ex
  exact pe_callS F (hr.mono hk) hg hm kp b hx ha hdb he hpl
theorem pe_met {pl : Sem Bool} (c : Met X.prog X.w X.K X.mg X.base CX k C m sp) (cl : Cls X.K C) (hr : Room j X.A) (hk : k ≤ j) (hx : Passes CX X E) (he : PE X o ta) (ha : PA X (e :: es) t)
    (hst : starEach (e :: es) X.env = (false, eval e X.env) :: starEach es X.env := by rfl) (hpl : (backTo pos (starEach es X.env)).any (·.1) = false := by rfl)
    (ht : eval (.Call (.Attribute o m apos) (e :: es) [] pos) X.env = (do
      let ov ← eval o X.env
      standAt apos.atName
      let (f, first) ← holding [ov] (getMethod ov m pl)
      callWith pos f first (backTo pos (starEach (e :: es) X.env)) (backToKw pos (keywordEach [] X.env))) := by rfl) :
    PE X (.Call (.Attribute o m apos) (e :: es) [] pos) (tMeth C m sp [] E ta t) := by
  obtain ⟨f, fd, ps, F, hm, b⟩ := c.ex
  exact pe_meth (pl := pl) he cl hm F (hr.mono hk) b .nil hx ha hst hpl ht
theorem pe_met0 {pl : Sem Bool} (c : Met X.prog X.w X.K X.mg X.base CX k C m sp) (cl : Cls X.K C) (hr : Room j X.A) (hk : k ≤ j) (hx : Passes CX X E) (he : PE X o ta)
    (ht : eval (.Call (.Attribute o m apos) [] [] pos) X.env = (do
      let ov ← eval o X.env
      standAt apos.atName
      let (f, first) ← holding [ov] (getMethod ov m pl)
      callWith pos f first (backTo pos (starEach [] X.env)) (backToKw pos (keywordEach [] X.env))) := by rfl) :
    PE X (.Call (.Attribute o m apos) [] [] pos) (tMeth C m sp [] E ta tNil) := by
  obtain ⟨f, fd, ps, F, hm, b⟩ := c.ex
  exact pe_meth0 (pl := pl) he cl hm F (hr.mono hk) b .nil hx ht
theorem pe_mak (c : Mak X.prog X.w X.K X.mg X.base CX k x C sp) (hr : Room j X.A) (hk : k + 1 ≤ j) (hg : Gl X x) (hx : Passes CX X E) (ha : PA X (e :: es) t)
    (hdb : (x == ("__debug__" : Str)) = false := by decide) (he : starEach (e :: es) X.env = (false, eval e X.env) :: starEach es X.env := by rfl) (hpl : (backTo pos (starEach es X.env)).any (·.1) = false := by rfl) :
    PE X (.Call (.Name x p) (e :: es) [] pos) (tMake C sp [] E t) := by
  obtain ⟨f, fd, ps, F, hm, M, b⟩ := c.ex
  exact pe_make M F (hr.mono hk) hg hm b .nil hx ha hdb he hpl
/-- nothing raised goes out of a def that raises nothing -/
theorem passN : Passes CX0 X E0 := fun _ _ _ _ _ _ _ h => h.elim
theorem passX (tk : Takes X (fun cls d _ H => E cls d H)) : Passes (L2.CX X.prog X.w) X E := fun pins σ H s e s' I c => passes_call tk (fun _ _ _ _ h => h) pins σ H s e s' I c
end

/-! ### a def by its body -/
abbrev Γ0 (N : List Str) (gs : List AV) : List (Option AV) := gs.map some ++ List.replicate (N.length - gs.length) none
section
variable {P : Program} {w : World} {K : PySem.W.Frag} {mg : Str → Option Value} {base : Heap} {x qual : Str} {st : Stmt} {f : Addr} {fd : FuncData} {N ps : List Str} {k : Nat} {T : Type}
theorem take_len {N ps : List Str} (h : N.take ps.length = ps) : ps.length ≤ N.length := by
  have := congrArg List.length h
  rw [List.length_take] at this
  omega
theorem fn_P {args : T → List AV} {pre : T → Hp → Hp → Prop} {res : T → AV} (F : Fun K x qual st f fd) (S : FnScope N ps (defScope st)) (hl : ∀ a, (args a).length = ps.length)
    (body : ∀ (cdv : Value) (A : Around) (outer : List Env) (s : Shared) (H : Hp) (Q : VK) (E : XK), Room k (A.deeper (envOfC qual (defScope st) s.heap.objs.size f cdv)) →
      ∃ t, PSs (cxOf CX0 P w K mg base N qual (defScope st) f cdv A outer s H E).nox (defBody st) t ∧ ∀ (a : T) (B : Hp), Same B H → pre a B H → (∀ u B2 H2, Ext B H B2 H2 → Is B2 u (res a) → Q u H2) → Sx t { nx := fun _ H' => Q .non H', rt := Q } (Γ0 N (args a)) B H) :
    FnOk P w K mg base CX0 (k + 1) f fd ps (spP args pre res) := by
  refine F.ok S (fun vs H Q E h => ?_) (fun cdv A outer s H vs Q E hr h => ?_)
  · obtain ⟨a, B, _, i, _⟩ := h
    rw [i.length, hl]
  · obtain ⟨a, B, e, i, p, q⟩ := h
    obtain ⟨t, h1, h2⟩ := body cdv A outer s H Q E hr
    refine ⟨t, h1, h2 a B e p q e _ (fr_start i ?_)⟩
    rw [i.length, hl]
    exact take_len S.pre
theorem fn_R {args : T → List AV} {pre : T → Hp → Hp → Prop} {res : T → Except Addr AV} (F : Fun K x qual st f fd) (S : FnScope N ps (defScope st)) (hl : ∀ a, (args a).length = ps.length)
    (body : ∀ (cdv : Value) (A : Around) (outer : List Env) (s : Shared) (H : Hp) (Q : VK) (E : XK), Room k (A.deeper (envOfC qual (defScope st) s.heap.objs.size f cdv)) →
      ∃ t, PSs (cxOf (L2.CX P w) P w K mg base N qual (defScope st) f cdv A outer s H E) (defBody st) t ∧ ∀ (a : T) (B : Hp), Same B H → pre a B H → (∀ u B2 H2 g, res a = .ok g → Ext B H B2 H2 → Is B2 u g → Q u H2) → (∀ B2 H2 C, res a = .error C → Ext B H B2 H2 → E (.ref C) none H2) →
        Sx t { nx := fun _ H' => Q .non H', rt := Q } (Γ0 N (args a)) B H) :
    FnOk P w K mg base (L2.CX P w) (k + 1) f fd ps (spR args pre res) := by
  refine F.okX S (fun vs H Q E h => ?_) (fun cdv A outer s H vs Q E hr h => ?_)
  · obtain ⟨a, B, _, i, _⟩ := h
    rw [i.length, hl]
  · obtain ⟨a, B, e, i, p, q, qe⟩ := h
    obtain ⟨t, h1, h2⟩ := body cdv A outer s H Q E hr
    refine ⟨t, h1, h2 a B e p q qe e _ (fr_start i ?_)⟩
    rw [i.length, hl]
    exact take_len S.pre
theorem Fun.cal {CX : CXT} {sp : Sp} (F : Fun K x x st f fd) (hm : mg x = some (.ref f)) (b : Binds K fd ps []) (G : FnOk P w K mg base CX k f fd ps sp) : Cal P w K mg base CX k x sp := ⟨f, fd, ps, G, hm, F.kp, b⟩
end
/-- raise, its reading -/
theorem qx_raise {E : XK} {cls : Value} {D : Ends} {Γ : List (Option AV)} {B H : Hp} {tz : TS} (h : Same B H → E cls none H) : Sx (tSeq (fun _ σ H => (fun (_ : L2.St) (H : Hp) (Q : XK) => Q cls none H) σ H fun cls d H' => (fun (cls : Value) (d : Option Addr) (_ : L2.St) (H : Hp) => E cls d H) cls d σ H') tz) D Γ B H := fun e σ f => h e
end SB
namespace SB
open PySem PySem.Spec PyProof.Rows L2
open Enc (enc)
/-! ### how many different items -/
def dd {α : Type} [DecidableEq α] : List α → List α
  | [] => []
  | x :: xs => if x ∈ xs then dd xs else x :: dd xs
theorem mem_dd {α : Type} [DecidableEq α] {a : α} : ∀ {xs : List α}, a ∈ dd xs ↔ a ∈ xs
  | [] => Iff.rfl
  | x :: xs => by
    unfold dd
    split
    · rw [mem_dd, List.mem_cons]
      constructor
      · exact .inr
      · rintro (h | h)
        · subst h; assumption
        · exact h
    · rw [List.mem_cons, List.mem_cons, mem_dd]
theorem nodup_dd {α : Type} [DecidableEq α] : ∀ (xs : List α), (dd xs).Nodup
  | [] => List.nodup_nil
  | x :: xs => by
    unfold dd
    split
    · exact nodup_dd xs
    · exact List.nodup_cons.mpr ⟨fun h => by rw [mem_dd] at h; contradiction, nodup_dd xs⟩
theorem len_dd {α : Type} [DecidableEq α] : ∀ (xs : List α), (dd xs).length ≤ xs.length
  | [] => Nat.le_refl _
  | x :: xs => by
    have ih := len_dd xs
    unfold dd
    split
    · exact Nat.le_succ_of_le ih
    · exact Nat.succ_le_succ ih
theorem dd_iff {α : Type} [DecidableEq α] : ∀ (xs : List α), (dd xs).length = xs.length ↔ xs.Nodup
  | [] => by simp [dd]
  | x :: xs => by
    have ih := dd_iff xs
    have hl := len_dd xs
    rw [List.nodup_cons]
    unfold dd
    split
    · rename_i h
      rw [List.length_cons]
      constructor
      · intro e; omega
      · intro e; exact absurd h e.1
    · rename_i h
      rw [List.length_cons, List.length_cons]
      constructor
      · intro e; exact ⟨h, ih.mp (by omega)⟩
      · intro e; rw [ih.mpr e.2]
theorem nodup_len_le {α : Type} [DecidableEq α] : ∀ (l D : List α), l.Nodup → (∀ x ∈ l, x ∈ D) → l.length ≤ D.length
  | [], _, _, _ => Nat.zero_le _
  | x :: l, D, hn, hs => by
    obtain ⟨h1, h2⟩ := List.nodup_cons.mp hn
    have hx := hs x List.mem_cons_self
    have ih := nodup_len_le l (D.erase x) h2 fun y hy => (List.mem_erase_of_ne (by rintro rfl; exact h1 hy)).mpr (hs y (List.mem_cons_of_mem _ hy))
    rw [List.length_erase_of_mem hx] at ih
    have : 0 < D.length := List.length_pos_of_mem hx
    rw [List.length_cons]
    omega
/-- how many different items -/
def nset {α : Type} [DecidableEq α] (xs : List α) : Nat := (dd xs).length
theorem nset_of {α : Type} [DecidableEq α] {l xs : List α} (hn : l.Nodup) (hm : ∀ x, x ∈ l ↔ x ∈ xs) : l.length = nset xs :=
  Nat.le_antisymm (nodup_len_le l (dd xs) hn fun x hx => mem_dd.mpr ((hm x).mp hx)) (nodup_len_le (dd xs) l (nodup_dd xs) fun x hx => (hm x).mpr (mem_dd.mp hx))
theorem nset_iff {α : Type} [DecidableEq α] (xs : List α) : nset xs = xs.length ↔ xs.Nodup := dd_iff xs
theorem nset_le {α : Type} [DecidableEq α] (xs : List α) : nset xs ≤ xs.length := len_dd xs
theorem firstMet_nd (val : Nat → Int) : ∀ i, (firstMet val i).Nodup
  | 0 => by rw [firstMet_zero]; exact List.nodup_nil
  | i + 1 => by
    rw [firstMet_succ]
    unfold step_dedup
    split
    · exact firstMet_nd val i
    · rename_i h
      rw [List.nodup_append]
      refine ⟨firstMet_nd val i, by simp, ?_⟩
      intro a ha b hb e
      simp at hb
      subst hb
      subst e
      exact h (List.any_eq_true.mpr ⟨_, ha, by simp⟩)
theorem firstMet_len (ns : List Int) : (firstMet (fun i => ns.getD i 0) ns.length).length = nset ns := by
  refine nset_of (firstMet_nd _ _) fun x => ?_
  have h := firstMet_any (fun i => ns.getD i 0) ns.length x
  have e : (List.range ns.length).map (fun i => ns.getD i 0) = ns := by
    refine List.ext_getElem (by simp) fun i h1 h2 => ?_
    simp [List.getElem?_eq_getElem h2]
  rw [e] at h
  have a1 : x ∈ firstMet (fun i => ns.getD i 0) ns.length ↔ (firstMet (fun i => ns.getD i 0) ns.length).any (· == x) = true := by
    rw [List.any_eq_true]
    constructor
    · intro q; exact ⟨x, q, by simp⟩
    · rintro ⟨y, q, r⟩
      rw [beq_iff_eq] at r
      exact r ▸ q
  have a2 : x ∈ ns ↔ ns.any (· == x) = true := by
    rw [List.any_eq_true]
    constructor
    · intro q; exact ⟨x, q, by simp⟩
    · rintro ⟨y, q, r⟩
      rw [beq_iff_eq] at r
      exact r ▸ q
  rw [a1, a2, h]
def tLenSetA (K : PySem.W.Frag) (ta : TE) : TE := fun σ H Q => ta σ H fun x H1 => ∃ (l : Addr) (ns : List Int), x = .ref l ∧ SqL K H1 l (ns.map V.int) ∧ ns.length ≤ 4000 ∧ Q (.int (nset ns : Nat)) H1
theorem pe_lenSetI {X : Cx} {a : Expr} {ta : TE} {p p2 q pos : Pos} (hg : Gl X "len") (hm : X.mg "len" = none) (hg2 : Gl X "set") (hm2 : X.mg "set" = none) (ha : PE X a ta) (hc : X.calm = true := by rfl)
    (na : starEach [a] X.env = (false, eval a X.env) :: starEach [] X.env := by rfl) : PE X (.Call (.Name "len" p) [.Call (.Name "set" p2) [a] [] q] [] pos) (tLenSetA X.K ta) := by
  refine ⟨fun pins s σ H Q I h => ?_⟩
  refine Call_ (ld_blt I hg hm boot_len ?_)
  refine PyProof.Rows.callWith_builtin1 (PyProof.Rows.args_cons ?_ rfl) rfl rfl
  refine Call_ (ld_blt I hg2 hm2 boot_set ?_)
  refine PyProof.Rows.callWith_type1 (PyProof.Rows.args_cons (thn (ha.run pins s σ H _ I h) fun v s1 ⟨x, H1, I1, r1, q1⟩ => PyProof.Rows.args_nil ?_) na) na rfl
  obtain ⟨l, ns, rfl, hq, hl, q1⟩ := q1
  cases r1
  obtain ⟨its, r, pl, hz⟩ := I1.list hq
  have hlen : its.toArray.size = ns.length := by rw [List.size_toArray, ← r.length, List.length_map]
  refine call_set_list (I1.ok.hd hc) pl.isList (by simpa using r.ints) (by rw [hlen]; unfold scanBound; omega) fun h' tk hS hk => ?_
  refine PyProof.Rows.args_nil ?_
  rw [hlen, firstMet_len] at hS
  obtain ⟨o, es, ep, t, ho, hex, hd, _, _, _, hf, hn⟩ := hS
  have hle := nset_le ns
  have I2 : Inv X pins σ H1 { s1 with heap := h', toks := tk } := I1.kept fun b o e => hk b o (Heap.lt_size e) e
  exact call_len_set ho hex hd hf (by rw [hn] <;> omega) ⟨.int (nset ns : Nat), H1, I2.tok _, ⟨_, by rw [hn]⟩, q1⟩

def tLenSetB (K : PySem.W.Frag) (ta : TE) : TE := fun σ H Q => ta σ H fun x H1 => ∃ (l : Addr) (ns : List Int), x = .ref l ∧ SqT K H1 l (ns.map V.int) ∧ ns.length ≤ 4000 ∧ Q (.int (nset ns : Nat)) H1
/-- .. of a tuple of ints -/
theorem pe_lenSetU {X : Cx} {a : Expr} {ta : TE} {p p2 q pos : Pos} (hg : Gl X "len") (hm : X.mg "len" = none) (hg2 : Gl X "set") (hm2 : X.mg "set" = none) (ha : PE X a ta) (hc : X.calm = true := by rfl)
    (na : starEach [a] X.env = (false, eval a X.env) :: starEach [] X.env := by rfl) : PE X (.Call (.Name "len" p) [.Call (.Name "set" p2) [a] [] q] [] pos) (tLenSetB X.K ta) := by
  refine ⟨fun pins s σ H Q I h => ?_⟩
  refine Call_ (ld_blt I hg hm boot_len ?_)
  refine PyProof.Rows.callWith_builtin1 (PyProof.Rows.args_cons ?_ rfl) rfl rfl
  refine Call_ (ld_blt I hg2 hm2 boot_set ?_)
  refine PyProof.Rows.callWith_type1 (PyProof.Rows.args_cons (thn (ha.run pins s σ H _ I h) fun v s1 ⟨x, H1, I1, r1, q1⟩ => PyProof.Rows.args_nil ?_) na) na rfl
  obtain ⟨l, ns, rfl, hq, hl, q1⟩ := q1
  cases r1
  obtain ⟨its, r, pl, hz⟩ := I1.tuple hq
  have hi : IntsAre its.toArray.toList ns := by simpa using r.ints
  refine call_set_tupI (P := X.prog) (w := X.w) ns (I1.ok.hd hc) (show s1.heap.IsTuple l its.toArray from pl) hi (by unfold scanBound; omega) fun h' tk c R1 hcn hk => ?_
  refine PyProof.Rows.args_nil ?_
  obtain ⟨o, es, ep, t, ho, hex, hd, g, nd, hm2, hb, hf, hn, _, _⟩ := R1
  have hlen : es.size = nset ns := by
    have h1 := nset_of (l := es.toList.map keyOf) (xs := ns) nd fun x => by
      rw [← hm2 x, decide_eq_true_eq]
    rw [List.length_map, Array.length_toList] at h1
    exact h1
  have I2 : Inv X pins σ H1 { s1 with heap := h', toks := tk } := I1.kept fun b o e => hk b o e
  exact call_len_set ho hex hd hf (by rw [hlen]; have := nset_le ns; omega) ⟨.int (nset ns : Nat), H1, I2.tok _, ⟨_, by rw [hlen]⟩, q1⟩
/-- .. of a list of tuples of ints -/
def tLenSetC (K : PySem.W.Frag) (ta : TE) : TE := fun σ H Q => ta σ H fun x H1 => ∃ (l : Addr) (ks : List (Addr × List Int)), x = .ref l ∧ SqL K H1 l (ks.map fun p => V.ref p.1) ∧ (∀ p ∈ ks, SqT K H1 p.1 (p.2.map V.int)) ∧ ks.length < 64 ∧ Q (.int (nset (ks.map (·.2)) : Nat)) H1
theorem pe_lenSetT {X : Cx} {a : Expr} {ta : TE} {p p2 q pos : Pos} (hu : X.A.units + 64 < cLine) (hg : Gl X "len") (hm : X.mg "len" = none) (hg2 : Gl X "set") (hm2 : X.mg "set" = none) (ha : PE X a ta) (hc : X.calm = true := by rfl)
    (na : starEach [a] X.env = (false, eval a X.env) :: starEach [] X.env := by rfl) : PE X (.Call (.Name "len" p) [.Call (.Name "set" p2) [a] [] q] [] pos) (tLenSetC X.K ta) := by
  refine ⟨fun pins s σ H Q I h => ?_⟩
  refine Call_ (ld_blt I hg hm boot_len ?_)
  refine PyProof.Rows.callWith_builtin1 (PyProof.Rows.args_cons ?_ rfl) rfl rfl
  refine Call_ (ld_blt I hg2 hm2 boot_set ?_)
  refine PyProof.Rows.callWith_type1 (PyProof.Rows.args_cons (thn (ha.run pins s σ H _ I h) fun v s1 ⟨x, H1, I1, r1, q1⟩ => PyProof.Rows.args_nil ?_) na) na rfl
  obtain ⟨l, ks, rfl, hq, hk, hl, q1⟩ := q1
  cases r1
  obtain ⟨its, rv, pl, hz⟩ := I1.list hq
  refine call_set_tups (P := X.prog) (w := X.w) ks (I1.ok.hd hc) pl.isList (by simpa using refs_of_vals rv) (fun p hp => I1.isT (hk p hp)) hl (by omega) fun h' tk L es ep t R g kk => ?_
  refine PyProof.Rows.args_nil ?_
  have hlen : L.length = nset (ks.map (·.2)) := by
    have h1 := nset_of (l := L.map (·.2)) (xs := ks.map (·.2)) R.nd fun x => by
      constructor
      · intro hx
        obtain ⟨p, hp, e⟩ := List.mem_map.mp hx
        exact List.mem_map.mpr ⟨p, List.mem_of_mem_take (g.sub p hp), e⟩
      · intro hx
        obtain ⟨p, hp, e⟩ := List.mem_map.mp hx
        have := g.all p (by rw [List.take_length]; exact hp)
        rw [← e]
        exact this
    rw [List.length_map] at h1
    exact h1
  have I2 : Inv X pins σ H1 { s1 with heap := h', toks := tk } := I1.kept kk
  obtain ⟨o, ho, hex, hd⟩ := R.ob
  have R' : SetTR X.prog X.w ({ s1 with heap := h', toks := tk } : Shared).heap s1.heap.objs.size L es ep t := R
  have hsz := SetTR.size R'
  exact call_len_set ho hex hd (SetTR.fits R') (by rw [hsz]; have := R.few; omega) ⟨.int (nset (ks.map (·.2)) : Nat), H1, I2.tok _, ⟨_, by rw [hsz, hlen]⟩, q1⟩

section
variable {K : PySem.W.Frag} {Γ : List (Option AV)} {B H B' H' : Hp} {g x y z : AV} {te ta tb tc : TE} {t u : TT} {b c : Bool} {i j : Int}
theorem gv_lenSetI {ns : List Int} (h : Gv ta Γ B H (.d (.list (ns.map enc)))) (hz : ns.length ≤ 4000) : Gv (tLenSetA K ta) Γ B H (AI (nset ns : Nat)) := fun B1 H1 σ e f Q q => h B1 H1 σ e f _ fun u B2 H2 e2 hu => by
  cases hu with
  | lst hp t => exact ⟨_, ns, rfl, by rw [← DqAll.ints t]; exact SqL.of (e2.bh _ _ hp), hz, q _ B2 H2 e2 (.int _)⟩
theorem gv_lenSetU {ns : List Int} (h : Gv ta Γ B H (.d (.tuple (ns.map enc)))) (hz : ns.length ≤ 4000) : Gv (tLenSetB K ta) Γ B H (AI (nset ns : Nat)) := fun B1 H1 σ e f Q q => h B1 H1 σ e f _ fun u B2 H2 e2 hu => by
  cases hu with
  | tup hp t => exact ⟨_, ns, rfl, by rw [← DqAll.ints t]; exact SqT.of (e2.bh _ _ hp), hz, q _ B2 H2 e2 (.int _)⟩
theorem dq_pairs : ∀ {us : List V} {ps : List (Int × Int)}, DqAll B us (ps.map enc) → ∃ ks : List (Addr × List Int), us = ks.map (fun p => V.ref p.1) ∧ ks.map (·.2) = ps.map (fun p => [p.1, p.2]) ∧ ∀ p ∈ ks, B p.1 = some (.tup (p.2.map V.int))
  | _, [], h => by cases h; exact ⟨[], rfl, rfl, fun _ h => by simp at h⟩
  | _, (a, c) :: ps, h => by
    cases h with
    | cons h t =>
      obtain ⟨ks, e1, e2, e3⟩ := dq_pairs t
      cases h with
      | tup hp tt =>
        cases tt with
        | cons h1 tt =>
          cases tt with
          | cons h2 tt =>
            cases tt
            cases h1
            cases h2
            refine ⟨(_, [a, c]) :: ks, by rw [e1]; rfl, by rw [List.map_cons, e2]; rfl, fun p hp' => ?_⟩
            rcases List.mem_cons.mp hp' with q | q
            · subst q; exact hp
            · exact e3 p q
theorem nset_inj {α β : Type} [DecidableEq α] [DecidableEq β] {f : α → β} (hf : ∀ a b, f a = f b → a = b) : ∀ xs : List α, nset (xs.map f) = nset xs
  | [] => rfl
  | x :: xs => by
    have ih := nset_inj hf xs
    unfold nset at ih ⊢
    rw [List.map_cons]
    unfold dd
    by_cases h : x ∈ xs
    · rw [if_pos h, if_pos (List.mem_map.mpr ⟨x, h, rfl⟩), ih]
    · rw [if_neg h, if_neg (fun q => by
        obtain ⟨y, hy, e⟩ := List.mem_map.mp q
        exact h (hf _ _ e ▸ hy)), List.length_cons, List.length_cons, ih]
theorem gv_lenSetT {ps : List (Int × Int)} (h : Gv ta Γ B H (.d (.list (ps.map enc)))) (hz : ps.length < 64) : Gv (tLenSetC K ta) Γ B H (AI (nset ps : Nat)) := fun B1 H1 σ e f Q q => h B1 H1 σ e f _ fun u B2 H2 e2 hu => by
  cases hu with
  | lst hp t =>
    obtain ⟨ks, h1, h2, h3⟩ := dq_pairs t
    have hl : ks.length = ps.length := by
      have := congrArg List.length h2
      simpa using this
    refine ⟨_, ks, rfl, by rw [← h1]; exact SqL.of (e2.bh _ _ hp), fun p hp' => SqT.of (e2.bh _ _ (h3 p hp')), by omega, ?_⟩
    rw [h2, nset_inj (f := fun p : Int × Int => [p.1, p.2]) (fun a b e => by
      cases a
      cases b
      simp at e
      simp [e])]
    exact q _ B2 H2 e2 (.int _)
/-- a op b op c, ints -/
theorem gv_chain {r r' : R2} (ha : Gv ta Γ B H x) (hb : Gv tb Γ B H y) (hc : Gv tc Γ B H z) (h1 : Ro r B H x y (AB b)) (h2 : Ro r' B H y z (AB c)) : Gv (tChain r r' ta tb tc) Γ B H (AB (b && c)) := fun B1 H1 σ e f Q q =>
  ha B1 H1 σ e f _ fun u B2 H2 e2 hu => hb B2 H2 σ (e.trans e2) (f.mono e2.bb) _ fun w B3 H3 e3 hw =>
    h1 B3 H3 u w ((e.trans e2).trans e3) (hu.mono e3.bb) hw _ fun k B4 H4 e4 hk => by
      cases hk
      refine ⟨b, rfl, ?_⟩
      cases b with
      | true =>
        show tc σ H4 _
        exact hc B4 H4 σ (((e.trans e2).trans e3).trans e4) (((f.mono e2.bb).mono e3.bb).mono e4.bb) _ fun v B5 H5 e5 hv =>
          h2 B5 H5 w v ((((e.trans e2).trans e3).trans e4).trans e5) ((hw.mono e4.bb).mono e5.bb) hv Q fun k B6 H6 e6 hk => q k B6 H6 ((((e2.trans e3).trans e4).trans e5).trans e6) hk
      | false =>
        show Q (.bl false) H4
        exact q _ B4 H4 ((e2.trans e3).trans e4) (.bl false)
/-- truth of data -/
theorem gt_truL {ds : List PyData} (h : Gv ta Γ B H (.d (.list ds))) : Gt (fun σ H Q => ta σ H fun x H' => ∃ k, TruV K x H' k ∧ Q k H') Γ B H (!ds.isEmpty) := fun B1 H1 σ e f Q q => h B1 H1 σ e f _ fun u B2 H2 e2 hu => by
  cases hu with
  | lst hp t =>
    refine ⟨!ds.isEmpty, .inl ⟨_, SqL.of (e2.bh _ _ hp), ?_⟩, q B2 H2 e2⟩
    cases t <;> rfl
theorem gt_truB (h : Gv ta Γ B H (AB b)) : Gt (fun σ H Q => ta σ H fun x H' => ∃ k, TruV K x H' k ∧ Q k H') Γ B H b := fun B1 H1 σ e f Q q => h B1 H1 σ e f _ fun u B2 H2 e2 hu => by
  cases hu
  exact ⟨b, rfl, q B2 H2 e2⟩
/-- xs.count(n) -/
theorem gv_countI {ns : List Int} {n : Int} (ha : Gv ta Γ B H (.d (.list (ns.map enc)))) (hb : Gv tb Γ B H (AI n)) : Gv (tBM K "list" (rCntI K) ta (tCons tb tNil)) Γ B H (AI (ns.count n : Nat)) := fun B1 H1 σ e f Q q => ha B1 H1 σ e f _ fun u B2 H2 e2 hu => by
  cases hu with
  | lst hp t =>
    refine ⟨Or.inl ⟨rfl, _, SqL.of (e2.bh _ _ hp)⟩, ?_⟩
    refine hb B2 H2 σ (e.trans e2) (f.mono e2.bb) _ fun w B3 H3 e3 hw => ?_
    cases hw
    refine ⟨_, ns, n, rfl, rfl, ?_, q _ B3 H3 (e2.trans e3) (.int _)⟩
    rw [← DqAll.ints t]
    exact SqL.of (e3.bh _ _ (e3.bb _ _ hp))
end
end SB
namespace SB
open PySem PySem.Spec PyProof.Rows L2
open Enc (enc)
section
variable {K : PySem.W.Frag} {Γ : List (Option AV)} {B H B' H' : Hp} {g x y z : AV} {te ta tb tc tl : TE} {t u : TT} {b c : Bool} {j : Nat} {vs : List Nat} {ta' : TA}
theorem gt_yes : Gt tYes Γ B H true := fun B1 H1 σ e _ Q q => q B1 H1 (Ext.refl e.bh)
theorem filter_yes {α : Type} : ∀ xs : List α, xs.filter (fun _ => true) = xs
  | [] => rfl
  | x :: xs => by rw [List.filter_cons_of_pos rfl, filter_yes xs]
theorem gv_lcM {α β : Type} [DecidableEq α] [Enc α] [DecidableEq β] [Enc β] {xs : List α} (f : α → β) (h : Gv tl Γ B H (.d (.list (xs.map enc)))) (hz : xs.length < 16000000) (hv : j ∈ vs) (hnd : vs.Nodup)
    (he : ∀ a ∈ xs, ∀ B1 H1, Ext B H B1 H1 → Gv te ((Ow Γ vs).set j (some (.d (enc a)))) B1 H1 (.d (enc (f a)))) :
    Gv (tLc (iList K tl) (gName j) tYes te vs) Γ B H (.d (.list ((xs.map f).map enc))) := by
  have q := gv_lcL (K := K) (te := te) (t := tYes) h hz hv hnd (fun _ => true) f (fun _ _ _ _ _ => gt_yes) fun a ha _ B1 H1 x => he a ha B1 H1 x
  rw [filter_yes] at q
  exact q
theorem gv_lcTM {α β : Type} [DecidableEq α] [Enc α] [DecidableEq β] [Enc β] {xs : List α} (f : α → β) (h : Gv tl Γ B H (.d (.tuple (xs.map enc)))) (hz : xs.length < 16000000) (hv : j ∈ vs) (hnd : vs.Nodup)
    (he : ∀ a ∈ xs, ∀ B1 H1, Ext B H B1 H1 → Gv te ((Ow Γ vs).set j (some (.d (enc a)))) B1 H1 (.d (enc (f a)))) :
    Gv (tLc (iTup K tl) (gName j) tYes te vs) Γ B H (.d (.list ((xs.map f).map enc))) := by
  have q := gv_lcT (K := K) (te := te) (t := tYes) h hz hv hnd (fun _ => true) f (fun _ _ _ _ _ => gt_yes) fun a ha _ B1 H1 x => he a ha B1 H1 x
  rw [filter_yes] at q
  exact q
theorem gv_lcRM {β : Type} [DecidableEq β] [Enc β] {n : Int} (f : Nat → β) (h : Ga ta' Γ B H [AI n]) (hn : n ≤ 1000000) (hn0 : -1000000 ≤ n) (hv : j ∈ vs) (hnd : vs.Nodup)
    (he : ∀ k : Nat, k < n.toNat → ∀ B1 H1, Ext B H B1 H1 → Gv te ((Ow Γ vs).set j (some (AI (k : Int)))) B1 H1 (.d (enc (f k)))) :
    Gv (tLc (iRng1 ta') (gName j) tYes te vs) Γ B H (.d (.list (((List.range n.toNat).map f).map enc))) := by
  have q := gv_lcR (te := te) (t := tYes) h hn hn0 hv hnd (fun _ => true) f (fun _ _ _ _ _ => gt_yes) fun a ha _ B1 H1 x => he a ha B1 H1 x
  rw [filter_yes] at q
  exact q
theorem rc_lenM {α : Type} [DecidableEq α] [Enc α] {xs : List α} : Rc (fun xs H Q => ∃ p ys, xs = [.ref p] ∧ (SqL K H p ys ∨ SqT K H p ys) ∧ Q (.int ys.length) H) B H [.d (.list (xs.map enc))] (AI xs.length) := by
  have h := rc_len (K := K) (B := B) (H := H) (ds := xs.map enc)
  rw [List.length_map] at h
  exact h
/-- membership -/
def isin {α : Type} [DecidableEq α] (a : α) (xs : List α) : Bool := decide (a ∈ xs)
theorem isin_iff {α : Type} [DecidableEq α] {a : α} {xs : List α} : isin a xs = true ↔ a ∈ xs := by unfold isin; exact decide_eq_true_iff
theorem isin_no {α : Type} [DecidableEq α] {a : α} {xs : List α} : isin a xs = false ↔ a ∉ xs := by unfold isin; exact decide_eq_false_iff_not
theorem ro_inE {α : Type} [DecidableEq α] [Enc α] {a : α} {xs : List α} (h : Enc.dep α ≤ 60) : Ro (rInD K) B H (.d (enc a)) (.d (.list (xs.map enc))) (AB (isin a xs)) := by
  have q := ro_inD (K := K) (B := B) (H := H) (shaped_enc (α := α) (by omega) a) (shaped_list (α := α) (by omega) xs)
  rw [any_enc] at q
  exact q
theorem ro_notInE {α : Type} [DecidableEq α] [Enc α] {a : α} {xs : List α} (h : Enc.dep α ≤ 60) : Ro (rNotInD K) B H (.d (enc a)) (.d (.list (xs.map enc))) (AB (!isin a xs)) := by
  have q := ro_notInD (K := K) (B := B) (H := H) (shaped_enc (α := α) (by omega) a) (shaped_list (α := α) (by omega) xs)
  rw [any_enc] at q
  exact q
theorem ro_eqE {α : Type} [DecidableEq α] [Enc α] {a b : α} (h : Enc.dep α ≤ 60) : Ro (rEqD K) B H (.d (enc a)) (.d (enc b)) (AB (decide (a = b))) := by
  have q := ro_eqD (K := K) (B := B) (H := H) (shaped_enc (α := α) (by omega) a) (shaped_enc (α := α) (by omega) b)
  rw [Enc.eqv] at q
  exact q
theorem ro_neE {α : Type} [DecidableEq α] [Enc α] {a b : α} (h : Enc.dep α ≤ 60) : Ro (rNeD K) B H (.d (enc a)) (.d (enc b)) (AB (!decide (a = b))) := by
  have q := ro_neD (K := K) (B := B) (H := H) (shaped_enc (α := α) (by omega) a) (shaped_enc (α := α) (by omega) b)
  rw [Enc.eqv] at q
  exact q
theorem atI_map {α : Type} [DecidableEq α] [Enc α] {xs : List α} {k : Nat} {a : α} (h : xs[k]? = some a) : atI (xs.map enc) (k : Int) = some (enc a) := atI_nat (by rw [List.getElem?_map, h]; rfl)
/-- == of ints -/
theorem ro_eqI {i j : Int} : Ro rEq B H (AI i) (AI j) (AB (decide (i = j))) := by
  have h := ro_eq (B := B) (H := H) (d := .int i) (e := .int j) rfl
  rw [show PyData.eqv (.int i) (.int j) = decide (i = j) from by simp only [PyData.eqv]; rw [Bool.eq_iff_iff]; simp] at h
  exact h
theorem ro_neI {i j : Int} : Ro rNe B H (AI i) (AI j) (AB (!decide (i = j))) := by
  have h := ro_ne (B := B) (H := H) (d := .int i) (e := .int j) rfl
  rw [show PyData.eqv (.int i) (.int j) = decide (i = j) from by simp only [PyData.eqv]; rw [Bool.eq_iff_iff]; simp] at h
  exact h
theorem ro_eqS {i j : Str} : Ro rEq B H (AS i) (AS j) (AB (decide (i = j))) := by
  have h := ro_eq (B := B) (H := H) (d := .str i) (e := .str j) rfl
  rw [show PyData.eqv (.str i) (.str j) = decide (i = j) from by simp only [PyData.eqv]; rw [Bool.eq_iff_iff]; simp] at h
  exact h
theorem ro_neS {i j : Str} : Ro rNe B H (AS i) (AS j) (AB (!decide (i = j))) := by
  have h := ro_ne (B := B) (H := H) (d := .str i) (e := .str j) rfl
  rw [show PyData.eqv (.str i) (.str j) = decide (i = j) from by simp only [PyData.eqv]; rw [Bool.eq_iff_iff]; simp] at h
  exact h
/-- the data of an int list under any of its two names -/
theorem ga_nil' : Ga tNil Γ B H [] := ga_nil
end
end SB
namespace SB
open PySem PySem.Spec PyProof.Rows L2
open Enc (enc)
/-! ### the rules that name the written part, with that part told -/
section
variable {X : Cx} {K : PySem.W.Frag} {a b e o value : Expr} {ta tb tv to tl : TE} {es : List Expr} {t : TA} {pos pos' apos cpos : Pos} {f : Str} {tg : Expr} {T id : String} {name : Str} {r : V → List V → Hp → VK → Prop} {p p2 q : Pos}
theorem ix_listK (h : X.K = K) : IxR X (rIxL K) := by subst h; exact ix_list
theorem ix_tupK (h : X.K = K) : IxR X (rIxT K) := by subst h; exact ix_tup
theorem op_inK (h : X.K = K) : OpR X (compareOp .In) (rIn K false) := by subst h; exact op_in_seq
theorem op_notInK (h : X.K = K) : OpR X (compareOp .NotIn) (rIn K true) := by subst h; exact op_notIn_seq
theorem op_eqDK (h : X.K = K) (hu : X.A.units + 64 < cLine) : OpR X (compareOp .Eq) (rEqD K) := by subst h; exact op_eqD hu
theorem op_neDK (h : X.K = K) (hu : X.A.units + 64 < cLine) : OpR X (compareOp .NotEq) (rNeD K) := by subst h; exact op_neD hu
theorem op_inDK (h : X.K = K) (hu : X.A.units + 65 < cLine) : OpR X (compareOp .In) (rInD K) := by subst h; exact op_inD hu
theorem op_notInDK (h : X.K = K) (hu : X.A.units + 65 < cLine) : OpR X (compareOp .NotIn) (rNotInD K) := by subst h; exact op_notInD hu
theorem op_catTK (h : X.K = K) : OpR X (binaryOp .Add) (rCatT K) := by subst h; exact op_catT
abbrev rLenK (K : PySem.W.Frag) : List V → Hp → VK → Prop := fun xs H Q => ∃ p ys, xs = [.ref p] ∧ (SqL K H p ys ∨ SqT K H p ys) ∧ Q (.int ys.length) H
abbrev rListK (K : PySem.W.Frag) : List V → Hp → VK → Prop := fun xs H Q => ∃ p ys, xs = [.ref p] ∧ (SqL K H p ys ∨ SqT K H p ys) ∧ ∀ l, H l = none → Q (.ref l) (upd H l (.lst ys))
abbrev rTupK (K : PySem.W.Frag) : List V → Hp → VK → Prop := fun xs H Q => ∃ p ys, xs = [.ref p] ∧ ((SqL K H p ys ∧ ∀ l, H l = none → Q (.ref l) (upd H l (.tup ys))) ∨ (SqT K H p ys ∧ Q (.ref p) H))
theorem call_lenK (h : X.K = K) : CallR X (.builtin "len") (rLenK K) := by subst h; exact call_len_seq
theorem call_listK (h : X.K = K) : CallR X (.type "list") (rListK K) := by subst h; exact call_list_of
theorem call_tupleK (h : X.K = K) : CallR X (.type "tuple") (rTupK K) := by subst h; exact call_tuple_of
theorem cr_anyK (h : X.K = K) (hc : X.calm = true) : CallR X (.builtin "any") (rAny K) := by subst h; exact cr_any hc
theorem cr_allK (h : X.K = K) (hc : X.calm = true) : CallR X (.builtin "all") (rAll K) := by subst h; exact cr_all hc
theorem sl_listK (h : X.K = K) : SlR X (rSlL K) := by subst h; exact sl_list
theorem sl_tupK (h : X.K = K) : SlR X (rSlT K) := by subst h; exact sl_tup
theorem mt_lcountK (h : X.K = K) : MtR X "list.count" (rCntI K) := by subst h; exact mt_lcount
theorem mt_indexDK (h : X.K = K) (hu : X.A.units + 65 < cLine) : MtR X "list.index" (rIndexD K) := by subst h; exact mt_indexD hu
theorem pe_fldK (h : X.K = K) (he : PE X e ta) (hb : attributeBase e f X.env (eval e X.env) = eval e X.env) : PE X (.Attribute e f pos) (tFld K ta f) := by subst h; exact pe_fld he hb
theorem ps_fldK (h : X.K = K) (ha : PE X o ta) (hv : PE X value tv) (hs : swapsWith value (some (.Attribute o f pos')) pos.line X.env = pure false) : PS X (.Assign [.Attribute o f pos'] value pos) (sFld K ta tv f) := by subst h; exact ps_fld ha hv hs
theorem pi_listK (h : X.K = K) {l : Expr} (hl : PE X l tl) : PI X tg l (iList K tl) := by subst h; exact pi_list hl
theorem pi_tupK (h : X.K = K) {l : Expr} (hl : PE X l tl) : PI X tg l (iTup K tl) := by subst h; exact pi_tup hl
abbrev tTru (K : PySem.W.Frag) (ta : TE) : TT := fun σ H Q => ta σ H fun x H' => ∃ k, TruV K x H' k ∧ Q k H'
theorem pt_truthK (h : X.K = K) (ha : PE X a ta) (he : ∀ whole, isTrue a X.env whole = (do let v ← whole; standAt a.pos; holding [v] (truthy v))) : PT X a (tTru K ta) := by subst h; exact pt_truth ha he
theorem pe_bmK (h : X.K = K) (pa : PlainAttrs T) (slot : Slot T name id) (hty : typeOf (.builtin id) = pure (.type "method_descriptor")) (hm : MtR X id r) (ho : PE X o to) (ha : PA X (e :: es) t)
    (hbase : attributeBase o name X.env (eval o X.env) = eval o X.env := by rfl)
    (hfew : ((backTo cpos (starEach (e :: es) X.env)).all (fun x => !x.1) && (backToKw cpos (keywordEach [] X.env)).all (fun x => x.1.isSome)
      && decide ((e :: es).length + ([] : List Keyword).length + (if ([] : List Keyword).isEmpty then 0 else 1) < 30)) = true := by rfl)
    (hline : (apos.endLine == cpos.line) = true := by rfl) (hs : starEach (e :: es) X.env = (false, eval e X.env) :: starEach es X.env := by rfl) (hplain : (backTo cpos (starEach es X.env)).any (·.1) = false := by rfl) :
    PE X (.Call (.Attribute o name apos) (e :: es) [] cpos) (tBM K T r to t) := by subst h; exact pe_bm pa slot hty hm ho ha hbase hfew hline hs hplain
theorem pe_bm0K (h : X.K = K) (pa : PlainAttrs T) (slot : Slot T name id) (hty : typeOf (.builtin id) = pure (.type "method_descriptor")) (hm : MtR X id r) (ho : PE X o to)
    (hbase : attributeBase o name X.env (eval o X.env) = eval o X.env := by rfl) (hline : (apos.endLine == cpos.line) = true := by rfl) : PE X (.Call (.Attribute o name apos) [] [] cpos) (tBM0 K T r to) := by subst h; exact pe_bm0 pa slot hty hm ho hbase hline
theorem pe_lenSetIK (h : X.K = K) (hg : Gl X "len") (hm : X.mg "len" = none) (hg2 : Gl X "set") (hm2 : X.mg "set" = none) (ha : PE X a ta) (hc : X.calm = true := by rfl)
    (na : starEach [a] X.env = (false, eval a X.env) :: starEach [] X.env := by rfl) : PE X (.Call (.Name "len" p) [.Call (.Name "set" p2) [a] [] q] [] pos) (tLenSetA K ta) := by subst h; exact pe_lenSetI hg hm hg2 hm2 ha hc na
theorem pe_lenSetUK (h : X.K = K) (hg : Gl X "len") (hm : X.mg "len" = none) (hg2 : Gl X "set") (hm2 : X.mg "set" = none) (ha : PE X a ta) (hc : X.calm = true := by rfl)
    (na : starEach [a] X.env = (false, eval a X.env) :: starEach [] X.env := by rfl) : PE X (.Call (.Name "len" p) [.Call (.Name "set" p2) [a] [] q] [] pos) (tLenSetB K ta) := by subst h; exact pe_lenSetU hg hm hg2 hm2 ha hc na
theorem pe_lenSetTK (h : X.K = K) (hu : X.A.units + 64 < cLine) (hg : Gl X "len") (hm : X.mg "len" = none) (hg2 : Gl X "set") (hm2 : X.mg "set" = none) (ha : PE X a ta) (hc : X.calm = true := by rfl)
    (na : starEach [a] X.env = (false, eval a X.env) :: starEach [] X.env := by rfl) : PE X (.Call (.Name "len" p) [.Call (.Name "set" p2) [a] [] q] [] pos) (tLenSetC K ta) := by subst h; exact pe_lenSetT hu hg hm hg2 hm2 ha hc na
theorem pg_tupK (h : X.K = K) {k : Nat} {t : TGs} {n : Nat} (hc : X.calm = true) (hp : PGs X es t)
    (hn : (assignEach es X.env).length = n := by rfl) (hst : (assignEach es X.env).findIdx? (·.1) = none := by rfl) : PG X (.Tuple es k pos) (gTup K n t) := by subst h; exact pg_tup hc hp hn hst
theorem pe_globI {x : Str} {i : Int} (hg : Gl X x) (hm : ∃ t, X.mg x = some (.int i t)) (hd : (x == ("__debug__" : Str)) = false := by decide) : PE X (.Name x pos) (tC (.int i)) := by
  obtain ⟨t, h⟩ := hm
  exact pe_glob hg h ⟨t, rfl⟩ hd
theorem pe_globS {x : Str} {i : Str} (hg : Gl X x) (hm : ∃ t, X.mg x = some (.str i t)) (hd : (x == ("__debug__" : Str)) = false := by decide) : PE X (.Name x pos) (tC (.str i)) := by
  obtain ⟨t, h⟩ := hm
  exact pe_glob hg h ⟨t, rfl⟩ hd
/-- an own class of error -/
structure ExT (K : PySem.W.Frag) (mg : Str → Option Value) (x : Str) (C : Addr) : Prop where
  g : mg x = some (.ref C)
  x : PySem.W.excIn K C [.type "ValueError", .type "Exception", .type "BaseException", .type "object"] "ValueError.__new__" = true
  k : PySem.W.keepIn K (.ref C) = true
  b : PySem.W.subIn K (.ref C) (.type "BaseException") = some true
  t : PySem.W.typeIn K (.ref C) = some (.type "type")
end
/-- an own list becomes data, in the frame too -/
theorem sx_give {t : TS} {D : Ends} {Γ : List (Option AV)} {B0 H0 B H : Hp} {p : Addr} {ds : List PyData} {i : Nat} (x : Ext B0 H0 B H) (h0 : H0 p = none) (m : Ml B H p ds) (hi : Γ[i]? = some (some (.v (.ref p))))
    (k : ∀ B', Ext B0 H0 B' H → Same B B' → Sx t D (Γ.set i (some (.d (.list ds)))) B' H) : Sx t D Γ B H := fun e σ f => by
  obtain ⟨B', x', s, hq⟩ := m.give x h0
  refine k B' x' s x'.bh σ ?_
  obtain ⟨u, hu, iu⟩ := f.2 i _ hi
  have e1 : u = .ref p := iu
  subst e1
  have f' := (f.mono s).set (g := .d (.list ds)) i hq
  have e2 : σ.set i (some (V.ref p)) = σ := by
    refine List.ext_getElem? fun j => ?_
    by_cases q : i = j
    · subst q
      rw [List.getElem?_set_self (List.getElem?_eq_some_iff.mp hu).1, hu]
    · rw [List.getElem?_set_ne q]
  rw [e2] at f'
  exact f'
end SB
namespace SB
open PySem PySem.Spec PyProof.Rows L2
open Enc (enc)
/-! ### loops and comprehensions whose target is a pair of names -/
section
variable {K : PySem.W.Frag} {Γ Δ : List (Option AV)} {B H : Hp} {g x y z : AV} {te ta tb tc : TE} {t u : TT} {b c : Bool} {i j : Nat} {D : Ends} {tz tu tw : TS} {ds es : List PyData} {d : PyData}
theorem pair_tg {α β : Type} [DecidableEq α] [Enc α] [DecidableEq β] [Enc β] {v : V} {a : α × β} (h : Dq B v (enc a)) : ∃ p v1 v2, v = .ref p ∧ B p = some (.tup [v1, v2]) ∧ Dq B v1 (enc a.1) ∧ Dq B v2 (enc a.2) := by
  cases (show Dq B v (.tuple [enc a.1, enc a.2]) from h) with
  | tup hp t =>
    cases t with
    | cons h1 t =>
      cases t with
      | cons h2 t =>
        cases t
        exact ⟨_, _, _, rfl, hp, h1, h2⟩
theorem qx_forD2 {α β : Type} [DecidableEq α] [Enc α] [DecidableEq β] [Enc β] {xs : List (α × β)} {tl : TE} (h : Gv tl Γ B H (.d (.list (xs.map enc)))) (G : Nat → List (Option AV)) (P : Nat → Hp → Hp → Prop) (hl : Le (G 0) Γ) (h0 : ∀ B1 H1, Ext B H B1 H1 → P 0 B1 H1)
    (hs : ∀ Bs k a B1 H1, xs[k]? = some a → Same B Bs → Same Bs B1 → P k B1 H1 → Sx tu { D with nx := Lp Bs (G (k + 1)) (P (k + 1)), ct := Lp Bs (G (k + 1)) (P (k + 1)), bk := tz D } (((G k).set i (some (.d (enc a.1)))).set j (some (.d (enc a.2)))) B1 H1)
    (hd : ∀ B1 H1, Same B B1 → P xs.length B1 H1 → Sx tz D (G xs.length) B1 H1) : Sx (tSeq (tFor (iList K tl) (gTup K 2 (gCons (gName i) (gCons (gName j) gNil))) tu) tz) D Γ B H := fun e σ f =>
  h B H σ (Ext.refl e) f _ fun u Bs Hs x hu => by
    cases hu with
    | @lst a us _ hp t =>
      have hlen : us.length = xs.length := by rw [t.length, List.length_map]
      refine ⟨a, rfl, ⟨_, SqL.of (x.bh _ _ hp)⟩, for_list (K := K) (a := a) (xs := us) (D := { D with nx := tz D }) (fun k => Lp Bs (G k) (P k)) ⟨Bs, Same.refl _, x.bh, h0 Bs Hs x, (f.mono x.bb).le hl⟩ ?_ ?_ ?_⟩
      · rintro k σ' H' _ ⟨B', s1, s2, _, _⟩
        exact SqL.of (s2 _ _ (s1 _ _ hp))
      · rintro k v σ' H' hk ⟨B', s1, s2, p, f'⟩
        obtain ⟨d, hd1, hd2⟩ := t.getV hk
        rw [List.getElem?_map] at hd1
        cases q : xs[k]? with
        | none => rw [q] at hd1; cases hd1
        | some a' =>
          rw [q] at hd1
          cases hd1
          obtain ⟨pp, v1, v2, rfl, hp2, d1, d2⟩ := pair_tg (hd2.mono s1)
          exact ⟨pp, _, rfl, SqT.of (s2 _ _ hp2), rfl, _, _, rfl, _, _, rfl, rfl, hs Bs k a' B' H' q x.bb s1 p s2 _ ((f'.set (g := .d (enc a'.1)) i d1).set (g := .d (enc a'.2)) j d2)⟩
      · rintro σ' H' ⟨B', s1, s2, p, f'⟩
        rw [hlen] at p f'
        exact hd B' H' (x.bb.trans s1) p s2 σ' f'
theorem wipe_get : ∀ (vs : List Nat) (τ : L2.St) (i : Nat), (wipe τ vs)[i]? = if i ∈ vs then (if i < τ.length then some none else none) else τ[i]? := by
  intro vs
  induction vs with
  | nil => intro τ i; simp [wipe]
  | cons v r ih =>
    intro τ i
    show ((wipe τ r).set v none)[i]? = _
    rw [List.getElem?_set, wipe_length]
    by_cases e : v = i
    · subst e
      rw [if_pos rfl, if_pos List.mem_cons_self]
    · rw [if_neg e, ih]
      by_cases q : i ∈ r
      · rw [if_pos q, if_pos (List.mem_cons_of_mem _ q)]
      · rw [if_neg q, if_neg (by intro z; rcases List.mem_cons.mp z with z | z; exact e z.symm; exact q z)]
theorem wipe_set2 {σ : L2.St} {vs : List Nat} {x y : V} (h : i ∈ vs) (h' : j ∈ vs) : wipe (((wipe σ vs).set i (some x)).set j (some y)) vs = wipe σ vs := by
  refine List.ext_getElem? fun k => ?_
  rw [wipe_get, wipe_get]
  by_cases q : k ∈ vs
  · rw [if_pos q, if_pos q, List.length_set, List.length_set, wipe_length]
  · rw [if_neg q, if_neg q, List.getElem?_set_ne (by rintro rfl; exact q h'), List.getElem?_set_ne (by rintro rfl; exact q h), wipe_get, if_neg q]
theorem gm_lcL2 {α β γ : Type} [DecidableEq α] [Enc α] [DecidableEq β] [Enc β] [DecidableEq γ] [Enc γ] {xs : List (α × β)} {tl : TE} {vs : List Nat} (h : Gv tl Γ B H (.d (.list (xs.map enc)))) (hz : xs.length < 16000000) (hi : i ∈ vs) (hv : j ∈ vs) (p : α × β → Bool) (f : α × β → γ)
    (ht : ∀ a ∈ xs, ∀ B1 H1, Ext B H B1 H1 → Gt t (((Ow Γ vs).set i (some (.d (enc a.1)))).set j (some (.d (enc a.2)))) B1 H1 (p a)) (he : ∀ a ∈ xs, p a = true → ∀ B1 H1, Ext B H B1 H1 → Gv te (((Ow Γ vs).set i (some (.d (enc a.1)))).set j (some (.d (enc a.2)))) B1 H1 (.d (enc (f a)))) :
    Gm (tLc (iList K tl) (gTup K 2 (gCons (gName i) (gCons (gName j) gNil))) t te vs) Γ B H (((xs.filter p).map f).map enc) := fun B0 H0 σ e fr Q q =>
  h B0 H0 σ e fr _ fun u Bs Hs x hu => by
    cases hu with
    | @lst a us _ hp tq =>
      have hlen : us.length = xs.length := by rw [tq.length, List.length_map]
      refine ⟨a, rfl, ⟨_, SqL.of (x.bh _ _ hp)⟩, fun Dl hD => ?_⟩
      have hbs : Bs Dl = none := x.bh.free hD
      refine lc_list (K := K) (xs := us) (fun k => Cq Bs Dl ((((xs.take k).filter p).map f).map enc) Bs Hs) ⟨Bs, Same.refl _, Ext.out x.bh hD, hbs, [], upd_same, .nil⟩ ?_ ?_ ?_
      · rintro k H' _ ⟨B', s1, x', _⟩
        exact SqL.of (x'.bh _ _ (s1 _ _ hp))
      · rintro k v H' hk ⟨B', s1, x', m⟩
        obtain ⟨d, hd1, hd2⟩ := tq.getV hk
        rw [List.getElem?_map] at hd1
        cases qk : xs[k]? with
        | none => rw [qk] at hd1; cases hd1
        | some a' =>
          rw [qk] at hd1
          cases hd1
          obtain ⟨pp, v1, v2, rfl, hp2, d1, d2⟩ := pair_tg (hd2.mono s1)
          have hmem : a' ∈ xs := List.mem_of_getElem? qk
          have htake : xs.take (k + 1) = xs.take k ++ [a'] := by
            rw [List.take_add_one, qk]
            rfl
          have fr1 := (((fr.mono (x.bb.trans s1)).wipe vs).set (g := .d (enc a'.1)) i d1).set (g := .d (enc a'.2)) j d2
          have eB : Ext B0 H0 B' H' := x.trans x'
          refine ⟨pp, _, rfl, SqT.of (x'.bh _ _ hp2), rfl, _, _, rfl, _, _, rfl, rfl, wipe_set2 hi hv, ht a' hmem B' H' (e.trans eB) B' H' _ (Ext.refl x'.bh) fr1 _ fun B2 H2 x2 => ?_⟩
          cases pa : p a' with
          | true =>
            rw [if_pos rfl]
            refine he a' hmem pa B2 H2 ((e.trans eB).trans x2) B2 H2 _ (Ext.refl x2.bh) (fr1.mono x2.bb) _ fun w B3 H3 x3 hw => ?_
            obtain ⟨hb, acc, ha, t3⟩ := (m.ext x2).ext x3
            have xx := (x'.trans x2).trans x3
            refine ⟨acc, ha, szl ?_, B3, s1.trans (x2.bb.trans x3.bb), xx.mut hD hb, hb, _, upd_same, ?_⟩
            · rw [t3.length, List.length_map, List.length_map]
              have h1 := List.length_filter_le p (xs.take k)
              have h4 : (xs.take k).length ≤ xs.length := by rw [List.length_take]; omega
              omega
            · have hh : ((xs.take (k + 1)).filter p).map f = ((xs.take k).filter p).map f ++ [f a'] := by
                rw [htake, List.filter_append, List.map_append]
                congr 1
                simp [List.filter_cons, pa]
              rw [hh, List.map_append]
              exact t3.append (.one hw)
          | false =>
            rw [if_neg (by simp)]
            refine ⟨B2, s1.trans x2.bb, x'.trans x2, ?_⟩
            have hh : ((xs.take (k + 1)).filter p).map f = ((xs.take k).filter p).map f := by
              rw [htake, List.filter_append, List.map_append]
              simp [List.filter_cons, pa]
            rw [hh]
            exact m.ext x2
      · rintro H' ⟨B', s1, x', m⟩
        rw [hlen, List.take_length] at m
        exact q Dl B' H' (x.trans x') (x.hh.free hD) m
theorem gv_lcL2 {α β γ : Type} [DecidableEq α] [Enc α] [DecidableEq β] [Enc β] [DecidableEq γ] [Enc γ] {xs : List (α × β)} {tl : TE} {vs : List Nat} (h : Gv tl Γ B H (.d (.list (xs.map enc)))) (hz : xs.length < 16000000) (hi : i ∈ vs) (hv : j ∈ vs) (p : α × β → Bool) (f : α × β → γ)
    (ht : ∀ a ∈ xs, ∀ B1 H1, Ext B H B1 H1 → Gt t (((Ow Γ vs).set i (some (.d (enc a.1)))).set j (some (.d (enc a.2)))) B1 H1 (p a)) (he : ∀ a ∈ xs, p a = true → ∀ B1 H1, Ext B H B1 H1 → Gv te (((Ow Γ vs).set i (some (.d (enc a.1)))).set j (some (.d (enc a.2)))) B1 H1 (.d (enc (f a)))) :
    Gv (tLc (iList K tl) (gTup K 2 (gCons (gName i) (gCons (gName j) gNil))) t te vs) Γ B H (.d (.list (((xs.filter p).map f).map enc))) := (gm_lcL2 h hz hi hv p f ht he).gv
theorem gv_lcM2 {α β γ : Type} [DecidableEq α] [Enc α] [DecidableEq β] [Enc β] [DecidableEq γ] [Enc γ] {xs : List (α × β)} {tl : TE} {vs : List Nat} (f : α × β → γ) (h : Gv tl Γ B H (.d (.list (xs.map enc)))) (hz : xs.length < 16000000) (hi : i ∈ vs) (hv : j ∈ vs)
    (he : ∀ a ∈ xs, ∀ B1 H1, Ext B H B1 H1 → Gv te (((Ow Γ vs).set i (some (.d (enc a.1)))).set j (some (.d (enc a.2)))) B1 H1 (.d (enc (f a)))) :
    Gv (tLc (iList K tl) (gTup K 2 (gCons (gName i) (gCons (gName j) gNil))) tYes te vs) Γ B H (.d (.list ((xs.map f).map enc))) := by
  have q := gv_lcL2 (K := K) (te := te) (t := tYes) h hz hi hv (fun _ => true) f (fun _ _ _ _ _ => gt_yes) fun a ha _ B1 H1 x => he a ha B1 H1 x
  rw [filter_yes] at q
  exact q
end
end SB
namespace SB
open PySem PySem.Spec PyProof.Rows L2
open Enc (enc)
/-! ### more data -/
inductive Lie where
  | no | st | br
  deriving DecidableEq
def encLie : Lie → PyData
  | .no => .none
  | .st => .str "straight"
  | .br => .str "branch"
theorem st_br : (("straight" : Str) == "branch") = false := by decide +kernel
theorem br_st : (("branch" : Str) == "straight") = false := by decide +kernel
instance : Enc Lie where
  enc := encLie
  eqv a b := by cases a <;> cases b <;> simp [encLie, PyData.eqv, st_br, br_st]
  lay a := by
    have h1 : PyData.strOk "straight" = true := by decide +kernel
    have h2 : PyData.strOk "branch" = true := by decide +kernel
    cases a <;> simp [encLie, PyData.canLay0, h1, h2]
  dep := 0
  dep_le a := by cases a <;> simp [encLie, PyData.depth]
def encOI : Option Int → PyData
  | none => .none
  | some i => .int i
instance : Enc (Option Int) where
  enc := encOI
  eqv a b := by
    cases a <;> cases b <;> simp only [encOI, PyData.eqv] <;> rw [Bool.eq_iff_iff] <;> simp
  lay a := by cases a <;> simp [encOI, PyData.canLay0]
  dep := 0
  dep_le a := by cases a <;> simp [encOI, PyData.depth]
/-! ### fields by their places -/
theorem zip_lookup : ∀ (ks : List Str) (vs : List V) (f : Str) (i : Nat) (v : V), ks.idxOf f = i → i < ks.length → vs[i]? = some v → (ks.zip vs).lookup f = some v
  | [], _, _, _, _, _, h, _ => by simp at h
  | _ :: _, [], _, _, _, _, _, h => by simp at h
  | k :: ks, u :: vs, f, i, v, e, hl, h => by
    rw [List.zip_cons_cons, List.lookup_cons]
    rw [List.idxOf_cons] at e
    by_cases q : k = f
    · subst q
      simp at e
      subst e
      simp at h
      simp [h]
    · have q1 : (k == f) = false := beq_eq_false_iff_ne.mpr q
      have q2 : (f == k) = false := beq_eq_false_iff_ne.mpr fun z => q z.symm
      rw [q1] at e
      simp only [q2]
      simp at e
      subst e
      exact zip_lookup ks vs f _ v rfl (by simpa using hl) (by simpa using h)
theorem zip_none : ∀ (ks : List Str) (vs : List V) (f : Str), f ∉ ks → (ks.zip vs).lookup f = none
  | [], _, _, _ => rfl
  | _ :: _, [], _, _ => rfl
  | k :: ks, u :: vs, f, h => by
    rw [List.zip_cons_cons, List.lookup_cons]
    have q2 : (f == k) = false := beq_eq_false_iff_ne.mpr fun z => h (z ▸ List.mem_cons_self)
    simp only [q2]
    exact zip_none ks vs f fun z => h (List.mem_cons_of_mem _ z)
theorem zip_put : ∀ (ks : List Str) (vs : List V) (f : Str) (i : Nat) (v : V), ks.idxOf f = i → i < ks.length → vs.length = ks.length → putF f v (ks.zip vs) = ks.zip (vs.set i v)
  | [], _, _, _, _, _, h, _ => by simp at h
  | _ :: _, [], _, _, _, _, _, h => by simp at h
  | k :: ks, u :: vs, f, i, v, e, hl, h => by
    rw [List.zip_cons_cons]
    rw [List.idxOf_cons] at e
    by_cases q : k = f
    · subst q
      simp at e
      subst e
      show (if k = k then _ else _) = _
      rw [if_pos rfl]
      rfl
    · have q1 : (k == f) = false := beq_eq_false_iff_ne.mpr q
      rw [q1] at e
      simp at e
      subst e
      show (if k = f then _ else (k, u) :: putF f v (ks.zip vs)) = _
      rw [if_neg q, zip_put ks vs f _ v rfl (by simpa using hl) (by simpa using h)]
      rfl
theorem zip_more : ∀ (ks : List Str) (vs : List V) (f : Str) (v : V), f ∉ ks → vs.length = ks.length → putF f v (ks.zip vs) = (ks ++ [f]).zip (vs ++ [v])
  | [], [], _, _, _, _ => rfl
  | [], _ :: _, _, _, _, h => by simp at h
  | _ :: _, [], _, _, _, h => by simp at h
  | k :: ks, u :: vs, f, v, hn, h => by
    rw [List.zip_cons_cons]
    show (if k = f then _ else (k, u) :: putF f v (ks.zip vs)) = _
    rw [if_neg fun (z : k = f) => hn (z ▸ List.mem_cons_self), zip_more ks vs f v (fun z => hn (List.mem_cons_of_mem _ z)) (by simpa using h)]
    rfl
section
variable {K : PySem.W.Frag} {Γ Δ : List (Option AV)} {B H : Hp} {g x y z : AV} {te ta tb tc tv : TE} {t u : TT} {b c : Bool} {i j : Nat} {D : Ends} {tz tu tw : TS} {ds es : List PyData} {d : PyData} {a C dx : Addr} {fs : List (Str × V)} {f : Str} {v : V} {ks : List Str} {vs : List V}
/-- o.f -/
theorem gv_fld (ha : Gv ta Γ B H (.v (.ref a))) (hy : H a = some (.ins C dx fs)) (cl : Cls K C) (na : NoAttr K C f) (hf : fs.lookup f = some v) (hv : Is B v g) : Gv (tFld K ta f) Γ B H g := fun B1 H1 σ e fr Q q =>
  ha B1 H1 σ e fr _ fun w B2 H2 e2 hw => by
    cases hw
    exact ⟨a, C, dx, fs, v, rfl, (e.trans e2).hh _ _ hy, cl, na, hf, q v B2 H2 e2 (hv.mono (e.trans e2).bb)⟩
/-- o.f = e -/
theorem qx_fld (hv : Gv tv Γ B H g) (ha : Gv ta Γ B H (.v (.ref a))) (hy : H a = some (.ins C dx fs)) (hb : B a = none) (cl : Cls K C) (na : NoAttr K C f) (hl : fs.length < 1000)
    (k : ∀ w B2 H2, ExtF (· = a) B H B2 H2 → Is B2 w g → H2 a = some (.ins C dx (putF f w fs)) → B2 a = none → Sx tz D Γ B2 H2) : Sx (tSeq (sFld K ta tv f) tz) D Γ B H := fun e σ fr =>
  hv B H σ (Ext.refl e) fr _ fun w B2 H2 e2 hw => ha B2 H2 σ e2 (fr.mono e2.bb) _ fun w' B3 H3 e3 hw' => by
    cases hw'
    have e23 := e2.trans e3
    have hb3 := e23.off hb (by rw [hy]; simp)
    have hy3 := e23.hh _ _ hy
    refine ⟨a, C, dx, fs, rfl, hy3, cl, na, hl, ?_⟩
    have wr : ∀ o, ExtF (· = a) B3 H3 B3 (upd H3 a o) := fun o => ExtF.wr e23.bh hb3 (by rw [hy3]; simp)
    exact k w B3 _ (e23.f.trans (wr _)) (hw.mono e3.bb) upd_same hb3 (wr _).bh σ (fr.mono e23.bb)
theorem qx_fldX {E : XK} {r : Except Addr AV} (hv : Gx E tv Γ B H r) (ha : Gv ta Γ B H (.v (.ref a))) (hy : H a = some (.ins C dx fs)) (hb : B a = none) (cl : Cls K C) (na : NoAttr K C f) (hl : fs.length < 1000)
    (k : ∀ w g B2 H2, r = .ok g → ExtF (· = a) B H B2 H2 → Is B2 w g → H2 a = some (.ins C dx (putF f w fs)) → B2 a = none → Sx tz D Γ B2 H2) (ke : ∀ C B2 H2, r = .error C → Ext B H B2 H2 → E (.ref C) none H2) : Sx (tSeq (sFld K ta tv f) tz) D Γ B H := fun e σ fr =>
  hv B H σ (Ext.refl e) fr _ (fun w B2 H2 g hg e2 hw => ha B2 H2 σ e2 (fr.mono e2.bb) _ fun w' B3 H3 e3 hw' => by
    cases hw'
    have e23 := e2.trans e3
    have hb3 := e23.off hb (by rw [hy]; simp)
    have hy3 := e23.hh _ _ hy
    refine ⟨a, C, dx, fs, rfl, hy3, cl, na, hl, ?_⟩
    have wr : ∀ o, ExtF (· = a) B3 H3 B3 (upd H3 a o) := fun o => ExtF.wr e23.bh hb3 (by rw [hy3]; simp)
    exact k w g B3 _ hg (e23.f.trans (wr _)) (hw.mono e3.bb) upd_same hb3 (wr _).bh σ (fr.mono e23.bb)) fun B2 H2 C hC x => ke C B2 H2 hC x
/-- o.f = a new own list -/
theorem qx_fldM (hv : Gm tv Γ B H ds) (ha : ∀ B1 H1, Ext B H B1 H1 → Gv ta Γ B1 H1 (.v (.ref a))) (hy : H a = some (.ins C dx fs)) (hb : B a = none) (cl : Cls K C) (na : NoAttr K C f) (hl : fs.length < 1000)
    (k : ∀ p B2 H2, ExtF (· = a) B H B2 H2 → H p = none → Ml B2 H2 p ds → H2 a = some (.ins C dx (putF f (.ref p) fs)) → B2 a = none → Sx tz D Γ B2 H2) : Sx (tSeq (sFld K ta tv f) tz) D Γ B H := fun e σ fr =>
  hv B H σ (Ext.refl e) fr _ fun p B2 H2 e2 hp m => ha B2 H2 e2 B2 H2 σ (Ext.refl e2.bh) (fr.mono e2.bb) _ fun w' B3 H3 e3 hw' => by
    cases hw'
    have e23 := e2.trans e3
    have hb3 := e23.off hb (by rw [hy]; simp)
    have hy3 := e23.hh _ _ hy
    refine ⟨a, C, dx, fs, rfl, hy3, cl, na, hl, ?_⟩
    have wr : ∀ o, ExtF (· = a) B3 H3 B3 (upd H3 a o) := fun o => ExtF.wr e23.bh hb3 (by rw [hy3]; simp)
    have hpa : p ≠ a := fun z => by rw [z, hy] at hp; cases hp
    exact k p B3 _ (e23.f.trans (wr _)) hp ((m.ext e3).extF (wr _) hpa) upd_same hb3 (wr _).bh σ (fr.mono e23.bb)
/-- an own dict -/
def Md (B H : Hp) (p : Addr) (kvs : List (Key × V)) : Prop := B p = none ∧ H p = some (.dK kvs)
theorem Md.ne {p : Addr} {kvs : List (Key × V)} (m : Md B H p kvs) : H p ≠ none := by rw [m.2]; simp
theorem Md.ext {B' H' : Hp} {p : Addr} {kvs : List (Key × V)} (m : Md B H p kvs) (x : Ext B H B' H') : Md B' H' p kvs := ⟨x.off m.1 m.ne, x.hh _ _ m.2⟩
theorem Md.extF {F : Addr → Prop} {B' H' : Hp} {p : Addr} {kvs : List (Key × V)} (m : Md B H p kvs) (x : ExtF F B H B' H') (n : ¬ F p) : Md B' H' p kvs := ⟨x.off m.1 m.ne, x.hh _ _ m.2 n⟩
/-- o.f = {} -/
theorem qx_fldD (ha : ∀ B1 H1, Ext B H B1 H1 → Gv ta Γ B1 H1 (.v (.ref a))) (hy : H a = some (.ins C dx fs)) (hb : B a = none) (cl : Cls K C) (na : NoAttr K C f) (hl : fs.length < 1000)
    (k : ∀ p B2 H2, ExtF (· = a) B H B2 H2 → H p = none → Md B2 H2 p [] → H2 a = some (.ins C dx (putF f (.ref p) fs)) → B2 a = none → Sx tz D Γ B2 H2) : Sx (tSeq (sFld K ta tDNewK f) tz) D Γ B H := fun e σ fr => fun p hp => by
  have e2 : Ext B H B (upd H p (.dK [])) := Ext.out e hp
  refine ha B _ e2 B _ σ (Ext.refl e2.bh) (fr.mono e2.bb) _ fun w' B3 H3 e3 hw' => ?_
  cases hw'
  have e23 := e2.trans e3
  have hb3 := e23.off hb (by rw [hy]; simp)
  have hy3 := e23.hh _ _ hy
  refine ⟨a, C, dx, fs, rfl, hy3, cl, na, hl, ?_⟩
  have wr : ∀ o, ExtF (· = a) B3 H3 B3 (upd H3 a o) := fun o => ExtF.wr e23.bh hb3 (by rw [hy3]; simp)
  have hpa : p ≠ a := fun z => by rw [z, hy] at hp; cases hp
  have m : Md B (upd H p (.dK [])) p [] := ⟨e.free hp, upd_same⟩
  exact k p B3 _ (e23.f.trans (wr _)) hp ((m.ext e3).extF (wr _) hpa) upd_same hb3 (wr _).bh σ (fr.mono e23.bb)
end
end SB
namespace SB
open PySem PySem.Spec PyProof.Rows L2
open Enc (enc)
/-! ### an error that is kept behind its clause -/
/-- at a stands an error of the class at C that was raised -/
def ExR (C : Addr) (a : Addr) : HO := .ext fun h => ∃ (o : Obj) (vs : Array Value), h.get? a = some o ∧ o.cls = .ref C ∧ o.dict = none ∧ o.data = .fields vs
theorem exR_ok {P : Program} {w : World} {H : Hp} {h : Heap} {a C : Addr} {o : Obj} {vs : Array Value} (e : h.get? a = some o) (z : Zc (.ref C) none o) (d : o.data = .fields vs) : ObjOk P w H h a (ExR C a) :=
  ⟨⟨o, vs, e, z.1, z.2, d⟩, ⟨o, e⟩, fun h1 h2 ⟨o1, v1, q1, q2⟩ k => ⟨o1, v1, k _ q1, q2⟩⟩
/-- the pin on the error becomes a tracked thing -/
theorem track {X : Cx} {σ : L2.St} {H : Hp} {s : Shared} {a C : Addr} {o : Obj} {vs : Array Value} {q : List (Addr × Obj)} (I : Inv (X.suite a ((a, o) :: q)) [] σ H s) (z : Zc (.ref C) none o) (d : o.data = .fields vs)
    (new : X.s_0.heap.get? a = none) (hq : ∀ p ∈ q, p.1 ≠ a) (hL : a ≠ X.env.locals) (hc : ∀ x c, X.env.cells.lookup x = some c → c ≠ a) (ok : (X.suite a q).Ok) : Inv (X.suite a q) [] σ (upd H a (ExR C a)) s := by
  obtain ⟨ea, na, _, _, _⟩ := I.pin (a, o) (List.mem_append.mpr (.inl List.mem_cons_self))
  have na : H a = none := na
  have off : ∀ b u, H b = some u → upd H a (ExR C a) b = some u := fun b u e => by rw [upd_ne (ne_of_none e na)]; exact e
  refine ⟨ok, I.os, I.bare, ⟨I.base.keep, I.base.slot, fun b u e n x => ?_, I.base.there, fun b xs e => off _ _ (I.base.tups b xs e), fun b u w e => off _ _ (I.base.frzs b u w e), fun b ps e => ?_⟩, I.loc, I.cell, ?_, fun x c e => ?_, fun p hp => ?_, ?_, I.len⟩
  · have hb : b ≠ a := fun y => by
      subst y
      have : X.s_0.heap.get? b = some u := e
      rw [new] at this
      cases this
    rw [upd_ne hb]
    exact I.base.free b u e n x
  · obtain ⟨more, e2⟩ := I.base.tbls b ps e
    exact ⟨more, off _ _ e2⟩
  · rw [upd_ne (fun y => hL y.symm)]
    exact I.free
  · rw [upd_ne (hc x c e)]
    exact I.freeC x c e
  · have hp' : p ∈ q := by
      rcases List.mem_append.mp hp with h | h
      · exact h
      · simp at h
    obtain ⟨e1, e2, e3⟩ := I.pin p (List.mem_append.mpr (.inl (List.mem_cons_of_mem _ hp')))
    exact ⟨e1, by rw [upd_ne (hq p hp')]; exact e2, e3⟩
  · intro b u e
    by_cases y : b = a
    · subst y
      rw [upd_same] at e
      cases e
      exact exR_ok ea z d
    · rw [upd_ne y] at e
      exact (I.hok b u e).stay (fun _ _ _ k => k) (fun c k => off _ _ k) fun c xs k => off _ _ k
/-- the suite's frame as the def's -/
theorem untrack {X : Cx} {pins : List (Addr × Obj)} {σ : L2.St} {H : Hp} {s : Shared} {a : Addr} {r : List (Addr × Obj)} (I : Inv (X.suite a (X.pn ++ pins)) r σ H s) (ok : X.Ok) : Inv X pins σ H s :=
  ⟨ok, I.os, I.bare, I.base, I.loc, I.cell, I.free, I.freeC, fun p hp => I.pin p (List.mem_append.mpr (.inl hp)), I.hok, I.len⟩
/-- what 'except c as n' wishes of the body's error, where the suite may keep it: n's slot is i -/
def wKeep (K : PySem.W.Frag) (c : Value) (i : Nat) (ts : Addr → Addr → TS) (D : Ends) : WX := fun cls d σ H =>
  ∃ C, cls = .ref C ∧ d = none ∧ PySem.W.exmOne K cls c = some true ∧ ∀ a, H a = none →
    ts a C { nx := fun τ J => D.nx (τ.set i none) J, rt := D.rt, bk := fun τ J => D.bk (τ.set i none) J, ct := fun τ J => D.ct (τ.set i none) J } (σ.set i (some (.ref a))) (upd H a (ExR C a))
/-- try: .. except c as n: .. -/
def tTryK (K : PySem.W.Frag) (c : Value) (i : Nat) (ts : Addr → Addr → TS) (tb : WX → TS) : TS := fun D σ H => tb (wKeep K c i ts D) D σ H
theorem ps_try_keep {X : Cx} {x n : Str} {c : Value} {i : Nat} {body suite : List Stmt} {b0 : Stmt} {np pos pos' : Pos} {tb : WX → TS} {ts : Addr → Addr → TS} (stk : X.stack = X.env :: X.outer) (fr : X.env.frame = some X.env.locals) (hex : X.ex = [])
    (nd : X.N.Nodup) (hi : X.N[i]? = some n) (hl : X.env.kindOf n = some .local) (hc : Names X x c)
    (hb : ∀ (W : WX) (q : List (Addr × Obj)) (xe : Value → Shared → Prop), Takes (X.tr q xe) W → PassesOwn (model X.prog X.w) X.A X.env xe → PSs (X.tr q xe) body (tb W))
    (hs : ∀ (a C : Addr) (q : List (Addr × Obj)), PSs (X.suite a q) (b0 :: suite) (ts a C)) :
    PS X (.Try body [.ExceptHandler (some (.Name x np)) (some n) (b0 :: suite) pos'] [] [] pos) (tTryK X.K c i ts tb) := by
  refine ⟨fun pins s σ H D I h => wpAny_Try_except ?_⟩
  have ok := I.ok
  have frames : X.A.frames = some (X.env :: X.outer) := ok.frames.trans (congrArg some stk)
  refine wpAny_mono ((hb (wKeep X.K c i ts D) (X.pn ++ pins) (fun e t1 => wpAny (model X.prog X.w) X.A (noteFrame e X.env)
    (fun _ t2 => wpAny (model X.prog X.w) X.A (setFlight e none) (fun _ t3 => wpAny (model X.prog X.w) X.A
      (handleBy e X.env [.ExceptHandler (some (.Name x np)) (some n) (b0 :: suite) pos']) (SP X pins D) X.xe t3) X.xe t2) X.xe t1) (fun u t air => ?_) PassesOwn.looking).run [] s σ H D (I.toTry _) h) (fun r t q => ?_) fun _ _ q => q
  · obtain ⟨a, G, sI, p2, τ, J, cls, d, rfl, I2, ground, up, sky, na, os, ag, C, rfl, rfl, hm, go⟩ := air
    have I3 : Inv X pins τ J sI := I2.ofTry ok
    have sky3 : Sky G (X.env :: X.outer) a (Zc (.ref C) none) X.env.locals t.heap := stk ▸ sky
    refine Sky.land Zc.steady frames fr sky3 fun h3 f3 up3 => ?_
    obtain ⟨o3, v3, e3, z3, d3⟩ := f3.there
    have out3 : a ∉ frs (X.env :: X.outer) := fun m => by
      obtain ⟨_, o', e', nf⟩ := f3.2.2.1.mem m
      rw [e3] at e'
      cases e'
      exact nf _ d3
    have nL : a ≠ X.env.locals := fun y => out3 (List.mem_filterMap.mpr ⟨X.env, List.mem_cons_self, by rw [fr, y]⟩)
    have nF : a ∉ X.fs := fun m => by
      obtain ⟨v, hv, y⟩ := List.mem_filterMap.mp m
      exact out3 (List.mem_filterMap.mpr ⟨v, List.mem_cons_of_mem _ hv, y⟩)
    have nI : sI.heap.get? a = none := by
      cases y : sI.heap.get? a with
      | none => rfl
      | some o =>
        have g1 := ground a o y (by show a ∉ frs X.stack; rw [stk]; exact out3)
        rw [f3.2.1] at g1
        cases g1
    have n0 : X.s_0.heap.get? a = none := by
      cases y : X.s_0.heap.get? a with
      | none => rfl
      | some o =>
        obtain ⟨o', g1⟩ := I3.base.there a o y (by rw [hex]; simp)
        rw [nI] at g1
        cases g1
    have I4 : Inv X pins τ J { t with heap := h3 } := I3.landed ground f3.1 (up.trans up3) os ag
    have S4 := I4.suite e3 d3 na nL nF
    refine wpAny_handleBy_cons (codeAny_handlers_test ?_) (by intro y; cases y)
    have tyL : PySem.W.Looks (model X.prog X.w) h3 (typeOf (.ref a)) (.ref C) := fun A Q E s k y => wpAny_typeOf_ref (k _ _ e3) (by rw [z3.1]; exact y)
    have match1 := PySem.W.exm_one (M := model X.prog X.w) I4.kIn tyL hm
    have nameC : ∀ {Q : Value → Shared → Prop} {E : Value → Shared → Prop}, Q c { t with heap := h3 } → wpAny (model X.prog X.w) (X.A.mark (some (.ref a))) (eval (.Name x np) X.env) Q E { t with heap := h3 } := fun {Q E} y => by
      obtain ⟨g, db, hm1 | ⟨hm1, hv, hn⟩⟩ := hc
      · exact ld_glob (X := X.suite a ((a, o3) :: (X.pn ++ pins))) S4 g hm1 y db
      · exact ld_blt (X := X.suite a ((a, o3) :: (X.pn ++ pins))) S4 g hm1 hv y hn db
    refine nameC (match1.here (codeAny_handlers_suite_as (HandSPX.lands_againZ f3 fun h4 f4 up4 => ?_)))
    obtain ⟨o4, v4, e4, z4, d4⟩ := f4.there
    have I5 : Inv X pins τ J { t with heap := h4 } := I3.landed ground f4.1 ((up.trans up3).trans up4) os ag
    have S5 := I5.suite e4 d4 na nL nF
    have cellNe : ∀ y k, X.env.cells.lookup y = some k → k ≠ a := fun y k e w => by
      subst w
      obtain ⟨v, ⟨oc, g1, g2⟩⟩ := I5.cell y k e
      have g1 : h4.get? k = some oc := g1
      rw [e4] at g1
      cases g1
      rw [d4] at g2
      cases g2
    have pinNe : ∀ p ∈ X.pn ++ pins, p.1 ≠ a := fun p hp w => by
      have g1 := (I3.pin p hp).1
      rw [w, nI] at g1
      cases g1
    have S6 := track S5 z4 d4 n0 pinNe nL cellNe (ok.suite _ _)
    refine store_ok (X := X.suite a (X.pn ++ pins)) (v := .ref a) S6 nd hi (.inl hl) rfl (fun s7 S7 => ?_) (.inr hl)
    refine wpAny_mono ((hs a C (X.pn ++ pins)).run [] s7 _ _ _ S7 (go a na)) (fun r s8 q => ?_) fun _ _ y => False.elim y
    have leave : ∀ {τ8 : L2.St} {J8 : Hp} {Q : Shared → Prop}, Inv (X.suite a (X.pn ++ pins)) [] τ8 J8 s8 → (∀ s9, Inv X pins (τ8.set i none) J8 s9 → Q s9) →
        wpAny (model X.prog X.w) X.A (do bindName X.env n .none; unbindBehindTheSuite X.env n pos') (fun _ s9 => Q s9) X.xe s8 := fun S8 k => gone_ok (untrack S8 ok) nd hi hl k
    cases r with
    | next =>
      obtain ⟨τ8, J8, S8, y⟩ := q
      exact leave S8 fun s9 I9 => ⟨_, _, I9, y⟩
    | brk =>
      obtain ⟨τ8, J8, S8, y⟩ := q
      exact leave S8 fun s9 I9 => ⟨_, _, I9, y⟩
    | cont =>
      obtain ⟨τ8, J8, S8, y⟩ := q
      exact leave S8 fun s9 I9 => ⟨_, _, I9, y⟩
    | ret u =>
      obtain ⟨v8, τ8, J8, S8, rv, y⟩ := q
      exact leave S8 fun s9 I9 => ⟨_, _, _, I9, rv, y⟩
  · cases r with
    | next =>
      obtain ⟨τ, J, I2, y⟩ := q
      exact wpAny_execs_nil ⟨τ, J, I2.ofTry ok, y⟩
    | brk =>
      obtain ⟨τ, J, I2, y⟩ := q
      exact ⟨τ, J, I2.ofTry ok, y⟩
    | cont =>
      obtain ⟨τ, J, I2, y⟩ := q
      exact ⟨τ, J, I2.ofTry ok, y⟩
    | ret u =>
      obtain ⟨v, τ, J, I2, rv, y⟩ := q
      exact ⟨v, τ, J, I2.ofTry ok, rv, y⟩
end SB
namespace SB
open PySem PySem.Spec PyProof.Rows L2
open Enc (enc)
/-! ### isinstance of an error that is kept -/
def rIsR (K : PySem.W.Frag) : List V → Hp → VK → Prop := fun xs H Q => ∃ (a D : Addr) (c : V) (u : Value) (b : Bool), xs = [.ref a, c] ∧ H a = some (ExR D a) ∧ ExcC K D ∧ ClsV c u ∧ PySem.W.kitOne K (.ref D) u = some b ∧ Q (.bl b) H
def rIsRT (K : PySem.W.Frag) : List V → Hp → VK → Prop := fun xs H Q => ∃ (a D tp : Addr) (cs : List V) (us : List Value) (b : Bool), xs = [.ref a, .ref tp] ∧ H a = some (ExR D a) ∧ ExcC K D ∧ H tp = some (.tup cs) ∧ Paired ClsV cs us ∧ PySem.W.kitAny K (.ref D) us = some b ∧ Q (.bl b) H
theorem exR_inst {X : Cx} {pins : List (Addr × Obj)} {σ : L2.St} {H : Hp} {s : Shared} {a D : Addr} (I : Inv X pins σ H s) (h : H a = some (ExR D a)) : ∃ o, PySem.W.InstAt s.heap a o D none := by
  obtain ⟨⟨o, vs, e, h1, h2, h3⟩, _⟩ := (show ObjOk X.prog X.w H s.heap a (ExR D a) from I.hok a _ h)
  obtain ⟨oc, od, oda, osl⟩ := o
  dsimp only at h1 h2 h3
  subst h1 h2 h3
  exact ⟨_, e, rfl, rfl, trivial⟩
theorem call_isR {X : Cx} : CallR X (.builtin "isinstance") (rIsR X.K) := by
  intro pins s σ H xs us Q I r h
  obtain ⟨a, D, c, u, b, rfl, ha, C, k, e, q⟩ := h
  obtain ⟨u1, u2, rfl, r1, r2⟩ := vals2 r
  have e2 := k.eq r2
  subst e2
  cases (show u1 = Value.ref a from r1)
  obtain ⟨o, J⟩ := exR_inst I ha
  exact PySem.W.kia_one (PySem.W.handS_kitx_exc C.hg C.hk C.hs C.hd C.ha C.hn C.ht C.hm) I.kIn J e (fun z => nomatch z) fun tk => ⟨.bl b, H, I.tok tk, rfl, q⟩
theorem call_isRT {X : Cx} : CallR X (.builtin "isinstance") (rIsRT X.K) := by
  intro pins s σ H xs us Q I r h
  obtain ⟨a, D, tp, cs, ws, b, rfl, ha, C, hT, k, e, q⟩ := h
  obtain ⟨u1, u2, rfl, r1, r2⟩ := vals2 r
  cases (show u2 = Value.ref tp from r2)
  cases (show u1 = Value.ref a from r1)
  obtain ⟨o', J⟩ := exR_inst I ha
  obtain ⟨_, its, rv, o, h1, h2, n, h3⟩ := (show ObjOk X.prog X.w H s.heap tp (.tup cs) from I.hok tp _ hT)
  have e3 := ClsV.all k rv
  subst e3
  obtain ⟨oc, od, dt, sl⟩ := o
  simp only at h2 h3
  subst h2 h3
  exact PySem.W.kia_tup (PySem.W.handS_kitx_exc C.hg C.hk C.hs C.hd C.ha C.hn C.ht C.hm) I.kIn J h1 e (fun z => nomatch z) fun tk => ⟨.bl b, H, I.tok tk, rfl, q⟩
theorem call_isRK {X : Cx} {K : PySem.W.Frag} (h : X.K = K) : CallR X (.builtin "isinstance") (rIsR K) := by subst h; exact call_isR
theorem call_isRTK {X : Cx} {K : PySem.W.Frag} (h : X.K = K) : CallR X (.builtin "isinstance") (rIsRT K) := by subst h; exact call_isRT
/-! ### a class called in the body of a try -/
section
variable {X : Cx} {CX : CXT} {k j : Nat} {f C : Addr} {fd : FuncData} {ps : List Str} {sp : Sp} {E : L2.St → XK} {x m : Str} {p pos apos : Pos} {e o : Expr} {es : List Expr} {ta : TE} {t : TA}
def tMakeS (C : Addr) (sp : Sp) (E : L2.St → XK) (t : TA) : TE := fun σ H Q => t σ H fun vs H1 => ∀ x dx, H1 x = none → H1 dx = none → dx ≠ x →
  sp (.ref x :: vs) (upd (upd H1 dx (.own x)) x (.ins C dx [])) (fun v H2 => v = .non ∧ Q (.ref x) H2) (E σ)
theorem run_makeS {pins : List (Addr × Obj)} {σ : L2.St} {H : Hp} {s : Shared} {Q : VK} {us : List Value} {vs : List V} (M : Mk X.K C f) (F : FnOk X.prog X.w X.K X.mg X.base CX k f fd ps sp) (hr : Room (k + 1) X.A) (hb : Binds X.K fd ps [])
    (hx : PassesAt CX X σ (E σ)) (I : Inv X pins σ H s) (r : Vals vs us)
    (h : ∀ x dx, H x = none → H dx = none → dx ≠ x → sp (.ref x :: vs) (upd (upd H dx (.own x)) x (.ins C dx [])) (fun v H2 => v = .non ∧ Q (.ref x) H2) (E σ)) :
    wpAny (model X.prog X.w) X.A (call (.ref C) us) (EP X pins σ Q) X.xe s := by
  have hq := h (s.heap.objs.size + 1) s.heap.objs.size (I.hok.fresh (Nat.le_succ _)) (I.hok.fresh (Nat.le_refl _)) (Nat.ne_of_lt (Nat.lt_succ_self _))
  have I2 := Inv.made (C := C) I
  have r2 : Vals (V.ref (s.heap.objs.size + 1) :: vs) (Value.ref (s.heap.objs.size + 1) :: us) := .cons rfl r
  have hl : (Value.ref (s.heap.objs.size + 1) :: us).length = ps.length := by
    have e := r2.length
    rw [F.len _ _ _ _ hq] at e
    exact e.symm
  have b := hb _ (Value.ref (s.heap.objs.size + 1) :: us) I2.kIn (by rw [List.append_nil]; exact hl)
  rw [List.append_nil] at b
  refine wpAny_call (make_map (f := f) I.kIn M.makes M.init (beq_iff_eq.mp M.fn) (codeAny_mono (F.run _ X.stack _ _ ⟨Value.ref (s.heap.objs.size + 1) :: us, []⟩ (Value.ref (s.heap.objs.size + 1) :: us) _ _ (E σ) (hr.make C us [])
    (I2.env0.make C us []) b r2 hq) fun r s' hq' => ?_))
  cases r with
  | error e => exact hx pins _ _ e s' I2 hq'
  | ok fl =>
    cases fl with
    | ret u =>
      obtain ⟨v, H', I3, rv, ev, q3⟩ := I2.after hq'
      subst ev
      exact ⟨rv, ⟨V.ref (s.heap.objs.size + 1), H', I3, rfl, q3⟩⟩
    | next => exact False.elim hq'
    | brk => exact False.elim hq'
    | cont => exact False.elim hq'
theorem pe_makS (c : Mak X.prog X.w X.K X.mg X.base CX k x C sp) (hr : Room j X.A) (hk : k + 1 ≤ j) (hg : Gl X x) (hx : ∀ σ, PassesAt CX X σ (E σ)) (ha : PA X (e :: es) t)
    (hdb : (x == ("__debug__" : Str)) = false := by decide) (he : starEach (e :: es) X.env = (false, eval e X.env) :: starEach es X.env := by rfl) (hpl : (backTo pos (starEach es X.env)).any (·.1) = false := by rfl) :
    PE X (.Call (.Name x p) (e :: es) [] pos) (tMakeS C sp E t) := by
  obtain ⟨f, fd, ps, F, hm, M, b⟩ := c.ex
  refine ⟨fun pins s σ H Q I h => ?_⟩
  refine wpAny_Call_Name_kw (ld_glob I hg hm ?_ hdb)
  refine PySem.W.callWith_K (h₀ := X.base) I.ok.mod.kin M.kp (thn (ha.run pos pins s σ H _ I h) fun us s1 ⟨vs, H1, I1, r, q⟩ => ⟨I1.kIn, ?_⟩) he hpl
  exact run_makeS M F (hr.mono hk) b (hx σ) I1 r q
end
section
variable {K : PySem.W.Frag} {Γ Δ : List (Option AV)} {B H : Hp} {g x y z : AV} {te ta tb tc tv : TE} {t u : TT} {b c : Bool} {i j : Nat} {D : Ends} {tz tu tw : TS} {ds es : List PyData} {d : PyData} {a C dx : Addr} {v : V}
theorem isAll_v : ∀ {us cs : List V}, IsAll B us (cs.map AV.v) → us = cs
  | _, [], .nil => rfl
  | _, c :: cs, .cons h t => by rw [isAll_v t, show _ = c from h]
theorem rc_isR {cv : V} {uu : Value} (h : H a = some (ExR C a)) (E : ExcC K C) (k : ClsV cv uu) (e : PySem.W.kitOne K (.ref C) uu = some b) : Rc (rIsR K) B H [.v (.ref a), .v cv] (AB b) := fun B1 H1 us e1 hu Q q => by
  have := isAll_v (cs := [.ref a, cv]) hu
  subst this
  exact ⟨a, C, cv, uu, b, rfl, e1.hh _ _ h, E, k, e, q _ B1 H1 (Ext.refl e1.bh) (.bl _)⟩
theorem gv_isRT {cs : List V} {ws : List Value} {tr : TA} (ha : Gv ta Γ B H (.v (.ref a))) (h : H a = some (ExR C a)) (E : ExcC K C) (hc : Ga tr Γ B H (cs.map AV.v)) (hz : cs.length ≤ 16000000) (k : Paired ClsV cs ws) (e : PySem.W.kitAny K (.ref C) ws = some b) :
    Gv (tCB (rIsRT K) (tCons ta (tCons (tTup tr) tNil))) Γ B H (AB b) := fun B1 H1 σ e1 f Q q => by
  refine ha B1 H1 σ e1 f _ fun w B2 H2 e2 hw => hc B2 H2 σ (e1.trans e2) (f.mono e2.bb) _ fun us B3 H3 e3 hu => ?_
  have hu := isAll_v hu
  have hw : w = .ref a := hw
  subst hu hw
  refine ⟨sz hz, fun p hp => ?_⟩
  have e4 : Ext B3 H3 B3 (upd H3 p (.tup us)) := Ext.out e3.bh hp
  have x1 := (e2.trans e3).trans e4
  exact ⟨a, C, p, us, ws, b, rfl, x1.hh _ _ (e1.hh _ _ h), E, upd_same, k, e, q _ B3 _ x1 (.bl _)⟩
theorem gv_cls {u : V} : Gv (tC u) Γ B H (.v u) := gv_C
/-- is None, of an own object -/
theorem ro_isNV : Ro (fun x y H Q => y = .non ∧ Q (.bl (decide (x = .non))) H) B H (.v (.ref a)) AN (AB false) := fun B1 H1 u w e hu hw Q q => by
  cases hw
  have hu : u = .ref a := hu
  subst hu
  refine ⟨rfl, ?_⟩
  have e0 : decide (V.ref a = V.non) = false := by simp
  rw [e0]
  exact q _ B1 H1 (Ext.refl e.bh) (.bl false)
/-! a try whose suite keeps the error -/
theorem qx_try {cv : Value} {tb : WX → TS} {ts : Addr → Addr → TS} (h : Sx (tb (wKeep K cv i ts { D with nx := tz D })) { D with nx := tz D } Γ B H) : Sx (tSeq (tTryK K cv i ts tb) tz) D Γ B H := h
theorem wkeep {cv : Value} {ts : Addr → Addr → TS} (hm : PySem.W.exmOne K (.ref C) cv = some true) (e : Same B H)
    (h : ∀ a, H a = none → Sx (ts a C) { nx := fun τ J => D.nx (τ.set i none) J, rt := D.rt, bk := fun τ J => D.bk (τ.set i none) J, ct := fun τ J => D.ct (τ.set i none) J } (Γ.set i (some (.v (.ref a)))) B (upd H a (ExR C a)))
    {σ : L2.St} (f : Fr B σ Γ) : wKeep K cv i ts D (.ref C) none σ H :=
  ⟨C, rfl, rfl, hm, fun a ha => h a ha (fun b o q => by rw [upd_ne (ne_of_none (e _ _ q) ha)]; exact e _ _ q) _ (f.set i rfl)⟩
/-- the end of such a suite -/
theorem sx_out {rt : VK} {bk ct : L2.St → Hp → Prop} {tz : TS} {D : Ends} {j : Nat} (h : Sx tz D (Γ.set j none) B H) (l : j < Γ.length) : Sx tNext { nx := fun τ J => tz D (τ.set j none) J, rt := rt, bk := bk, ct := ct } Γ B H := fun e σ f => by
  refine h e _ ⟨by rw [List.length_set, List.length_set]; exact f.1, fun k g q => ?_⟩
  by_cases z : j = k
  · subst z
    rw [List.getElem?_set_self l] at q
    cases q
  · rw [List.getElem?_set_ne z] at q ⊢
    exact f.2 k g q
/-- a call by the slots -/
theorem qx_dropS {T : Type} {args : T → List AV} {pre : T → Hp → Hp → Prop} {res : T → Except Addr AV} {W : WX} {tr : TA} (a : T) (h : Ga tr Γ B H (args a)) (hp : ∀ B1 H1, Ext B H B1 H1 → pre a B1 H1)
    (k : ∀ g B2 H2, res a = .ok g → Ext B H B2 H2 → Sx tz D Γ B2 H2) (ke : ∀ C B2 H2 σ, res a = .error C → Ext B H B2 H2 → Fr B2 σ Γ → W (.ref C) none σ H2) : Sx (tSeq (tDrop (tCallS (spR args pre res) (WE W) tr)) tz) D Γ B H := fun e σ f =>
  h B H σ (Ext.refl e) f _ fun us B2 H2 e2 hu => ⟨a, B2, e2.bh, hu, hp B2 H2 e2, fun u B3 H3 g hg e3 h3 => k g B3 H3 hg (e2.trans e3) (e2.trans e3).bh _ (f.mono (e2.trans e3).bb), fun B3 H3 C hC e3 => ke C B3 H3 σ hC (e2.trans e3) (f.mono (e2.trans e3).bb)⟩
end
end SB
namespace SB
open PySem PySem.Spec PyProof.Rows L2
open Enc (enc)
section
variable {K : PySem.W.Frag} {Γ Δ : List (Option AV)} {B H : Hp} {g x y z : AV} {te ta tb tc tv ti : TE} {t u : TT} {b c : Bool} {i j : Nat} {D : Ends} {tz tu tw : TS} {ds es : List PyData} {d : PyData} {a p C dx : Addr} {v : V} {ns : List Int} {n : Int}
/-! ### an own list that is read -/
theorem rc_lenO (m : Ml B H p ds) : Rc (fun xs H Q => ∃ p ys, xs = [.ref p] ∧ (SqL K H p ys ∨ SqT K H p ys) ∧ Q (.int ys.length) H) B H [.v (.ref p)] (AI ds.length) := fun B1 H1 us e hu Q q => by
  have := isAll_v (cs := [.ref p]) hu
  subst this
  obtain ⟨_, vs, hp, t⟩ := m.ext e
  refine ⟨p, vs, rfl, .inl (SqL.of hp), ?_⟩
  rw [t.length]
  exact q _ B1 H1 (Ext.refl e.bh) (.int _)
theorem rc_tupleO (m : Ml B H p ds) : Rc (fun xs H Q => ∃ p ys, xs = [.ref p] ∧ ((SqL K H p ys ∧ ∀ l, H l = none → Q (.ref l) (upd H l (.tup ys))) ∨ (SqT K H p ys ∧ Q (.ref p) H))) B H [.v (.ref p)] (.d (.tuple ds)) := fun B1 H1 us e hu Q q => by
  have := isAll_v (cs := [.ref p]) hu
  subst this
  obtain ⟨_, vs, hp, t⟩ := m.ext e
  refine ⟨p, vs, rfl, .inl ⟨SqL.of hp, fun l hl => ?_⟩⟩
  exact q _ _ _ (Ext.new e.bh hl) (dq_newT e.bh hl t)
theorem ro_ixO {k : Int} (m : Ml B H p ds) (h : atI ds k = some d) : Ro (rIxL K) B H (.v (.ref p)) (AI k) (.d d) := fun B1 H1 u w e hu hw Q q => by
  cases hw
  have hu : u = .ref p := hu
  subst hu
  obtain ⟨_, vs, hp, t⟩ := m.ext e
  obtain ⟨u, h1, h2⟩ := atI_dq t h
  exact ⟨p, vs, k, u, rfl, rfl, SqL.of hp, h1, q u B1 H1 (Ext.refl e.bh) h2⟩
theorem gv_slO {tl th : TO} {lo hi : Option Int} (m : Ml B H p ds) (ha : Gv ta Γ B H (.v (.ref p))) (h1 : Go tl Γ B H lo) (h2 : Go th Γ B H hi) : Gv (tSl (rSlL K) ta tl th) Γ B H (.d (.list (cutD ds lo hi))) :=
  gv_sl ha h1 h2 fun B1 H1 u e hu Q q => by
    have hu : u = .ref p := hu
    subst hu
    obtain ⟨_, vs, hp, t⟩ := m.ext e
    exact ⟨_, _, rfl, SqL.of hp, fun l hl => q _ _ _ (Ext.new e.bh hl) (dq_newL e.bh hl (t.cut lo hi))⟩
theorem gm_cat (ha : Gv ta Γ B H (.d (.list ds))) (hb : Gv tb Γ B H (.d (.list es))) (hz : ds.length + es.length ≤ 16000000) : Gm (tOp rCat ta tb) Γ B H (ds ++ es) := fun B1 H1 σ e f Q q =>
  ha B1 H1 σ e f _ fun u B2 H2 e2 hu => hb B2 H2 σ (e.trans e2) (f.mono e2.bb) _ fun w B3 H3 e3 hw => by
    cases hw with
    | lst h' t' =>
      cases hu with
      | lst h t =>
        refine ⟨_, _, _, _, rfl, rfl, e3.bh _ _ (e3.bb _ _ h), e3.bh _ _ h', sz (by rw [t.length, t'.length]; exact hz), fun p hp => ?_⟩
        have e23 := e2.trans e3
        exact q p B3 _ (e23.trans (Ext.out e3.bh hp)) (e23.hh.free hp) ⟨e3.bh.free hp, _, upd_same, (t.mono e3.bb).append t'⟩
theorem qx_asgM (h : Gm te Γ B H ds) (k : ∀ p B2 H2, H p = none → Ext B H B2 H2 → Ml B2 H2 p ds → Sx tz D (Γ.set i (some (.v (.ref p)))) B2 H2) : Sx (tSeq (tAsg te (gName i)) tz) D Γ B H := fun e σ f =>
  h B H σ (Ext.refl e) f _ fun p B2 H2 x hp m => k p B2 H2 hp x m x.bh _ ((f.mono x.bb).set i rfl)
/-- p[k] = e -/
theorem qx_set {k : Int} (m : Ml B H p ds) (hv : Gv tv Γ B H (.d d)) (ha : ∀ B1 H1, Ext B H B1 H1 → Gv ta Γ B1 H1 (.v (.ref p))) (hi : ∀ B1 H1, Ext B H B1 H1 → Gv ti Γ B1 H1 (AI k)) (hk : ixN ds.length k = some j)
    (q : ∀ B2 H2, ExtF (· = p) B H B2 H2 → Ml B2 H2 p (ds.set j d) → Sx tz D Γ B2 H2) : Sx (tSeq (tAsg tv (gSub ta ti rSetL)) tz) D Γ B H := fun e σ f =>
  hv B H σ (Ext.refl e) f _ fun w B2 H2 e2 hw => ha B2 H2 e2 B2 H2 σ (Ext.refl e2.bh) (f.mono e2.bb) _ fun u B3 H3 e3 hu => hi B3 H3 (e2.trans e3) B3 H3 σ (Ext.refl e3.bh) (f.mono (e2.trans e3).bb) _ fun u2 B4 H4 e4 hu2 => by
    cases hu2
    have hu : u = .ref p := hu
    subst hu
    have x := (e2.trans e3).trans e4
    obtain ⟨hb, vs, hp, t⟩ := m.ext x
    refine ⟨p, vs, k, j, rfl, rfl, hp, by rw [t.length]; exact hk, ?_⟩
    have wr : ∀ o, ExtF (· = p) B4 H4 B4 (upd H4 p o) := fun o => ExtF.wr x.bh hb (by rw [hp]; simp)
    exact q B4 _ (x.f.trans (wr _)) ⟨hb, _, upd_same, t.set (hw.mono (e3.trans e4).bb) j⟩ (wr _).bh σ (f.mono x.bb)
/-- if, with what is behind it told once -/
theorem qx_ifJ {ι : Type} (G : ι → List (Option AV)) (R : ι → Hp → Hp → Prop) (h : Gt t Γ B H b)
    (h1 : (∀ x B2 H2, R x B2 H2 → Sx tz D (G x) B2 H2) → b = true → ∀ B2 H2, Ext B H B2 H2 → Sx tu { D with nx := tz D } Γ B2 H2)
    (h2 : (∀ x B2 H2, R x B2 H2 → Sx tz D (G x) B2 H2) → b = false → ∀ B2 H2, Ext B H B2 H2 → Sx tw { D with nx := tz D } Γ B2 H2)
    (k : ∀ x B2 H2, R x B2 H2 → Sx tz D (G x) B2 H2) : Sx (tSeq (tIfS t tu tw) tz) D Γ B H := qx_if h (h1 k) (h2 k)
theorem gi_nil : Ga tNil Γ B H ((([] : List Int).map PyData.int).map AV.d) := ga_nil
theorem gi_cons {tr : TA} {k : Int} {ks : List Int} (h : Gv ta Γ B H (AI k)) (hr : Ga tr Γ B H ((ks.map PyData.int).map AV.d)) : Ga (tCons ta tr) Γ B H (((k :: ks).map PyData.int).map AV.d) := ga_cons h hr
/-! ### the script, as it is handed in -/
theorem gt_truSq (h : Gv ta Γ B H (.v (.ref a))) (s : SqL K H a (ns.map V.int)) : Gt (tTru K ta) Γ B H (!ns.isEmpty) := fun B1 H1 σ e f Q q => h B1 H1 σ e f _ fun u B2 H2 e2 hu => by
  have hu : u = .ref a := hu
  subst hu
  refine ⟨!ns.isEmpty, .inl ⟨_, (e.trans e2).hh.seq s, ?_⟩, q B2 H2 e2⟩
  cases ns <;> rfl
theorem rc_lenSq (s : SqL K H a (ns.map V.int)) : Rc (rLenK K) B H [.v (.ref a)] (AI ns.length) := fun B1 H1 us e hu Q q => by
  have := isAll_v (cs := [.ref a]) hu
  subst this
  refine ⟨a, _, rfl, .inl (e.hh.seq s), ?_⟩
  rw [List.length_map]
  exact q _ B1 H1 (Ext.refl e.bh) (.int _)
theorem ro_ixSq {k : Int} (s : SqL K H a (ns.map V.int)) (h : atI (ns.map V.int) k = some (.int n)) : Ro (rIxL K) B H (.v (.ref a)) (AI k) (AI n) := fun B1 H1 u w e hu hw Q q => by
  cases hw
  have hu : u = .ref a := hu
  subst hu
  exact ⟨a, _, k, .int n, rfl, rfl, e.hh.seq s, h, q _ B1 H1 (Ext.refl e.bh) (.int _)⟩
end
theorem atI_some {α : Type} {xs : List α} {k : Int} (h0 : 0 ≤ k) (h1 : k < xs.length) : ∃ x ∈ xs, atI xs k = some x := by
  have : atI xs k = xs[k.toNat]? := by
    unfold atI ixN
    rw [if_pos h0, if_pos h1]
    rfl
  have l : k.toNat < xs.length := by omega
  exact ⟨xs[k.toNat], List.getElem_mem l, by rw [this]; exact List.getElem?_eq_getElem l⟩
theorem menu (xs : List Int) (k : Int) (h : 0 < xs.length) : ∃ n ∈ xs, atI (xs.map PyData.int) (k % (xs.length : Int)) = some (.int n) := by
  have h0 : (0 : Int) ≤ k % (xs.length : Int) := Int.emod_nonneg _ (by omega)
  have h1 : k % (xs.length : Int) < xs.length := Int.emod_lt_of_pos _ (by omega)
  obtain ⟨x, hx, e⟩ := atI_some (xs := xs.map PyData.int) h0 (by rw [List.length_map]; exact h1)
  obtain ⟨n, hn, rfl⟩ := List.mem_map.mp hx
  exact ⟨n, hn, e⟩
theorem menuV (xs : List Int) (k : Int) (h : 0 < xs.length) : ∃ n ∈ xs, atI (xs.map V.int) (k % (xs.length : Int)) = some (.int n) := by
  have h0 : (0 : Int) ≤ k % (xs.length : Int) := Int.emod_nonneg _ (by omega)
  have h1 : k % (xs.length : Int) < xs.length := Int.emod_lt_of_pos _ (by omega)
  obtain ⟨x, hx, e⟩ := atI_some (xs := xs.map V.int) h0 (by rw [List.length_map]; exact h1)
  obtain ⟨n, hn, rfl⟩ := List.mem_map.mp hx
  exact ⟨n, hn, e⟩
end SB
namespace SB
open PySem PySem.Spec PyProof.Rows L2
open Enc (enc)
section
variable {K : PySem.W.Frag} {Γ Δ : List (Option AV)} {B H : Hp} {g x y z : AV} {te ta tb tc tv ti : TE} {t u : TT} {b c : Bool} {i j : Nat} {D : Ends} {tz tu tw : TS} {ds es : List PyData} {d : PyData} {a p C dx : Addr} {v : V} {ns : List Int} {n : Int}
/-! ### an own list, looked at as data -/
/-- an answer that is no object -/
def Sc (z : AV) : Prop := ∀ (B B' : Hp) (u : V), Is B u z → Is B' u z
theorem sc_int : Sc (AI n) := fun _ _ _ h => by cases h; exact .int _
theorem sc_bl : Sc (AB b) := fun _ _ _ h => by cases h; exact .bl _
theorem sc_str {s : Str} : Sc (AS s) := fun _ _ _ h => by cases h; exact .str _
theorem sc_non : Sc AN := fun _ _ _ h => by cases h; exact .non
theorem fr_own {σ : L2.St} {us : List V} (hb : B p = none) (t : DqAll B us ds) (hi : Γ[i]? = some (some (.v (.ref p)))) (f : Fr B σ Γ) : Fr (upd B p (.lst us)) σ (Γ.set i (some (.d (.list ds)))) := by
  have s : Same B (upd B p (.lst us)) := fun c o q => by rw [upd_ne (ne_of_none q hb)]; exact q
  refine ⟨by rw [List.length_set]; exact f.1, fun k g q => ?_⟩
  by_cases e : i = k
  · subst e
    rw [List.getElem?_set_self (List.getElem?_eq_some_iff.mp hi).1] at q
    cases q
    obtain ⟨u, h1, h2⟩ := f.2 i _ hi
    have h2 : u = .ref p := h2
    subst h2
    exact ⟨_, h1, .lst upd_same (t.mono s)⟩
  · rw [List.getElem?_set_ne e] at q
    obtain ⟨u, h1, h2⟩ := f.2 k g q
    exact ⟨u, h1, h2.mono s⟩
theorem same_own {us : List V} (e : Same B H) (hp : H p = some (.lst us)) : Same (upd B p (.lst us)) H := fun c o q => by
  by_cases z : c = p
  · subst z
    rw [upd_same] at q
    rw [hp]
    exact q
  · rw [upd_ne z] at q
    exact e _ _ q
theorem gv_own (m : Ml B H p ds) (hi : Γ[i]? = some (some (.v (.ref p)))) (hz : Sc z) (h : ∀ B1 H1, Same B B1 → Same H H1 → Gv te (Γ.set i (some (.d (.list ds)))) B1 H1 z) : Gv te Γ B H z := fun B1 H1 σ e f Q q => by
  obtain ⟨hb, us, hp, t⟩ := m.ext e
  have s1 : Same B1 (upd B1 p (.lst us)) := fun c o q => by rw [upd_ne (ne_of_none q hb)]; exact q
  refine h (upd B1 p (.lst us)) H1 (e.bb.trans s1) e.hh _ H1 σ (Ext.refl (same_own e.bh hp)) (fr_own hb t hi f) Q fun u B2 H2 x hu => ?_
  exact q u B1 H2 ⟨Same.refl _, e.bh.trans x.hh, x.hh, fun _ h => .inl h⟩ (hz _ _ _ hu)
theorem gt_own (m : Ml B H p ds) (hi : Γ[i]? = some (some (.v (.ref p)))) (h : ∀ B1 H1, Same B B1 → Same H H1 → Gt t (Γ.set i (some (.d (.list ds)))) B1 H1 b) : Gt t Γ B H b := fun B1 H1 σ e f Q q => by
  obtain ⟨hb, us, hp, t⟩ := m.ext e
  have s1 : Same B1 (upd B1 p (.lst us)) := fun c o q => by rw [upd_ne (ne_of_none q hb)]; exact q
  refine h (upd B1 p (.lst us)) H1 (e.bb.trans s1) e.hh _ H1 σ (Ext.refl (same_own e.bh hp)) (fr_own hb t hi f) Q fun B2 H2 x => ?_
  exact q B1 H2 ⟨Same.refl _, e.bh.trans x.hh, x.hh, fun _ h => .inl h⟩
theorem gm_catO (m : Ml B H p ds) (ha : Gv ta Γ B H (.v (.ref p))) (hb : Gv tb Γ B H (.d (.list es))) (hz : ds.length + es.length ≤ 16000000) : Gm (tOp rCat ta tb) Γ B H (ds ++ es) := fun B1 H1 σ e f Q q =>
  ha B1 H1 σ e f _ fun u B2 H2 e2 hu => hb B2 H2 σ (e.trans e2) (f.mono e2.bb) _ fun w B3 H3 e3 hw => by
    have hu : u = .ref p := hu
    subst hu
    obtain ⟨_, us, hp, t⟩ := m.ext ((e.trans e2).trans e3)
    cases hw with
    | lst h' t' =>
      refine ⟨_, _, _, _, rfl, rfl, hp, e3.bh _ _ h', sz (by rw [t.length, t'.length]; exact hz), fun l hl => ?_⟩
      have e23 := e2.trans e3
      exact q l B3 _ (e23.trans (Ext.out e3.bh hl)) (e23.hh.free hl) ⟨e3.bh.free hl, _, upd_same, t.append t'⟩
/-! ### loops whose slots are told by more than the turn -/
def Lx {ι : Type} (Bs : Hp) (G : ι → List (Option AV)) (P : ι → Hp → Hp → Prop) : L2.St → Hp → Prop := fun σ H => ∃ (x : ι) (B : Hp), Same Bs B ∧ Same B H ∧ P x B H ∧ Fr B σ (G x)
theorem sx_lx {ι : Type} {G : ι → List (Option AV)} {P : ι → Hp → Hp → Prop} {Bs : Hp} {rt : VK} {bk ct : L2.St → Hp → Prop} (x : ι) (s : Same Bs B) (l : Le (G x) Γ) (p : P x B H) : Sx tNext { nx := Lx Bs G P, rt := rt, bk := bk, ct := ct } Γ B H := fun e σ f => ⟨x, B, s, e, p, f.le l⟩
theorem sx_cx {ι : Type} {G : ι → List (Option AV)} {P : ι → Hp → Hp → Prop} {Bs : Hp} {rt : VK} {nx bk : L2.St → Hp → Prop} (x : ι) (s : Same Bs B) (l : Le (G x) Γ) (p : P x B H) : Sx (tSeq tCont tz) { nx := nx, rt := rt, bk := bk, ct := Lx Bs G P } Γ B H := fun e σ f => ⟨x, B, s, e, p, f.le l⟩
theorem qx_forDE {ι α : Type} [DecidableEq α] [Enc α] {xs : List α} {tl : TE} (h : Gv tl Γ B H (.d (.list (xs.map enc)))) (G : ι → List (Option AV)) (P : Nat → ι → Hp → Hp → Prop) (x0 : ι) (hl : Le (G x0) Γ) (h0 : ∀ B1 H1, Ext B H B1 H1 → P 0 x0 B1 H1)
    (hs : ∀ Bs k a x B1 H1, xs[k]? = some a → Same B Bs → Same Bs B1 → P k x B1 H1 → Sx tu { D with nx := Lx Bs G (P (k + 1)), ct := Lx Bs G (P (k + 1)), bk := tz D } ((G x).set j (some (.d (enc a)))) B1 H1)
    (hd : ∀ x B1 H1, Same B B1 → P xs.length x B1 H1 → Sx tz D (G x) B1 H1) : Sx (tSeq (tFor (iList K tl) (gName j) tu) tz) D Γ B H := fun e σ f =>
  h B H σ (Ext.refl e) f _ fun u Bs Hs x hu => by
    cases hu with
    | @lst a us _ hp t =>
      have hlen : us.length = xs.length := by rw [t.length, List.length_map]
      refine ⟨a, rfl, ⟨_, SqL.of (x.bh _ _ hp)⟩, for_list (K := K) (a := a) (xs := us) (D := { D with nx := tz D }) (fun k => Lx Bs G (P k)) ⟨x0, Bs, Same.refl _, x.bh, h0 Bs Hs x, (f.mono x.bb).le hl⟩ ?_ ?_ ?_⟩
      · rintro k σ' H' _ ⟨_, B', s1, s2, _, _⟩
        exact SqL.of (s2 _ _ (s1 _ _ hp))
      · rintro k v σ' H' hk ⟨y, B', s1, s2, p, f'⟩
        obtain ⟨d, hd1, hd2⟩ := t.getV hk
        rw [List.getElem?_map] at hd1
        cases q : xs[k]? with
        | none => rw [q] at hd1; cases hd1
        | some a' =>
          rw [q] at hd1
          cases hd1
          exact hs Bs k a' y B' H' q x.bb s1 p s2 _ (f'.set (g := .d (enc a')) j (hd2.mono s1))
      · rintro σ' H' ⟨y, B', s1, s2, p, f'⟩
        rw [hlen] at p
        exact hd y B' H' (x.bb.trans s1) p s2 σ' f'
theorem qx_forTE {ι α : Type} [DecidableEq α] [Enc α] {xs : List α} {tl : TE} (h : Gv tl Γ B H (.d (.tuple (xs.map enc)))) (G : ι → List (Option AV)) (P : Nat → ι → Hp → Hp → Prop) (x0 : ι) (hl : Le (G x0) Γ) (h0 : ∀ B1 H1, Ext B H B1 H1 → P 0 x0 B1 H1)
    (hs : ∀ Bs k a x B1 H1, xs[k]? = some a → Same B Bs → Same Bs B1 → P k x B1 H1 → Sx tu { D with nx := Lx Bs G (P (k + 1)), ct := Lx Bs G (P (k + 1)), bk := tz D } ((G x).set j (some (.d (enc a)))) B1 H1)
    (hd : ∀ x B1 H1, Same B B1 → P xs.length x B1 H1 → Sx tz D (G x) B1 H1) : Sx (tSeq (tFor (iTup K tl) (gName j) tu) tz) D Γ B H := fun e σ f =>
  h B H σ (Ext.refl e) f _ fun u Bs Hs x hu => by
    cases hu with
    | @tup a us _ hp t =>
      have hlen : us.length = xs.length := by rw [t.length, List.length_map]
      refine ⟨a, rfl, ⟨_, SqT.of (x.bh _ _ hp)⟩, for_tup (K := K) (a := a) (xs := us) (D := { D with nx := tz D }) (fun k => Lx Bs G (P k)) ⟨x0, Bs, Same.refl _, x.bh, h0 Bs Hs x, (f.mono x.bb).le hl⟩ ?_ ?_ ?_⟩
      · rintro k σ' H' _ ⟨_, B', s1, s2, _, _⟩
        exact SqT.of (s2 _ _ (s1 _ _ hp))
      · rintro k v σ' H' hk ⟨y, B', s1, s2, p, f'⟩
        obtain ⟨d, hd1, hd2⟩ := t.getV hk
        rw [List.getElem?_map] at hd1
        cases q : xs[k]? with
        | none => rw [q] at hd1; cases hd1
        | some a' =>
          rw [q] at hd1
          cases hd1
          exact hs Bs k a' y B' H' q x.bb s1 p s2 _ (f'.set (g := .d (enc a')) j (hd2.mono s1))
      · rintro σ' H' ⟨y, B', s1, s2, p, f'⟩
        rw [hlen] at p
        exact hd y B' H' (x.bb.trans s1) p s2 σ' f'
theorem qx_forRE {ι : Type} {ta : TA} {n : Int} (h : Ga ta Γ B H [AI n]) (hn : n ≤ 1000000) (hn0 : -1000000 ≤ n) (G : ι → List (Option AV)) (P : Nat → ι → Hp → Hp → Prop) (x0 : ι) (hl : Le (G x0) Γ) (h0 : ∀ B1 H1, Ext B H B1 H1 → P 0 x0 B1 H1)
    (hs : ∀ Bs (k : Nat) x B1 H1, k < n.toNat → Same B Bs → Same Bs B1 → P k x B1 H1 → Sx tu { D with nx := Lx Bs G (P (k + 1)), ct := Lx Bs G (P (k + 1)), bk := tz D } ((G x).set j (some (AI (k : Int)))) B1 H1)
    (hd : ∀ x B1 H1, Same B B1 → P n.toNat x B1 H1 → Sx tz D (G x) B1 H1) : Sx (tSeq (tFor (iRng1 ta) (gName j) tu) tz) D Γ B H := fun e σ f =>
  h B H σ (Ext.refl e) f _ fun us Bs Hs x hu => by
    cases hu with
    | cons hu t =>
      cases t
      cases hu
      refine ⟨n, rfl, by omega, by omega, for_range (lo := 0) (n := n.toNat) (D := { D with nx := tz D }) (fun k => Lx Bs G (P k)) ⟨x0, Bs, Same.refl _, x.bh, h0 Bs Hs x, (f.mono x.bb).le hl⟩ ?_ ?_⟩
      · rintro k σ' H' hk ⟨y, B', s1, s2, p, f'⟩
        have e0 : (0 : Int) + (k : Int) = (k : Int) := Int.zero_add _
        show gName j (V.int ((0 : Int) + (k : Int))) σ' H' _
        rw [e0]
        exact hs Bs k y B' H' hk x.bb s1 p s2 _ (f'.set (g := AI (k : Int)) j (.int _))
      · rintro σ' H' ⟨y, B', s1, s2, p, f'⟩
        exact hd y B' H' (x.bb.trans s1) p s2 σ' f'
/-! ### a call that could raise and does not -/
def xNo : XK := fun _ _ _ => False
theorem passF {X : Cx} : Passes (L2.CX X.prog X.w) X xNo := fun pins σ H s e s' I c => by
  obtain ⟨_, _, _, _, _, _, _, _, _, _, _, _, h⟩ := c
  exact h.elim
theorem gv_callR {T : Type} {args : T → List AV} {pre : T → Hp → Hp → Prop} {res : T → Except Addr AV} {E : XK} {tr : TA} (a : T) (h : Ga tr Γ B H (args a)) (hp : ∀ B1 H1, Ext B H B1 H1 → pre a B1 H1) (hr : res a = .ok z) : Gv (tCall (spR args pre res) [] E tr) Γ B H z := fun B1 H1 σ e f Q q =>
  gx_call (E := E) a h hp B1 H1 σ e f Q (fun u B2 H2 g hg x hu => by rw [hr] at hg; cases hg; exact q u B2 H2 x hu) fun B2 H2 c hc x => by rw [hr] at hc; cases hc
/-! ### a promise of some answer -/
def spX {T : Type} (args : T → List AV) (pre : T → Hp → Hp → Prop) (R : T → AV → Prop) : Sp := fun vs H Q _ =>
  ∃ (a : T) (B : Hp), Same B H ∧ IsAll B vs (args a) ∧ pre a B H ∧ ∀ u B2 H2 g, R a g → Ext B H B2 H2 → Is B2 u g → Q u H2
theorem qx_asgE {T : Type} {args : T → List AV} {pre : T → Hp → Hp → Prop} {R : T → AV → Prop} {E : XK} {tr : TA} (a : T) (h : Ga tr Γ B H (args a)) (hp : ∀ B1 H1, Ext B H B1 H1 → pre a B1 H1)
    (k : ∀ g B2 H2, R a g → Ext B H B2 H2 → Sx tz D (Γ.set i (some g)) B2 H2) : Sx (tSeq (tAsg (tCall (spX args pre R) [] E tr) (gName i)) tz) D Γ B H := fun e σ f =>
  h B H σ (Ext.refl e) f _ fun us B2 H2 e2 hu => ⟨a, B2, e2.bh, by rw [List.append_nil]; exact hu, hp B2 H2 e2, fun u B3 H3 g hg e3 h3 => k g B3 H3 hg (e2.trans e3) (e2.trans e3).bh _ ((f.mono (e2.trans e3).bb).set i h3)⟩
end
section
variable {P : Program} {w : World} {K : PySem.W.Frag} {mg : Str → Option Value} {base : Heap} {x qual : Str} {st : Stmt} {f : Addr} {fd : FuncData} {N ps : List Str} {k : Nat} {T : Type}
theorem fn_X {args : T → List AV} {pre : T → Hp → Hp → Prop} {R : T → AV → Prop} (F : Fun K x qual st f fd) (S : FnScope N ps (defScope st)) (hl : ∀ a, (args a).length = ps.length)
    (body : ∀ (cdv : Value) (A : Around) (outer : List Env) (s : Shared) (H : Hp) (Q : VK) (E : XK), Room k (A.deeper (envOfC qual (defScope st) s.heap.objs.size f cdv)) →
      ∃ t, PSs (cxOf CX0 P w K mg base N qual (defScope st) f cdv A outer s H E).nox (defBody st) t ∧ ∀ (a : T) (B : Hp), Same B H → pre a B H → (∀ u B2 H2 g, R a g → Ext B H B2 H2 → Is B2 u g → Q u H2) → Sx t { nx := fun _ H' => Q .non H', rt := Q } (Γ0 N (args a)) B H) :
    FnOk P w K mg base CX0 (k + 1) f fd ps (spX args pre R) := by
  refine F.ok S (fun vs H Q E h => ?_) (fun cdv A outer s H vs Q E hr h => ?_)
  · obtain ⟨a, B, _, i, _⟩ := h
    rw [i.length, hl]
  · obtain ⟨a, B, e, i, p, q⟩ := h
    obtain ⟨t, h1, h2⟩ := body cdv A outer s H Q E hr
    refine ⟨t, h1, h2 a B e p q e _ (fr_start i ?_)⟩
    rw [i.length, hl]
    exact take_len S.pre
end
section
variable {K : PySem.W.Frag} {Γ : List (Option AV)} {B H : Hp} {d : PyData} {b : Bool}
/-! ### isinstance of data -/
theorem ro_notInTI {n : Int} {ns : List Int} : Ro (rIn K true) B H (AI n) (.d (.tuple (ns.map PyData.int))) (AB (!decide (n ∈ ns))) := by
  have h := ro_notInT (K := K) (B := B) (H := H) (d := .int n) (ds := ns.map PyData.int) rfl (flat_ints ns)
  rw [any_ints] at h
  exact h
theorem call_isiQ {X : Cx} {K : PySem.W.Frag} (h : X.K = K) : CallR X (.builtin "isinstance") (rIsi K) := by subst h; exact call_isi
def tyD : PyData → Option String
  | .none => some "NoneType"
  | .bool _ => some "bool"
  | .int _ => some "int"
  | .str _ => some "str"
  | .list _ => some "list"
  | .tuple _ => some "tuple"
  | _ => none
theorem ty_dq {u : V} {t : String} (h : Dq B u d) (e : tyD d = some t) (s : Same B H) : TyX K H u (.type t) := by
  cases h <;> cases e
  · exact .base .non
  · exact .base (.bl _)
  · exact .base (.int _)
  · exact .base (.str _)
  · rename_i h1 h2; exact .base (.lst (s _ _ h1))
  · rename_i h1 h2; exact .base (.tup (s _ _ h1))
theorem rc_isD {t n : String} (e : tyD d = some t) (k : kitB t n = some b) : Rc (rIsi K) B H [.d d, .v (.ty n)] (AB b) := fun B1 H1 us e1 hu Q q => by
  cases hu with
  | cons h1 hu =>
    cases hu with
    | cons h2 hu =>
      cases hu
      have h2 := h2
      subst h2
      exact ⟨_, _, .type t, .type n, b, rfl, .ty n, ty_dq h1 e e1.bh, kit_ty k, q _ B1 H1 (Ext.refl e1.bh) (.bl _)⟩
end
end SB
namespace SB
/-! ### a yard's joints, as the law draws them -/
def jN (m : Int) (i : Nat) : Int := (m + 37 * (i : Int)) % 1000
theorem jN_inj {m : Int} {i k : Nat} (hi : i < 1000) (hk : k < 1000) (h : jN m i = jN m k) : i = k := by
  unfold jN at h
  omega
theorem jN_rng (m : Int) (i : Nat) : 0 ≤ jN m i ∧ jN m i ≤ 999 := by
  unfold jN
  omega
structure PInv (m : Int) (all loose : List Int) (many : Nat) : Prop where
  frm : ∀ j ∈ all, ∃ i, i < many ∧ j = jN m i
  two : ∀ j, all.count j ≤ 2
  one : ∀ j ∈ loose, all.count j = 1
structure EInv (m : Int) (all loose es : List Int) (many : Nat) : Prop where
  frm : ∀ j ∈ all, ∃ i, i < many ∧ j = jN m i
  fre : ∀ j ∈ es, ∃ i, i < many ∧ j = jN m i
  nd : es.Nodup
  cnt : ∀ j ∈ es, j ∈ loose ∨ all.count j = 0
theorem PInv.nil {m : Int} : PInv m [] [] 0 := ⟨fun j h => by simp at h, fun j => by simp, fun j h => by simp at h⟩
theorem PInv.start {m : Int} {all loose : List Int} {many : Nat} (p : PInv m all loose many) : EInv m all loose [] many := ⟨p.frm, fun j h => by simp at h, List.nodup_nil, fun j h => by simp at h⟩
theorem nd_snoc {es : List Int} {j : Int} (h : es.Nodup) (n : j ∉ es) : (es ++ [j]).Nodup := by
  rw [List.nodup_append]
  refine ⟨h, by simp, fun a ha b hb e => ?_⟩
  simp at hb
  subst hb
  subst e
  exact n ha
theorem EInv.pick {m : Int} {all loose es : List Int} {many n0 : Nat} (p : PInv m all loose n0) (e : EInv m all loose es many) {j : Int} (h : j ∈ loose) (n : j ∉ es) : EInv m all loose (es ++ [j]) many := by
  have hj : j ∈ all := List.count_pos_iff.mp (by rw [p.one j h]; decide)
  refine ⟨e.frm, fun k hk => ?_, nd_snoc e.nd n, fun k hk => ?_⟩
  · rcases List.mem_append.mp hk with h1 | h1
    · exact e.fre k h1
    · simp at h1
      subst h1
      exact e.frm _ hj
  · rcases List.mem_append.mp hk with h1 | h1
    · exact e.cnt k h1
    · simp at h1
      subst h1
      exact .inl h
theorem EInv.fresh {m : Int} {all loose es : List Int} {many : Nat} (e : EInv m all loose es many) (h : many < 999) : EInv m all loose (es ++ [jN m many]) (many + 1) := by
  have n1 : jN m many ∉ all := fun q => by
    obtain ⟨i, hi, e1⟩ := e.frm _ q
    have := jN_inj (by omega) (by omega) e1
    omega
  have n2 : jN m many ∉ es := fun q => by
    obtain ⟨i, hi, e1⟩ := e.fre _ q
    have := jN_inj (by omega) (by omega) e1
    omega
  refine ⟨fun j hj => ?_, fun j hj => ?_, nd_snoc e.nd n2, fun j hj => ?_⟩
  · obtain ⟨i, hi, e1⟩ := e.frm j hj
    exact ⟨i, by omega, e1⟩
  · rcases List.mem_append.mp hj with h1 | h1
    · obtain ⟨i, hi, e1⟩ := e.fre j h1
      exact ⟨i, by omega, e1⟩
    · simp at h1
      exact ⟨many, by omega, h1⟩
  · rcases List.mem_append.mp hj with h1 | h1
    · exact e.cnt j h1
    · simp at h1
      subst h1
      exact .inr (List.count_eq_zero.mpr n1)
theorem PInv.next {m : Int} {all loose es : List Int} {n0 many : Nat} (p : PInv m all loose n0) (e : EInv m all loose es many) :
    PInv m (all ++ es) ((es.filter fun j => !decide (j ∈ loose)) ++ loose.filter fun j => !decide (j ∈ es)) many := by
  have c1 : ∀ j, es.count j ≤ 1 := List.nodup_iff_count.mp e.nd
  refine ⟨fun j hj => ?_, fun j => ?_, fun j hj => ?_⟩
  · rcases List.mem_append.mp hj with h1 | h1
    · exact e.frm j h1
    · exact e.fre j h1
  · rw [List.count_append]
    by_cases h : j ∈ es
    · have := c1 j
      rcases e.cnt j h with h1 | h1
      · have := p.one j h1
        omega
      · omega
    · have := p.two j
      have := List.count_eq_zero.mpr h
      omega
  · rw [List.count_append]
    rcases List.mem_append.mp hj with h1 | h1
    · obtain ⟨h2, h3⟩ := List.mem_filter.mp h1
      have h3 : j ∉ loose := by simpa using h3
      have h4 : es.count j = 1 := by
        have := c1 j
        have := List.count_pos_iff.mpr h2
        omega
      rcases e.cnt j h2 with h5 | h5
      · exact absurd h5 h3
      · omega
    · obtain ⟨h2, h3⟩ := List.mem_filter.mp h1
      have h3 : j ∉ es := by simpa using h3
      have := p.one j h2
      have := List.count_eq_zero.mpr h3
      omega
end SB
namespace SB
open PySem PySem.Spec PyProof.Rows L2
open Enc (enc)
/-! ### a told list of pairs (number, own list) -/
structure Told (B H : Hp) (t : Addr) (ps ls : List Addr) (rs : List (Int × List PyData)) : Prop where
  ht : H t = some (.lst (ps.map V.ref))
  bt : B t = none
  hp : ps.length = rs.length
  hl : ls.length = rs.length
  nd : ls.Nodup
  tl : t ∉ ls
  el : ∀ (i : Nat) (r : Int × List PyData), rs[i]? = some r → ∃ p l, ps[i]? = some p ∧ ls[i]? = some l ∧ H p = some (.tup [.int r.1, .ref l]) ∧ B p = none ∧ Ml B H l r.2
def pairD (r : Int × List PyData) : PyData := .tuple [.int r.1, .list r.2]
section
variable {K : PySem.W.Frag} {Γ Δ : List (Option AV)} {B H : Hp} {g x y z : AV} {te ta tb tc tv ti tl : TE} {t u : TT} {b c : Bool} {i j : Nat} {D : Ends} {tz tu tw : TS} {ds es : List PyData} {d : PyData} {a p C dx : Addr} {v : V} {ns : List Int} {n : Int}
theorem gm_list (h : Gv ta Γ B H (.d (.list ds))) : Gm (tCB (fun xs H Q => ∃ p ys, xs = [.ref p] ∧ (SqL K H p ys ∨ SqT K H p ys) ∧ ∀ l, H l = none → Q (.ref l) (upd H l (.lst ys))) (tCons ta tNil)) Γ B H ds := fun B1 H1 σ e f Q q =>
  h B1 H1 σ e f _ fun u B2 H2 x hu => by
    cases hu with
    | lst hp t => exact ⟨_, _, rfl, .inl (SqL.of (x.bh _ _ hp)), fun l hl => q l B2 _ (x.trans (Ext.out x.bh hl)) (x.hh.free hl) ⟨x.bh.free hl, _, upd_same, t⟩⟩
theorem dqAll_ix {B : Hp} : ∀ {us : List V} {ds : List PyData}, us.length = ds.length → (∀ (i : Nat) (u : V) (d : PyData), us[i]? = some u → ds[i]? = some d → Dq B u d) → DqAll B us ds
  | [], [], _, _ => .nil
  | [], _ :: _, h, _ => by simp at h
  | _ :: _, [], h, _ => by simp at h
  | u :: us, d :: ds, h, k => .cons (k 0 u d rfl rfl) (dqAll_ix (by simpa using h) fun i u d h1 h2 => k (i + 1) u d (by simpa using h1) (by simpa using h2))
theorem Told.give {B0 H0 : Hp} {tt : Addr} {ps ls : List Addr} {rs : List (Int × List PyData)} (T : Told B H tt ps ls rs) (x : Ext B0 H0 B H) (h1 : H0 tt = none) (h2 : ∀ p ∈ ps, H0 p = none) (h3 : ∀ l ∈ ls, H0 l = none) :
    ∃ B', Ext B0 H0 B' H ∧ Same B B' ∧ Dq B' (.ref tt) (.list (rs.map pairD)) := by
  let N : Addr → Prop := fun a => a = tt ∨ a ∈ ps ∨ a ∈ ls
  have bN : ∀ a, N a → B a = none := by
    rintro a (e | m | m)
    · rw [e]; exact T.bt
    · obtain ⟨i, hi⟩ := List.mem_iff_getElem?.mp m
      have hlt : i < rs.length := by rw [← T.hp]; exact (List.getElem?_eq_some_iff.mp hi).1
      obtain ⟨p, l, h4, _, _, h5, _⟩ := T.el i _ (List.getElem?_eq_getElem hlt)
      rw [hi] at h4
      cases h4
      exact h5
    · obtain ⟨i, hi⟩ := List.mem_iff_getElem?.mp m
      have hlt : i < rs.length := by rw [← T.hl]; exact (List.getElem?_eq_some_iff.mp hi).1
      obtain ⟨p, l, _, h4, _, _, h5⟩ := T.el i _ (List.getElem?_eq_getElem hlt)
      rw [hi] at h4
      cases h4
      exact h5.1
  have fN : ∀ a, N a → H0 a = none := by
    rintro a (e | m | m)
    · rw [e]; exact h1
    · exact h2 a m
    · exact h3 a m
  haveI : DecidablePred N := fun a => Classical.propDecidable _
  refine ⟨fun a => if N a then H a else B a, ⟨fun a o q => ?_, fun a o q => ?_, x.hh, fun a q => ?_⟩, fun a o q => ?_, ?_⟩
  · have q1 := x.bb _ _ q
    show (if N a then H a else B a) = some o
    rw [if_neg fun z => by rw [bN a z] at q1; cases q1]
    exact q1
  · have q : (if N a then H a else B a) = some o := q
    split at q
    · exact q
    · exact x.bh _ _ q
  · have q : (if N a then H a else B a) ≠ none := q
    split at q
    · rename_i z; exact .inr (fN a z)
    · exact x.fr a q
  · show (if N a then H a else B a) = some o
    rw [if_neg fun z => by rw [bN a z] at q; cases q]
    exact q
  · have sB : Same B (fun a => if N a then H a else B a) := fun a o q => by
      show (if N a then H a else B a) = some o
      rw [if_neg fun z => by rw [bN a z] at q; cases q]
      exact q
    refine .lst (by show (if N tt then H tt else B tt) = _; rw [if_pos (Or.inl rfl)]; exact T.ht) (dqAll_ix (by rw [List.length_map, List.length_map]; exact T.hp) fun i u d hu hd => ?_)
    rw [List.getElem?_map] at hu hd
    cases er : rs[i]? with
    | none => rw [er] at hd; cases hd
    | some r =>
      rw [er] at hd
      cases hd
      obtain ⟨p, l, hpi, hli, hp, _, hm⟩ := T.el i r er
      rw [hpi] at hu
      cases hu
      obtain ⟨_, us, hl, tq⟩ := hm
      refine .tup (xs := [.int r.1, .ref l]) (by show (if N p then H p else B p) = _; rw [if_pos (Or.inr (Or.inl (List.mem_of_getElem? hpi)))]; exact hp) (.cons (.int _) (.cons (.lst (xs := us) ?_ (tq.mono sB)) .nil))
      show (if N l then H l else B l) = _
      rw [if_pos (Or.inr (Or.inr (List.mem_of_getElem? hli)))]
      exact hl
/-- [(e1, list(e2)) for .. in ..]: new all through -/
theorem gn_told {α : Type} [DecidableEq α] [Enc α] {xs : List α} {vs : List Nat} (f : α → Int × List PyData) (h : Gv tl Γ B H (.d (.list (xs.map enc)))) (hz : xs.length < 16000000) (hv : j ∈ vs) (hnd : vs.Nodup)
    (ha : ∀ a ∈ xs, ∀ B1 H1, Ext B H B1 H1 → Gv ta ((Ow Γ vs).set j (some (.d (enc a)))) B1 H1 (AI (f a).1)) (hb : ∀ a ∈ xs, ∀ B1 H1, Ext B H B1 H1 → Gm tb ((Ow Γ vs).set j (some (.d (enc a)))) B1 H1 (f a).2) :
    ∀ B1 H1 σ, Ext B H B1 H1 → Fr B1 σ Γ → ∀ Q : VK, (∀ t ps ls B2 H2, Ext B1 H1 B2 H2 → H1 t = none → (∀ p ∈ ps, H1 p = none) → (∀ l ∈ ls, H1 l = none) → Told B2 H2 t ps ls (xs.map f) → Q (.ref t) H2) →
      tLc (iList K tl) (gName j) tYes (tTup (tCons ta (tCons tb tNil))) vs σ H1 Q := fun B0 H0 σ e fr Q q =>
  h B0 H0 σ e fr _ fun u Bs Hs x hu => by
    cases hu with
    | @lst a us _ hp tq =>
      have hlen : us.length = xs.length := by rw [tq.length, List.length_map]
      refine ⟨a, rfl, ⟨_, SqL.of (x.bh _ _ hp)⟩, fun Dl hD => ?_⟩
      have hbs : Bs Dl = none := x.bh.free hD
      refine lc_list (K := K) (xs := us) (fun k H' => ∃ B' ps ls, Same Bs B' ∧ Ext Bs Hs B' H' ∧ (∀ p ∈ ps, Hs p = none) ∧ (∀ l ∈ ls, Hs l = none) ∧ Told B' H' Dl ps ls ((xs.take k).map f))
        ⟨Bs, [], [], Same.refl _, Ext.out x.bh hD, fun p h => by simp at h, fun p h => by simp at h, ⟨upd_same, hbs, rfl, rfl, List.nodup_nil, by simp, fun i r h => by simp at h⟩⟩ ?_ ?_ ?_
      · rintro k H' _ ⟨B', _, _, s1, x', _⟩
        exact SqL.of (x'.bh _ _ (s1 _ _ hp))
      · rintro k v H' hk ⟨B', ps, ls, s1, x', f1, f2, T⟩
        obtain ⟨d, hd1, hd2⟩ := tq.getV hk
        rw [List.getElem?_map] at hd1
        cases qk : xs[k]? with
        | none => rw [qk] at hd1; cases hd1
        | some a' =>
          rw [qk] at hd1
          cases hd1
          have hmem : a' ∈ xs := List.mem_of_getElem? qk
          have hkl := (List.getElem?_eq_some_iff.mp qk).1
          have htake : (xs.take (k + 1)).map f = (xs.take k).map f ++ [f a'] := by
            rw [List.take_add_one, qk, List.map_append]
            rfl
          have htl : ((xs.take k).map f).length = k := by rw [List.length_map, List.length_take]; omega
          have fr1 : Fr B' ((wipe σ vs).set j (some v)) ((Ow Γ vs).set j (some (.d (enc a')))) := ((fr.mono (x.bb.trans s1)).wipe vs).set (g := .d (enc a')) j (hd2.mono s1)
          have eB : Ext B0 H0 B' H' := x.trans x'
          refine ⟨wipe_set hv hnd, ?_⟩
          refine ha a' hmem B' H' (e.trans eB) B' H' _ (Ext.refl x'.bh) fr1 _ fun w1 B2 H2 x2 hw1 => ?_
          cases hw1
          refine hb a' hmem B2 H2 ((e.trans eB).trans x2) B2 H2 _ (Ext.refl x2.bh) (fr1.mono x2.bb) _ fun l B3 H3 x3 hl m3 => ?_
          refine ⟨(by show 2 ≤ sizeLine; exact sz (by decide)), fun p hp3 => ?_⟩
          have x4 : Ext B3 H3 B3 (upd H3 p (.tup [.int (f a').1, .ref l])) := Ext.out x3.bh hp3
          have xx := (x2.trans x3).trans x4
          have T4t := xx.hh _ _ T.ht
          refine ⟨_, T4t, szl ?_, B3, ps ++ [p], ls ++ [l], s1.trans (x2.bb.trans x3.bb), (x'.trans xx).mut hD (xx.off T.bt (by rw [T.ht]; simp)), ?_, ?_, ?_⟩
          · rw [List.length_map, T.hp, htl]
            omega
          · intro p' hp'
            rcases List.mem_append.mp hp' with h' | h'
            · exact f1 p' h'
            · simp at h'
              subst h'
              exact x'.hh.free (x2.hh.free (x3.hh.free hp3))
          · intro l' hl'
            rcases List.mem_append.mp hl' with h' | h'
            · exact f2 l' h'
            · simp at h'
              subst h'
              exact x'.hh.free (x2.hh.free hl)
          · have hl' : H' l = none := x2.hh.free hl
            have hp' : H' p = none := x2.hh.free (x3.hh.free hp3)
            have nDl : l ≠ Dl := fun z => by rw [z, T.ht] at hl'; cases hl'
            have nDp : p ≠ Dl := fun z => by rw [z, T.ht] at hp'; cases hp'
            have m4 := m3.ext x4
            refine ⟨by rw [upd_same, List.map_append]; rfl, xx.off T.bt (by rw [T.ht]; simp), by rw [htake, List.length_append, List.length_append, T.hp]; rfl, by rw [htake, List.length_append, List.length_append, T.hl]; rfl, ?_, ?_, fun i r hr => ?_⟩
            · rw [List.nodup_append]
              refine ⟨T.nd, by simp, fun l1 h1 l2 h2 e => ?_⟩
              simp at h2
              subst h2
              subst e
              obtain ⟨i, hi⟩ := List.mem_iff_getElem?.mp h1
              have hlt : i < ((xs.take k).map f).length := by rw [← T.hl]; exact (List.getElem?_eq_some_iff.mp hi).1
              obtain ⟨p2, l2, _, h4, _, _, h5⟩ := T.el i _ (List.getElem?_eq_getElem hlt)
              rw [hi] at h4
              cases h4
              obtain ⟨_, us5, h5, _⟩ := h5
              rw [hl'] at h5
              cases h5
            · intro z
              rcases List.mem_append.mp z with z | z
              · exact T.tl z
              · simp at z
                exact nDl z.symm
            · rw [htake] at hr
              by_cases hi : i < ((xs.take k).map f).length
              · rw [List.getElem?_append_left hi] at hr
                obtain ⟨p2, l2, h1, h2, h3, h4, h5⟩ := T.el i r hr
                have n2 : p2 ≠ Dl := fun z => by rw [z, T.ht] at h3; cases h3
                have n3 : l2 ≠ Dl := fun z => T.tl (z ▸ List.mem_of_getElem? h2)
                refine ⟨p2, l2, by rw [List.getElem?_append_left (by rw [T.hp]; exact hi)]; exact h1, by rw [List.getElem?_append_left (by rw [T.hl]; exact hi)]; exact h2, by rw [upd_ne n2]; exact xx.hh _ _ h3, xx.off h4 (by rw [h3]; simp), ?_⟩
                obtain ⟨b5, us5, h5, t5⟩ := h5.ext xx
                exact ⟨b5, us5, by rw [upd_ne n3]; exact h5, t5⟩
              · rw [List.getElem?_append_right (by omega)] at hr
                have e0 : i = ((xs.take k).map f).length := by
                  have := (List.getElem?_eq_some_iff.mp hr).1
                  simp at this
                  simp
                  simp at hi
                  omega
                rw [e0, Nat.sub_self] at hr
                cases hr
                refine ⟨p, l, by rw [List.getElem?_append_right (by rw [T.hp, e0]; exact Nat.le_refl _), T.hp, e0, Nat.sub_self]; rfl, by rw [List.getElem?_append_right (by rw [T.hl, e0]; exact Nat.le_refl _), T.hl, e0, Nat.sub_self]; rfl, by rw [upd_ne nDp, upd_same], x3.bh.free hp3, ?_⟩
                · obtain ⟨b5, us5, h5, t5⟩ := m4
                  exact ⟨b5, us5, by rw [upd_ne nDl]; exact h5, t5⟩
      · rintro H' ⟨B', ps, ls, s1, x', f1, f2, T⟩
        rw [hlen, List.take_length] at T
        exact q Dl ps ls B' H' (x.trans x') (x.hh.free hD) (fun p hp => x.hh.free (f1 p hp)) (fun l hl => x.hh.free (f2 l hl)) T
/-! a test that looks at own things as data; own lists of values -/
theorem fr_view {B' : Hp} {σ : L2.St} (s : Same B B') (hi : Γ[i]? = some (some (.v v))) (h : Dq B' v d) (f : Fr B σ Γ) : Fr B' σ (Γ.set i (some (.d d))) := by
  refine ⟨by rw [List.length_set]; exact f.1, fun k g q => ?_⟩
  by_cases e : i = k
  · subst e
    rw [List.getElem?_set_self (List.getElem?_eq_some_iff.mp hi).1] at q
    cases q
    obtain ⟨u, h1, h2⟩ := f.2 i _ hi
    have h2 : u = v := h2
    subst h2
    exact ⟨_, h1, h⟩
  · rw [List.getElem?_set_ne e] at q
    obtain ⟨u, h1, h2⟩ := f.2 k g q
    exact ⟨u, h1, h2.mono s⟩
theorem qx_noV {B' : Hp} {Γ' : List (Option AV)} (s : Same B B') (s2 : Same B' H) (hf : ∀ σ, Fr B σ Γ → Fr B' σ Γ') (h : Gt t Γ' B' H b) (hb : b = false) (k : ∀ H2, Ext B H B H2 → Sx tz D Γ B H2) : Sx (tSeq (tIfS t tu tNext) tz) D Γ B H := fun e σ f =>
  h B' H σ (Ext.refl s2) (hf σ f) _ fun B2 H2 x => by
    subst hb
    exact k H2 ⟨Same.refl _, e.trans x.hh, x.hh, fun _ h => .inl h⟩ (e.trans x.hh) σ f
theorem qx_forV {vs : List V} (ha : Gv tl Γ B H (.v (.ref p))) (G : Nat → List (Option AV)) (P : Nat → Hp → Hp → Prop) (hl : Le (G 0) Γ) (h0 : ∀ B1 H1, Ext B H B1 H1 → P 0 B1 H1) (hq : ∀ k B1 H1, P k B1 H1 → H1 p = some (.lst vs))
    (hs : ∀ Bs (k : Nat) v B1 H1, vs[k]? = some v → Same B Bs → Same Bs B1 → P k B1 H1 → Sx tu { D with nx := Lp Bs (G (k + 1)) (P (k + 1)), ct := Lp Bs (G (k + 1)) (P (k + 1)), bk := tz D } ((G k).set j (some (.v v))) B1 H1)
    (hd : ∀ B1 H1, Same B B1 → P vs.length B1 H1 → Sx tz D (G vs.length) B1 H1) : Sx (tSeq (tFor (iList K tl) (gName j) tu) tz) D Γ B H := fun e σ f =>
  ha B H σ (Ext.refl e) f _ fun u Bs Hs x hu => by
    have hu : u = .ref p := hu
    subst hu
    refine ⟨p, rfl, ⟨_, SqL.of (hq 0 Bs Hs (h0 Bs Hs x))⟩, for_list (K := K) (a := p) (xs := vs) (D := { D with nx := tz D }) (fun k => Lp Bs (G k) (P k)) ⟨Bs, Same.refl _, x.bh, h0 Bs Hs x, (f.mono x.bb).le hl⟩ ?_ ?_ ?_⟩
    · rintro k σ' H' _ ⟨B', _, _, q, _⟩
      exact SqL.of (hq k B' H' q)
    · rintro k v σ' H' hk ⟨B', s1, s2, q, f'⟩
      exact hs Bs k v B' H' hk x.bb s1 q s2 _ (f'.set (g := .v v) j rfl)
    · rintro σ' H' ⟨B', s1, s2, q, f'⟩
      exact hd B' H' (x.bb.trans s1) q s2 σ' f'
theorem ro_ixV {us : List V} {k : Int} (h : H p = some (.tup us)) (hk : atI us k = some v) : Ro (rIxT K) B H (.v (.ref p)) (AI k) (.v v) := fun B1 H1 u w e hu hw Q q => by
  cases hw
  have hu : u = .ref p := hu
  subst hu
  exact ⟨p, us, k, v, rfl, rfl, SqT.of (e.hh _ _ h), hk, q v B1 H1 (Ext.refl e.bh) rfl⟩
/-- p.append(e), p an own list of any values -/
theorem qx_appV {us : List V} (hb : B p = none) (hp : H p = some (.lst us)) (ha : Gv ta Γ B H (.v (.ref p))) (h : Gv te Γ B H g) (hz : us.length < 16000000) (k : ∀ w B2 H2, ExtF (· = p) B H B2 H2 → Is B2 w g → H2 p = some (.lst (us ++ [w])) → Sx tz D Γ B2 H2) :
    Sx (tSeq (tDrop (tBM K "list" rAppend ta (tCons te tNil))) tz) D Γ B H := fun e σ f =>
  ha B H σ (Ext.refl e) f _ fun u B2 H2 x hu => by
    have hu : u = .ref p := hu
    subst hu
    refine ⟨Or.inl ⟨rfl, us, SqL.of (x.hh _ _ hp)⟩, ?_⟩
    refine h B2 H2 σ x (f.mono x.bb) _ fun w B3 H3 y hw => ?_
    have x3 := (x.trans y)
    have hp3 := x3.hh _ _ hp
    have hb3 := x3.off hb (by rw [hp]; simp)
    refine ⟨p, us, w, rfl, rfl, hp3, szl hz, ?_⟩
    have wr : ExtF (· = p) B3 H3 B3 (upd H3 p (.lst (us ++ [w]))) := ExtF.wr x3.bh hb3 (by rw [hp3]; simp)
    exact k w B3 _ (x3.f.trans wr) hw upd_same wr.bh _ (f.mono x3.bb)
end
end SB
namespace SB
open PySem PySem.Spec PyProof.Rows L2
open Enc (enc)
/-! ### own dicts -/
/-- κ tells the key k -/
def Kq (κ : AV) (k : Key) : Prop := ∀ (B : Hp) (u : V), Is B u κ → u = kV k
theorem kq_int {i : Int} : Kq (AI i) (.inl i) := fun _ _ h => by cases h; rfl
theorem kq_str {s : Str} : Kq (AS s) (.inr s) := fun _ _ h => by cases h; rfl
theorem rd_ext {B H B' H' : Hp} {p : Addr} {o : HO} (h : Rd H p o) (x : Ext B H B' H') : Rd H' p o := by
  rcases h with h | ⟨q, h⟩
  · exact .inl (x.hh _ _ h)
  · exact .inr ⟨q, x.hh _ _ h⟩
section
variable {K : PySem.W.Frag} {Γ Δ : List (Option AV)} {B H : Hp} {g x y z κ : AV} {te ta tb tc tv ti tl td ty : TE} {t u : TT} {b c : Bool} {i j : Nat} {D : Ends} {tz tu tw : TS} {ds es : List PyData} {d : PyData} {a p C dx : Addr} {v : V} {ns : List Int} {n : Int} {kvs : List (Key × V)} {k : Key}
/-- d[k] -/
theorem gv_dget (ha : Gv td Γ B H (.v (.ref p))) (hk : Gv ty Γ B H κ) (kq : Kq κ k) (hp : Rd H p (.dK kvs)) (hv : valV kvs k = some v) (hg : Is B v g) : Gv (tDGet td ty) Γ B H g := fun B1 H1 σ e f Q q =>
  ha B1 H1 σ e f _ fun u B2 H2 e2 hu => hk B2 H2 σ (e.trans e2) (f.mono e2.bb) _ fun w B3 H3 e3 hw => by
    have hu : u = .ref p := hu
    subst hu
    rw [kq _ _ hw]
    have x := (e.trans e2).trans e3
    refine ⟨p, v, rfl, .inl ⟨kvs, k, rd_ext hp x, rfl, hv.symm⟩, q v B3 H3 (e2.trans e3) (hg.mono x.bb)⟩
/-- k in d, k not in d -/
theorem gv_din (hk : Gv ty Γ B H κ) (ha : Gv td Γ B H (.v (.ref p))) (kq : Kq κ k) (hp : Rd H p (.dK kvs)) : Gv (tDIn ty td) Γ B H (AB (valV kvs k).isSome) := fun B1 H1 σ e f Q q =>
  hk B1 H1 σ e f _ fun w B2 H2 e2 hw => ha B2 H2 σ (e.trans e2) (f.mono e2.bb) _ fun u B3 H3 e3 hu => by
    have hu : u = .ref p := hu
    subst hu
    rw [kq _ _ hw]
    have x := (e.trans e2).trans e3
    exact ⟨p, _, rfl, .inl ⟨kvs, k, rd_ext hp x, rfl, rfl⟩, q _ B3 H3 (e2.trans e3) (.bl _)⟩
theorem gv_dnotin (hk : Gv ty Γ B H κ) (ha : Gv td Γ B H (.v (.ref p))) (kq : Kq κ k) (hp : Rd H p (.dK kvs)) : Gv (tDNotIn ty td) Γ B H (AB (!(valV kvs k).isSome)) := fun B1 H1 σ e f Q q =>
  hk B1 H1 σ e f _ fun w B2 H2 e2 hw => ha B2 H2 σ (e.trans e2) (f.mono e2.bb) _ fun u B3 H3 e3 hu => by
    have hu : u = .ref p := hu
    subst hu
    rw [kq _ _ hw]
    have x := (e.trans e2).trans e3
    exact ⟨p, _, rfl, .inl ⟨kvs, k, rd_ext hp x, rfl, rfl⟩, q _ B3 H3 (e2.trans e3) (.bl _)⟩
/-- d[k] = e -/
theorem qx_dput (m : Md B H p kvs) (hv : Gv tv Γ B H g) (ha : ∀ B1 H1, Ext B H B1 H1 → Gv td Γ B1 H1 (.v (.ref p))) (hk : ∀ B1 H1, Ext B H B1 H1 → Gv ty Γ B1 H1 κ) (kq : Kq κ k) (hl : kvs.length < 16000000)
    (q : ∀ w B2 H2, ExtF (· = p) B H B2 H2 → Is B2 w g → Md B2 H2 p (putK kvs k w) → Sx tz D Γ B2 H2) : Sx (tSeq (sDPut td ty tv) tz) D Γ B H := fun e σ f =>
  hv B H σ (Ext.refl e) f _ fun w B2 H2 e2 hw => ha B2 H2 e2 B2 H2 σ (Ext.refl e2.bh) (f.mono e2.bb) _ fun u B3 H3 e3 hu => hk B3 H3 (e2.trans e3) B3 H3 σ (Ext.refl e3.bh) (f.mono (e2.trans e3).bb) _ fun w2 B4 H4 e4 hw2 => by
    have hu : u = .ref p := hu
    subst hu
    rw [kq _ _ hw2]
    have x := (e2.trans e3).trans e4
    obtain ⟨hb, hp⟩ := m.ext x
    refine ⟨p, _, rfl, DPut.k hp (szl hl), ?_⟩
    have wr : ∀ o, ExtF (· = p) B4 H4 B4 (upd H4 p o) := fun o => ExtF.wr x.bh hb (by rw [hp]; simp)
    exact q w B4 _ (x.f.trans (wr _)) (hw.mono (e3.trans e4).bb) ⟨hb, upd_same⟩ (wr _).bh σ (f.mono x.bb)
/-- d[k] = a new own list -/
theorem qx_dputM (m : Md B H p kvs) (hv : Gm tv Γ B H ds) (ha : ∀ B1 H1, Ext B H B1 H1 → Gv td Γ B1 H1 (.v (.ref p))) (hk : ∀ B1 H1, Ext B H B1 H1 → Gv ty Γ B1 H1 κ) (kq : Kq κ k) (hl : kvs.length < 16000000)
    (q : ∀ l B2 H2, ExtF (· = p) B H B2 H2 → H l = none → Ml B2 H2 l ds → Md B2 H2 p (putK kvs k (.ref l)) → Sx tz D Γ B2 H2) : Sx (tSeq (sDPut td ty tv) tz) D Γ B H := fun e σ f =>
  hv B H σ (Ext.refl e) f _ fun l B2 H2 e2 hl0 ml => ha B2 H2 e2 B2 H2 σ (Ext.refl e2.bh) (f.mono e2.bb) _ fun u B3 H3 e3 hu => hk B3 H3 (e2.trans e3) B3 H3 σ (Ext.refl e3.bh) (f.mono (e2.trans e3).bb) _ fun w2 B4 H4 e4 hw2 => by
    have hu : u = .ref p := hu
    subst hu
    rw [kq _ _ hw2]
    have x := (e2.trans e3).trans e4
    obtain ⟨hb, hp⟩ := m.ext x
    refine ⟨p, _, rfl, DPut.k hp (szl hl), ?_⟩
    have wr : ∀ o, ExtF (· = p) B4 H4 B4 (upd H4 p o) := fun o => ExtF.wr x.bh hb (by rw [hp]; simp)
    have npl : ¬ l = p := fun z => m.ne (z ▸ hl0)
    exact q l B4 _ (x.f.trans (wr _)) hl0 (((ml.ext e3).ext e4).extF (wr _) npl) ⟨hb, upd_same⟩ (wr _).bh σ (f.mono x.bb)
/-- d[k] = {} -/
theorem qx_dputD (m : Md B H p kvs) (ha : ∀ B1 H1, Ext B H B1 H1 → Gv td Γ B1 H1 (.v (.ref p))) (hk : ∀ B1 H1, Ext B H B1 H1 → Gv ty Γ B1 H1 κ) (kq : Kq κ k) (hl : kvs.length < 16000000)
    (q : ∀ l B2 H2, ExtF (· = p) B H B2 H2 → H l = none → Md B2 H2 l [] → Md B2 H2 p (putK kvs k (.ref l)) → Sx tz D Γ B2 H2) : Sx (tSeq (sDPut td ty tDNewK) tz) D Γ B H := fun e σ f => fun l hl0 => by
  have e2 : Ext B H B (upd H l (.dK [])) := Ext.out e hl0
  refine ha B _ e2 B _ σ (Ext.refl e2.bh) (f.mono e2.bb) _ fun u B3 H3 e3 hu => hk B3 H3 (e2.trans e3) B3 H3 σ (Ext.refl e3.bh) (f.mono (e2.trans e3).bb) _ fun w2 B4 H4 e4 hw2 => ?_
  have hu : u = .ref p := hu
  subst hu
  rw [kq _ _ hw2]
  have x := (e2.trans e3).trans e4
  obtain ⟨hb, hp⟩ := m.ext x
  refine ⟨p, _, rfl, DPut.k hp (szl hl), ?_⟩
  have wr : ∀ o, ExtF (· = p) B4 H4 B4 (upd H4 p o) := fun o => ExtF.wr x.bh hb (by rw [hp]; simp)
  have npl : ¬ l = p := fun z => m.ne (z ▸ hl0)
  have ml : Md B (upd H l (.dK [])) l [] := ⟨e.free hl0, upd_same⟩
  exact q l B4 _ (x.f.trans (wr _)) hl0 (((ml.ext e3).ext e4).extF (wr _) npl) ⟨hb, upd_same⟩ (wr _).bh σ (f.mono x.bb)
/-- d.pop(k), k there, its answer dropped -/
theorem qx_dpop (m : Md B H p kvs) (ha : Gv td Γ B H (.v (.ref p))) (hk : ∀ B1 H1, Ext B H B1 H1 → Gv ty Γ B1 H1 κ) (kq : Kq κ k) (hv : valV kvs k = some v)
    (q : ∀ B2 H2, ExtF (· = p) B H B2 H2 → Md B2 H2 p (dropK kvs k) → Sx tz D Γ B2 H2) : Sx (tSeq (tDrop (tDPop1 td ty)) tz) D Γ B H := fun e σ f =>
  ha B H σ (Ext.refl e) f _ fun u B2 H2 e2 hu => by
    have hu : u = .ref p := hu
    subst hu
    refine ⟨p, rfl, .inl ⟨kvs, .inl (m.ext e2).2⟩, ?_⟩
    refine hk B2 H2 e2 B2 H2 σ (Ext.refl e2.bh) (f.mono e2.bb) _ fun w2 B3 H3 e3 hw2 => ?_
    rw [kq _ _ hw2]
    have x := e2.trans e3
    obtain ⟨hb, hp⟩ := m.ext x
    refine ⟨kvs, k, v, hp, rfl, hv, ?_⟩
    have wr : ∀ o, ExtF (· = p) B3 H3 B3 (upd H3 p o) := fun o => ExtF.wr x.bh hb (by rw [hp]; simp)
    exact q B3 _ (x.f.trans (wr _)) ⟨hb, upd_same⟩ (wr _).bh σ (f.mono x.bb)
/-- d.pop(k, None), its answer dropped -/
theorem qx_dpop2 (m : Md B H p kvs) (ha : Gv td Γ B H (.v (.ref p))) (hk : ∀ B1 H1, Ext B H B1 H1 → Gv ty Γ B1 H1 κ) (kq : Kq κ k)
    (q : ∀ B2 H2, ExtF (· = p) B H B2 H2 → Md B2 H2 p (dropK kvs k) → Sx tz D Γ B2 H2) : Sx (tSeq (tDrop (tDPop2 td ty (tC .non))) tz) D Γ B H := fun e σ f =>
  ha B H σ (Ext.refl e) f _ fun u B2 H2 e2 hu => by
    have hu : u = .ref p := hu
    subst hu
    refine ⟨p, rfl, .inl ⟨kvs, .inl (m.ext e2).2⟩, ?_⟩
    refine hk B2 H2 e2 B2 H2 σ (Ext.refl e2.bh) (f.mono e2.bb) _ fun w2 B3 H3 e3 hw2 => ?_
    rw [kq _ _ hw2]
    have x := e2.trans e3
    obtain ⟨hb, hp⟩ := m.ext x
    refine ⟨kvs, k, hp, rfl, fun v hv => ?_, fun hv => ?_⟩
    · have wr : ∀ o, ExtF (· = p) B3 H3 B3 (upd H3 p o) := fun o => ExtF.wr x.bh hb (by rw [hp]; simp)
      exact q B3 _ (x.f.trans (wr _)) ⟨hb, upd_same⟩ (wr _).bh σ (f.mono x.bb)
    · have ed : dropK kvs k = kvs := by
        unfold dropK
        refine List.filter_eq_self.mpr fun kv hkv => ?_
        have h1 := valV_any k kvs
        rw [hv] at h1
        have h2 : (kvs.any fun kv => decide (kv.1 = k)) = false := h1
        have h3 := List.any_eq_false.mp h2 kv hkv
        simpa using h3
      exact q B3 H3 x.f (by rw [ed]; exact ⟨hb, hp⟩) x.bh σ (f.mono x.bb)
/-- list(d) -/
theorem rc_listDk {ks : List Int} (m : Md B H p kvs) (hk : kvs.map (·.1) = ks.map (Sum.inl : Int → Key)) : Rc rListD B H [.v (.ref p)] (.d (.list (ks.map enc))) := fun B1 H1 us e hu Q q => by
  have := isAll_v (cs := [.ref p]) hu
  subst this
  obtain ⟨hb, hp⟩ := m.ext e
  refine ⟨p, kvs, rfl, hp, fun l hl => ?_⟩
  refine q _ _ _ (Ext.new e.bh hl) (dq_newL e.bh hl ?_)
  have e1 : (kvs.map fun kv => kV kv.1) = ks.map V.int := by
    have h2 := congrArg (List.map kV) hk
    rw [List.map_map, List.map_map] at h2
    exact h2
  rw [e1]
  exact DqAll.ofInts ks
/-- the truth of a dict -/
theorem gt_truD (h : Gv ta Γ B H (.v (.ref p))) (hp : H p = some (.dK kvs)) : Gt (tTru K ta) Γ B H (!kvs.isEmpty) := fun B1 H1 σ e f Q q => h B1 H1 σ e f _ fun u B2 H2 e2 hu => by
  have hu : u = .ref p := hu
  subst hu
  exact ⟨!kvs.isEmpty, .inr (.inr ⟨kvs, (e.trans e2).hh _ _ hp, rfl⟩), q B2 H2 e2⟩
/-- the truth of an own list -/
theorem gt_truO (m : Ml B H p ds) (h : Gv ta Γ B H (.v (.ref p))) : Gt (tTru K ta) Γ B H (!ds.isEmpty) := fun B1 H1 σ e f Q q => h B1 H1 σ e f _ fun u B2 H2 e2 hu => by
  have hu : u = .ref p := hu
  subst hu
  obtain ⟨_, us, hp, t⟩ := m.ext (e.trans e2)
  refine ⟨!ds.isEmpty, .inl ⟨_, SqL.of hp, ?_⟩, q B2 H2 e2⟩
  cases t <;> rfl
/-! a loop over an own dict's keys: the dict is locked -/
abbrev lockD (D : Ends) (p : Addr) (od : Obj) (u : HO) : Ends := ⟨fun σ' H' => H' p = some (.frz od u) ∧ D.nx σ' (upd H' p u), fun v H' => H' p = some (.frz od u) ∧ D.rt v (upd H' p u), fun σ' H' => H' p = some (.frz od u) ∧ D.bk σ' (upd H' p u), fun σ' H' => H' p = some (.frz od u) ∧ D.ct σ' (upd H' p u)⟩
theorem same_lock {u : HO} (e : Same B H) (hb : B p = none) : Same B (upd H p u) := fun c o q => by rw [upd_ne (ne_of_none q hb)]; exact e _ _ q
theorem qx_forK {ι : Type} {ks : List Int} (m : Md B H p kvs) (hk : kvs.map (·.1) = ks.map (Sum.inl : Int → Key)) (ha : ∀ od, Gv td Γ B (upd H p (.frz od (.dK kvs))) (.v (.ref p))) (G : ι → List (Option AV)) (P : Obj → Nat → ι → Hp → Hp → Prop) (x0 : ι) (hl : Le (G x0) Γ)
    (h0 : ∀ od B1 H1, Ext B (upd H p (.frz od (.dK kvs))) B1 H1 → P od 0 x0 B1 H1) (hq : ∀ od k x B1 H1, P od k x B1 H1 → H1 p = some (.frz od (.dK kvs)) ∧ B1 p = none)
    (hs : ∀ od Bs (k : Nat) i x B1 H1, ks[k]? = some i → Same B Bs → Same Bs B1 → P od k x B1 H1 →
      Sx tu { nx := Lx Bs G (P od (k + 1)), ct := Lx Bs G (P od (k + 1)), bk := fun σ' H' => H' p = some (.frz od (.dK kvs)) ∧ tz D σ' (upd H' p (.dK kvs)), rt := fun v H' => H' p = some (.frz od (.dK kvs)) ∧ D.rt v (upd H' p (.dK kvs)) } ((G x).set j (some (AI i))) B1 H1)
    (hd : ∀ od x B1 H1, Same B B1 → P od ks.length x B1 H1 → Sx tz D (G x) B1 (upd H1 p (.dK kvs))) : Sx (tSeq (tLock (tFor (iKeys td) (gName j) tu)) tz) D Γ B H := fun e σ f => by
  have hlen : kvs.length = ks.length := by
    have := congrArg List.length hk
    rw [List.length_map, List.length_map] at this
    exact this
  refine ⟨p, .dK kvs, m.2, True.intro, fun od => ?_⟩
  have eL : Same B (upd H p (.frz od (.dK kvs))) := same_lock e m.1
  refine ha od B _ σ (Ext.refl eL) f _ fun u Bs Hs x hu => ?_
  have hu : u = .ref p := hu
  subst hu
  have p0 := h0 od Bs Hs x
  refine ⟨p, od, rfl, .inl ⟨kvs, (hq od 0 x0 Bs Hs p0).1, for_it walk_keys (fun k => Lx Bs G (P od k)) ⟨x0, Bs, Same.refl _, x.bh, p0, (f.mono x.bb).le hl⟩ ?_ ?_ ?_⟩⟩
  · rintro k σ' H' _ ⟨y, B', _, _, q, _⟩
    exact (hq od k y B' H' q).1
  · rintro k v σ' H' H'' hk2 ⟨y, B', s1, s2, q, f'⟩ ⟨rfl, key, w, hkv, rfl⟩
    have h3 : (kvs.map (·.1))[k]? = some key := by rw [List.getElem?_map, hkv]; rfl
    rw [hk, List.getElem?_map] at h3
    cases h4 : ks[k]? with
    | none => rw [h4] at h3; cases h3
    | some i =>
      rw [h4] at h3
      cases h3
      exact hs od Bs k i y B' _ h4 x.bb s1 q s2 _ (f'.set (g := AI i) j (.int i))
  · rintro σ' H' ⟨y, B', s1, s2, q, f'⟩
    rw [hlen] at q
    obtain ⟨h1, h2⟩ := hq od _ y B' H' q
    exact ⟨h1, hd od y B' H' (x.bb.trans s1) q (same_lock s2 h2) σ' f'⟩
/-! methods -/
theorem gx_met {T : Type} {args : T → List AV} {pre : T → Hp → Hp → Prop} {res : T → Except Addr AV} {E : XK} {tr : TA} {gs : List AV} {m : Str} {fs : List (Str × V)} (t0 : T) (ha : Gv ta Γ B H (.v (.ref a))) (hy : H a = some (.ins C dx fs)) (hm : fs.lookup m = none) (ht : Ga tr Γ B H gs)
    (he : args t0 = .v (.ref a) :: gs) (hp : ∀ B1 H1, Ext B H B1 H1 → pre t0 B1 H1) : Gx E (tMeth C m (spR args pre res) [] E ta tr) Γ B H (res t0) := fun B1 H1 σ e f Q q qe =>
  ha B1 H1 σ e f _ fun u B2 H2 e2 hu => by
    have hu : u = .ref a := hu
    subst hu
    refine ⟨a, dx, fs, rfl, (e.trans e2).hh _ _ hy, hm, ht B2 H2 σ (e.trans e2) (f.mono e2.bb) _ fun us B3 H3 e3 hus => ?_⟩
    exact ⟨t0, B3, e3.bh, by rw [List.append_nil, he]; exact .cons rfl hus, hp B3 H3 ((e.trans e2).trans e3), fun u B4 H4 g hg e4 h4 => q u B4 H4 g hg ((e2.trans e3).trans e4) h4, fun B4 H4 c hc e4 => qe B4 H4 c hc ((e2.trans e3).trans e4)⟩
theorem gv_metR {T : Type} {args : T → List AV} {pre : T → Hp → Hp → Prop} {res : T → Except Addr AV} {E : XK} {tr : TA} {gs : List AV} {m : Str} {fs : List (Str × V)} (t0 : T) (ha : Gv ta Γ B H (.v (.ref a))) (hy : H a = some (.ins C dx fs)) (hm : fs.lookup m = none) (ht : Ga tr Γ B H gs)
    (he : args t0 = .v (.ref a) :: gs) (hp : ∀ B1 H1, Ext B H B1 H1 → pre t0 B1 H1) (hr : res t0 = .ok z) : Gv (tMeth C m (spR args pre res) [] E ta tr) Γ B H z := fun B1 H1 σ e f Q q =>
  gx_met (E := E) t0 ha hy hm ht he hp B1 H1 σ e f Q (fun u B2 H2 g hg x hu => by rw [hr] at hg; cases hg; exact q u B2 H2 x hu) fun B2 H2 c hc x => by rw [hr] at hc; cases hc
theorem gv_met {T : Type} {args : T → List AV} {pre : T → Hp → Hp → Prop} {res : T → AV} {E : XK} {tr : TA} {gs : List AV} {m : Str} {fs : List (Str × V)} (t0 : T) (ha : Gv ta Γ B H (.v (.ref a))) (hy : H a = some (.ins C dx fs)) (hm : fs.lookup m = none) (ht : Ga tr Γ B H gs)
    (he : args t0 = .v (.ref a) :: gs) (hp : ∀ B1 H1, Ext B H B1 H1 → pre t0 B1 H1) : Gv (tMeth C m (spP args pre res) [] E ta tr) Γ B H (res t0) := fun B1 H1 σ e f Q q =>
  ha B1 H1 σ e f _ fun u B2 H2 e2 hu => by
    have hu : u = .ref a := hu
    subst hu
    refine ⟨a, dx, fs, rfl, (e.trans e2).hh _ _ hy, hm, ht B2 H2 σ (e.trans e2) (f.mono e2.bb) _ fun us B3 H3 e3 hus => ?_⟩
    exact ⟨t0, B3, e3.bh, by rw [List.append_nil, he]; exact .cons rfl hus, hp B3 H3 ((e.trans e2).trans e3), fun u B4 H4 e4 h4 => q u B4 H4 ((e2.trans e3).trans e4) h4⟩
theorem gv_ofX {E : XK} {r : Except Addr AV} (h : Gx E te Γ B H r) (hr : r = .ok z) : Gv te Γ B H z := fun B1 H1 σ e f Q q =>
  h B1 H1 σ e f Q (fun u B2 H2 g hg x hu => by rw [hr] at hg; cases hg; exact q u B2 H2 x hu) fun B2 H2 c hc x => by rw [hr] at hc; cases hc
theorem gv_ownP (m : Ml B H p ds) (hz : Sc z) (h : ∀ B1 H1, Same B B1 → Same H H1 → Dq B1 (.ref p) (.list ds) → Gv te Γ B1 H1 z) : Gv te Γ B H z := fun B1 H1 σ e f Q q => by
  obtain ⟨hb, us, hp, t⟩ := m.ext e
  have s1 : Same B1 (upd B1 p (.lst us)) := fun c o q => by rw [upd_ne (ne_of_none q hb)]; exact q
  refine h (upd B1 p (.lst us)) H1 (e.bb.trans s1) e.hh (.lst upd_same (t.mono s1)) _ H1 σ (Ext.refl (same_own e.bh hp)) (f.mono s1) Q fun u B2 H2 x hu => ?_
  exact q u B1 H2 ⟨Same.refl _, e.bh.trans x.hh, x.hh, fun _ h => .inl h⟩ (hz _ _ _ hu)
theorem gt_ownP (m : Ml B H p ds) (h : ∀ B1 H1, Same B B1 → Same H H1 → Dq B1 (.ref p) (.list ds) → Gt t Γ B1 H1 b) : Gt t Γ B H b := fun B1 H1 σ e f Q q => by
  obtain ⟨hb, us, hp, t⟩ := m.ext e
  have s1 : Same B1 (upd B1 p (.lst us)) := fun c o q => by rw [upd_ne (ne_of_none q hb)]; exact q
  refine h (upd B1 p (.lst us)) H1 (e.bb.trans s1) e.hh (.lst upd_same (t.mono s1)) _ H1 σ (Ext.refl (same_own e.bh hp)) (f.mono s1) Q fun B2 H2 x => ?_
  exact q B1 H2 ⟨Same.refl _, e.bh.trans x.hh, x.hh, fun _ h => .inl h⟩
theorem qx_retG (h : Gm te Γ B H ds) (k : ∀ l B2 H2, H l = none → Ext B H B2 H2 → Ml B2 H2 l ds → D.rt (.ref l) H2) : Sx (tSeq (tRet te) tz) D Γ B H := fun e σ f =>
  h B H σ (Ext.refl e) f _ fun l B2 H2 x hl m => k l B2 H2 hl x m
theorem Ext.unlock {B' H' : Hp} {u : HO} {od : Obj} (x : Ext B (upd H p (.frz od u)) B' H') (hb : B p = none) (hp : H p = some u) : Ext B H B' (upd H' p u) := by
  have hb' : B' p = none := x.off hb (by rw [upd_same]; simp)
  refine ⟨x.bb, same_lock x.bh hb', fun a o q => ?_, fun a q => ?_⟩
  · by_cases z : a = p
    · subst z
      rw [upd_same, ← hp]
      exact q
    · rw [upd_ne z]
      exact x.hh _ _ (by rw [upd_ne z]; exact q)
  · rcases x.fr a q with h | h
    · exact .inl h
    · by_cases z : a = p
      · subst z
        rw [upd_same] at h
        cases h
      · rw [upd_ne z] at h
        exact .inr h
theorem Ext.lock {B' H' : Hp} {z : HO} (x : Ext B H B' H') (hb : B p = none) (hp : H p ≠ none) : Ext B (upd H p z) B' (upd H' p z) := by
  have hb' : B' p = none := x.off hb hp
  refine ⟨x.bb, same_lock x.bh hb', fun a o q => ?_, fun a q => ?_⟩
  · by_cases e : a = p
    · subst e
      rw [upd_same] at q ⊢
      exact q
    · rw [upd_ne e] at q ⊢
      exact x.hh _ _ q
  · rcases x.fr a q with h | h
    · exact .inl h
    · by_cases e : a = p
      · subst e
        exact absurd h hp
      · exact .inr (by rw [upd_ne e]; exact h)
end
theorem erase_at : ∀ (xs : List Int) (k : Int), k ∈ xs → ∃ j : Nat, xs[j]? = some k ∧ (∀ m : Nat, m < j → xs[m]? ≠ some k) ∧ xs.eraseIdx j = xs.erase k
  | [], _, h => by simp at h
  | x :: xs, k, h => by
    by_cases e : x = k
    · subst e
      exact ⟨0, rfl, fun m hm => by omega, by simp⟩
    · obtain ⟨j, h1, h2, h3⟩ := erase_at xs k ((List.mem_cons.mp h).resolve_left fun z => e z.symm)
      refine ⟨j + 1, by simpa using h1, fun m hm => ?_, ?_⟩
      · cases m with
        | zero => simpa using e
        | succ m => simpa using h2 m (by omega)
      · rw [List.eraseIdx_cons_succ, h3, List.erase_cons, if_neg (by simpa using e)]
section
variable {K : PySem.W.Frag} {Γ Δ : List (Option AV)} {B H : Hp} {ta te : TE} {D : Ends} {tz : TS} {p : Addr}
/-- p.remove(k), k there -/
theorem qx_remove {xs : List Int} {k : Int} (m : Ml B H p (xs.map enc)) (ha : Gv ta Γ B H (.v (.ref p))) (h : ∀ B1 H1, Ext B H B1 H1 → Gv te Γ B1 H1 (AI k)) (hk : k ∈ xs) (q : ∀ B2 H2, ExtF (· = p) B H B2 H2 → Ml B2 H2 p ((xs.erase k).map enc) → Sx tz D Γ B2 H2) :
    Sx (tSeq (tDrop (tBM K "list" rRemI ta (tCons te tNil))) tz) D Γ B H := fun e σ f =>
  ha B H σ (Ext.refl e) f _ fun u B2 H2 x hu => by
    have hu : u = .ref p := hu
    subst hu
    obtain ⟨_, us, hp, _⟩ := m.ext x
    refine ⟨Or.inl ⟨rfl, us, SqL.of hp⟩, ?_⟩
    refine h B2 H2 x B2 H2 σ (Ext.refl x.bh) (f.mono x.bb) _ fun w B3 H3 y hw => ?_
    cases hw
    obtain ⟨hb, vs, hp3, t⟩ := (m.ext x).ext y
    have t : DqAll B3 vs (xs.map PyData.int) := t
    have e1 := t.ints
    subst e1
    have x3 := x.trans y
    obtain ⟨j, h1, h2, h3⟩ := erase_at xs k hk
    refine ⟨p, xs, k, j, rfl, rfl, hp3, h1, h2, ?_⟩
    have wr : ExtF (· = p) B3 H3 B3 (upd H3 p (.lst ((xs.eraseIdx j).map V.int))) := ExtF.wr x3.bh hb (by rw [hp3]; simp)
    refine q B3 _ (x3.f.trans wr) ⟨hb, _, upd_same, ?_⟩ wr.bh _ (f.mono x3.bb)
    rw [h3]
    exact DqAll.ofInts _
end
end SB
namespace SB
open PySem PySem.Spec PyProof.Rows L2
open Enc (enc)
/-! ### tables by keys and values -/
instance : LawfulBEq Key where
  eq_of_beq {a b} h := by
    cases a <;> cases b
    · exact congrArg Sum.inl (eq_of_beq (α := Int) h)
    · cases h
    · cases h
    · exact congrArg Sum.inr (eq_of_beq (α := Str) h)
  rfl {a} := by
    cases a with
    | inl a => exact beq_self_eq_true (α := Int) a
    | inr a => exact beq_self_eq_true (α := Str) a
section
variable {κ : Type} [DecidableEq κ] [BEq κ] [LawfulBEq κ]
theorem zk_val : ∀ (ks : List κ) (vs : List V) (f : κ) (i : Nat) (v : V), ks.idxOf f = i → i < ks.length → vs[i]? = some v → valV (ks.zip vs) f = some v
  | [], _, _, _, _, _, h, _ => by simp at h
  | _ :: _, [], _, _, _, _, _, h => by simp at h
  | k :: ks, u :: vs, f, i, v, e, hl, h => by
    rw [List.zip_cons_cons]
    rw [List.idxOf_cons] at e
    by_cases q : k = f
    · subst q
      simp at e
      subst e
      simp at h
      rw [valV_pos rfl, h]
    · have q1 : (k == f) = false := beq_eq_false_iff_ne.mpr q
      rw [q1] at e
      rw [valV_neg q]
      simp at e
      subst e
      exact zk_val ks vs f _ v rfl (by simpa using hl) (by simpa using h)
theorem zk_any : ∀ (ks : List κ) (vs : List V) (f : κ), vs.length = ks.length → ((ks.zip vs).any fun kv => decide (kv.1 = f)) = decide (f ∈ ks)
  | [], _, _, _ => by simp
  | k :: ks, [], _, h => by simp at h
  | k :: ks, u :: vs, f, h => by
    rw [List.zip_cons_cons, List.any_cons, zk_any ks vs f (by simpa using h), Bool.eq_iff_iff]
    simp
    exact or_congr eq_comm Iff.rfl
theorem zk_set : ∀ (ks : List κ) (vs : List V) (f : κ) (i : Nat) (v : V), ks.Nodup → ks.idxOf f = i → i < ks.length → vs.length = ks.length → (ks.zip vs).map (fun kv => if kv.1 = f then (kv.1, v) else kv) = ks.zip (vs.set i v)
  | [], _, _, _, _, _, _, h, _ => by simp at h
  | _ :: _, [], _, _, _, _, _, _, h => by simp at h
  | k :: ks, u :: vs, f, i, v, hn, e, hl, h => by
    rw [List.nodup_cons] at hn
    rw [List.zip_cons_cons, List.map_cons]
    rw [List.idxOf_cons] at e
    by_cases q : k = f
    · subst q
      simp at e
      subst e
      rw [if_pos rfl, List.set_cons_zero, List.zip_cons_cons]
      congr 1
      have key : ∀ (l : List (κ × V)), (∀ p ∈ l, p.1 ≠ k) → l.map (fun kv => if kv.1 = k then (kv.1, v) else kv) = l := by
        intro l hl
        induction l with
        | nil => rfl
        | cons p l ih =>
          rw [List.map_cons, if_neg (hl p (by simp)), ih fun p hp => hl p (List.mem_cons_of_mem _ hp)]
      refine key _ fun p hp z => hn.1 ?_
      rw [← z]
      exact (List.of_mem_zip hp).1
    · have q1 : (k == f) = false := beq_eq_false_iff_ne.mpr q
      rw [q1] at e
      simp at e
      subst e
      rw [if_neg q, zk_set ks vs f _ v hn.2 rfl (by simpa using hl) (by simpa using h)]
      rfl
theorem zk_put {ks : List κ} {vs : List V} {f : κ} {i : Nat} {v : V} (hn : ks.Nodup) (e : ks.idxOf f = i) (hl : i < ks.length) (h : vs.length = ks.length) : putK (ks.zip vs) f v = ks.zip (vs.set i v) := by
  unfold putK
  rw [zk_any ks vs f h, if_pos (decide_eq_true (List.idxOf_lt_length_iff.mp (by rw [e]; exact hl)))]
  exact zk_set ks vs f i v hn e hl h
theorem zk_more {ks : List κ} {vs : List V} {f : κ} {v : V} (hn : f ∉ ks) (h : vs.length = ks.length) : putK (ks.zip vs) f v = (ks ++ [f]).zip (vs ++ [v]) := by
  unfold putK
  rw [zk_any ks vs f h, if_neg (by simpa using hn), List.zip_append h.symm]
  rfl
theorem zk_no {ks : List κ} {vs : List V} {f : κ} (hn : f ∉ ks) (h : vs.length = ks.length) : valV (ks.zip vs) f = none := by
  have h1 := zk_any ks vs f h
  have h2 := valV_any f (ks.zip vs)
  rw [h1, decide_eq_false hn] at h2
  cases q : valV (ks.zip vs) f with
  | none => rfl
  | some v => rw [q] at h2; cases h2
end
theorem zk_merge {ks : List Key} {vs : List V} (hn : ks.Nodup) (h : vs.length = ks.length) : mergeK [] (ks.zip vs) = ks.zip vs := by
  have key : ∀ (ks : List Key) (vs : List V) (acc : List Key) (us : List V), (acc ++ ks).Nodup → vs.length = ks.length → us.length = acc.length → mergeK (acc.zip us) (ks.zip vs) = (acc ++ ks).zip (us ++ vs) := by
    intro ks
    induction ks with
    | nil => intro vs acc us _ h _; cases vs with | nil => simp [mergeK] | cons => simp at h
    | cons k ks ih =>
      intro vs acc us hn h hu
      cases vs with
      | nil => simp at h
      | cons v vs =>
        have hk : k ∉ acc := fun z => by
          rw [List.nodup_append] at hn
          exact hn.2.2 k z k (by simp) rfl
        show mergeK (putK (acc.zip us) k v) (ks.zip vs) = _
        rw [zk_more hk hu, ih vs (acc ++ [k]) (us ++ [v]) (by rw [List.append_assoc]; exact hn) (by simpa using h) (by simp [hu])]
        simp
  have := key ks vs [] [] hn h rfl
  simpa using this
section
variable {K : PySem.W.Frag} {Γ Δ : List (Option AV)} {B H : Hp} {g x y z κ : AV} {te ta tb tc tv ti tl td ty : TE} {t u : TT} {b c : Bool} {i j : Nat} {D : Ends} {tz tu tw ts : TS} {ds es : List PyData} {d : PyData} {a p q C dx : Addr} {v : V} {ns : List Int} {n : Int} {kvs : List (Key × V)} {k : Key} {w : HO}
/-! ### what changes things that are there -/
def Gw (te : TE) (Γ : List (Option AV)) (B H : Hp) (R : V → Hp → Hp → Prop) : Prop := Same B H → ∀ σ, Fr B σ Γ → ∀ Q : VK, (∀ u B2 H2, Same B B2 → Same B2 H2 → R u B2 H2 → Q u H2) → te σ H Q
theorem Gv.gw (h : Gv te Γ B H g) : Gw te Γ B H fun u B2 H2 => Ext B H B2 H2 ∧ Is B2 u g := fun e σ f Q q => h B H σ (Ext.refl e) f Q fun u B2 H2 x hu => q u B2 H2 x.bb x.bh ⟨x, hu⟩
theorem qx_dropG {R : V → Hp → Hp → Prop} (h : Gw te Γ B H R) (k : ∀ u B2 H2, Same B B2 → R u B2 H2 → Sx tz D Γ B2 H2) : Sx (tSeq (tDrop te) tz) D Γ B H := fun e σ f => h e σ f _ fun u B2 H2 s s2 r => k u B2 H2 s r s2 σ (f.mono s)
theorem qx_asgG {R : V → Hp → Hp → Prop} (h : Gw te Γ B H R) (k : ∀ u B2 H2, Same B B2 → R u B2 H2 → ∃ g, Is B2 u g ∧ Sx tz D (Γ.set i (some g)) B2 H2) : Sx (tSeq (tAsg te (gName i)) tz) D Γ B H := fun e σ f => h e σ f _ fun u B2 H2 s s2 r => by
  obtain ⟨g, hg, q⟩ := k u B2 H2 s r
  exact q s2 _ ((f.mono s).set i hg)
theorem qx_retGw {R : V → Hp → Hp → Prop} (h : Gw te Γ B H R) (k : ∀ u B2 H2, Same B B2 → Same B2 H2 → R u B2 H2 → D.rt u H2) : Sx (tSeq (tRet te) tz) D Γ B H := fun e σ f => h e σ f _ fun u B2 H2 s s2 r => k u B2 H2 s s2 r
/-- an operation on two such -/
theorem gw_op {r : R2} {R T : V → Hp → Hp → Prop} {S : V → Hp → Hp → V → Hp → Hp → Prop} (ha : Gw ta Γ B H R) (hb : ∀ u B2 H2, Same B B2 → R u B2 H2 → Gw tb Γ B2 H2 (S u B2 H2)) (hr : ∀ u B2 H2 w B3 H3, R u B2 H2 → Same B2 B3 → Same B3 H3 → S u B2 H2 w B3 H3 → ∀ Q : VK, (∀ q B4 H4, Same B3 B4 → Same B4 H4 → T q B4 H4 → Q q H4) → r u w H3 Q) : Gw (tOp r ta tb) Γ B H T := fun e σ f Q q =>
  ha e σ f _ fun u B2 H2 s s2 r1 => hb u B2 H2 s r1 s2 σ (f.mono s) _ fun w B3 H3 s3 s4 r2 => hr u B2 H2 w B3 H3 r1 s3 s4 r2 Q fun k B4 H4 s5 s6 hk => q k B4 H4 ((s.trans s3).trans s5) s6 hk
def Gtw (t : TT) (Γ : List (Option AV)) (B H : Hp) (R : Bool → Hp → Hp → Prop) : Prop := Same B H → ∀ σ, Fr B σ Γ → ∀ Q : Bool → Hp → Prop, (∀ b B2 H2, Same B B2 → Same B2 H2 → R b B2 H2 → Q b H2) → t σ H Q
theorem gtw_test {R : V → Hp → Hp → Prop} {S : Bool → Hp → Hp → Prop} (h : Gw te Γ B H R) (k : ∀ u B2 H2, R u B2 H2 → ∃ b, u = .bl b ∧ S b B2 H2) : Gtw (tTest te) Γ B H S := fun e σ f Q q => h e σ f _ fun u B2 H2 s s2 r => by
  obtain ⟨b, e1, r2⟩ := k u B2 H2 r
  exact ⟨b, e1, q b B2 H2 s s2 r2⟩
theorem gtw_or {R S : Bool → Hp → Hp → Prop} (h : Gtw t Γ B H R) (k : ∀ b B2 H2, Same B B2 → R b B2 H2 → if b = true then S true B2 H2 else Gtw u Γ B2 H2 S) : Gtw (tOr t u) Γ B H S := fun e σ f Q q => h e σ f _ fun b B2 H2 s s2 r => by
  have := k b B2 H2 s r
  cases b with
  | true => rw [if_pos rfl] at this ⊢; exact q true B2 H2 s s2 this
  | false => rw [if_neg Bool.false_ne_true] at this ⊢; exact this s2 σ (f.mono s) Q fun b B3 H3 s3 s4 r3 => q b B3 H3 (s.trans s3) s4 r3
theorem gtw_not {R : Bool → Hp → Hp → Prop} (h : Gtw t Γ B H fun b => R (!b)) : Gtw (tNot t) Γ B H R := fun e σ f Q q => h e σ f _ fun b B2 H2 s s2 r => q (!b) B2 H2 s s2 r
theorem Gt.gtw (h : Gt t Γ B H b) : Gtw t Γ B H fun b2 B2 H2 => b2 = b ∧ Ext B H B2 H2 := fun e σ f Q q => h B H σ (Ext.refl e) f Q fun B2 H2 x => q b B2 H2 x.bb x.bh ⟨rfl, x⟩
theorem qx_ifG {R : Bool → Hp → Hp → Prop} (h : Gtw t Γ B H R) (h1 : ∀ B2 H2, Same B B2 → R true B2 H2 → Sx tu { D with nx := tz D } Γ B2 H2) (h2 : ∀ B2 H2, Same B B2 → R false B2 H2 → Sx tw { D with nx := tz D } Γ B2 H2) : Sx (tSeq (tIfS t tu tw) tz) D Γ B H := fun e σ f =>
  h e σ f _ fun b B2 H2 s s2 r => by
    cases b with
    | true => rw [if_pos rfl]; exact h1 B2 H2 s r s2 σ (f.mono s)
    | false => rw [if_neg Bool.false_ne_true]; exact h2 B2 H2 s r s2 σ (f.mono s)
/-! ### locks -/
theorem mut_ne {u : HO} (m : Mut (some u)) : True := True.intro
theorem ml_unlock {B' H' : Hp} {od : Obj} (m : Ml B' H' q ds) (n : q ≠ p) : Ml B' (upd H' p w) q ds := by
  obtain ⟨hb, us, h, t⟩ := m
  exact ⟨hb, us, by rw [upd_ne n]; exact h, t⟩
/-- x = [..], while something is locked -/
theorem qx_asgLk (hL : H p = some w) (mu : Mut (some w)) (hb : B p = none) (h : ∀ od, Gm te Γ B (upd H p (.frz od w)) ds) (k : ∀ q B2 H2, H q = none → Ext B H B2 H2 → Ml B2 H2 q ds → Sx tz D (Γ.set i (some (.v (.ref q)))) B2 H2) : Sx (tSeq (tLock (tAsg te (gName i))) tz) D Γ B H := fun e σ f => by
  refine ⟨p, w, hL, mu, fun od => ?_⟩
  refine h od B _ σ (Ext.refl (same_lock e hb)) f _ fun q B2 H2 x hq m => ?_
  have npq : q ≠ p := fun z => by rw [z, upd_same] at hq; cases hq
  refine ⟨x.hh _ _ upd_same, ?_⟩
  have xu := x.unlock hb hL
  rw [upd_ne npq] at hq
  exact k q B2 _ hq xu (ml_unlock (od := od) m npq) xu.bh _ ((f.mono x.bb).set i rfl)
/-- .. as a value -/
theorem gm_lockE (hL : H p = some w) (mu : Mut (some w)) (hb : B p = none) (h : ∀ od B1 H1, Ext B H B1 H1 → Gm te Γ B1 (upd H1 p (.frz od w)) ds) : Gm (tLockE te) Γ B H ds := fun B1 H1 σ e f Q q => by
  have hL1 := e.hh _ _ hL
  have hb1 : B1 p = none := e.off hb (by rw [hL]; simp)
  refine ⟨p, w, hL1, mu, fun od => ?_⟩
  refine h od B1 H1 e B1 _ σ (Ext.refl (same_lock e.bh hb1)) f _ fun r B2 H2 x hr m => ?_
  have npq : r ≠ p := fun z => by rw [z, upd_same] at hr; cases hr
  refine ⟨x.hh _ _ upd_same, ?_⟩
  rw [upd_ne npq] at hr
  exact q r B2 _ (x.unlock hb1 hL1) hr (ml_unlock (od := od) m npq)
theorem gv_lockE (hL : H p = some w) (mu : Mut (some w)) (hb : B p = none) (h : ∀ od B1 H1, Ext B H B1 H1 → Gv te Γ B1 (upd H1 p (.frz od w)) g) : Gv (tLockE te) Γ B H g := fun B1 H1 σ e f Q q => by
  have hL1 := e.hh _ _ hL
  have hb1 : B1 p = none := e.off hb (by rw [hL]; simp)
  refine ⟨p, w, hL1, mu, fun od => ?_⟩
  refine h od B1 H1 e B1 _ σ (Ext.refl (same_lock e.bh hb1)) f _ fun r B2 H2 x hr => ?_
  exact ⟨x.hh _ _ upd_same, q r B2 _ (x.unlock hb1 hL1) hr⟩
/-- [.. for k in d if ..], d locked -/
theorem gm_lcK {β : Type} [DecidableEq β] [Enc β] {ks : List Int} {vs : List Nat} {od : Obj} (P : Int → Bool) (f : Int → β) (ha : Gv td Γ B H (.v (.ref p))) (hp : H p = some (.frz od (.dK kvs))) (hpb : B p = none) (hk : kvs.map (·.1) = ks.map (Sum.inl : Int → Key)) (hz : ks.length < 16000000) (hv : j ∈ vs) (hnd : vs.Nodup)
    (ht : ∀ a ∈ ks, ∀ B1 H1, Ext B H B1 H1 → Gt t ((Ow Γ vs).set j (some (AI a))) B1 H1 (P a)) (he : ∀ a ∈ ks, P a = true → ∀ B1 H1, Ext B H B1 H1 → Gv te ((Ow Γ vs).set j (some (AI a))) B1 H1 (.d (enc (f a)))) :
    Gm (tLc (iKeys td) (gName j) t te vs) Γ B H (((ks.filter P).map f).map enc) := fun B0 H0 σ e fr Q q =>
  ha B0 H0 σ e fr _ fun u Bs Hs x hu => by
    have hu : u = .ref p := hu
    subst hu
    have hlen : kvs.length = ks.length := by
      have := congrArg List.length hk
      rw [List.length_map, List.length_map] at this
      exact this
    have hps := (e.trans x).hh _ _ hp
    refine ⟨p, od, rfl, .inl ⟨kvs, hps, fun Dl hD => ?_⟩⟩
    have hbs : Bs Dl = none := x.bh.free hD
    have npD : p ≠ Dl := fun z => by rw [z, hD] at hps; cases hps
    refine lc_it walk_keys (fun k => Cq Bs Dl ((((ks.take k).filter P).map f).map enc) Bs Hs) ⟨Bs, Same.refl _, Ext.out x.bh hD, hbs, [], upd_same, .nil⟩ ?_ ?_ ?_
    · rintro k H' _ ⟨B', s1, x', _⟩
      exact x'.hh _ _ hps
    · rintro k v H' H'' hk2 ⟨B', s1, x', m⟩ ⟨rfl, key, w2, hkv, rfl⟩
      have h3 : (kvs.map (·.1))[k]? = some key := by rw [List.getElem?_map, hkv]; rfl
      rw [hk, List.getElem?_map] at h3
      cases h4 : ks[k]? with
      | none => rw [h4] at h3; cases h3
      | some a' =>
        rw [h4] at h3
        cases h3
        have hmem : a' ∈ ks := List.mem_of_getElem? h4
        have htake : ks.take (k + 1) = ks.take k ++ [a'] := by
          rw [List.take_add_one, h4]
          rfl
        have fr1 : Fr B' ((wipe σ vs).set j (some (.int a'))) ((Ow Γ vs).set j (some (AI a'))) := ((fr.mono (x.bb.trans s1)).wipe vs).set (g := AI a') j (.int a')
        have eB : Ext B0 H0 B' _ := x.trans x'
        refine ⟨wipe_set hv hnd, ht a' hmem B' _ (e.trans eB) B' _ _ (Ext.refl x'.bh) fr1 _ fun B2 H2 x2 => ?_⟩
        cases pa : P a' with
        | true =>
          rw [if_pos rfl]
          refine he a' hmem pa B2 H2 ((e.trans eB).trans x2) B2 H2 _ (Ext.refl x2.bh) (fr1.mono x2.bb) _ fun w B3 H3 x3 hw => ?_
          obtain ⟨hb, acc, ha, t3⟩ := (m.ext x2).ext x3
          have xx := (x'.trans x2).trans x3
          refine ⟨acc, ha, szl ?_, B3, s1.trans (x2.bb.trans x3.bb), xx.mut hD hb, hb, _, upd_same, ?_⟩
          · rw [t3.length, List.length_map, List.length_map]
            have h1 := List.length_filter_le P (ks.take k)
            have h2 : (ks.take k).length ≤ ks.length := by rw [List.length_take]; omega
            omega
          · have hh : ((ks.take (k + 1)).filter P).map f = ((ks.take k).filter P).map f ++ [f a'] := by
              rw [htake, List.filter_append, List.map_append]
              congr 1
              simp [List.filter_cons, pa]
            rw [hh, List.map_append]
            exact t3.append (.one hw)
        | false =>
          rw [if_neg (by simp)]
          refine ⟨B2, s1.trans x2.bb, x'.trans x2, ?_⟩
          have hh : ((ks.take (k + 1)).filter P).map f = ((ks.take k).filter P).map f := by
            rw [htake, List.filter_append, List.map_append]
            simp [List.filter_cons, pa]
          rw [hh]
          exact m.ext x2
    · rintro H' ⟨B', s1, x', m⟩
      rw [hlen, List.take_length] at m
      exact q Dl B' H' (x.trans x') (x.hh.free hD) m
/-- for k in d, something being locked, d too -/
theorem qx_forL {ι : Type} {ks : List Int} {kvs : List (Key × V)} (hL : H q = some w) (mu : Mut (some w)) (hqb : B q = none) (hk : kvs.map (·.1) = ks.map (Sum.inl : Int → Key)) (ha : ∀ od, Gv td Γ B (upd H q (.frz od w)) (.v (.ref p))) (G : ι → List (Option AV)) (P : Obj → Nat → ι → Hp → Hp → Prop) (x0 : ι) (hl : Le (G x0) Γ)
    (h0 : ∀ od B1 H1, Ext B (upd H q (.frz od w)) B1 H1 → P od 0 x0 B1 H1) (hq : ∀ od k x B1 H1, P od k x B1 H1 → (∃ o, H1 p = some (.frz o (.dK kvs))) ∧ H1 q = some (.frz od w) ∧ B1 q = none) (hfix : ∀ od, ∃ o, ∀ k x B1 H1, P od k x B1 H1 → H1 p = some (.frz o (.dK kvs)))
    (hs : ∀ od Bs (k : Nat) i x B1 H1, ks[k]? = some i → Same B Bs → Same Bs B1 → P od k x B1 H1 →
      Sx tu { nx := Lx Bs G (P od (k + 1)), ct := Lx Bs G (P od (k + 1)), bk := fun σ' H' => H' q = some (.frz od w) ∧ tz D σ' (upd H' q w), rt := fun v H' => H' q = some (.frz od w) ∧ D.rt v (upd H' q w) } ((G x).set j (some (AI i))) B1 H1)
    (hd : ∀ od x B1 H1, Same B B1 → P od ks.length x B1 H1 → Sx tz D (G x) B1 (upd H1 q w)) : Sx (tSeq (tLock (tFor (iKeys td) (gName j) tu)) tz) D Γ B H := fun e σ f => by
  have hlen : kvs.length = ks.length := by
    have := congrArg List.length hk
    rw [List.length_map, List.length_map] at this
    exact this
  refine ⟨q, w, hL, mu, fun od => ?_⟩
  have eL : Same B (upd H q (.frz od w)) := same_lock e hqb
  refine ha od B _ σ (Ext.refl eL) f _ fun u Bs Hs x hu => ?_
  have hu : u = .ref p := hu
  subst hu
  have p0 := h0 od Bs Hs x
  obtain ⟨o, ho⟩ := hfix od
  refine ⟨p, o, rfl, .inl ⟨kvs, ho 0 x0 Bs Hs p0, for_it walk_keys (fun k => Lx Bs G (P od k)) ⟨x0, Bs, Same.refl _, x.bh, p0, (f.mono x.bb).le hl⟩ ?_ ?_ ?_⟩⟩
  · rintro k σ' H' _ ⟨y, B', _, _, q, _⟩
    exact ho k y B' H' q
  · rintro k v σ' H' H'' hk2 ⟨y, B', s1, s2, q, f'⟩ ⟨rfl, key, w, hkv, rfl⟩
    have h3 : (kvs.map (·.1))[k]? = some key := by rw [List.getElem?_map, hkv]; rfl
    rw [hk, List.getElem?_map] at h3
    cases h4 : ks[k]? with
    | none => rw [h4] at h3; cases h3
    | some i =>
      rw [h4] at h3
      cases h3
      exact hs od Bs k i y B' _ h4 x.bb s1 q s2 _ (f'.set (g := AI i) j (.int i))
  · rintro σ' H' ⟨y, B', s1, s2, q, f'⟩
    rw [hlen] at q
    obtain ⟨_, h1, h2⟩ := hq od _ y B' H' q
    exact ⟨h1, hd od y B' H' (x.bb.trans s1) q (same_lock s2 h2) σ' f'⟩
/-! ### dict displays -/
def Gp (trs : List (TE × TE)) (Γ : List (Option AV)) (B H : Hp) (ks : List Key) (gs : List AV) : Prop :=
  ∀ B1 H1 σ, Ext B H B1 H1 → Fr B1 σ Γ → ∀ Q : List (V × V) → Hp → Prop, (∀ us B2 H2, Ext B1 H1 B2 H2 → IsAll B2 us gs → Q ((ks.zip us).map fun kv => (kV kv.1, kv.2)) H2) → tPairs trs σ H1 Q
theorem gp_nil : Gp [] Γ B H [] [] := fun B1 H1 σ e f Q q => q [] B1 H1 (Ext.refl e.bh) .nil
theorem gp_cons {trs : List (TE × TE)} {ks : List Key} {gs : List AV} (hk : Gv ty Γ B H κ) (kq : Kq κ k) (hv : Gv tv Γ B H g) (hr : Gp trs Γ B H ks gs) : Gp ((ty, tv) :: trs) Γ B H (k :: ks) (g :: gs) := fun B1 H1 σ e f Q q =>
  hk B1 H1 σ e f _ fun u B2 H2 e2 hu => hv B2 H2 σ (e.trans e2) (f.mono e2.bb) _ fun w B3 H3 e3 hw => hr B3 H3 σ ((e.trans e2).trans e3) ((f.mono e2.bb).mono e3.bb) _ fun us B4 H4 e4 hus => by
    have := q (w :: us) B4 H4 ((e2.trans e3).trans e4) (.cons (hw.mono e4.bb) hus)
    rw [kq _ _ hu]
    exact this
/-- a new own dict -/
def Gd (te : TE) (Γ : List (Option AV)) (B H : Hp) (ks : List Key) (gs : List AV) : Prop :=
  ∀ B1 H1 σ, Ext B H B1 H1 → Fr B1 σ Γ → ∀ Q : VK, (∀ p us B2 H2, Ext B1 H1 B2 H2 → H1 p = none → IsAll B2 us gs → Md B2 H2 p (ks.zip us) → Q (.ref p) H2) → te σ H1 Q
theorem gd_disp {trs : List (TE × TE)} {ks : List Key} {gs : List AV} (h : Gp trs Γ B H ks gs) (hn : ks.Nodup) (hl : gs.length = ks.length) (h15 : ks.length ≤ 15) : Gd (tDisp trs) Γ B H ks gs := fun B1 H1 σ e f Q q => fun p hp => by
  have x1 : Ext B1 H1 B1 (upd H1 p (.dK [])) := Ext.out e.bh hp
  refine h B1 _ σ (e.trans x1) f _ fun us B2 H2 x2 hus => ?_
  have hb1 : B1 p = none := e.bh.free hp
  have m : Md B1 (upd H1 p (.dK [])) p [] := ⟨hb1, upd_same⟩
  obtain ⟨hb2, hp2⟩ := m.ext x2
  have hul : us.length = ks.length := hus.length.trans hl
  refine ⟨hp2, ks.zip us, rfl, by rw [List.length_zip]; omega, ?_⟩
  rw [zk_merge hn hul]
  exact q p us B2 _ ((x1.trans x2).mut hp hb2) hp hus ⟨hb2, upd_same⟩
theorem gd_new : Gd tDNewK Γ B H [] [] := fun B1 H1 σ e f Q q => fun p hp => q p [] B1 _ (Ext.out e.bh hp) hp .nil ⟨e.bh.free hp, upd_same⟩
theorem qx_asgD {ks : List Key} {gs : List AV} (h : Gd te Γ B H ks gs) (k : ∀ p us B2 H2, H p = none → Ext B H B2 H2 → IsAll B2 us gs → Md B2 H2 p (ks.zip us) → Sx tz D (Γ.set i (some (.v (.ref p)))) B2 H2) : Sx (tSeq (tAsg te (gName i)) tz) D Γ B H := fun e σ f =>
  h B H σ (Ext.refl e) f _ fun p us B2 H2 x hp hus m => k p us B2 H2 hp x hus m x.bh _ ((f.mono x.bb).set i rfl)
/-- {..}[k] -/
theorem gv_dgetD {ks : List Key} {gs : List AV} {n : Nat} (h : Gd td Γ B H ks gs) (hk : Gv ty Γ B H κ) (kq : Kq κ k) (e1 : ks.idxOf k = n) (hn : n < ks.length) (hg : gs[n]? = some (.d d)) : Gv (tDGet td ty) Γ B H (.d d) := fun B1 H1 σ e f Q q =>
  h B1 H1 σ e f _ fun p us B2 H2 e2 hp hus m => hk B2 H2 σ (e.trans e2) (f.mono e2.bb) _ fun w B3 H3 e3 hw => by
    rw [kq _ _ hw]
    have key : ∀ {us : List V} {gs : List AV} {n : Nat}, IsAll B2 us gs → gs[n]? = some (.d d) → ∃ v, us[n]? = some v ∧ Dq B2 v d := by
      intro us gs n hh
      induction hh generalizing n with
      | nil => intro z; simp at z
      | cons h1 _ ih =>
        intro z
        cases n with
        | zero => simp at z; subst z; exact ⟨_, rfl, h1⟩
        | succ n => exact ih (by simpa using z)
    obtain ⟨v, hv, dv⟩ := key hus hg
    exact ⟨p, v, rfl, .inl ⟨ks.zip us, k, .inl (m.ext e3).2, rfl, (zk_val ks us k n v e1 hn hv).symm⟩, q v B3 H3 (e2.trans e3) (dv.mono e3.bb)⟩
/-! ### d.get(k, x) -/
theorem gv_dget2 {te : TE} (ha : Gv td Γ B H (.v (.ref p))) (hk : Gv ty Γ B H κ) (kq : Kq κ k) (hp : Rd H p (.dK kvs)) (he : Gv te Γ B H x) (hv : ∀ v, valV kvs k = some v → Is B v g) (hx : valV kvs k = none → x = g) : Gv (tDGet2 td ty te) Γ B H g := fun B1 H1 σ e f Q q =>
  ha B1 H1 σ e f _ fun u B2 H2 e2 hu => by
    have hu : u = .ref p := hu
    subst hu
    have hp2 := rd_ext hp (e.trans e2)
    refine ⟨p, rfl, .inl ⟨kvs, hp2⟩, ?_⟩
    refine hk B2 H2 σ (e.trans e2) (f.mono e2.bb) _ fun w B3 H3 e3 hw => he B3 H3 σ ((e.trans e2).trans e3) ((f.mono e2.bb).mono e3.bb) _ fun z B4 H4 e4 hz => ?_
    rw [kq _ _ hw]
    have x4 := ((e.trans e2).trans e3).trans e4
    refine ⟨valV kvs k, .inl ⟨kvs, k, rd_ext hp x4, rfl, rfl⟩, ?_⟩
    refine q _ B4 H4 ((e2.trans e3).trans e4) ?_
    cases hq : valV kvs k with
    | some v => exact (hv v hq).mono x4.bb
    | none => rw [← hx hq]; exact hz
/-! ### len of a dict, its truth -/
theorem rc_lenDm (m : Md B H p kvs) : Rc (fun xs H Q => ∃ a kvs, xs = [V.ref a] ∧ H a = some (.dK kvs) ∧ Q (.int kvs.length) H) B H [.v (.ref p)] (AI kvs.length) := fun B1 H1 us e hu Q q => by
  have := isAll_v (cs := [.ref p]) hu
  subst this
  exact ⟨p, kvs, rfl, (m.ext e).2, q _ B1 H1 (Ext.refl e.bh) (.int _)⟩
end
/-! ### a method called in the body of a try -/
def tMetS (C : Addr) (m : Str) (sp : Sp) (E : L2.St → XK) (ta : TE) (t : TA) : TE := fun σ H Q => ta σ H fun x H1 => ∃ a dx fs, x = .ref a ∧ H1 a = some (.ins C dx fs) ∧ fs.lookup m = none ∧ t σ H1 fun ws H2 => sp (x :: ws) H2 Q (E σ)
section
variable {X : Cx} {k j : Nat} {C : Addr} {x m : Str} {sp : Sp} {E : L2.St → XK} {CX : CXT} {p pos apos : Pos} {e o : Expr} {es : List Expr} {ta : TE} {t : TA}
theorem pe_metS {pl : Sem Bool} (c : Met X.prog X.w X.K X.mg X.base CX k C m sp) (cl : Cls X.K C) (hr : Room j X.A) (hk : k ≤ j) (hx : ∀ σ, PassesAt CX X σ (E σ)) (he : PE X o ta) (ha : PA X (e :: es) t)
    (hst : starEach (e :: es) X.env = (false, eval e X.env) :: starEach es X.env := by rfl) (hpl : (backTo pos (starEach es X.env)).any (·.1) = false := by rfl)
    (ht : eval (.Call (.Attribute o m apos) (e :: es) [] pos) X.env = (do
      let ov ← eval o X.env
      standAt apos.atName
      let (f, first) ← holding [ov] (getMethod ov m pl)
      callWith pos f first (backTo pos (starEach (e :: es) X.env)) (backToKw pos (keywordEach [] X.env))) := by rfl) :
    PE X (.Call (.Attribute o m apos) (e :: es) [] pos) (tMetS C m sp E ta t) := by
  obtain ⟨f, fd, ps, F, hm, b⟩ := c.ex
  refine ⟨fun pins s σ H Q I h => ?_⟩
  refine PySem.W.methodCall_KW (pl := pl) (thn (he.run pins s σ H _ I h) fun u s1 ⟨x, H1, I1, rx, a, dx, fs, ex, ea, l, q⟩ => ?_) ht
  subst ex
  obtain rfl : u = Value.ref a := rx
  refine getmeth_ok I1 ea cl hm l ?_
  refine PySem.W.callWith_K (first := [.ref a]) (h₀ := X.base) I.ok.mod.kin hm.kp (thn (ha.run pos pins s1 σ H1 _ I1 q) fun us s2 ⟨vs, H2, I2, r, q2⟩ => ⟨I2.kIn, ?_⟩) hst hpl
  exact run_fnS (us := .ref a :: us) (vs := .ref a :: vs) F (hr.mono hk) b (hx σ) I2 (.cons rfl r) q2
/-! ### list.count over truths -/
def rCntB (K : PySem.W.Frag) : V → List V → Hp → VK → Prop := fun x xs H Q => ∃ (p : Addr) (bs : List Bool) (k : Bool), x = .ref p ∧ xs = [.bl k] ∧ SqL K H p (bs.map V.bl) ∧ Q (.int (bs.count k : Nat)) H
theorem dpAll_bools {K : PySem.W.Frag} {H : Hp} : ∀ bs : List Bool, DpAll K H (bs.map V.bl) (bs.map PyData.bool)
  | [] => .nil
  | b :: bs => .cons (.bl b) (dpAll_bools bs)
theorem plain_bools : ∀ bs : List Bool, PyData.plainAll (bs.map PyData.bool) = true
  | [] => rfl
  | b :: bs => by rw [List.map_cons, PyData.plainAll, plain_bools bs]; rfl
theorem count_bools (k : Bool) : ∀ bs : List Bool, (bs.map PyData.bool).countP (fun y => PyData.eqv y (.bool k)) = bs.count k
  | [] => rfl
  | b :: bs => by
    rw [List.map_cons, List.countP_cons, count_bools k bs, List.count_cons]
    congr 1
theorem dep_bools : ∀ bs : List Bool, PyData.depthAll (bs.map PyData.bool) = 0
  | [] => rfl
  | b :: bs => by rw [List.map_cons, PyData.depthAll, dep_bools bs]; rfl
theorem mt_lcountB (hu : X.A.units + 65 < cLine) : MtR X "list.count" (rCntB X.K) := by
  intro pins s σ H x xs v us Q I rx rxs h
  obtain ⟨p, bs, k, rfl, rfl, hs, q⟩ := h
  cases rx
  obtain ⟨u, rfl, ru⟩ := rxs.one
  obtain ⟨cs, r1⟩ := Dp.reads I (.bool k) _ _ (.bl k) ru
  obtain ⟨its, rv, ⟨ob, n, ho, hc, hdn, hd⟩, hlen⟩ := I.list hs
  have hl : s.heap.IsList p its.toArray := ⟨ob, ho, hc, n, hd⟩
  obtain ⟨as, h4⟩ := Dp.readsAll I _ _ its (dpAll_bools bs) rv
  refine SeqAt.count_list_data (vs := its.toArray) (xs := bs.map PyData.bool) (d := .bool k) hl (by simpa using h4) r1 (plain_bools bs) rfl (by rw [dep_bools]; omega) ?_
  rw [count_bools]
  exact ⟨.int (bs.count k : Nat), H, I.tok _, ⟨s.toks, rfl⟩, q⟩
theorem mt_lcountBK {K : PySem.W.Frag} (h : X.K = K) (hu : X.A.units + 65 < cLine) : MtR X "list.count" (rCntB K) := by subst h; exact mt_lcountB hu
end
theorem gv_countB {K : PySem.W.Frag} {Γ : List (Option AV)} {B H : Hp} {ta tb : TE} {bs : List Bool} {k : Bool} (ha : Gv ta Γ B H (.d (.list (bs.map enc)))) (hb : Gv tb Γ B H (AB k)) : Gv (tBM K "list" (rCntB K) ta (tCons tb tNil)) Γ B H (AI (bs.count k : Nat)) := fun B1 H1 σ e f Q q => ha B1 H1 σ e f _ fun u B2 H2 e2 hu => by
  cases hu with
  | @lst a us _ hp t =>
    have t : DqAll B2 us (bs.map PyData.bool) := t
    have := t.bools
    subst this
    refine ⟨Or.inl ⟨rfl, _, SqL.of (e2.bh _ _ hp)⟩, ?_⟩
    refine hb B2 H2 σ (e.trans e2) (f.mono e2.bb) _ fun w B3 H3 e3 hw => ?_
    cases hw
    exact ⟨a, bs, k, rfl, rfl, SqL.of (e3.bh _ _ (e3.bb _ _ hp)), q _ B3 H3 (e2.trans e3) (.int _)⟩
theorem gv_indexD {K : PySem.W.Frag} {Γ : List (Option AV)} {B H : Hp} {ta tb : TE} {ds : List PyData} {d z : PyData} {j : Nat} (ha : Gv ta Γ B H (.d (.list ds))) (hb : Gv tb Γ B H (.d d)) (s1 : SeqAt.shaped (.list ds) = true) (s2 : SeqAt.shaped d = true) (hz : ds[j]? = some z) (hj : PyData.eqv z d = true) (hno : ∀ (m : Nat) (z' : PyData), m < j → ds[m]? = some z' → PyData.eqv z' d = false) :
    Gv (tBM K "list" (rIndexD K) ta (tCons tb tNil)) Γ B H (AI (j : Nat)) := fun B1 H1 σ e f Q q => ha B1 H1 σ e f _ fun u B2 H2 e2 hu => by
  cases hu with
  | @lst a us _ hp t =>
    refine ⟨Or.inl ⟨rfl, _, SqL.of (e2.bh _ _ hp)⟩, ?_⟩
    refine hb B2 H2 σ (e.trans e2) (f.mono e2.bb) _ fun w B3 H3 e3 hw => ?_
    exact ⟨a, w, d, ds, j, z, rfl, rfl, .lst (SqL.of (e3.bh _ _ (e3.bb _ _ hp))) (DqAll.dp ((t.mono e3.bb).mono e3.bh)), (hw.mono e3.bh).dp, s1, s2, hz, hj, hno, q _ B3 H3 (e2.trans e3) (.int _)⟩
end SB
namespace SB
open PySem PySem.Spec PyProof.Rows L2
open Enc (enc)
def top (i : Nat) : Stmt := PySem.Challenge.pw_signalbox_k10_box.main.body.getD i (.Pass ⟨0, 0, 0, 0⟩)
local macro_rules | `(tactic| walk_at "le") => `(tactic| first | exact le_nil | (refine le_keep ?_; walk_at "le") | (refine le_drop ?_; walk_at "le"))
local macro_rules | `(tactic| walk_at "sd") => `(tactic| first | assumption | (show (_ : Int) < _ ∧ _ < (1073741824 : Int); exact ⟨by omega, by omega⟩) | (show (-(2 ^ 64) < (_ : Int) ∧ _ < (2 ^ 64 : Int)) ∨ _; first | exact .inl ⟨by omega, by omega⟩ | exact .inr ⟨by omega, by omega⟩) | rfl | decide | (simp; done) | omega | skip)
local macro_rules | `(tactic| walk_at "gc") => `(tactic| fail)
local macro_rules | `(tactic| walk_at "gv") => `(tactic| first
  | exact gv_int | exact gv_str | exact gv_bl | exact gv_non | exact gv_var rfl
  | ((with_reducible refine' gv_op ?_ ?_ ?_) <;> walk_at "gv")
  | ((with_reducible refine' ga_cons ?_ ?_) <;> walk_at "gv") | exact ga_nil
  | ((with_reducible refine' gv_cb ?_ ?_) <;> walk_at "gv")
  | ((with_reducible refine' gt_test ?_) <;> walk_at "gv") | ((with_reducible refine' gt_B ?_) <;> walk_at "gv") | ((with_reducible refine' gt_not ?_) <;> walk_at "gv")
  | ((with_reducible refine' gt_and ?k1 ?k2); (case' k1 => walk_at "gv"); (case' k2 => intro hb; walk_at "gv"))
  | ((with_reducible refine' gt_or ?k1 ?k2); (case' k1 => walk_at "gv"); (case' k2 => intro hb; walk_at "gv"))
  | ((with_reducible refine' gv_andV ?k1 ?k2); (case' k1 => walk_at "gv"); (case' k2 => intro hb; walk_at "gv"))
  | ((with_reducible refine' gv_orV ?k1 ?k2); (case' k1 => walk_at "gv"); (case' k2 => intro hb; walk_at "gv"))
  | ((with_reducible refine' gv_notV ?_) <;> walk_at "gv")
  | ((with_reducible refine' gv_slL ?_ ?_ ?_) <;> walk_at "gv") | ((with_reducible refine' gv_slT ?_ ?_ ?_ ?_) <;> walk_at "gv")
  | exact go_none | ((with_reducible refine' go_some ?_) <;> walk_at "gv")
  | exact gd_nil | ((with_reducible refine' gd_cons ?_ ?_) <;> walk_at "gv") | ((with_reducible refine' gv_lst ?_ ?_) <;> walk_at "gv") | ((with_reducible refine' gv_tup ?_ ?_) <;> walk_at "gv")
  | ((with_reducible refine' gv_chain ?_ ?_ ?_ ?_ ?_) <;> walk_at "gv") | ((with_reducible refine' gt_truL ?_) <;> walk_at "gv") | ((with_reducible refine' gv_countI ?_ ?_) <;> walk_at "gv")
  | ((with_reducible refine' gv_lenSetI ?_ ?_) <;> walk_at "gv") | ((with_reducible refine' gv_lenSetU ?_ ?_) <;> walk_at "gv") | ((with_reducible refine' gv_lenSetT ?_ ?_) <;> walk_at "gv")
  | exact gt_yes
  | walk_at "gc"
  | exact ro_I0 | exact ro_B0 | (refine ro_I ?_; walk_at "sd")
  | exact ro_eqI | exact ro_neI | exact ro_eqS | exact ro_neS
  | (refine ro_eq ?_; walk_at "sd") | (refine ro_ne ?_; walk_at "sd")
  | exact ro_isN | exact ro_notN
  | exact ro_inI | exact ro_notInI | exact ro_inTI
  | (refine' ro_ixL ?k1; (case' k1 => walk_at "sd")) | (refine' ro_ixT ?k1; (case' k1 => walk_at "sd"))
  | (refine ro_cat ?_; walk_at "sd")
  | exact rc_lenM | exact rc_len | exact rc_lenT | exact rc_list | exact rc_listT | exact rc_tuple | exact rc_any | exact rc_all | exact rc_max2 | exact rc_min2 | exact rc_intB
  | (show (_ : Nat) ≤ _; first | decide | (simp; done) | omega)
  | (show (_ : Nat) < _; first | decide | (simp; done) | omega)
  | (show ¬ (_ ∧ _); exact fun h => absurd (show (1 : Nat) = 0 from h.1) (by decide))
  | skip)
local macro_rules | `(tactic| walk_at "ge") => `(tactic| (refine' gt_is ?k1 ?k2; (case' k1 => walk_at "gv"); (case' k2 => first | rfl | (simp; done) | skip)))
local macro_rules | `(tactic| walk_at "gw") => `(tactic| (refine' gv_is ?k1 ?k2; (case' k1 => walk_at "gv"); (case' k2 => first | rfl | (simp; done) | skip)))
local macro_rules | `(tactic| walk_at "gj") => `(tactic| first | exact gi_nil | (refine' gi_cons ?g1 ?g2; (case' g1 => walk_at "gv"); (case' g2 => walk_at "gj")))
local macro_rules | `(tactic| walk_at "gi") => `(tactic| (refine' gv_lst ?k1 ?k2; (case' k1 => walk_at "gj"); (case' k2 => (simp; try omega))))
/-! ### layouts -/
inductive Pc where
  | plain (j k : Int)
  | points (t s b : Int)
  deriving DecidableEq
def Pc.word : Pc → Str
  | .plain _ _ => "plain"
  | .points _ _ _ => "points"
def Pc.js : Pc → List Int
  | .plain j k => [j, k]
  | .points t s b => [t, s, b]
def encPc (p : Pc) : PyData := .tuple (.str p.word :: p.js.map PyData.int)
theorem word_ne : (("plain" : Str) == "points") = false := by decide +kernel
theorem word_ne' : (("points" : Str) == "plain") = false := by decide +kernel
instance : Enc Pc where
  enc := encPc
  eqv a b := by
    cases a <;> cases b <;> simp only [encPc, Pc.word, Pc.js, PyData.eqv, PyData.eqvAll, List.map_cons, List.map_nil, word_ne, word_ne', Bool.false_and, Bool.and_true]
    all_goals (rw [Bool.eq_iff_iff]; simp)
  lay a := by
    have h1 : PyData.strOk "plain" = true := by decide +kernel
    have h2 : PyData.strOk "points" = true := by decide +kernel
    cases a <;> simp [encPc, Pc.word, Pc.js, PyData.canLay0, PyData.canLayAll0, h1, h2]
  dep := 1
  dep_le a := by cases a <;> simp [encPc, Pc.word, Pc.js, PyData.depth, PyData.depthAll]
abbrev Sig := Int × Int
structure Adr where
  BoxError : Addr
  BadYard : Addr
  NotThere : Addr
  Held : Addr
  Red : Addr
  Yard : Addr
structure Txt (K : PySem.W.Frag) (mg : Str → Option Value) (C : Adr) : Prop where
  n_ValueError : mg "ValueError" = none
  n_any : mg "any" = none
  n_bool : mg "bool" = none
  n_int : mg "int" = none
  n_isinstance : mg "isinstance" = none
  n_len : mg "len" = none
  n_list : mg "list" = none
  n_max : mg "max" = none
  n_min : mg "min" = none
  n_range : mg "range" = none
  n_set : mg "set" = none
  n_tuple : mg "tuple" = none
  g_BRANCH : ∃ t, mg "BRANCH" = some (.str "branch" t)
  g_JOINTS : ∃ t, mg "JOINTS" = some (.int 999 t)
  g_MOST : ∃ t, mg "MOST" = some (.int 16 t)
  g_STRAIGHT : ∃ t, mg "STRAIGHT" = some (.str "straight" t)
  e_BoxError : ExT K mg "BoxError" C.BoxError
  e_BadYard : ExT K mg "BadYard" C.BadYard
  e_NotThere : ExT K mg "NotThere" C.NotThere
  e_Held : ExT K mg "Held" C.Held
  e_Red : ExT K mg "Red" C.Red
  cl_Yard : Cls K C.Yard
  c_Yard : mg "Yard" = some (.ref C.Yard)
  na_Yard_pieces : NoAttr K C.Yard "pieces"
  na_Yard_signals : NoAttr K C.Yard "signals"
  na_Yard_wait : NoAttr K C.Yard "wait"
  na_Yard_routes : NoAttr K C.Yard "routes"
  na_Yard_now : NoAttr K C.Yard "now"
  na_Yard_points : NoAttr K C.Yard "points"
  na_Yard_locks : NoAttr K C.Yard "locks"
  na_Yard_green : NoAttr K C.Yard "green"
  na_Yard_falling : NoAttr K C.Yard "falling"
  na_Yard_trains : NoAttr K C.Yard "trains"
section
variable {C : Adr} {P : Program} {w : World} {K : PySem.W.Frag} {mg : Str → Option Value} {base : Heap} {fd : FuncData} {f : Addr}
abbrev s_joints : Stmt := top 9
abbrev N_joints : List Str := ["piece"]
theorem sc_joints : FnScope N_joints ["piece"] (defScope s_joints) := ⟨rfl, rfl, rfl, by decide +kernel, rfl, by decide +kernel, by decide +kernel⟩
abbrev s_beyond : Stmt := top 10
abbrev N_beyond : List Str := ["pieces", "at", "joint", "k"]
theorem sc_beyond : FnScope N_beyond ["pieces", "at", "joint"] (defScope s_beyond) := ⟨rfl, rfl, rfl, by decide +kernel, rfl, by decide +kernel, by decide +kernel⟩
abbrev s_outs : Stmt := top 11
abbrev N_outs : List Str := ["piece", "joint", "one"]
theorem sc_outs : FnScope N_outs ["piece", "joint"] (defScope s_outs) := ⟨rfl, rfl, rfl, by decide +kernel, rfl, by decide +kernel, by decide +kernel⟩
abbrev s_ends_at : Stmt := top 16
abbrev N_ends_at : List Str := ["pieces", "signals", "at", "joint", "behind"]
theorem sc_ends_at : FnScope N_ends_at ["pieces", "signals", "at", "joint"] (defScope s_ends_at) := ⟨rfl, rfl, rfl, by decide +kernel, rfl, by decide +kernel, by decide +kernel⟩
abbrev s_ways_from : Stmt := top 17
abbrev N_ways_from : List Str := ["pieces", "signals", "way", "joint", "at", "found", "out", "here", "step"]
theorem sc_ways_from : FnScope N_ways_from ["pieces", "signals", "way", "joint", "at"] (defScope s_ways_from) := ⟨rfl, rfl, rfl, by decide +kernel, rfl, by decide +kernel, by decide +kernel⟩
def spJoints : Sp := spP (T := Pc) (fun p => [.d (enc p)]) (fun _ _ _ => True) fun p => .d (enc p.js)
theorem ok_joints (T : Txt K mg C) (F : Fun K "joints" "joints" s_joints f fd) : FnOk P w K mg base CX0 1 f fd ["piece"] spJoints := by
  refine fn_P F sc_joints (fun _ => rfl) fun cdv A outer s H Q E hr => ⟨_, pss_cons (ps_ret (pe_callTy (call_listK (K := K) rfl) (by rfl) T.n_list (by decide +kernel) (pa_cons (pe_slice (sl_tupK (K := K) rfl) (pv 0) (po_some (pe_int)) (po_none)) (pa_nil))))
  (pss_nil), fun p B e _ q => ?_⟩
  refine qx_ret ?_ q
  cases p <;> walk_at "gv"

/-- the piece at the other side -/
def beyondN (ps : List Pc) (a j : Int) : Option Nat := (List.range ps.length).find? fun k => decide ((k : Int) ≠ a) && decide (j ∈ ((ps[k]?).elim [] Pc.js))
def oN : Option Nat → PyData
  | none => .none
  | some k => .int (k : Int)
def spBeyond : Sp := spP (T := List Pc × Int × Int) (fun t => [.d (.list (t.1.map enc)), AI t.2.1, AI t.2.2]) (fun t _ _ => t.1.length ≤ 100) fun t => .d (oN (beyondN t.1 t.2.1 t.2.2))
theorem gv_joints {Γ : List (Option AV)} {B H : Hp} {ta : TE} {E : XK} {p : Pc} (h : Gv ta Γ B H (.d (enc p))) : Gv (tCall spJoints [] E (tCons ta tNil)) Γ B H (.d (.list (p.js.map enc))) := gv_call p (ga_cons h ga_nil) fun _ _ _ => trivial
theorem gv_beyond {Γ : List (Option AV)} {B H : Hp} {ta tb tc : TE} {E : XK} {ps : List Pc} {a j : Int} (h1 : Gv ta Γ B H (.d (.list (ps.map enc)))) (h2 : Gv tb Γ B H (AI a)) (h3 : Gv tc Γ B H (AI j)) (hl : ps.length ≤ 100) :
    Gv (tCall spBeyond [] E (tCons ta (tCons tb (tCons tc tNil)))) Γ B H (.d (oN (beyondN ps a j))) := gv_call (ps, a, j) (ga_cons h1 (ga_cons h2 (ga_cons h3 ga_nil))) fun _ _ _ => hl
local macro_rules | `(tactic| walk_at "gc") => `(tactic| first | ((with_reducible refine' gv_joints ?_) <;> walk_at "gv") | ((with_reducible refine' gv_beyond ?_ ?_ ?_ ?_) <;> walk_at "gv"))
theorem ok_beyond (T : Txt K mg C) (F : Fun K "beyond" "beyond" s_beyond f fd) (c_joints : Cal P w K mg base CX0 1 "joints" spJoints) : FnOk P w K mg base CX0 2 f fd ["pieces", "at", "joint"] spBeyond := by
  refine fn_P F sc_beyond (fun _ => rfl) fun cdv A outer s H Q E hr => ⟨_, pss_cons (ps_for PassesOwn.never rfl (pi_range1 (by rfl) T.n_range (pa_cons (pe_callB (call_lenK (K := K) rfl) (by rfl) T.n_len (by decide +kernel) (pa_cons (pv 0) (pa_nil))) (pa_nil))) (pg_name (i := 3) sc_beyond.nd rfl (by first | exact Or.inl rfl | exact Or.inr rfl)) (pss_cons (ps_if (PW.pt (pw_and (pt_cmpR op_ne (pv 3) (pv 1) (nomark _)) (pw_and1 (pt_cmpR (op_inK (K := K) rfl) (pv 2) (pe_cal c_joints hr (by first | decide | omega) rfl passN (pa_cons (pe_ix (ix_listK (K := K) rfl) (pv 0) (pv 3) (fun _ _ => rfl)) (pa_nil))) (by rfl))))) (pss_cons (ps_ret (pv 3))
  (pss_nil)) (pss_nil))
  (pss_nil)))
  (pss_cons (ps_ret (pe_non))
  (pss_nil)), fun ⟨ps, a, j⟩ B e hl q => ?_⟩
  have hl : ps.length ≤ 100 := hl
  refine qx_forR (n := (ps.length : Int)) ?_ (by omega) (by omega) (fun _ => [some (.d (.list (ps.map enc))), some (AI a), some (AI j), none]) (fun k B1 H1 => Ext B H B1 H1 ∧ ∀ i, i < k → (decide ((i : Int) ≠ a) && decide (j ∈ ((ps[i]?).elim [] Pc.js))) = false) (by walk_at "le") (fun B1 H1 x => ⟨x, fun i hi => by omega⟩) ?_ ?_
  · walk_at "gv"
  · intro Bs k B1 H1 hk s1 s2 ⟨x, hn⟩
    have hk' : k < ps.length := by omega
    have hp : ps[k]? = some ps[k] := List.getElem?_eq_getElem hk'
    have hat := atI_map hp
    refine qx_when (b := decide ((k : Int) ≠ a) && decide (j ∈ (ps[k]).js)) ?_ ?_ ?_
    · walk_at "ge"
    · intro hb B2 H2 x2
      refine qx_ret (gv_var rfl) fun u B3 H3 x3 hu => q u B3 H3 ((x.trans x2).trans x3) ?_
      have hf : beyondN ps a j = some k := by
        unfold beyondN
        rw [List.find?_range_eq_some]
        refine ⟨?_, List.mem_range.mpr hk', fun i hi => ?_⟩
        · rw [hp]; exact hb
        · rw [hn i (by omega)]; rfl
      show Dq B3 u (oN (beyondN ps a j))
      rw [hf]
      exact hu
    · intro hb B2 H2 x2
      refine sx_lp (s2.trans x2.bb) (by walk_at "le") ⟨x.trans x2, fun i hi => ?_⟩
      by_cases h : i < k
      · exact hn i h
      · have : i = k := by omega
        subst this
        rw [hp]
        exact hb
  · intro B1 H1 s1 ⟨x, hn⟩
    refine qx_ret gv_non fun u B3 H3 x3 hu => q u B3 H3 (x.trans x3) ?_
    have hf : beyondN ps a j = none := by
      unfold beyondN
      rw [List.find?_eq_none]
      intro i hi
      have h1 := hn i (by simpa using List.mem_range.mp hi)
      rw [h1]
      simp
    show Dq B3 u (oN (beyondN ps a j))
    rw [hf]
    exact hu
/-- the joints by which a piece is left -/
def outsN (p : Pc) (j : Int) : List Int := match p with
  | .plain a c => [a, c].filter fun o => !decide (o = j)
  | .points t s b => if j = t then [s, b] else [t]
theorem word_pl (a c : Int) : decide ((Pc.plain a c).word = "plain") = true := by
  show decide (("plain" : Str) = "plain") = true
  decide +kernel
theorem word_pt (a b c : Int) : decide ((Pc.points a b c).word = "plain") = false := by
  show decide (("points" : Str) = "plain") = false
  decide +kernel
def spOuts : Sp := spP (T := Pc × Int) (fun t => [.d (enc t.1), AI t.2]) (fun _ _ _ => True) fun t => .d (.list ((outsN t.1 t.2).map enc))
theorem ok_outs (T : Txt K mg C) (F : Fun K "outs" "outs" s_outs f fd) (c_joints : Cal P w K mg base CX0 1 "joints" spJoints) : FnOk P w K mg base CX0 2 f fd ["piece", "joint"] spOuts := by
  refine fn_P F sc_outs (fun _ => rfl) fun cdv A outer s H Q E hr => ⟨_, pss_cons (ps_if (pt_cmpR op_eq (pe_ix (ix_tupK (K := K) rfl) (pv 0) (pe_int) (fun _ _ => rfl)) (pe_str) (nomark _)) (pss_cons (ps_ret (pe_lc (own := [("one", 2)]) (g := gName 2) (by rfl) sc_outs.nd (pi_listK (K := K) rfl (pe_cal c_joints hr (by first | decide | omega) rfl passN (pa_cons (pv 0) (pa_nil)))) (blkOk_by (own := [("one", 2)]) (N := N_outs) (sc := defScope s_outs) (by decide +kernel)) (fun _ _ _ _ _ => pg_name (i := 2) sc_outs.nd rfl (Or.inl rfl)) (fun _ _ _ _ _ => pts_one (pt_cmpR op_ne (pv 2) (pv 1) (nomark _))) (fun _ _ _ _ _ => pv 2)))
  (pss_nil)) (pss_nil))
  (pss_cons (ps_if (pt_cmpR op_eq (pv 1) (pe_ix (ix_tupK (K := K) rfl) (pv 0) (pe_int) (fun _ _ => rfl)) (nomark _)) (pss_cons (ps_ret (pe_lst (pa_cons (pe_ix (ix_tupK (K := K) rfl) (pv 0) (pe_int) (fun _ _ => rfl)) (pa_cons (pe_ix (ix_tupK (K := K) rfl) (pv 0) (pe_int) (fun _ _ => rfl)) (pa_nil)))))
  (pss_nil)) (pss_nil))
  (pss_cons (ps_ret (pe_lst (pa_cons (pe_ix (ix_tupK (K := K) rfl) (pv 0) (pe_int) (fun _ _ => rfl)) (pa_nil))))
  (pss_nil))), fun ⟨p, j⟩ B e _ q => ?_⟩
  cases p with
  | plain a c =>
    refine qx_yes (b := true) ?_ rfl fun B2 H2 x2 => ?_
    · refine gt_is (b := decide ((Pc.plain a c).word = "plain")) ?_ (word_pl a c)
      walk_at "gv"
    refine qx_ret (g := .d (.list ((((Pc.plain a c).js.filter fun o => !decide (o = j)).map id).map enc))) ?_ fun u B3 H3 x3 hu => q u B3 H3 (x2.trans x3) ?_
    · refine gv_lcL (xs := (Pc.plain a c).js) ?_ (by show 2 < 16000000; decide) (by decide) (by decide) (fun o => !decide (o = j)) id ?_ ?_
      · walk_at "gv"
      · intro o _ B3 H3 x3
        walk_at "gv"
      · intro o _ _ B3 H3 x3
        walk_at "gv"
    · rw [List.map_id] at hu
      exact hu
  | points t s1 b =>
    refine qx_no (b := false) ?_ rfl fun B2 H2 x2 => sx_go ?_
    · refine gt_is (b := decide ((Pc.points t s1 b).word = "plain")) ?_ (word_pt t s1 b)
      walk_at "gv"
    refine qx_when (b := decide (j = t)) ?_ ?_ ?_
    · walk_at "gv"
    · intro hb B3 H3 x3
      refine qx_ret (g := .d (.list [.int s1, .int b])) ?_ fun u B4 H4 x4 hu => q u B4 H4 ((x2.trans x3).trans x4) ?_
      · walk_at "gv"
      · have e1 : outsN (.points t s1 b) j = [s1, b] := if_pos (of_decide_eq_true hb)
        show Dq B4 u (.list ((outsN (.points t s1 b) j).map enc))
        rw [e1]
        exact hu
    · intro hb B3 H3 x3
      refine qx_ret (g := .d (.list [.int t])) ?_ fun u B4 H4 x4 hu => q u B4 H4 ((x2.trans x3).trans x4) ?_
      · walk_at "gv"
      · have e1 : outsN (.points t s1 b) j = [t] := if_neg (of_decide_eq_false hb)
        show Dq B4 u (.list ((outsN (.points t s1 b) j).map enc))
        rw [e1]
        exact hu
theorem gv_outs {Γ : List (Option AV)} {B H : Hp} {ta tb : TE} {E : XK} {p : Pc} {j : Int} (h1 : Gv ta Γ B H (.d (enc p))) (h2 : Gv tb Γ B H (AI j)) :
    Gv (tCall spOuts [] E (tCons ta (tCons tb tNil))) Γ B H (.d (.list ((outsN p j).map enc))) := gv_call (p, j) (ga_cons h1 (ga_cons h2 ga_nil)) fun _ _ _ => trivial
/-- whether a route ends where it leaves a piece -/
def endsN (ps : List Pc) (sg : List Sig) (a j : Int) : Bool := match beyondN ps a j with
  | none => true
  | some k => isin (j, (k : Int)) sg
def spEnds : Sp := spP (T := List Pc × List Sig × Int × Int) (fun t => [.d (.list (t.1.map enc)), .d (.list (t.2.1.map enc)), AI t.2.2.1, AI t.2.2.2]) (fun t _ _ => t.1.length ≤ 100) fun t => AB (endsN t.1 t.2.1 t.2.2.1 t.2.2.2)
theorem ok_ends (T : Txt K mg C) (F : Fun K "ends_at" "ends_at" s_ends_at f fd) (c_beyond : Cal P w K mg base CX0 2 "beyond" spBeyond) : FnOk P w K mg base CX0 3 f fd ["pieces", "signals", "at", "joint"] spEnds := by
  refine fn_P F sc_ends_at (fun _ => rfl) fun cdv A outer s H Q E hr => ⟨_, pss_cons (ps_set (i := 4) sc_ends_at.nd rfl (by first | exact Or.inl rfl | exact Or.inr rfl) (pe_cal c_beyond hr (by first | decide | omega) rfl passN (pa_cons (pv 0) (pa_cons (pv 2) (pa_cons (pv 3) (pa_nil))))))
  (pss_cons (ps_ret (pe_or (pe_cmpR op_isN (pv 4) (pe_non) (nomark _)) (pe_one (pe_cmpR (op_inDK (K := K) rfl hr.u65) (pe_tup (pa_cons (pv 3) (pa_cons (pv 4) (pa_nil)))) (pv 1) (by rfl)))))
  (pss_nil)), fun ⟨ps, sg, a, j⟩ B e hl q => ?_⟩
  have hl : ps.length ≤ 100 := hl
  refine qx_asg (g := .d (oN (beyondN ps a j))) ?_ fun B2 H2 x2 => ?_
  · walk_at "gv"
  refine qx_ret ?_ fun u B3 H3 x3 hu => q u B3 H3 (x2.trans x3) hu
  show Gv _ _ B2 H2 (AB (endsN ps sg a j))
  unfold endsN
  cases hb : beyondN ps a j with
  | none =>
    refine gv_is (gv_orV (b := true) (c := false) ?_ ?_) rfl
    · exact gv_op (gv_var rfl) gv_non ro_isN
    · intro h; cases h
  | some k =>
    refine gv_is (gv_orV (b := false) (c := isin (j, (k : Int)) sg) ?_ ?_) rfl
    · exact gv_op (gv_var rfl) gv_non ro_isN
    · intro _
      refine gv_op (x := .d (enc (j, (k : Int)))) ?_ (gv_var rfl) (ro_inE (α := Sig) (by decide))
      walk_at "gw"
theorem gv_ends {Γ : List (Option AV)} {B H : Hp} {ta tb tc td : TE} {E : XK} {ps : List Pc} {sg : List Sig} {a j : Int} (h1 : Gv ta Γ B H (.d (.list (ps.map enc)))) (h2 : Gv tb Γ B H (.d (.list (sg.map enc)))) (h3 : Gv tc Γ B H (AI a)) (h4 : Gv td Γ B H (AI j)) (hl : ps.length ≤ 100) :
    Gv (tCall spEnds [] E (tCons ta (tCons tb (tCons tc (tCons td tNil))))) Γ B H (AB (endsN ps sg a j)) := gv_call (ps, sg, a, j) (ga_cons h1 (ga_cons h2 (ga_cons h3 (ga_cons h4 ga_nil)))) fun _ _ _ => hl
local macro_rules | `(tactic| walk_at "gc") => `(tactic| first | ((with_reducible refine' gv_joints ?_) <;> walk_at "gv") | ((with_reducible refine' gv_beyond ?_ ?_ ?_ ?_) <;> walk_at "gv") | ((with_reducible refine' gv_outs ?_ ?_) <;> walk_at "gv") | ((with_reducible refine' gv_ends ?_ ?_ ?_ ?_ ?_) <;> walk_at "gv"))
/-! ### ways -/
/-- all ways on: n turns are allowed -/
def waysN (ps : List Pc) (sg : List Sig) : Nat → List Stp → Int → Nat → List (List Stp)
  | 0, _, _, _ => []
  | n + 1, way, j, a => if (a : Int) ∈ way.map Stp.p then [] else
      (outsN ((ps[a]?).getD (.plain 0 0)) j).flatMap fun o => if endsN ps sg a o = true then [way ++ [⟨a, j, o⟩]] else match beyondN ps a o with
        | none => []
        | some b => waysN ps sg n (way ++ [⟨a, j, o⟩]) o b
theorem outsN_len (p : Pc) (j : Int) : (outsN p j).length ≤ 2 := by
  cases p with
  | plain a c => exact Nat.le_trans (List.length_filter_le _ _) (Nat.le_refl 2)
  | points t s b =>
    show (if j = t then [s, b] else [t]).length ≤ 2
    split
    · exact Nat.le_refl 2
    · exact Nat.le_succ 1
theorem ways_len (ps : List Pc) (sg : List Sig) : ∀ (n : Nat) (way : List Stp) (j : Int) (a : Nat), (waysN ps sg n way j a).length ≤ 2 ^ n
  | 0, _, _, _ => by simp [waysN]
  | n + 1, way, j, a => by
    unfold waysN
    split
    · simp
    · have h : ∀ (os : List Int), ((os.flatMap fun o => if endsN ps sg a o = true then [way ++ [⟨a, j, o⟩]] else match beyondN ps a o with
        | none => []
        | some b => waysN ps sg n (way ++ [⟨a, j, o⟩]) o b)).length ≤ os.length * 2 ^ n := by
        intro os
        induction os with
        | nil => simp
        | cons o os ih =>
          rw [List.flatMap_cons, List.length_append, List.length_cons, Nat.add_mul, Nat.one_mul, Nat.add_comm]
          refine Nat.add_le_add ih ?_
          split
          · exact Nat.one_le_two_pow
          · split
            · exact Nat.zero_le _
            · exact ways_len ps sg n _ _ _
      refine Nat.le_trans (h _) ?_
      have h2 := outsN_len ((ps[a]?).getD (.plain 0 0)) j
      rw [Nat.pow_succ, Nat.mul_comm (2 ^ n) 2]
      exact Nat.mul_le_mul_right _ h2
theorem beyondN_lt {ps : List Pc} {a j : Int} {k : Nat} (h : beyondN ps a j = some k) : k < ps.length := by
  unfold beyondN at h
  exact List.mem_range.mp (List.mem_of_find?_eq_some h)
structure WaysArg where
  ps : List Pc
  sg : List Sig
  way : List Stp
  j : Int
  a : Nat
def WaysPre (n : Nat) (t : WaysArg) : Prop := t.ps.length ≤ 16 ∧ t.a < t.ps.length ∧ t.ps.length < t.way.length + n ∧ (t.way.map Stp.p).Nodup ∧ (∀ s ∈ t.way, 0 ≤ s.p ∧ s.p < (t.ps.length : Int)) ∧ n ≤ 17
def spWays (n : Nat) : Sp := spP (T := WaysArg) (fun t => [.d (.list (t.ps.map enc)), .d (.list (t.sg.map enc)), .d (.list (t.way.map enc)), AI t.j, AI (t.a : Int)]) (fun t _ _ => WaysPre n t)
  fun t => .d (.list ((waysN t.ps t.sg n t.way t.j t.a).map enc))
theorem gv_ways {n : Nat} {Γ : List (Option AV)} {B H : Hp} {ta : TA} {E : XK} (t : WaysArg) (h : Ga ta Γ B H [.d (.list (t.ps.map enc)), .d (.list (t.sg.map enc)), .d (.list (t.way.map enc)), AI t.j, AI (t.a : Int)]) (hp : WaysPre n t) :
    Gv (tCall (spWays n) [] E ta) Γ B H (.d (.list ((waysN t.ps t.sg n t.way t.j t.a).map enc))) := gv_call t h fun _ _ _ => hp
theorem way_le {ps : List Pc} {way : List Stp} (h1 : (way.map Stp.p).Nodup) (h2 : ∀ s ∈ way, 0 ≤ s.p ∧ s.p < (ps.length : Int)) : way.length ≤ ps.length := by
  have h := nodup_len_le (way.map Stp.p) ((List.range ps.length).map fun (k : Nat) => (k : Int)) h1 fun x hx => by
    obtain ⟨s, hs, e⟩ := List.mem_map.mp hx
    have := h2 s hs
    refine List.mem_map.mpr ⟨s.p.toNat, List.mem_range.mpr (by omega), by omega⟩
  simpa using h
theorem ok_ways_step {n : Nat} (T : Txt K mg C) (F : Fun K "ways_from" "ways_from" s_ways_from f fd) (c_beyond : Cal P w K mg base CX0 2 "beyond" spBeyond) (c_outs : Cal P w K mg base CX0 2 "outs" spOuts) (c_ends_at : Cal P w K mg base CX0 3 "ends_at" spEnds)
    (IH : Cal P w K mg base CX0 (3 + n) "ways_from" (spWays n)) : FnOk P w K mg base CX0 (3 + n + 1) f fd ["pieces", "signals", "way", "joint", "at"] (spWays (n + 1)) := by
  have HK : 3 + n ≤ 3 + n := Nat.le_refl _
  have c_beyond := c_beyond.mono (show 2 ≤ 3 + n by omega)
  have c_outs := c_outs.mono (show 2 ≤ 3 + n by omega)
  have c_ends_at := c_ends_at.mono (show 3 ≤ 3 + n by omega)
  refine fn_P F sc_ways_from (fun _ => rfl) fun cdv A outer s H Q E hr => ⟨_, pss_cons (ps_if (pt_cmpR (op_inK (K := K) rfl) (pv 4) (pe_lc (own := [("step", 8)]) (g := gName 8) (tt := tYes) (by rfl) sc_ways_from.nd (pi_listK (K := K) rfl (pv 2)) (blkOk_by (own := [("step", 8)]) (N := N_ways_from) (sc := defScope s_ways_from) (by decide +kernel)) (fun _ _ _ _ _ => pg_name (i := 8) sc_ways_from.nd rfl (Or.inl rfl)) (fun _ _ _ _ _ => pts_nil) (fun _ _ _ _ _ => pe_ix (ix_tupK (K := K) rfl) (pv 8) (pe_int) (fun _ _ => rfl))) (by rfl)) (pss_cons (ps_ret (pe_lst (pa_nil)))
  (pss_nil)) (pss_nil))
  (pss_cons (ps_set (i := 5) sc_ways_from.nd rfl (by first | exact Or.inl rfl | exact Or.inr rfl) (pe_lst (pa_nil)))
  (pss_cons (ps_for PassesOwn.never rfl (pi_listK (K := K) rfl (pe_cal c_outs hr (by first | decide | omega) rfl passN (pa_cons (pe_ix (ix_listK (K := K) rfl) (pv 0) (pv 4) (fun _ _ => rfl)) (pa_cons (pv 3) (pa_nil))))) (pg_name (i := 6) sc_ways_from.nd rfl (by first | exact Or.inl rfl | exact Or.inr rfl)) (pss_cons (ps_set (i := 7) sc_ways_from.nd rfl (by first | exact Or.inl rfl | exact Or.inr rfl) (pe_op op_cat (pv 2) (pe_lst (pa_cons (pe_tup (pa_cons (pv 4) (pa_cons (pv 3) (pa_cons (pv 6) (pa_nil))))) (pa_nil)))))
  (pss_cons (ps_if (pt_val (pe_cal c_ends_at hr (by first | decide | omega) rfl passN (pa_cons (pv 0) (pa_cons (pv 1) (pa_cons (pv 4) (pa_cons (pv 6) (pa_nil))))))) (pss_cons (ps_expr (pe_bmK (K := K) rfl PySem.F.plainAttrs_list PySem.F.slot_list_append PySem.F.type_list_append mt_append (pv 5) (pa_cons (pv 7) (pa_nil))))
  (pss_nil)) (pss_cons (ps_expr (pe_bmK (K := K) rfl PySem.F.plainAttrs_list PySem.F.slot_list_extend PySem.F.type_list_extend mt_extend (pv 5) (pa_cons (pe_cal IH hr HK rfl passN (pa_cons (pv 0) (pa_cons (pv 1) (pa_cons (pv 7) (pa_cons (pv 6) (pa_cons (pe_cal c_beyond hr (by first | decide | omega) rfl passN (pa_cons (pv 0) (pa_cons (pv 4) (pa_cons (pv 6) (pa_nil))))) (pa_nil))))))) (pa_nil))))
  (pss_nil)))
  (pss_nil))))
  (pss_cons (ps_ret (pv 5))
  (pss_nil)))), fun ⟨ps, sg, way, j, a⟩ B e pre q => ?_⟩
  obtain ⟨h16, ha, hn, hnd, hin, h17⟩ := pre
  have h16 : ps.length ≤ 16 := h16
  have ha : a < ps.length := ha
  have hn : ps.length < way.length + (n + 1) := hn
  have hnd : (way.map Stp.p).Nodup := hnd
  have hin : ∀ s ∈ way, 0 ≤ s.p ∧ s.p < (ps.length : Int) := hin
  have q : ∀ u B2 H2, Ext B H B2 H2 → Is B2 u (.d (.list ((waysN ps sg (n + 1) way j a).map enc))) → Q u H2 := q
  have hway := way_le hnd hin
  refine qx_when (b := decide ((a : Int) ∈ way.map Stp.p)) ?_ ?_ ?_
  · refine gt_test (gv_op (gv_var rfl) (y := .d (.list ((way.map Stp.p).map enc))) ?_ ro_inI)
    refine gv_lcM Stp.p (gv_var rfl) (by omega) (by decide) (by decide) fun st _ B2 H2 x2 => ?_
    walk_at "gw"
  · intro hb B2 H2 x2
    refine qx_ret (g := .d (.list [])) (by walk_at "gv") fun u B3 H3 x3 hu => q u B3 H3 (x2.trans x3) ?_
    have : waysN ps sg (n + 1) way j a = [] := by
      unfold waysN
      exact if_pos (of_decide_eq_true hb)
    rw [this]
    exact hu
  intro hb B2 H2 x2
  have hna : (a : Int) ∉ way.map Stp.p := of_decide_eq_false hb
  refine qx_newL (ds := []) ga_nil (by decide) fun p B3 H3 hp x3 m => ?_
  have hp0 : H p = none := x2.hh.free hp
  have x30 := x2.trans x3
  obtain ⟨pc, hpc⟩ : ∃ pc, ps[a]? = some pc := ⟨_, List.getElem?_eq_getElem ha⟩
  let Fo : Int → List (List Stp) := fun o => if endsN ps sg a o = true then [way ++ [⟨a, j, o⟩]] else match beyondN ps a o with
        | none => []
        | some b => waysN ps sg n (way ++ [⟨a, j, o⟩]) o b
  have hFl : ∀ o, (Fo o).length ≤ 2 ^ n := fun o => by
    show (if endsN ps sg a o = true then [way ++ [⟨a, j, o⟩]] else match beyondN ps a o with
        | none => []
        | some b => waysN ps sg n (way ++ [⟨a, j, o⟩]) o b).length ≤ 2 ^ n
    split
    · exact Nat.one_le_two_pow
    · split
      · exact Nat.zero_le _
      · exact ways_len ps sg n _ _ _
  have hpow : 2 ^ n ≤ 2 ^ 17 := Nat.pow_le_pow_right (by decide) (by omega)
  have hpl : ∀ k, (((outsN pc j).take k).flatMap Fo).length ≤ 2 * 2 ^ 17 := fun k => by
    have key : ∀ os : List Int, (os.flatMap Fo).length ≤ os.length * 2 ^ n := by
      intro os
      induction os with
      | nil => simp
      | cons o os ih =>
        rw [List.flatMap_cons, List.length_append, List.length_cons, Nat.add_mul, Nat.one_mul, Nat.add_comm]
        exact Nat.add_le_add ih (hFl o)
    refine Nat.le_trans (key _) (Nat.le_trans (Nat.mul_le_mul_right _ (m := 2) ?_) (Nat.mul_le_mul_left _ hpow))
    have := outsN_len pc j
    have h2 := List.length_take_le k (outsN pc j)
    have h3 : ((outsN pc j).take k).length ≤ (outsN pc j).length := by rw [List.length_take]; omega
    omega
  have hw : waysN ps sg (n + 1) way j a = (outsN pc j).flatMap Fo := by
    show (if (a : Int) ∈ way.map Stp.p then [] else (outsN ((ps[a]?).getD (.plain 0 0)) j).flatMap Fo) = _
    rw [if_neg hna, hpc]
    rfl
  rw [hw] at q
  refine qx_forD (xs := outsN pc j) ?_ (fun _ => [some (.d (.list (ps.map enc))), some (.d (.list (sg.map enc))), some (.d (.list (way.map enc))), some (AI j), some (AI (a : Int)), some (.v (.ref p)), none, none, none])
    (fun k B1 H1 => Ext B H B1 H1 ∧ Ml B1 H1 p ((((outsN pc j).take k).flatMap Fo).map enc)) (by walk_at "le") (fun B4 H4 x4 => ⟨x30.trans x4, m.ext x4⟩) ?_ ?_
  · have hat := atI_map hpc
    walk_at "gv"
  · intro Bs k o B4 H4 hk s1 s2 ⟨x4, m4⟩
    have htake : ((outsN pc j).take (k + 1)).flatMap Fo = ((outsN pc j).take k).flatMap Fo ++ Fo o := by
      rw [List.take_add_one, hk, List.flatMap_append]
      simp
    have hsz := hpl (k + 1)
    rw [htake, List.length_append] at hsz
    refine qx_asg (g := .d (.list ((way ++ [(⟨a, j, o⟩ : Stp)]).map enc))) ?_ fun B5 H5 x5 => ?_
    · refine gv_is (g := .d (.list (way.map enc ++ [enc (⟨a, j, o⟩ : Stp)]))) ?_ (by rw [List.map_append]; rfl)
      refine gv_op (y := .d (.list [enc (⟨a, j, o⟩ : Stp)])) (gv_var rfl) ?_ (ro_cat (by simp; omega))
      walk_at "gw"
    refine qx_if (b := endsN ps sg a o) ?_ ?_ ?_
    · refine gt_B ?_
      walk_at "gv"
    · intro hb B6 H6 x6
      have e1 : Fo o = [way ++ [⟨a, j, o⟩]] := if_pos hb
      refine qx_app ((m4.ext x5).ext x6) (gv_var rfl) (gv_var rfl) (by rw [List.length_map]; omega) fun B7 H7 x7 m7 => sx_go ?_
      refine sx_lp (s2.trans (x5.bb.trans (x6.bb.trans x7.bb))) (by walk_at "le") ⟨(x4.trans (x5.trans x6)).thenF x7 (fun z hz => by rw [hz]; exact hp0), ?_⟩
      rw [htake, e1, List.map_append]
      exact m7
    · intro hb B6 H6 x6
      obtain ⟨b, hbe⟩ : ∃ b, beyondN ps a o = some b := by
        cases h : beyondN ps a o with
        | none =>
          unfold endsN at hb
          rw [h] at hb
          cases hb
        | some b => exact ⟨b, rfl⟩
      have e1 : Fo o = waysN ps sg n (way ++ [⟨a, j, o⟩]) o b := by
        show (if endsN ps sg a o = true then [way ++ [⟨a, j, o⟩]] else match beyondN ps a o with
        | none => []
        | some b => waysN ps sg n (way ++ [⟨a, j, o⟩]) o b) = _
        rw [if_neg (by rw [hb]; simp), hbe]
      have hpre : WaysPre n ⟨ps, sg, way ++ [⟨a, j, o⟩], o, b⟩ := by
        refine ⟨h16, beyondN_lt hbe, ?_, ?_, ?_, by omega⟩
        · show ps.length < (way ++ [(⟨a, j, o⟩ : Stp)]).length + n
          rw [List.length_append, List.length_singleton]
          omega
        · show ((way ++ [(⟨a, j, o⟩ : Stp)]).map Stp.p).Nodup
          rw [List.map_append, List.nodup_append]
          refine ⟨hnd, by simp, ?_⟩
          intro x hx y hy e
          simp at hy
          subst hy
          subst e
          exact hna hx
        · intro st hst
          rcases List.mem_append.mp hst with h | h
          · exact hin st h
          · simp at h
            subst h
            show (0 : Int) ≤ (a : Int) ∧ (a : Int) < (ps.length : Int)
            omega
      refine qx_extend ((m4.ext x5).ext x6) (gv_var rfl) (es := (waysN ps sg n (way ++ [⟨a, j, o⟩]) o b).map enc) ?_ (by rw [List.length_map, List.length_map, ← e1]; omega) fun B7 H7 x7 m7 => sx_go ?_
      · refine gv_ways (⟨ps, sg, way ++ [⟨a, j, o⟩], o, b⟩ : WaysArg) ?_ hpre
        refine ga_cons (gv_var rfl) (ga_cons (gv_var rfl) (ga_cons (gv_var rfl) (ga_cons (gv_var rfl) (ga_cons ?_ ga_nil))))
        refine gv_is (g := .d (oN (beyondN ps a o))) ?_ (by rw [hbe]; rfl)
        walk_at "gv"
      · refine sx_lp (s2.trans (x5.bb.trans (x6.bb.trans x7.bb))) (by walk_at "le") ⟨(x4.trans (x5.trans x6)).thenF x7 (fun z hz => by rw [hz]; exact hp0), ?_⟩
        rw [htake, e1, List.map_append]
        exact m7
  · intro B4 H4 s1 ⟨x4, m4⟩
    rw [List.take_length] at m4
    exact qx_retM x4 hp0 m4 (gv_var rfl) q
theorem ok_ways (T : Txt K mg C) (F : Fun K "ways_from" "ways_from" s_ways_from f fd) (bF : Binds K fd ["pieces", "signals", "way", "joint", "at"] []) (mF : mg "ways_from" = some (.ref f)) (c_beyond : Cal P w K mg base CX0 2 "beyond" spBeyond) (c_outs : Cal P w K mg base CX0 2 "outs" spOuts) (c_ends_at : Cal P w K mg base CX0 3 "ends_at" spEnds) :
    ∀ n : Nat, Cal P w K mg base CX0 (3 + n) "ways_from" (spWays n)
  | 0 => by
    have no : ∀ vs H Q E, ¬ spWays 0 vs H Q E := fun vs H Q E h => by
      obtain ⟨a, _, _, _, ⟨_, _, h1, h2, h3, _⟩, _⟩ := h
      have := way_le h2 h3
      omega
    exact Fun.cal F mF bF ⟨fun vs H Q E h => absurd h (no vs H Q E), fun A outer s H args us vs Q E _ _ _ _ h => absurd h (no vs H Q E)⟩
  | n + 1 => Fun.cal F mF bF (ok_ways_step T F c_beyond c_outs c_ends_at (ok_ways T F bF mF c_beyond c_outs c_ends_at n))
end
end SB
namespace SB
open PySem PySem.Spec PyProof.Rows L2
open Enc (enc)
local macro_rules | `(tactic| walk_at "le") => `(tactic| first | exact le_nil | (refine le_keep ?_; walk_at "le") | (refine le_drop ?_; walk_at "le"))
local macro_rules | `(tactic| walk_at "sd") => `(tactic| first | assumption | (show (_ : Int) < _ ∧ _ < (1073741824 : Int); exact ⟨by omega, by omega⟩) | (show (-(2 ^ 64) < (_ : Int) ∧ _ < (2 ^ 64 : Int)) ∨ _; first | exact .inl ⟨by omega, by omega⟩ | exact .inr ⟨by omega, by omega⟩) | rfl | decide | (simp; done) | omega | skip)
local macro_rules | `(tactic| walk_at "gc") => `(tactic| fail)
local macro_rules | `(tactic| walk_at "gv") => `(tactic| first
  | exact gv_int | exact gv_str | exact gv_bl | exact gv_non | exact gv_var rfl
  | ((with_reducible refine' gv_op ?_ ?_ ?_) <;> walk_at "gv")
  | ((with_reducible refine' ga_cons ?_ ?_) <;> walk_at "gv") | exact ga_nil
  | ((with_reducible refine' gv_cb ?_ ?_) <;> walk_at "gv")
  | ((with_reducible refine' gt_test ?_) <;> walk_at "gv") | ((with_reducible refine' gt_B ?_) <;> walk_at "gv") | ((with_reducible refine' gt_not ?_) <;> walk_at "gv")
  | ((with_reducible refine' gt_and ?k1 ?k2); (case' k1 => walk_at "gv"); (case' k2 => intro hb; walk_at "gv"))
  | ((with_reducible refine' gt_or ?k1 ?k2); (case' k1 => walk_at "gv"); (case' k2 => intro hb; walk_at "gv"))
  | ((with_reducible refine' gv_andV ?k1 ?k2); (case' k1 => walk_at "gv"); (case' k2 => intro hb; walk_at "gv"))
  | ((with_reducible refine' gv_orV ?k1 ?k2); (case' k1 => walk_at "gv"); (case' k2 => intro hb; walk_at "gv"))
  | ((with_reducible refine' gv_notV ?_) <;> walk_at "gv")
  | ((with_reducible refine' gv_slL ?_ ?_ ?_) <;> walk_at "gv") | ((with_reducible refine' gv_slT ?_ ?_ ?_ ?_) <;> walk_at "gv")
  | exact go_none | ((with_reducible refine' go_some ?_) <;> walk_at "gv")
  | exact gd_nil | ((with_reducible refine' gd_cons ?_ ?_) <;> walk_at "gv") | ((with_reducible refine' gv_lst ?_ ?_) <;> walk_at "gv") | ((with_reducible refine' gv_tup ?_ ?_) <;> walk_at "gv")
  | ((with_reducible refine' gv_chain ?_ ?_ ?_ ?_ ?_) <;> walk_at "gv") | ((with_reducible refine' gt_truL ?_) <;> walk_at "gv") | ((with_reducible refine' gv_countI ?_ ?_) <;> walk_at "gv")
  | ((with_reducible refine' gv_lenSetI ?_ ?_) <;> walk_at "gv") | ((with_reducible refine' gv_lenSetU ?_ ?_) <;> walk_at "gv") | ((with_reducible refine' gv_lenSetT ?_ ?_) <;> walk_at "gv")
  | exact gt_yes
  | walk_at "gc"
  | exact ro_I0 | exact ro_B0 | (refine ro_I ?_; walk_at "sd")
  | exact ro_eqI | exact ro_neI | exact ro_eqS | exact ro_neS
  | (refine ro_eq ?_; walk_at "sd") | (refine ro_ne ?_; walk_at "sd")
  | exact ro_isN | exact ro_notN
  | exact ro_inI | exact ro_notInI | exact ro_inTI
  | (refine' ro_ixL ?k1; (case' k1 => walk_at "sd")) | (refine' ro_ixT ?k1; (case' k1 => walk_at "sd"))
  | (refine ro_cat ?_; walk_at "sd")
  | exact rc_lenM | exact rc_len | exact rc_lenT | exact rc_list | exact rc_listT | exact rc_tuple | exact rc_any | exact rc_all | exact rc_max2 | exact rc_min2 | exact rc_intB
  | (show (_ : Nat) ≤ _; first | decide | (simp; done) | omega)
  | (show (_ : Nat) < _; first | decide | (simp; done) | omega)
  | (show ¬ (_ ∧ _); exact fun h => absurd (show (1 : Nat) = 0 from h.1) (by decide))
  | skip)
local macro_rules | `(tactic| walk_at "ge") => `(tactic| (refine' gt_is ?k1 ?k2; (case' k1 => walk_at "gv"); (case' k2 => first | rfl | (simp; done) | skip)))
local macro_rules | `(tactic| walk_at "gw") => `(tactic| (refine' gv_is ?k1 ?k2; (case' k1 => walk_at "gv"); (case' k2 => first | rfl | (simp; done) | skip)))
local macro_rules | `(tactic| walk_at "gj") => `(tactic| first | exact gi_nil | (refine' gi_cons ?g1 ?g2; (case' g1 => walk_at "gv"); (case' g2 => walk_at "gj")))
local macro_rules | `(tactic| walk_at "gi") => `(tactic| (refine' gv_lst ?k1 ?k2; (case' k1 => walk_at "gj"); (case' k2 => (simp; try omega))))
local macro_rules | `(tactic| walk_at "gc") => `(tactic| first | ((with_reducible refine' gv_joints ?_) <;> walk_at "gv") | ((with_reducible refine' gv_beyond ?_ ?_ ?_ ?_) <;> walk_at "gv") | ((with_reducible refine' gv_outs ?_ ?_) <;> walk_at "gv") | ((with_reducible refine' gv_ends ?_ ?_ ?_ ?_ ?_) <;> walk_at "gv"))
/-! ### looks -/
section
variable {C : Adr} {P : Program} {w : World} {K : PySem.W.Frag} {mg : Str → Option Value} {base : Heap} {fd : FuncData} {f : Addr}
abbrev s_look_pieces : Stmt := top 13
abbrev N_look_pieces : List Str := ["pieces", "ends", "piece", "joint"]
theorem sc_look_pieces : FnScope N_look_pieces ["pieces"] (defScope s_look_pieces) := ⟨rfl, rfl, rfl, by decide +kernel, rfl, by decide +kernel, by decide +kernel⟩
abbrev s_look_signals : Stmt := top 14
abbrev N_look_signals : List Str := ["pieces", "signals", "joint", "at"]
theorem sc_look_signals : FnScope N_look_signals ["pieces", "signals"] (defScope s_look_signals) := ⟨rfl, rfl, rfl, by decide +kernel, rfl, by decide +kernel, by decide +kernel⟩
abbrev s_routes : Stmt := top 18
abbrev N_routes : List Str := ["pieces", "signals", "found", "k", "way"]
theorem sc_routes : FnScope N_routes ["pieces", "signals"] (defScope s_routes) := ⟨rfl, rfl, rfl, by decide +kernel, rfl, by decide +kernel, by decide +kernel⟩
def endsOf (ps : List Pc) : List Int := ps.flatMap Pc.js
def okEnd (es : List Int) (j : Int) : Bool := (decide (0 ≤ j) && decide (j ≤ 999)) && !decide (2 < ((es.count j : Nat) : Int))
def goodPs (ps : List Pc) : Bool := (decide (1 ≤ ((ps.length : Nat) : Int)) && decide (((ps.length : Nat) : Int) ≤ 16)) && ps.all (fun p => decide (((nset p.js : Nat) : Int) = ((p.js.length : Nat) : Int))) && (endsOf ps).all (okEnd (endsOf ps))
def spLookP (c : Addr) : Sp := spR (T := List Pc) (fun ps => [.d (.list (ps.map enc))]) (fun ps _ _ => ps.length ≤ 100) fun ps => if goodPs ps = true then .ok AN else .error c
theorem js_len (p : Pc) : p.js.length ≤ 3 := by cases p <;> simp [Pc.js]
theorem endsOf_len : ∀ ps : List Pc, (endsOf ps).length ≤ 3 * ps.length
  | [] => by simp [endsOf]
  | p :: ps => by
    have h1 := js_len p
    have h2 := endsOf_len ps
    unfold endsOf at h2 ⊢
    rw [List.flatMap_cons, List.length_append, List.length_cons]
    omega
theorem ok_lookP (T : Txt K mg C) (F : Fun K "look_pieces" "look_pieces" s_look_pieces f fd) (c_joints : Cal P w K mg base CX0 1 "joints" spJoints) : FnOk P w K mg base (L2.CX P w) 2 f fd ["pieces"] (spLookP C.BadYard) := by
  refine fn_R F sc_look_pieces (fun _ => rfl) fun cdv A outer s H Q E hr => ⟨_, pss_cons (ps_if (pt_not (pt_chain op_le op_le (pe_int) (pe_callB (call_lenK (K := K) rfl) (by rfl) T.n_len (by decide +kernel) (pa_cons (pv 0) (pa_nil))) (pe_globI rfl T.g_MOST))) (pss_cons (ps_raise rfl (takes_of rfl rfl rfl rfl) (pmk_own PySem.F.excBase_ValueError T.e_BadYard.x T.e_BadYard.g T.e_BadYard.k (raises_own T.e_BadYard.b T.e_BadYard.t) rfl))
  (pss_nil)) (pss_nil))
  (pss_cons (ps_set (i := 1) sc_look_pieces.nd rfl (by first | exact Or.inl rfl | exact Or.inr rfl) (pe_lst (pa_nil)))
  (pss_cons (ps_for (passes_of rfl) rfl (pi_listK (K := K) rfl (pv 0)) (pg_name (i := 2) sc_look_pieces.nd rfl (by first | exact Or.inl rfl | exact Or.inr rfl)) (pss_cons (ps_if (pt_cmpR op_ne (pe_lenSetIK (K := K) rfl (by rfl) T.n_len (by rfl) T.n_set (pe_cal c_joints hr (by first | decide | omega) rfl passN (pa_cons (pv 2) (pa_nil)))) (pe_callB (call_lenK (K := K) rfl) (by rfl) T.n_len (by decide +kernel) (pa_cons (pe_cal c_joints hr (by first | decide | omega) rfl passN (pa_cons (pv 2) (pa_nil))) (pa_nil))) (nomark _)) (pss_cons (ps_raise rfl (takes_of rfl rfl rfl rfl) (pmk_own PySem.F.excBase_ValueError T.e_BadYard.x T.e_BadYard.g T.e_BadYard.k (raises_own T.e_BadYard.b T.e_BadYard.t) rfl))
  (pss_nil)) (pss_nil))
  (pss_cons (ps_expr (pe_bmK (K := K) rfl PySem.F.plainAttrs_list PySem.F.slot_list_extend PySem.F.type_list_extend mt_extend (pv 1) (pa_cons (pe_cal c_joints hr (by first | decide | omega) rfl passN (pa_cons (pv 2) (pa_nil))) (pa_nil))))
  (pss_nil))))
  (pss_cons (ps_for (passes_of rfl) rfl (pi_listK (K := K) rfl (pv 1)) (pg_name (i := 3) sc_look_pieces.nd rfl (by first | exact Or.inl rfl | exact Or.inr rfl)) (pss_cons (ps_if (PW.pt (pw_or (pt_not (pt_chain op_le op_le (pe_int) (pv 3) (pe_globI rfl T.g_JOINTS))) (pw_or1 (pt_cmpR op_gt (pe_bmK (K := K) rfl PySem.F.plainAttrs_list PySem.F.slot_list_count PySem.F.type_list_count (mt_lcountK (K := K) rfl) (pv 1) (pa_cons (pv 3) (pa_nil))) (pe_int) (nomark _))))) (pss_cons (ps_raise rfl (takes_of rfl rfl rfl rfl) (pmk_own PySem.F.excBase_ValueError T.e_BadYard.x T.e_BadYard.g T.e_BadYard.k (raises_own T.e_BadYard.b T.e_BadYard.t) rfl))
  (pss_nil)) (pss_nil))
  (pss_nil)))
  (pss_nil)))), fun ps B e hl q qe => ?_⟩
  have hl : ps.length ≤ 100 := hl
  have bad : goodPs ps = false → ∀ B2 H2, Ext B H B2 H2 → E (.ref C.BadYard) none H2 := fun h B2 H2 x => qe B2 H2 _ (by rw [h]; rfl) x
  refine qx_when (b := !(decide (1 ≤ ((ps.length : Nat) : Int)) && decide (((ps.length : Nat) : Int) ≤ 16))) ?_ ?_ ?_
  · walk_at "gv"
  · intro hb B2 H2 x2
    refine qx_raise fun _ => bad ?_ B2 H2 x2
    unfold goodPs
    rw [Bool.not_eq_true'] at hb
    rw [hb]
    rfl
  intro hb B2 H2 x2
  have hb1 : (decide (1 ≤ ((ps.length : Nat) : Int)) && decide (((ps.length : Nat) : Int) ≤ 16)) = true := by simpa using hb
  have good : ∀ c : Bool, (ps.all (fun p => decide (((nset p.js : Nat) : Int) = ((p.js.length : Nat) : Int))) && (endsOf ps).all (okEnd (endsOf ps))) = c → goodPs ps = c := fun c h => by
    unfold goodPs
    rw [hb1, Bool.true_and]
    exact h
  refine qx_newL (ds := []) ga_nil (by decide) fun p B3 H3 hp x3 m => ?_
  have hp0 : H p = none := x2.hh.free hp
  have hel := endsOf_len ps
  refine qx_forD (xs := ps) (gv_var rfl) (fun _ => [some (.d (.list (ps.map enc))), some (.v (.ref p)), none, none]) (fun k B1 H1 => Ext B H B1 H1 ∧ Ml B1 H1 p ((endsOf (ps.take k)).map enc) ∧ (ps.take k).all (fun p => decide (((nset p.js : Nat) : Int) = ((p.js.length : Nat) : Int))) = true)
    (by walk_at "le") (fun B4 H4 x4 => ⟨(x2.trans x3).trans x4, m.ext x4, rfl⟩) ?_ ?_
  · intro Bs k pc B4 H4 hk s1 s2 ⟨x4, m4, hall⟩
    have hjl := js_len pc
    have htake : ps.take (k + 1) = ps.take k ++ [pc] := by rw [List.take_add_one, hk]; rfl
    have hmem : pc ∈ ps := List.mem_of_getElem? hk
    have hlk : (endsOf (ps.take k)).length ≤ 3 * ps.length := by
      have h1 := endsOf_len (ps.take k)
      have h2 : (ps.take k).length ≤ ps.length := by rw [List.length_take]; omega
      omega
    refine qx_when (b := !decide (((nset pc.js : Nat) : Int) = ((pc.js.length : Nat) : Int))) ?_ ?_ ?_
    · walk_at "ge"
    · intro hb2 B5 H5 x5
      refine qx_raise fun _ => bad ?_ B5 H5 (x4.trans x5)
      refine good false ?_
      rw [Bool.and_eq_false_iff]
      refine .inl ?_
      rw [← Bool.not_eq_true]
      intro h
      have := List.all_eq_true.mp h pc hmem
      rw [this] at hb2
      cases hb2
    · intro hb2 B5 H5 x5
      refine qx_extend (es := pc.js.map enc) (m4.ext x5) (gv_var rfl) ?_ (by rw [List.length_map, List.length_map]; omega) fun B6 H6 x6 m6 => ?_
      · walk_at "gv"
      refine sx_lp (s2.trans (x5.bb.trans x6.bb)) (by walk_at "le") ⟨(x4.trans x5).thenF x6 (fun z hz => by rw [hz]; exact hp0), ?_, ?_⟩
      · rw [htake]
        unfold endsOf
        rw [List.flatMap_append, List.map_append, List.flatMap_singleton]
        exact m6
      · rw [htake, List.all_append, hall, List.all_cons, List.all_nil, Bool.true_and, Bool.and_true]
        simpa using hb2
  intro B4 H4 s1 ⟨x4, m4, hall⟩
  rw [List.take_length] at m4 hall
  refine sx_give (i := 1) x4 hp0 m4 rfl fun B5 x5 s5 => ?_
  refine qx_forD (xs := endsOf ps) (gv_var rfl) (fun _ => [some (.d (.list (ps.map enc))), some (.d (.list ((endsOf ps).map enc))), none, none]) (fun k B1 H1 => Ext B H B1 H1 ∧ ((endsOf ps).take k).all (okEnd (endsOf ps)) = true)
    (by walk_at "le") (fun B6 H6 x6 => ⟨x5.trans x6, rfl⟩) ?_ ?_
  · intro Bs k j B6 H6 hk s6 s7 ⟨x6, hall2⟩
    have htake : (endsOf ps).take (k + 1) = (endsOf ps).take k ++ [j] := by rw [List.take_add_one, hk]; rfl
    have hmem : j ∈ endsOf ps := List.mem_of_getElem? hk
    refine qx_when (b := !(decide (0 ≤ j) && decide (j ≤ 999)) || decide (2 < (((endsOf ps).count j : Nat) : Int))) ?_ ?_ ?_
    · walk_at "ge"
    · intro hb2 B7 H7 x7
      refine qx_raise fun _ => bad ?_ B7 H7 (x6.trans x7)
      refine good false ?_
      rw [Bool.and_eq_false_iff]
      refine .inr ?_
      rw [← Bool.not_eq_true]
      intro h
      have := List.all_eq_true.mp h j hmem
      unfold okEnd at this
      rw [Bool.and_eq_true] at this
      rw [this.1, Bool.not_true, Bool.false_or] at hb2
      rw [hb2] at this
      exact absurd this.2 (by decide)
    · intro hb2 B7 H7 x7
      refine sx_lp (s7.trans x7.bb) (by walk_at "le") ⟨x6.trans x7, ?_⟩
      rw [htake, List.all_append, hall2, List.all_cons, List.all_nil, Bool.true_and, Bool.and_true]
      unfold okEnd
      rw [Bool.or_eq_false_iff, Bool.not_eq_false'] at hb2
      rw [hb2.1, hb2.2]
      rfl
  intro B6 H6 s6 ⟨x6, hall2⟩
  rw [List.take_length] at hall2
  refine sx_next fun _ σ _ => ?_
  have hg : goodPs ps = true := good true (by rw [hall, hall2]; rfl)
  exact q .non B6 H6 AN (by rw [hg]; rfl) x6 .non
theorem gx_lookP {c : Addr} {Γ : List (Option AV)} {B H : Hp} {ta : TE} {E : XK} {ps : List Pc} (h : Gv ta Γ B H (.d (.list (ps.map enc)))) (hl : ps.length ≤ 100) : Gx E (tCall (spLookP c) [] E (tCons ta tNil)) Γ B H (if goodPs ps = true then .ok AN else .error c) :=
  gx_call ps (ga_cons h ga_nil) fun _ _ _ => hl
/-! signals -/
def okSig (ps : List Pc) (s : Sig) : Bool := (decide (0 ≤ s.2) && decide (s.2 < ((ps.length : Nat) : Int))) && decide (s.1 ∈ ((ps[s.2.toNat]?).getD (.plain 0 0)).js)
def goodSg (ps : List Pc) (sg : List Sig) : Bool := (!decide (16 < ((sg.length : Nat) : Int)) && decide (((nset sg : Nat) : Int) = ((sg.length : Nat) : Int))) && sg.all (okSig ps)
def spLookS (c : Addr) : Sp := spR (T := List Pc × List Sig) (fun t => [.d (.list (t.1.map enc)), .d (.list (t.2.map enc))]) (fun t _ _ => t.1.length ≤ 100 ∧ t.2.length ≤ 60) fun t => if goodSg t.1 t.2 = true then .ok AN else .error c
theorem ok_lookS (T : Txt K mg C) (F : Fun K "look_signals" "look_signals" s_look_signals f fd) (c_joints : Cal P w K mg base CX0 1 "joints" spJoints) : FnOk P w K mg base (L2.CX P w) 2 f fd ["pieces", "signals"] (spLookS C.BadYard) := by
  refine fn_R F sc_look_signals (fun _ => rfl) fun cdv A outer s H Q E hr => ⟨_, pss_cons (ps_if (PW.pt (pw_or (pt_cmpR op_gt (pe_callB (call_lenK (K := K) rfl) (by rfl) T.n_len (by decide +kernel) (pa_cons (pv 1) (pa_nil))) (pe_globI rfl T.g_MOST) (nomark _)) (pw_or1 (pt_cmpR op_ne (pe_lenSetTK (K := K) rfl hr.units (by rfl) T.n_len (by rfl) T.n_set (pv 1)) (pe_callB (call_lenK (K := K) rfl) (by rfl) T.n_len (by decide +kernel) (pa_cons (pv 1) (pa_nil))) (nomark _))))) (pss_cons (ps_raise rfl (takes_of rfl rfl rfl rfl) (pmk_own PySem.F.excBase_ValueError T.e_BadYard.x T.e_BadYard.g T.e_BadYard.k (raises_own T.e_BadYard.b T.e_BadYard.t) rfl))
  (pss_nil)) (pss_nil))
  (pss_cons (ps_for (passes_of rfl) rfl (pi_listK (K := K) rfl (pv 1)) (pg_tupK (K := K) rfl rfl (pgs_cons (pg_name (i := 2) sc_look_signals.nd rfl (by first | exact Or.inl rfl | exact Or.inr rfl)) (pgs_cons (pg_name (i := 3) sc_look_signals.nd rfl (by first | exact Or.inl rfl | exact Or.inr rfl)) (pgs_nil)))) (pss_cons (ps_if (PW.pt (pw_or (pt_not (pt_chain op_le op_lt (pe_int) (pv 3) (pe_callB (call_lenK (K := K) rfl) (by rfl) T.n_len (by decide +kernel) (pa_cons (pv 0) (pa_nil))))) (pw_or1 (pt_cmpR (op_notInK (K := K) rfl) (pv 2) (pe_cal c_joints hr (by first | decide | omega) rfl passN (pa_cons (pe_ix (ix_listK (K := K) rfl) (pv 0) (pv 3) (fun _ _ => rfl)) (pa_nil))) (by rfl))))) (pss_cons (ps_raise rfl (takes_of rfl rfl rfl rfl) (pmk_own PySem.F.excBase_ValueError T.e_BadYard.x T.e_BadYard.g T.e_BadYard.k (raises_own T.e_BadYard.b T.e_BadYard.t) rfl))
  (pss_nil)) (pss_nil))
  (pss_nil)))
  (pss_nil)), fun ⟨ps, sg⟩ B e hl q qe => ?_⟩
  obtain ⟨hl, hs⟩ := hl
  have hl : ps.length ≤ 100 := hl
  have hs : sg.length ≤ 60 := hs
  have bad : goodSg ps sg = false → ∀ B2 H2, Ext B H B2 H2 → E (.ref C.BadYard) none H2 := fun h B2 H2 x => qe B2 H2 _ (by show (if goodSg ps sg = true then _ else _) = _; rw [h]; rfl) x
  refine qx_when (b := decide (16 < ((sg.length : Nat) : Int)) || !decide (((nset sg : Nat) : Int) = ((sg.length : Nat) : Int))) ?_ ?_ ?_
  · walk_at "ge"
  · intro hb B2 H2 x2
    refine qx_raise fun _ => bad ?_ B2 H2 x2
    unfold goodSg
    rw [Bool.and_eq_false_iff]
    refine .inl ?_
    rcases Bool.or_eq_true_iff.mp hb with h | h
    · rw [h]; rfl
    · rw [Bool.not_eq_true'] at h
      rw [h, Bool.and_false]
  intro hb B2 H2 x2
  rw [Bool.or_eq_false_iff, Bool.not_eq_false'] at hb
  have good : ∀ c : Bool, sg.all (okSig ps) = c → goodSg ps sg = c := fun c h => by
    unfold goodSg
    rw [hb.1, hb.2, h]
    rfl
  refine qx_forD2 (xs := sg) (gv_var rfl) (fun _ => [some (.d (.list (ps.map enc))), some (.d (.list (sg.map enc))), none, none]) (fun k B1 H1 => Ext B H B1 H1 ∧ (sg.take k).all (okSig ps) = true) (by walk_at "le") (fun B3 H3 x3 => ⟨x2.trans x3, rfl⟩) ?_ ?_
  · intro Bs k ⟨j, a⟩ B3 H3 hk s1 s2 ⟨x3, hall⟩
    have htake : sg.take (k + 1) = sg.take k ++ [(j, a)] := by rw [List.take_add_one, hk]; rfl
    have hmem : (j, a) ∈ sg := List.mem_of_getElem? hk
    refine qx_when (b := !okSig ps (j, a)) ?_ ?_ ?_
    · refine gt_is (b := !(decide (0 ≤ a) && decide (a < ((ps.length : Nat) : Int))) || !decide (j ∈ ((ps[a.toNat]?).getD (.plain 0 0)).js)) (gt_or ?_ fun h1 => ?_) ?_
      · walk_at "gv"
      · have h1' : 0 ≤ a ∧ a < (ps.length : Int) := by simpa using h1
        have hlt : a.toNat < ps.length := by omega
        obtain ⟨pc, hpc⟩ : ∃ pc, ps[a.toNat]? = some pc := ⟨_, List.getElem?_eq_getElem hlt⟩
        have hat : atI (ps.map enc) a = some (enc pc) := by
          have := atI_map hpc
          rw [show ((a.toNat : Nat) : Int) = a by omega] at this
          exact this
        rw [hpc]
        walk_at "ge"
      · show _ = !okSig ps (j, a)
        unfold okSig
        simp only [Bool.not_and]
    · intro hb2 B4 H4 x4
      refine qx_raise fun _ => bad ?_ B4 H4 (x3.trans x4)
      refine good false ?_
      rw [← Bool.not_eq_true]
      intro h
      have := List.all_eq_true.mp h _ hmem
      rw [this] at hb2
      cases hb2
    · intro hb2 B4 H4 x4
      refine sx_lp (s2.trans x4.bb) (by walk_at "le") ⟨x3.trans x4, ?_⟩
      rw [htake, List.all_append, hall, List.all_cons, List.all_nil, Bool.true_and, Bool.and_true]
      simpa using hb2
  · intro B3 H3 s1 ⟨x3, hall⟩
    rw [List.take_length] at hall
    have hg := good true hall
    exact sx_next fun _ σ _ => q .non B3 H3 AN (by show (if goodSg ps sg = true then _ else _) = _; rw [hg]; rfl) x3 .non
theorem gx_lookS {c : Addr} {Γ : List (Option AV)} {B H : Hp} {ta tb : TE} {E : XK} {ps : List Pc} {sg : List Sig} (h : Gv ta Γ B H (.d (.list (ps.map enc)))) (h2 : Gv tb Γ B H (.d (.list (sg.map enc)))) (hl : ps.length ≤ 100) (hs : sg.length ≤ 60) :
    Gx E (tCall (spLookS c) [] E (tCons ta (tCons tb tNil))) Γ B H (if goodSg ps sg = true then .ok AN else .error c) := gx_call (ps, sg) (ga_cons h (ga_cons h2 ga_nil)) fun _ _ _ => ⟨hl, hs⟩
/-! routes -/
def routesN (ps : List Pc) (sg : List Sig) : List (Int × List Stp) := (List.range sg.length).flatMap fun (k : Nat) => (waysN ps sg 17 [] ((sg[k]?).getD (0, 0)).1 ((sg[k]?).getD (0, 0)).2.toNat).map fun w => ((k : Int), w)
def goodYard (ps : List Pc) (sg : List Sig) : Bool := goodPs ps && goodSg ps sg
def spRoutes (c : Addr) : Sp := spR (T := List Pc × List Sig) (fun t => [.d (.list (t.1.map enc)), .d (.list (t.2.map enc))]) (fun t _ _ => t.1.length ≤ 100 ∧ t.2.length ≤ 60) fun t => if goodYard t.1 t.2 = true then .ok (.d (.list ((routesN t.1 t.2).map enc))) else .error c
theorem good_len {ps : List Pc} (h : goodPs ps = true) : 1 ≤ ps.length ∧ ps.length ≤ 16 := by
  unfold goodPs at h
  simp only [Bool.and_eq_true, decide_eq_true_eq] at h
  obtain ⟨⟨⟨h1, h2⟩, _⟩, _⟩ := h
  omega
theorem good_sg {ps : List Pc} {sg : List Sig} (h : goodSg ps sg = true) : sg.length ≤ 16 ∧ ∀ s ∈ sg, 0 ≤ s.2 ∧ s.2 < (ps.length : Int) ∧ s.1 ∈ ((ps[s.2.toNat]?).getD (.plain 0 0)).js := by
  unfold goodSg at h
  simp only [Bool.and_eq_true, Bool.not_eq_true', decide_eq_true_eq, decide_eq_false_iff_not, List.all_eq_true] at h
  obtain ⟨⟨h1, h2⟩, h3⟩ := h
  refine ⟨by omega, fun s hs => ?_⟩
  have := h3 s hs
  unfold okSig at this
  simp only [Bool.and_eq_true, decide_eq_true_eq] at this
  exact ⟨this.1.1, this.1.2, this.2⟩
theorem flat_len {α β : Type} (f : α → List β) (m : Nat) : ∀ xs : List α, (∀ x ∈ xs, (f x).length ≤ m) → (xs.flatMap f).length ≤ xs.length * m
  | [], _ => by simp
  | x :: xs, h => by
    rw [List.flatMap_cons, List.length_append, List.length_cons, Nat.add_mul, Nat.one_mul, Nat.add_comm]
    exact Nat.add_le_add (flat_len f m xs fun y hy => h y (List.mem_cons_of_mem _ hy)) (h x List.mem_cons_self)
theorem ok_routes (T : Txt K mg C) (F : Fun K "routes" "routes" s_routes f fd) (c_look_pieces : Cal P w K mg base (L2.CX P w) 2 "look_pieces" (spLookP C.BadYard)) (c_look_signals : Cal P w K mg base (L2.CX P w) 2 "look_signals" (spLookS C.BadYard))
    (c_ways_from : Cal P w K mg base CX0 20 "ways_from" (spWays 17)) : FnOk P w K mg base (L2.CX P w) 21 f fd ["pieces", "signals"] (spRoutes C.BadYard) := by
  refine fn_R F sc_routes (fun _ => rfl) fun cdv A outer s H Q E hr => ⟨_, pss_cons (ps_expr (pe_cal c_look_pieces hr (by first | decide | omega) rfl (passX (takes_of rfl rfl rfl rfl)) (pa_cons (pv 0) (pa_nil))))
  (pss_cons (ps_expr (pe_cal c_look_signals hr (by first | decide | omega) rfl (passX (takes_of rfl rfl rfl rfl)) (pa_cons (pv 0) (pa_cons (pv 1) (pa_nil)))))
  (pss_cons (ps_set (i := 2) sc_routes.nd rfl (by first | exact Or.inl rfl | exact Or.inr rfl) (pe_lst (pa_nil)))
  (pss_cons (ps_for (passes_of rfl) rfl (pi_range1 (by rfl) T.n_range (pa_cons (pe_callB (call_lenK (K := K) rfl) (by rfl) T.n_len (by decide +kernel) (pa_cons (pv 1) (pa_nil))) (pa_nil))) (pg_name (i := 3) sc_routes.nd rfl (by first | exact Or.inl rfl | exact Or.inr rfl)) (pss_cons (ps_for (passes_of rfl) rfl (pi_listK (K := K) rfl (pe_cal c_ways_from hr (by first | decide | omega) rfl passN (pa_cons (pv 0) (pa_cons (pv 1) (pa_cons (pe_lst (pa_nil)) (pa_cons (pe_ix (ix_tupK (K := K) rfl) (pe_ix (ix_listK (K := K) rfl) (pv 1) (pv 3) (fun _ _ => rfl)) (pe_int) (fun _ _ => rfl)) (pa_cons (pe_ix (ix_tupK (K := K) rfl) (pe_ix (ix_listK (K := K) rfl) (pv 1) (pv 3) (fun _ _ => rfl)) (pe_int) (fun _ _ => rfl)) (pa_nil)))))))) (pg_name (i := 4) sc_routes.nd rfl (by first | exact Or.inl rfl | exact Or.inr rfl)) (pss_cons (ps_expr (pe_bmK (K := K) rfl PySem.F.plainAttrs_list PySem.F.slot_list_append PySem.F.type_list_append mt_append (pv 2) (pa_cons (pe_tup (pa_cons (pv 3) (pa_cons (pv 4) (pa_nil)))) (pa_nil))))
  (pss_nil)))
  (pss_nil)))
  (pss_cons (ps_ret (pv 2))
  (pss_nil))))), fun ⟨ps, sg⟩ B e hl q qe => ?_⟩
  obtain ⟨hl, hs⟩ := hl
  have hl : ps.length ≤ 100 := hl
  have hs : sg.length ≤ 60 := hs
  have q : ∀ u B2 H2 g, (if goodYard ps sg = true then Except.ok (.d (.list ((routesN ps sg).map enc))) else Except.error C.BadYard) = Except.ok g → Ext B H B2 H2 → Is B2 u g → Q u H2 := q
  have qe : ∀ B2 H2 c, (if goodYard ps sg = true then Except.ok (AV.d (.list ((routesN ps sg).map enc))) else Except.error C.BadYard) = Except.error c → Ext B H B2 H2 → E (.ref c) none H2 := qe
  refine qx_dropX (gx_lookP (gv_var rfl) hl) (fun g B2 H2 hg x2 => ?_) fun c B2 H2 hc x2 => ?_
  rotate_left
  · cases h : goodPs ps with
    | true => rw [h, if_pos rfl] at hc; cases hc
    | false =>
      rw [h] at hc
      cases hc
      exact qe B2 H2 _ (by unfold goodYard; rw [h]; rfl) x2
  have hgp : goodPs ps = true := by
    cases h : goodPs ps with
    | true => rfl
    | false => rw [h] at hg; cases hg
  refine qx_dropX (gx_lookS (gv_var rfl) (gv_var rfl) hl hs) (fun g' B3 H3 hg' x3 => ?_) fun c B3 H3 hc x3 => ?_
  rotate_left
  · cases h : goodSg ps sg with
    | true => rw [h, if_pos rfl] at hc; cases hc
    | false =>
      rw [h] at hc
      cases hc
      exact qe B3 H3 _ (by unfold goodYard; rw [h, Bool.and_false]; rfl) (x2.trans x3)
  have hgs : goodSg ps sg = true := by
    cases h : goodSg ps sg with
    | true => rfl
    | false => rw [h] at hg'; cases hg'
  have hgy : goodYard ps sg = true := by unfold goodYard; rw [hgp, hgs]; rfl
  rw [hgy, if_pos rfl] at q
  obtain ⟨hl1, hl16⟩ := good_len hgp
  obtain ⟨hs16, hsig⟩ := good_sg hgs
  refine qx_newL (ds := []) ga_nil (by decide) fun p B4 H4 hp x4 m => ?_
  have hp0 : H p = none := (x2.trans x3).hh.free hp
  have x04 := (x2.trans x3).trans x4
  let Fk : Nat → List (Int × List Stp) := fun k => (waysN ps sg 17 [] ((sg[k]?).getD (0, 0)).1 ((sg[k]?).getD (0, 0)).2.toNat).map fun w => ((k : Int), w)
  have hFk : ∀ k, (Fk k).length ≤ 2 ^ 17 := fun k => by
    show ((waysN ps sg 17 [] _ _).map _).length ≤ _
    rw [List.length_map]
    exact ways_len ps sg 17 _ _ _
  have hpre : ∀ k, k ≤ 16 → ((List.range k).flatMap Fk).length ≤ 16 * 2 ^ 17 := fun k hk => by
    refine Nat.le_trans (flat_len Fk (2 ^ 17) _ fun x _ => hFk x) ?_
    rw [List.length_range]
    exact Nat.mul_le_mul_right _ hk
  refine qx_forR (n := ((sg.length : Nat) : Int)) ?_ (by omega) (by omega) (fun _ => [some (.d (.list (ps.map enc))), some (.d (.list (sg.map enc))), some (.v (.ref p)), none, none]) (fun k B1 H1 => Ext B H B1 H1 ∧ Ml B1 H1 p (((List.range k).flatMap Fk).map enc)) (by walk_at "le") (fun B5 H5 x5 => ⟨x04.trans x5, m.ext x5⟩) ?_ ?_
  · walk_at "gv"
  · intro Bs k B5 H5 hk s1 s2 ⟨x5, m5⟩
    have hk' : k < sg.length := by omega
    obtain ⟨⟨j, a⟩, hja⟩ : ∃ s, sg[k]? = some s := ⟨_, List.getElem?_eq_getElem hk'⟩
    have hmem : (j, a) ∈ sg := List.mem_of_getElem? hja
    obtain ⟨ha0, hal, _⟩ := hsig _ hmem
    have hat := atI_map hja
    have eFk : Fk k = (waysN ps sg 17 [] j a.toNat).map fun w => ((k : Int), w) := by
      show (waysN ps sg 17 [] ((sg[k]?).getD (0, 0)).1 ((sg[k]?).getD (0, 0)).2.toNat).map (fun w => ((k : Int), w)) = _
      rw [hja]
      rfl
    have ea : ((a.toNat : Nat) : Int) = a := by
      have : (0 : Int) ≤ a := ha0
      omega
    have hsz := hpre (k + 1) (by omega)
    rw [List.range_succ, List.flatMap_append, List.flatMap_singleton, List.length_append] at hsz
    refine qx_forD (xs := waysN ps sg 17 [] j a.toNat) ?_ (fun _ => [some (.d (.list (ps.map enc))), some (.d (.list (sg.map enc))), some (.v (.ref p)), some (AI (k : Int)), none])
      (fun i B1 H1 => Ext B H B1 H1 ∧ Ml B1 H1 p ((((List.range k).flatMap Fk) ++ (Fk k).take i).map enc)) (by walk_at "le") (fun B6 H6 x6 => ⟨x5.trans x6, by rw [List.take_zero, List.append_nil]; exact m5.ext x6⟩) ?_ ?_
    · refine gv_ways (⟨ps, sg, [], j, a.toNat⟩ : WaysArg) ?_ ⟨hl16, ?_, ?_, List.nodup_nil, fun s hs => by simp at hs, by omega⟩
      · refine ga_cons (gv_var rfl) (ga_cons (gv_var rfl) (ga_cons ?_ (ga_cons ?_ (ga_cons ?_ ga_nil))))
        · walk_at "gw"
        · refine gv_op (x := .d (enc ((j, a) : Sig))) ?_ gv_int (ro_ixT (ds := [.int j, .int a]) rfl)
          walk_at "gv"
        · show Gv _ _ B5 H5 (AI ((a.toNat : Nat) : Int))
          rw [ea]
          refine gv_op (x := .d (enc ((j, a) : Sig))) ?_ gv_int (ro_ixT (ds := [.int j, .int a]) rfl)
          walk_at "gv"
      · show a.toNat < ps.length
        omega
      · show ps.length < 0 + 17
        omega
    · intro Bs2 i wy B6 H6 hi s3 s4 ⟨x6, m6⟩
      have hFi : (Fk k)[i]? = some ((k : Int), wy) := by rw [eFk, List.getElem?_map, hi]; rfl
      have htake : (Fk k).take (i + 1) = (Fk k).take i ++ [((k : Int), wy)] := by rw [List.take_add_one, hFi]; rfl
      have hli : ((Fk k).take i).length ≤ (Fk k).length := by rw [List.length_take]; omega
      refine qx_app m6 (gv_var rfl) (d := enc ((k : Int), wy)) ?_ (by rw [List.length_map, List.length_append]; omega) fun B7 H7 x7 m7 => ?_
      · walk_at "gw"
      · refine sx_lp (s4.trans x7.bb) (by walk_at "le") ⟨x6.thenF x7 (fun z hz => by rw [hz]; exact hp0), ?_⟩
        rw [htake, ← List.append_assoc, List.map_append]
        exact m7
    · intro B6 H6 s3 ⟨x6, m6⟩
      refine sx_lp (s2.trans s3) (by walk_at "le") ⟨x6, ?_⟩
      rw [List.range_succ, List.flatMap_append, List.flatMap_singleton]
      have e2 : (Fk k).take (waysN ps sg 17 [] j a.toNat).length = Fk k := by
        rw [List.take_of_length_le]
        rw [eFk, List.length_map]
        exact Nat.le_refl _
      rw [e2] at m6
      exact m6
  · intro B5 H5 s1 ⟨x5, m5⟩
    exact qx_retM x5 hp0 m5 (gv_var rfl) fun u B6 H6 x6 hu => q u B6 H6 _ rfl x6 hu
theorem gx_routes {c : Addr} {Γ : List (Option AV)} {B H : Hp} {ta tb : TE} {E : XK} {ps : List Pc} {sg : List Sig} (h : Gv ta Γ B H (.d (.list (ps.map enc)))) (h2 : Gv tb Γ B H (.d (.list (sg.map enc)))) (hl : ps.length ≤ 100) (hs : sg.length ≤ 60) :
    Gx E (tCall (spRoutes c) [] E (tCons ta (tCons tb tNil))) Γ B H (if goodYard ps sg = true then .ok (.d (.list ((routesN ps sg).map enc))) else .error c) := gx_call (ps, sg) (ga_cons h (ga_cons h2 ga_nil)) fun _ _ _ => ⟨hl, hs⟩
end
end SB
namespace SB
open PySem PySem.Spec PyProof.Rows L2
open Enc (enc)
local macro_rules | `(tactic| walk_at "le") => `(tactic| first | exact le_nil | (refine le_keep ?_; walk_at "le") | (refine le_drop ?_; walk_at "le"))
local macro_rules | `(tactic| walk_at "sd") => `(tactic| first | assumption | (show (_ : Int) < _ ∧ _ < (1073741824 : Int); exact ⟨by omega, by omega⟩) | (show (-(2 ^ 64) < (_ : Int) ∧ _ < (2 ^ 64 : Int)) ∨ _; first | exact .inl ⟨by omega, by omega⟩ | exact .inr ⟨by omega, by omega⟩) | rfl | decide | (simp; done) | omega | skip)
local macro_rules | `(tactic| walk_at "gc") => `(tactic| fail)
local macro_rules | `(tactic| walk_at "gv") => `(tactic| first
  | exact gv_int | exact gv_str | exact gv_bl | exact gv_non | exact gv_var rfl
  | ((with_reducible refine' gv_op ?_ ?_ ?_) <;> walk_at "gv")
  | ((with_reducible refine' ga_cons ?_ ?_) <;> walk_at "gv") | exact ga_nil
  | ((with_reducible refine' gv_cb ?_ ?_) <;> walk_at "gv")
  | ((with_reducible refine' gt_test ?_) <;> walk_at "gv") | ((with_reducible refine' gt_B ?_) <;> walk_at "gv") | ((with_reducible refine' gt_not ?_) <;> walk_at "gv")
  | ((with_reducible refine' gt_and ?k1 ?k2); (case' k1 => walk_at "gv"); (case' k2 => intro hb; walk_at "gv"))
  | ((with_reducible refine' gt_or ?k1 ?k2); (case' k1 => walk_at "gv"); (case' k2 => intro hb; walk_at "gv"))
  | ((with_reducible refine' gv_andV ?k1 ?k2); (case' k1 => walk_at "gv"); (case' k2 => intro hb; walk_at "gv"))
  | ((with_reducible refine' gv_orV ?k1 ?k2); (case' k1 => walk_at "gv"); (case' k2 => intro hb; walk_at "gv"))
  | ((with_reducible refine' gv_notV ?_) <;> walk_at "gv")
  | ((with_reducible refine' gv_slL ?_ ?_ ?_) <;> walk_at "gv") | ((with_reducible refine' gv_slT ?_ ?_ ?_ ?_) <;> walk_at "gv")
  | exact go_none | ((with_reducible refine' go_some ?_) <;> walk_at "gv")
  | exact gd_nil | ((with_reducible refine' gd_cons ?_ ?_) <;> walk_at "gv") | ((with_reducible refine' gv_lst ?_ ?_) <;> walk_at "gv") | ((with_reducible refine' gv_tup ?_ ?_) <;> walk_at "gv")
  | ((with_reducible refine' gv_chain ?_ ?_ ?_ ?_ ?_) <;> walk_at "gv") | ((with_reducible refine' gt_truL ?_) <;> walk_at "gv") | ((with_reducible refine' gv_countI ?_ ?_) <;> walk_at "gv")
  | ((with_reducible refine' gv_lenSetI ?_ ?_) <;> walk_at "gv") | ((with_reducible refine' gv_lenSetU ?_ ?_) <;> walk_at "gv") | ((with_reducible refine' gv_lenSetT ?_ ?_) <;> walk_at "gv")
  | exact gt_yes
  | walk_at "gc"
  | exact ro_I0 | exact ro_B0 | (refine ro_I ?_; walk_at "sd")
  | exact ro_eqI | exact ro_neI | exact ro_eqS | exact ro_neS
  | (refine ro_eq ?_; walk_at "sd") | (refine ro_ne ?_; walk_at "sd")
  | exact ro_isN | exact ro_notN
  | exact ro_inI | exact ro_notInI | exact ro_inTI
  | (refine' ro_ixL ?k1; (case' k1 => walk_at "sd")) | (refine' ro_ixT ?k1; (case' k1 => walk_at "sd"))
  | (refine ro_cat ?_; walk_at "sd")
  | exact rc_lenM | exact rc_len | exact rc_lenT | exact rc_list | exact rc_listT | exact rc_tuple | exact rc_any | exact rc_all | exact rc_max2 | exact rc_min2 | exact rc_intB
  | (show (_ : Nat) ≤ _; first | decide | (simp; done) | omega)
  | (show (_ : Nat) < _; first | decide | (simp; done) | omega)
  | (show ¬ (_ ∧ _); exact fun h => absurd (show (1 : Nat) = 0 from h.1) (by decide))
  | skip)
local macro_rules | `(tactic| walk_at "ge") => `(tactic| (refine' gt_is ?k1 ?k2; (case' k1 => walk_at "gv"); (case' k2 => first | rfl | (simp; done) | skip)))
local macro_rules | `(tactic| walk_at "gw") => `(tactic| (refine' gv_is ?k1 ?k2; (case' k1 => walk_at "gv"); (case' k2 => first | rfl | (simp; done) | skip)))
local macro_rules | `(tactic| walk_at "gj") => `(tactic| first | exact gi_nil | (refine' gi_cons ?g1 ?g2; (case' g1 => walk_at "gv"); (case' g2 => walk_at "gj")))
local macro_rules | `(tactic| walk_at "gi") => `(tactic| (refine' gv_lst ?k1 ?k2; (case' k1 => walk_at "gj"); (case' k2 => (simp; try omega))))
local macro_rules | `(tactic| walk_at "gc") => `(tactic| first | ((with_reducible refine' gv_joints ?_) <;> walk_at "gv") | ((with_reducible refine' gv_beyond ?_ ?_ ?_ ?_) <;> walk_at "gv") | ((with_reducible refine' gv_outs ?_ ?_) <;> walk_at "gv") | ((with_reducible refine' gv_ends ?_ ?_ ?_ ?_ ?_) <;> walk_at "gv"))
/-! ### a new yard -/
section
variable {C : Adr} {P : Program} {w : World} {K : PySem.W.Frag} {mg : Str → Option Value} {base : Heap} {fd : FuncData} {f : Addr}
abbrev s_Yard_init : Stmt := inClass (top 22) 0
abbrev N_Yard_init : List Str := ["self", "pieces", "signals", "wait", "piece"]
theorem sc_Yard_init : FnScope N_Yard_init ["self", "pieces", "signals", "wait"] (defScope s_Yard_init) := ⟨rfl, rfl, rfl, by decide +kernel, rfl, by decide +kernel, by decide +kernel⟩
abbrev yKeys : List Str := ["pieces", "signals", "wait", "routes", "now", "points", "locks", "green", "falling", "trains"]
/-- a yard's places -/
structure YAd where
  dx : Addr
  vps : V
  vsg : V
  vrt : V
  pts : Addr
  lks : Addr
  grn : Addr
  fal : Addr
  trn : Addr
def lieOf : Pc → Lie
  | .plain _ _ => .no
  | .points _ _ _ => .st
structure YNew (C : Adr) (B H : Hp) (y : Addr) (A : YAd) (ps : List Pc) (sg : List Sig) (wait : Int) : Prop where
  ob : H y = some (.ins C.Yard A.dx (yKeys.zip [A.vps, A.vsg, .int wait, A.vrt, .int 0, .ref A.pts, .ref A.lks, .ref A.grn, .ref A.fal, .ref A.trn]))
  oy : B y = none
  hps : Dq B A.vps (.list (ps.map enc))
  hsg : Dq B A.vsg (.list (sg.map enc))
  hrt : Dq B A.vrt (.list ((routesN ps sg).map enc))
  hpts : Ml B H A.pts ((ps.map lieOf).map enc)
  hlks : Ml B H A.lks ((List.replicate ps.length (none : Option Int)).map enc)
  hgrn : Ml B H A.grn (([] : List Int).map enc)
  hfal : Md B H A.fal []
  htrn : Md B H A.trn []
  n1 : A.pts ≠ A.lks
  n2 : A.pts ≠ A.grn
  n3 : A.lks ≠ A.grn
  n4 : A.fal ≠ A.trn
def spYard (C : Adr) : Sp := fun vs H Q E => ∃ (y dx : Addr) (ps : List Pc) (sg : List Sig) (wait : Int) (B : Hp), Same B H ∧ IsAll B vs [.v (.ref y), .d (.list (ps.map enc)), .d (.list (sg.map enc)), AI wait] ∧
  H y = some (.ins C.Yard dx []) ∧ B y = none ∧ ps.length ≤ 100 ∧ sg.length ≤ 60 ∧
  (goodYard ps sg = true → ∀ A B2 H2, A.dx = dx → ExtF (· = y) B H B2 H2 → (∀ p ∈ [A.pts, A.lks, A.grn, A.fal, A.trn], H p = none) → YNew C B2 H2 y A ps sg wait → Q .non H2) ∧
  (goodYard ps sg = false → ∀ B2 H2, ExtF (· = y) B H B2 H2 → E (.ref C.BadYard) none H2)
theorem word_pl' (a c : Int) : decide ((Pc.plain a c).word = "points") = false := by
  show decide (("plain" : Str) = "points") = false
  decide +kernel
theorem word_pt' (a b c : Int) : decide ((Pc.points a b c).word = "points") = true := by
  show decide (("points" : Str) = "points") = true
  decide +kernel
theorem ok_yard (T : Txt K mg C) (F : Fun K "__init__" "Yard.__init__" s_Yard_init f fd) (c_routes : Cal P w K mg base (L2.CX P w) 21 "routes" (spRoutes C.BadYard)) :
    FnOk P w K mg base (L2.CX P w) 22 f fd ["self", "pieces", "signals", "wait"] (spYard C) := by
  refine F.okX sc_Yard_init (fun vs H Q E h => ?_) (fun cdv A outer s H vs Q E hr h => ?_)
  · obtain ⟨y, dx, ps, sg, wait, B, _, i, _⟩ := h
    exact i.length
  obtain ⟨y, dx, ps, sg, wait, B, e, i, hy, hby, hl, hs, q, qe⟩ := h
  refine ⟨_, pss_cons (ps_fldK (K := K) rfl (pv 0) (pe_callTy (call_listK (K := K) rfl) (by rfl) T.n_list (by decide +kernel) (pa_cons (pv 1) (pa_nil))) rfl)
  (pss_cons (ps_fldK (K := K) rfl (pv 0) (pe_callTy (call_listK (K := K) rfl) (by rfl) T.n_list (by decide +kernel) (pa_cons (pv 2) (pa_nil))) rfl)
  (pss_cons (ps_fldK (K := K) rfl (pv 0) (pv 3) rfl)
  (pss_cons (ps_fldK (K := K) rfl (pv 0) (pe_cal c_routes hr (by first | decide | omega) rfl (passX (takes_of rfl rfl rfl rfl)) (pa_cons (pv 1) (pa_cons (pv 2) (pa_nil)))) rfl)
  (pss_cons (ps_fldK (K := K) rfl (pv 0) (pe_int) rfl)
  (pss_cons (ps_fldK (K := K) rfl (pv 0) (pe_lc (own := [("piece", 4)]) (g := gName 4) (tt := tYes) (by rfl) sc_Yard_init.nd (pi_listK (K := K) rfl (pv 1)) (blkOk_by (own := [("piece", 4)]) (N := N_Yard_init) (sc := defScope s_Yard_init) (by decide +kernel)) (fun _ _ _ _ _ => pg_name (i := 4) sc_Yard_init.nd rfl (Or.inl rfl)) (fun _ _ _ _ _ => pts_nil) (fun _ _ _ _ _ => pe_ifExp (pt_cmpR op_eq (pe_ix (ix_tupK (K := K) rfl) (pv 4) (pe_int) (fun _ _ => rfl)) (pe_str) (nomark _)) (pe_globS rfl T.g_STRAIGHT) (pe_non))) rfl)
  (pss_cons (ps_fldK (K := K) rfl (pv 0) (pe_op op_rep (pe_lst (pa_cons (pe_non) (pa_nil))) (pe_callB (call_lenK (K := K) rfl) (by rfl) T.n_len (by decide +kernel) (pa_cons (pv 1) (pa_nil)))) rfl)
  (pss_cons (ps_fldK (K := K) rfl (pv 0) (pe_lst (pa_nil)) rfl)
  (pss_cons (ps_fldK (K := K) rfl (pv 0) (pe_dnewK) rfl)
  (pss_cons (ps_fldK (K := K) rfl (pv 0) (pe_dnewK) rfl)
  (pss_nil)))))))))), ?_⟩
  have hy0 := hy
  have bad : goodYard ps sg = false → ∀ B2 H2, ExtF (· = y) B H B2 H2 → E (.ref C.BadYard) none H2 := qe
  refine Sx.run (Γ := Γ0 N_Yard_init [.v (.ref y), .d (.list (ps.map enc)), .d (.list (sg.map enc)), AI wait]) (B := B) ?_ e (fr_start i (by rw [i.length]; show 4 ≤ 5; decide))
  -- pieces
  refine qx_fld (g := .d (.list (ps.map enc))) ?_ (gv_var rfl) hy hby T.cl_Yard T.na_Yard_pieces (by decide) fun v1 B1 H1 x1 i1 hy hby => ?_
  · walk_at "gv"
  have hy : H1 y = some (.ins C.Yard dx ((["pieces"] : List Str).zip [v1])) := hy
  -- signals
  refine qx_fld (g := .d (.list (sg.map enc))) ?_ (gv_var rfl) hy hby T.cl_Yard T.na_Yard_signals (by simp) fun v2 B2 H2 x2 i2 hy hby => ?_
  · walk_at "gv"
  rw [zip_more _ _ _ _ (by decide +kernel) rfl] at hy
  -- wait
  refine qx_fld (g := AI wait) (gv_var rfl) (gv_var rfl) hy hby T.cl_Yard T.na_Yard_wait (by simp) fun v3 B3 H3 x3 i3 hy hby => ?_
  rw [zip_more _ _ _ _ (by decide +kernel) rfl] at hy
  -- routes
  refine qx_fldX (gx_routes (gv_var rfl) (gv_var rfl) hl hs) (gv_var rfl) hy hby T.cl_Yard T.na_Yard_routes (by simp) (fun v4 g B4 H4 hg x4 i4 hy hby => ?_) fun c B4 H4 hc x4 => ?_
  rotate_left
  · cases h : goodYard ps sg with
    | true => rw [h, if_pos rfl] at hc; cases hc
    | false =>
      rw [h] at hc
      cases hc
      exact bad h B4 H4 (((x1.trans x2).trans x3).trans x4.f)
  have hgy : goodYard ps sg = true := by
    cases h : goodYard ps sg with
    | true => rfl
    | false => rw [h] at hg; cases hg
  rw [hgy, if_pos rfl] at hg
  cases hg
  rw [zip_more _ _ _ _ (by decide +kernel) rfl] at hy
  -- now
  refine qx_fld (g := AI 0) gv_int (gv_var rfl) hy hby T.cl_Yard T.na_Yard_now (by simp) fun v5 B5 H5 x5 i5 hy hby => ?_
  rw [zip_more _ _ _ _ (by decide +kernel) rfl] at hy
  have x05 := (((x1.trans x2).trans x3).trans x4).trans x5
  -- points
  refine qx_fldM (ds := ((ps.filter fun _ => true).map lieOf).map enc) ?_ (fun _ _ _ => gv_var rfl) hy hby T.cl_Yard T.na_Yard_points (by simp) fun pp B6 H6 x6 np m6 hy hby => ?_
  · refine gm_lcL (xs := ps) (gv_var rfl) (by omega) (by decide) (by decide) (fun _ => true) lieOf (fun _ _ _ _ _ => gt_yes) fun pc _ _ B7 H7 x7 => ?_
    cases pc with
    | plain a c =>
      refine gv_if (b := false) ?_ (fun h => by cases h) fun _ => gv_non
      refine gt_is (b := decide ((Pc.plain a c).word = "points")) ?_ (word_pl' a c)
      walk_at "gv"
    | points a c d =>
      refine gv_if (b := true) ?_ (fun _ => gv_str) fun h => by cases h
      refine gt_is (b := decide ((Pc.points a c d).word = "points")) ?_ (word_pt' a c d)
      walk_at "gv"
  rw [zip_more _ _ _ _ (by decide +kernel) rfl] at hy
  rw [filter_yes] at m6
  -- locks
  refine qx_fldM (ds := (List.replicate ((ps.length : Nat) : Int).toNat [PyData.none]).flatten) ?_ (fun _ _ _ => gv_var rfl) hy hby T.cl_Yard T.na_Yard_locks (by simp) fun pl B7 H7 x7 nl m7 hy hby => ?_
  · refine gm_rep (k := ((ps.length : Nat) : Int)) ?_ ?_ (by omega) (by omega) (by simp; omega)
    · walk_at "gv"
    · walk_at "gv"
  rw [zip_more _ _ _ _ (by decide +kernel) rfl] at hy
  -- green
  refine qx_fldM (ds := []) (gm_lst ga_nil (by decide)) (fun _ _ _ => gv_var rfl) hy hby T.cl_Yard T.na_Yard_green (by simp) fun pg B8 H8 x8 ng m8 hy hby => ?_
  rw [zip_more _ _ _ _ (by decide +kernel) rfl] at hy
  -- falling
  refine qx_fldD (fun _ _ _ => gv_var rfl) hy hby T.cl_Yard T.na_Yard_falling (by simp) fun pf B9 H9 x9 nf m9 hy hby => ?_
  rw [zip_more _ _ _ _ (by decide +kernel) rfl] at hy
  -- trains
  refine qx_fldD (fun _ _ _ => gv_var rfl) hy hby T.cl_Yard T.na_Yard_trains (by simp) fun pt B10 H10 x10 nt m10 hy hby => ?_
  rw [zip_more _ _ _ _ (by decide +kernel) rfl] at hy
  refine sx_next fun _ σ _ => ?_
  have x06 := x05.trans x6
  have x07 := x06.trans x7
  have x08 := x07.trans x8
  have x09 := x08.trans x9
  have e3 : v3 = .int wait := by cases i3; rfl
  have e5 : v5 = .int 0 := by cases i5; rfl
  subst e3 e5
  have np0 := x05.free np
  have nl0 := x06.free nl
  have ng0 := x07.free ng
  have nf0 := x08.free nf
  have nt0 := x09.free nt
  have yne : ∀ {p : Addr}, H p = none → ¬ p = y := fun h z => by rw [z, hy0] at h; cases h
  have m67 := m6.extF x7 (yne np0)
  have b45 := x5.bb.trans ((x6.bb.trans x7.bb).trans ((x8.bb.trans x9.bb).trans x10.bb))
  refine q hgy ⟨dx, v1, v2, v4, pp, pl, pg, pf, pt⟩ B10 H10 rfl (x09.trans x10) (fun p hp => ?_) ?_
  · simp only [List.mem_cons, List.not_mem_nil, or_false] at hp
    rcases hp with h | h | h | h | h <;> subst h
    · exact np0
    · exact nl0
    · exact ng0
    · exact nf0
    · exact nt0
  · refine ⟨hy, hby, Dq.mono (x2.bb.trans (x3.bb.trans (x4.bb.trans b45))) i1, Dq.mono (x3.bb.trans (x4.bb.trans b45)) i2, Dq.mono b45 i4, ((m67.extF x8 (yne np0)).extF x9 (yne np0)).extF x10 (yne np0), ?_, (m8.extF x9 (yne ng0)).extF x10 (yne ng0), m9.extF x10 (yne nf0), m10, ?_, ?_, ?_, ?_⟩
    · have m7' := ((m7.extF x8 (yne nl0)).extF x9 (yne nl0)).extF x10 (yne nl0)
      have e7 : (List.replicate ((ps.length : Nat) : Int).toNat [PyData.none]).flatten = (List.replicate ps.length (none : Option Int)).map enc := by
        rw [Int.toNat_natCast, List.map_replicate]
        have : ∀ n, (List.replicate n [PyData.none]).flatten = List.replicate n PyData.none := by
          intro n
          induction n with
          | zero => rfl
          | succ n ih => rw [List.replicate_succ, List.flatten_cons, ih]; rfl
        exact this _
      rw [e7] at m7'
      exact m7'
    · intro z
      have z : pp = pl := z
      subst z
      exact m6.ne nl
    · intro z
      have z : pp = pg := z
      subst z
      exact m67.ne ng
    · intro z
      have z : pl = pg := z
      subst z
      exact m7.ne ng
    · intro z
      have z : pf = pt := z
      subst z
      exact m9.ne nt
end
end SB
namespace SB
open PySem PySem.Spec PyProof.Rows L2
open Enc (enc)
local macro_rules | `(tactic| walk_at "le") => `(tactic| first | exact le_nil | (refine le_keep ?_; walk_at "le") | (refine le_drop ?_; walk_at "le"))
local macro_rules | `(tactic| walk_at "sd") => `(tactic| first | assumption | (show (_ : Int) < _ ∧ _ < (1073741824 : Int); exact ⟨by omega, by omega⟩) | (show (-(2 ^ 64) < (_ : Int) ∧ _ < (2 ^ 64 : Int)) ∨ _; first | exact .inl ⟨by omega, by omega⟩ | exact .inr ⟨by omega, by omega⟩) | rfl | decide | (simp; done) | omega | skip)
local macro_rules | `(tactic| walk_at "gc") => `(tactic| fail)
local macro_rules | `(tactic| walk_at "gv") => `(tactic| first
  | exact gv_int | exact gv_str | exact gv_bl | exact gv_non | exact gv_var rfl
  | ((with_reducible refine' gv_op ?_ ?_ ?_) <;> walk_at "gv")
  | ((with_reducible refine' ga_cons ?_ ?_) <;> walk_at "gv") | exact ga_nil
  | ((with_reducible refine' gv_cb ?_ ?_) <;> walk_at "gv")
  | ((with_reducible refine' gt_test ?_) <;> walk_at "gv") | ((with_reducible refine' gt_B ?_) <;> walk_at "gv") | ((with_reducible refine' gt_not ?_) <;> walk_at "gv")
  | ((with_reducible refine' gt_and ?k1 ?k2); (case' k1 => walk_at "gv"); (case' k2 => intro hb; walk_at "gv"))
  | ((with_reducible refine' gt_or ?k1 ?k2); (case' k1 => walk_at "gv"); (case' k2 => intro hb; walk_at "gv"))
  | ((with_reducible refine' gv_andV ?k1 ?k2); (case' k1 => walk_at "gv"); (case' k2 => intro hb; walk_at "gv"))
  | ((with_reducible refine' gv_orV ?k1 ?k2); (case' k1 => walk_at "gv"); (case' k2 => intro hb; walk_at "gv"))
  | ((with_reducible refine' gv_notV ?_) <;> walk_at "gv")
  | ((with_reducible refine' gv_slL ?_ ?_ ?_) <;> walk_at "gv") | ((with_reducible refine' gv_slT ?_ ?_ ?_ ?_) <;> walk_at "gv")
  | exact go_none | ((with_reducible refine' go_some ?_) <;> walk_at "gv")
  | exact gd_nil | ((with_reducible refine' gd_cons ?_ ?_) <;> walk_at "gv") | ((with_reducible refine' gv_lst ?_ ?_) <;> walk_at "gv") | ((with_reducible refine' gv_tup ?_ ?_) <;> walk_at "gv")
  | ((with_reducible refine' gv_chain ?_ ?_ ?_ ?_ ?_) <;> walk_at "gv") | ((with_reducible refine' gt_truL ?_) <;> walk_at "gv") | ((with_reducible refine' gv_countI ?_ ?_) <;> walk_at "gv")
  | ((with_reducible refine' gv_lenSetI ?_ ?_) <;> walk_at "gv") | ((with_reducible refine' gv_lenSetU ?_ ?_) <;> walk_at "gv") | ((with_reducible refine' gv_lenSetT ?_ ?_) <;> walk_at "gv")
  | exact gt_yes
  | walk_at "gc"
  | exact ro_I0 | exact ro_B0 | (refine ro_I ?_; walk_at "sd")
  | exact ro_eqI | exact ro_neI | exact ro_eqS | exact ro_neS
  | (refine ro_eq ?_; walk_at "sd") | (refine ro_ne ?_; walk_at "sd")
  | exact ro_isN | exact ro_notN
  | exact ro_inI | exact ro_notInI | exact ro_inTI
  | (refine' ro_ixL ?k1; (case' k1 => walk_at "sd")) | (refine' ro_ixT ?k1; (case' k1 => walk_at "sd"))
  | (refine ro_cat ?_; walk_at "sd")
  | exact rc_lenM | exact rc_len | exact rc_lenT | exact rc_list | exact rc_listT | exact rc_tuple | exact rc_any | exact rc_all | exact rc_max2 | exact rc_min2 | exact rc_intB
  | (show (_ : Nat) ≤ _; first | decide | (simp; done) | omega)
  | (show (_ : Nat) < _; first | decide | (simp; done) | omega)
  | (show ¬ (_ ∧ _); exact fun h => absurd (show (1 : Nat) = 0 from h.1) (by decide))
  | skip)
local macro_rules | `(tactic| walk_at "ge") => `(tactic| (refine' gt_is ?k1 ?k2; (case' k1 => walk_at "gv"); (case' k2 => first | rfl | (simp; done) | skip)))
local macro_rules | `(tactic| walk_at "gw") => `(tactic| (refine' gv_is ?k1 ?k2; (case' k1 => walk_at "gv"); (case' k2 => first | rfl | (simp; done) | skip)))
local macro_rules | `(tactic| walk_at "gj") => `(tactic| first | exact gi_nil | (refine' gi_cons ?g1 ?g2; (case' g1 => walk_at "gv"); (case' g2 => walk_at "gj")))
local macro_rules | `(tactic| walk_at "gi") => `(tactic| (refine' gv_lst ?k1 ?k2; (case' k1 => walk_at "gj"); (case' k2 => (simp; try omega))))
local macro_rules | `(tactic| walk_at "gc") => `(tactic| first | ((with_reducible refine' gv_joints ?_) <;> walk_at "gv") | ((with_reducible refine' gv_beyond ?_ ?_ ?_ ?_) <;> walk_at "gv") | ((with_reducible refine' gv_outs ?_ ?_) <;> walk_at "gv") | ((with_reducible refine' gv_ends ?_ ?_ ?_ ?_ ?_) <;> walk_at "gv"))
/-! ### the law's own parts -/
section
variable {C : Adr} {P : Program} {w : World} {K : PySem.W.Frag} {mg : Str → Option Value} {base : Heap} {fd : FuncData} {f : Addr}
abbrev s__law_cell : Stmt := top 30
abbrev N__law_cell : List Str := ["_law_script", "_law_k"]
theorem sc__law_cell : FnScope N__law_cell ["_law_script", "_law_k"] (defScope s__law_cell) := ⟨rfl, rfl, rfl, by decide +kernel, rfl, by decide +kernel, by decide +kernel⟩
abbrev s__law_mix : Stmt := top 31
abbrev N__law_mix : List Str := ["_law_script", "_law_k", "_law_number"]
theorem sc__law_mix : FnScope N__law_mix ["_law_script", "_law_k"] (defScope s__law_mix) := ⟨rfl, rfl, rfl, by decide +kernel, rfl, by decide +kernel, by decide +kernel⟩
def cellN (ns : List Int) (k : Int) : Int := if ns.isEmpty then 0 else (ns[(k % (ns.length : Int)).toNat]?).getD 0
def spCell (K : PySem.W.Frag) : Sp := spP (T := Addr × List Int × Int) (fun t => [.v (.ref t.1), AI t.2.2]) (fun t _ H => SqL K H t.1 (t.2.1.map V.int)) fun t => AI (cellN t.2.1 t.2.2)
theorem ok_cell (T : Txt K mg C) (F : Fun K "_law_cell" "_law_cell" s__law_cell f fd) : FnOk P w K mg base CX0 1 f fd ["_law_script", "_law_k"] (spCell K) := by
  refine fn_P F sc__law_cell (fun _ => rfl) fun cdv A outer s H Q E hr => ⟨_, pss_cons (ps_if (pt_truthK (K := K) rfl (pv 0) (by intro _; rfl)) (pss_cons (ps_ret (pe_ix (ix_listK (K := K) rfl) (pv 0) (pe_op op_mod (pv 1) (pe_callB (call_lenK (K := K) rfl) (by rfl) T.n_len (by decide +kernel) (pa_cons (pv 0) (pa_nil)))) (fun _ _ => rfl)))
  (pss_nil)) (pss_nil))
  (pss_cons (ps_ret (pe_int))
  (pss_nil)), fun ⟨a, ns, k⟩ B e hS q => ?_⟩
  have hS : SqL K H a (ns.map V.int) := hS
  refine qx_when (b := !ns.isEmpty) (gt_truSq (gv_var rfl) hS) ?_ ?_
  · intro hb B2 H2 x2
    have hS2 := x2.hh.seq hS
    have hl : 0 < ns.length := by cases ns with | nil => cases hb | cons => simp
    have h0 : (0 : Int) ≤ k % (ns.length : Int) := Int.emod_nonneg _ (by omega)
    have h1 : k % (ns.length : Int) < ns.length := Int.emod_lt_of_pos _ (by omega)
    have hat : atI (ns.map V.int) (k % (ns.length : Int)) = some (.int (cellN ns k)) := by
      have l : (k % (ns.length : Int)).toNat < ns.length := by omega
      unfold atI ixN cellN
      rw [List.length_map, if_pos h0, if_pos h1, Option.bind_some, List.getElem?_map, List.getElem?_eq_getElem l]
      have : ns.isEmpty = false := by simpa using hb
      rw [this]
      rfl
    refine qx_ret (g := AI (cellN ns k)) ?_ fun u B3 H3 x3 hu => q u B3 H3 (x2.trans x3) hu
    refine gv_op (gv_var rfl) (gv_op (gv_var rfl) (gv_cb (ga_cons (gv_var rfl) ga_nil) (rc_lenSq hS2)) (ro_I (by show _; omega))) (ro_ixSq hS2 hat)
  · intro hb B2 H2 x2
    refine qx_ret (g := AI (cellN ns k)) ?_ fun u B3 H3 x3 hu => q u B3 H3 (x2.trans x3) hu
    have : cellN ns k = 0 := by
      unfold cellN
      have : ns.isEmpty = true := by simpa using hb
      rw [this]
      rfl
    rw [this]
    exact gv_int
theorem gv_cell {Γ : List (Option AV)} {B H : Hp} {ta tb : TE} {E : XK} {a : Addr} {ns : List Int} {k : Int} (h1 : Gv ta Γ B H (.v (.ref a))) (h2 : Gv tb Γ B H (AI k)) (hS : SqL K H a (ns.map V.int)) :
    Gv (tCall (spCell K) [] E (tCons ta (tCons tb tNil))) Γ B H (AI (cellN ns k)) := gv_call (a, ns, k) (ga_cons h1 (ga_cons h2 ga_nil)) fun _ _ x => x.hh.seq hS
def mixN (ns : List Int) (k : Int) : Int := (((cellN ns k + 104729 * (k + 1)) % 4294967291 * 48271 % 4294967279) / 64 * 69621 + ((cellN ns k + 104729 * (k + 1)) % 4294967291 * 48271 % 4294967279)) % 4294967231
def spMix (K : PySem.W.Frag) : Sp := spP (T := Addr × List Int × Int) (fun t => [.v (.ref t.1), AI t.2.2]) (fun t _ H => SqL K H t.1 (t.2.1.map V.int)) fun t => AI (mixN t.2.1 t.2.2)
theorem ok_mix (T : Txt K mg C) (F : Fun K "_law_mix" "_law_mix" s__law_mix f fd) (c__law_cell : Cal P w K mg base CX0 1 "_law_cell" (spCell K)) : FnOk P w K mg base CX0 2 f fd ["_law_script", "_law_k"] (spMix K) := by
  refine fn_P F sc__law_mix (fun _ => rfl) fun cdv A outer s H Q E hr => ⟨_, pss_cons (ps_set (i := 2) sc__law_mix.nd rfl (by first | exact Or.inl rfl | exact Or.inr rfl) (pe_op op_mod (pe_op op_add (pe_cal c__law_cell hr (by first | decide | omega) rfl passN (pa_cons (pv 0) (pa_cons (pv 1) (pa_nil)))) (pe_op op_mul (pe_int) (pe_op op_add (pv 1) (pe_int)))) (pe_int)))
  (pss_cons (ps_set (i := 2) sc__law_mix.nd rfl (by first | exact Or.inl rfl | exact Or.inr rfl) (pe_op op_mod (pe_op op_mul (pv 2) (pe_int)) (pe_int)))
  (pss_cons (ps_ret (pe_op op_mod (pe_op op_add (pe_op op_mul (pe_op op_fdiv (pv 2) (pe_int)) (pe_int)) (pv 2)) (pe_int)))
  (pss_nil))), fun ⟨a, ns, k⟩ B e hS q => ?_⟩
  have hS : SqL K H a (ns.map V.int) := hS
  refine qx_asg (g := AI ((cellN ns k + 104729 * (k + 1)) % 4294967291)) ?_ fun B2 H2 x2 => ?_
  · refine gv_op (gv_op (gv_cell (gv_var rfl) (gv_var rfl) hS) ?_ ro_I0) gv_int (ro_I (by decide))
    walk_at "gv"
  refine qx_asg (g := AI ((cellN ns k + 104729 * (k + 1)) % 4294967291 * 48271 % 4294967279)) ?_ fun B3 H3 x3 => ?_
  · walk_at "gv"
  refine qx_ret (g := AI (mixN ns k)) ?_ fun u B4 H4 x4 hu => q u B4 H4 ((x2.trans x3).trans x4) hu
  walk_at "gw"
theorem gv_mix {Γ : List (Option AV)} {B H : Hp} {ta tb : TE} {E : XK} {a : Addr} {ns : List Int} {k : Int} (h1 : Gv ta Γ B H (.v (.ref a))) (h2 : Gv tb Γ B H (AI k)) (hS : SqL K H a (ns.map V.int)) :
    Gv (tCall (spMix K) [] E (tCons ta (tCons tb tNil))) Γ B H (AI (mixN ns k)) := gv_call (a, ns, k) (ga_cons h1 (ga_cons h2 ga_nil)) fun _ _ x => x.hh.seq hS
/-- piece[1:] -/
theorem gv_tl {Γ : List (Option AV)} {B H : Hp} {ta : TE} {p : Pc} (h : Gv ta Γ B H (.d (enc p))) : Gv (tSl (rSlT K) ta (tPart (tC (.int 1))) tNoPart) Γ B H (.d (.tuple (p.js.map enc))) := by
  cases p with
  | plain a c => exact gv_is (gv_slT (ds := [.str (Pc.plain a c).word, .int a, .int c]) h (go_some gv_int) go_none (fun h => absurd (show (1 : Nat) = 0 from h.1) (by decide))) rfl
  | points a c d => exact gv_is (gv_slT (ds := [.str (Pc.points a c d).word, .int a, .int c, .int d]) h (go_some gv_int) go_none (fun h => absurd (show (1 : Nat) = 0 from h.1) (by decide))) rfl
theorem rc_lenPc {B H : Hp} {p : Pc} : Rc (fun xs H Q => ∃ p ys, xs = [.ref p] ∧ (SqL K H p ys ∨ SqT K H p ys) ∧ Q (.int ys.length) H) B H [.d (enc p)] (AI ((p.js.length : Nat) + 1)) := by
  cases p <;> exact rc_lenT
end
end SB
namespace SB
open PySem PySem.Spec PyProof.Rows L2
open Enc (enc)
local macro_rules | `(tactic| walk_at "le") => `(tactic| first | exact le_nil | (refine le_keep ?_; walk_at "le") | (refine le_drop ?_; walk_at "le"))
local macro_rules | `(tactic| walk_at "sd") => `(tactic| first | assumption | (show (_ : Int) < _ ∧ _ < (1073741824 : Int); exact ⟨by omega, by omega⟩) | (show (-(2 ^ 64) < (_ : Int) ∧ _ < (2 ^ 64 : Int)) ∨ _; first | exact .inl ⟨by omega, by omega⟩ | exact .inr ⟨by omega, by omega⟩) | rfl | decide | (simp; done) | omega | skip)
local macro_rules | `(tactic| walk_at "gc") => `(tactic| fail)
local macro_rules | `(tactic| walk_at "gv") => `(tactic| first
  | exact gv_int | exact gv_str | exact gv_bl | exact gv_non | exact gv_var rfl
  | ((with_reducible refine' gv_op ?_ ?_ ?_) <;> walk_at "gv")
  | ((with_reducible refine' ga_cons ?_ ?_) <;> walk_at "gv") | exact ga_nil
  | ((with_reducible refine' gv_cb ?_ ?_) <;> walk_at "gv")
  | ((with_reducible refine' gt_test ?_) <;> walk_at "gv") | ((with_reducible refine' gt_B ?_) <;> walk_at "gv") | ((with_reducible refine' gt_not ?_) <;> walk_at "gv")
  | ((with_reducible refine' gt_and ?k1 ?k2); (case' k1 => walk_at "gv"); (case' k2 => intro hb; walk_at "gv"))
  | ((with_reducible refine' gt_or ?k1 ?k2); (case' k1 => walk_at "gv"); (case' k2 => intro hb; walk_at "gv"))
  | ((with_reducible refine' gv_andV ?k1 ?k2); (case' k1 => walk_at "gv"); (case' k2 => intro hb; walk_at "gv"))
  | ((with_reducible refine' gv_orV ?k1 ?k2); (case' k1 => walk_at "gv"); (case' k2 => intro hb; walk_at "gv"))
  | ((with_reducible refine' gv_notV ?_) <;> walk_at "gv")
  | ((with_reducible refine' gv_slL ?_ ?_ ?_) <;> walk_at "gv") | ((with_reducible refine' gv_slT ?_ ?_ ?_ ?_) <;> walk_at "gv")
  | exact go_none | ((with_reducible refine' go_some ?_) <;> walk_at "gv")
  | exact gd_nil | ((with_reducible refine' gd_cons ?_ ?_) <;> walk_at "gv") | ((with_reducible refine' gv_lst ?_ ?_) <;> walk_at "gv") | ((with_reducible refine' gv_tup ?_ ?_) <;> walk_at "gv")
  | ((with_reducible refine' gv_chain ?_ ?_ ?_ ?_ ?_) <;> walk_at "gv") | ((with_reducible refine' gt_truL ?_) <;> walk_at "gv") | ((with_reducible refine' gv_countI ?_ ?_) <;> walk_at "gv")
  | ((with_reducible refine' gv_lenSetI ?_ ?_) <;> walk_at "gv") | ((with_reducible refine' gv_lenSetU ?_ ?_) <;> walk_at "gv") | ((with_reducible refine' gv_lenSetT ?_ ?_) <;> walk_at "gv")
  | exact gt_yes
  | walk_at "gc"
  | exact ro_I0 | exact ro_B0 | (refine ro_I ?_; walk_at "sd")
  | exact ro_eqI | exact ro_neI | exact ro_eqS | exact ro_neS
  | (refine ro_eq ?_; walk_at "sd") | (refine ro_ne ?_; walk_at "sd")
  | exact ro_isN | exact ro_notN
  | exact ro_inI | exact ro_notInI | exact ro_inTI
  | (refine' ro_ixL ?k1; (case' k1 => walk_at "sd")) | (refine' ro_ixT ?k1; (case' k1 => walk_at "sd"))
  | (refine ro_cat ?_; walk_at "sd")
  | exact rc_lenM | exact rc_len | exact rc_lenT | exact rc_list | exact rc_listT | exact rc_tuple | exact rc_any | exact rc_all | exact rc_max2 | exact rc_min2 | exact rc_intB
  | (show (_ : Nat) ≤ _; first | decide | (simp; done) | omega)
  | (show (_ : Nat) < _; first | decide | (simp; done) | omega)
  | (show ¬ (_ ∧ _); exact fun h => absurd (show (1 : Nat) = 0 from h.1) (by decide))
  | skip)
local macro_rules | `(tactic| walk_at "ge") => `(tactic| (refine' gt_is ?k1 ?k2; (case' k1 => walk_at "gv"); (case' k2 => first | rfl | (simp; done) | skip)))
local macro_rules | `(tactic| walk_at "gw") => `(tactic| (refine' gv_is ?k1 ?k2; (case' k1 => walk_at "gv"); (case' k2 => first | rfl | (simp; done) | skip)))
local macro_rules | `(tactic| walk_at "gj") => `(tactic| first | exact gi_nil | (refine' gi_cons ?g1 ?g2; (case' g1 => walk_at "gv"); (case' g2 => walk_at "gj")))
local macro_rules | `(tactic| walk_at "gi") => `(tactic| (refine' gv_lst ?k1 ?k2; (case' k1 => walk_at "gj"); (case' k2 => (simp; try omega))))
local macro_rules | `(tactic| walk_at "gc") => `(tactic| first | ((with_reducible refine' gv_joints ?_) <;> walk_at "gv") | ((with_reducible refine' gv_beyond ?_ ?_ ?_ ?_) <;> walk_at "gv") | ((with_reducible refine' gv_outs ?_ ?_) <;> walk_at "gv") | ((with_reducible refine' gv_ends ?_ ?_ ?_ ?_ ?_) <;> walk_at "gv"))
/-! ### a yard at work -/
structure Trn where
  steps : List Stp
  ahead : List Stp
  out : Bool
/-- what a yard knows -/
structure Wd where
  ps : List Pc
  sg : List Sig
  wait : Int
  rts : List (Int × List Stp)
  now : Int
  pts : List Lie
  lks : List (Option Int)
  grn : List Int
  fal : List (Int × Int × List Int)
  trs : List (Int × Trn)
abbrev tKeys : List Str := ["steps", "ahead", "is_out"]
section
variable {C : Adr} {P : Program} {w : World} {K : PySem.W.Frag} {mg : Str → Option Value} {base : Heap} {fd : FuncData} {f : Addr}
def falD (r : Int × Int × List Int) : PyData := .tuple [.int r.2.1, .list (r.2.2.map enc)]
/-- the entries of the dict of falling routes -/
inductive Fal (B : Hp) : List (Key × V) → List (Int × Int × List Int) → Prop
  | nil : Fal B [] []
  | cons {v : V} {kvs : List (Key × V)} {r : Int × Int × List Int} {rs : List (Int × Int × List Int)} : Dq B v (falD r) → Fal B kvs rs → Fal B ((.inl r.1, v) :: kvs) (r :: rs)
theorem Fal.mono {B B' : Hp} (e : Same B B') : ∀ {kvs : List (Key × V)} {rs : List (Int × Int × List Int)}, Fal B kvs rs → Fal B' kvs rs
  | _, _, .nil => .nil
  | _, _, .cons h t => .cons (h.mono e) (Fal.mono e t)
theorem Fal.keys {B : Hp} : ∀ {kvs : List (Key × V)} {rs : List (Int × Int × List Int)}, Fal B kvs rs → kvs.map (·.1) = (rs.map (·.1)).map (Sum.inl : Int → Key)
  | _, _, .nil => rfl
  | _, _, .cons h t => by rw [List.map_cons, List.map_cons, List.map_cons, Fal.keys t]
theorem Fal.length {B : Hp} : ∀ {kvs : List (Key × V)} {rs : List (Int × Int × List Int)}, Fal B kvs rs → kvs.length = rs.length
  | _, _, .nil => rfl
  | _, _, .cons _ t => congrArg (· + 1) (Fal.length t)
/-- a train at a; its dict's address dx -/
structure TAt (CT : Addr) (B H : Hp) (a dx : Addr) (t : Trn) : Prop where
  ex : ∃ v1 v2 : V, H a = some (.ins CT dx (tKeys.zip [v1, v2, .bl t.out])) ∧ Dq B v1 (.list (t.steps.map enc)) ∧ Dq B v2 (.list (t.ahead.map enc))
  ba : B a = none
theorem TAt.extF {CT : Addr} {F : Addr → Prop} {B H B' H' : Hp} {a dx : Addr} {t : Trn} (h : TAt CT B H a dx t) (x : ExtF F B H B' H') (n : ¬ F a) : TAt CT B' H' a dx t := by
  obtain ⟨⟨v1, v2, h1, h2, h3⟩, hb⟩ := h
  exact ⟨⟨v1, v2, x.hh _ _ h1 n, h2.mono x.bb, h3.mono x.bb⟩, x.off hb (by rw [h1]; simp)⟩
def trnK (trs : List (Int × Trn)) (ta : List (Addr × Addr)) : List (Key × V) := (trs.zip ta).map fun p => (.inl p.1.1, .ref p.2.1)
def own (y : Addr) (A : YAd) (ta : List (Addr × Addr)) : List Addr := y :: A.pts :: A.lks :: A.grn :: A.fal :: A.trn :: ta.map (·.1)
/-- the yard at y: its places A, its trains' ta -/
structure YAt (C : Adr) (CT : Addr) (B H : Hp) (y : Addr) (A : YAd) (ta : List (Addr × Addr)) (d : Wd) : Prop where
  ob : H y = some (.ins C.Yard A.dx (yKeys.zip [A.vps, A.vsg, .int d.wait, A.vrt, .int d.now, .ref A.pts, .ref A.lks, .ref A.grn, .ref A.fal, .ref A.trn]))
  oy : B y = none
  hps : Dq B A.vps (.list (d.ps.map enc))
  hsg : Dq B A.vsg (.list (d.sg.map enc))
  hrt : Dq B A.vrt (.list (d.rts.map enc))
  hpts : Ml B H A.pts (d.pts.map enc)
  hlks : Ml B H A.lks (d.lks.map enc)
  hgrn : Ml B H A.grn (d.grn.map enc)
  hfal : ∃ kvs, Md B H A.fal kvs ∧ Fal B kvs d.fal
  htrn : Md B H A.trn (trnK d.trs ta)
  len : ta.length = d.trs.length
  tr : ∀ (i : Nat) (n : Int) (t : Trn) (a dx : Addr), d.trs[i]? = some (n, t) → ta[i]? = some (a, dx) → TAt CT B H a dx t
  nd : (own y A ta).Nodup
theorem YAt.extF {CT : Addr} {F : Addr → Prop} {B H B' H' : Hp} {y : Addr} {A : YAd} {ta : List (Addr × Addr)} {d : Wd} (h : YAt C CT B H y A ta d) (x : ExtF F B H B' H') (n : ∀ a ∈ own y A ta, ¬ F a) : YAt C CT B' H' y A ta d := by
  have n1 := n y (by simp [own])
  obtain ⟨kvs, h1, h2⟩ := h.hfal
  refine ⟨x.hh _ _ h.ob n1, x.off h.oy (by rw [h.ob]; simp), h.hps.mono x.bb, h.hsg.mono x.bb, h.hrt.mono x.bb, h.hpts.extF x (n _ (by simp [own])), h.hlks.extF x (n _ (by simp [own])), h.hgrn.extF x (n _ (by simp [own])),
    ⟨kvs, h1.extF x (n _ (by simp [own])), h2.mono x.bb⟩, h.htrn.extF x (n _ (by simp [own])), h.len, fun i m t a dx e1 e2 => (h.tr i m t a dx e1 e2).extF x (n a ?_), h.nd⟩
  have : a ∈ ta.map (·.1) := List.mem_map.mpr ⟨(a, dx), List.mem_of_getElem? e2, rfl⟩
  simp [own]
  simp at this
  obtain ⟨b, hb⟩ := this
  exact .inr (.inr (.inr (.inr (.inr (.inr ⟨b, hb⟩)))))
theorem YAt.ext {CT : Addr} {B H B' H' : Hp} {y : Addr} {A : YAd} {ta : List (Addr × Addr)} {d : Wd} (h : YAt C CT B H y A ta d) (x : Ext B H B' H') : YAt C CT B' H' y A ta d := h.extF (F := fun _ => False) x.f fun _ _ z => z
/-- a new yard is such -/
def wNew (ps : List Pc) (sg : List Sig) (wait : Int) : Wd := ⟨ps, sg, wait, routesN ps sg, 0, ps.map lieOf, List.replicate ps.length none, [], [], []⟩
theorem YNew.at {CT : Addr} {B H : Hp} {y : Addr} {A : YAd} {ps : List Pc} {sg : List Sig} {wait : Int} (h : YNew C B H y A ps sg wait) : YAt C CT B H y A [] (wNew ps sg wait) := by
  have k1 : ∀ {p q : Addr} {u u' : HO}, H p = some u → H q = some u' → u ≠ u' → p ≠ q := fun h1 h2 n z => by rw [z, h2] at h1; cases h1; exact n rfl
  obtain ⟨_, us1, e1, _⟩ := h.hpts
  obtain ⟨_, us2, e2, _⟩ := h.hlks
  obtain ⟨_, us3, e3, _⟩ := h.hgrn
  have e4 := h.hfal.2
  have e5 := h.htrn.2
  have e0 := h.ob
  refine ⟨h.ob, h.oy, h.hps, h.hsg, h.hrt, h.hpts, h.hlks, h.hgrn, ⟨[], h.hfal, .nil⟩, h.htrn, rfl, fun i n t a dx q => by simp [wNew] at q, ?_⟩
  have n6 := k1 e0 e1 (by simp)
  have n7 := k1 e0 e2 (by simp)
  have n8 := k1 e0 e3 (by simp)
  have n9 := k1 e0 e4 (by simp)
  have n10 := k1 e0 e5 (by simp)
  have m1 := k1 e1 e4 (by simp)
  have m2 := k1 e1 e5 (by simp)
  have m3 := k1 e2 e4 (by simp)
  have m4 := k1 e2 e5 (by simp)
  have m5 := k1 e3 e4 (by simp)
  have m6 := k1 e3 e5 (by simp)
  have n1 := h.n1
  have n2 := h.n2
  have n3 := h.n3
  have n4 := h.n4
  simp [own, *]
/-! fields -/
theorem yk {A : YAd} {wt nw : Int} {fld : Str} {i : Nat} {v : V} (e : yKeys.idxOf fld = i) (l : i < yKeys.length) (h : [A.vps, A.vsg, .int wt, A.vrt, .int nw, .ref A.pts, .ref A.lks, .ref A.grn, .ref A.fal, .ref A.trn][i]? = some v) : (yKeys.zip [A.vps, A.vsg, .int wt, A.vrt, .int nw, .ref A.pts, .ref A.lks, .ref A.grn, .ref A.fal, .ref A.trn]).lookup fld = some v := zip_lookup _ _ _ i _ e l h
end
end SB
namespace SB
open PySem PySem.Spec PyProof.Rows L2
open Enc (enc)
local macro_rules | `(tactic| walk_at "le") => `(tactic| first | exact le_nil | (refine le_keep ?_; walk_at "le") | (refine le_drop ?_; walk_at "le"))
local macro_rules | `(tactic| walk_at "sd") => `(tactic| first | assumption | (show (_ : Int) < _ ∧ _ < (1073741824 : Int); exact ⟨by omega, by omega⟩) | (show (-(2 ^ 64) < (_ : Int) ∧ _ < (2 ^ 64 : Int)) ∨ _; first | exact .inl ⟨by omega, by omega⟩ | exact .inr ⟨by omega, by omega⟩) | rfl | decide | (simp; done) | omega | skip)
local macro_rules | `(tactic| walk_at "gc") => `(tactic| fail)
local macro_rules | `(tactic| walk_at "gv") => `(tactic| first
  | exact gv_int | exact gv_str | exact gv_bl | exact gv_non | exact gv_var rfl
  | ((with_reducible refine' gv_op ?_ ?_ ?_) <;> walk_at "gv")
  | ((with_reducible refine' ga_cons ?_ ?_) <;> walk_at "gv") | exact ga_nil
  | ((with_reducible refine' gv_cb ?_ ?_) <;> walk_at "gv")
  | ((with_reducible refine' gt_test ?_) <;> walk_at "gv") | ((with_reducible refine' gt_B ?_) <;> walk_at "gv") | ((with_reducible refine' gt_not ?_) <;> walk_at "gv")
  | ((with_reducible refine' gt_and ?k1 ?k2); (case' k1 => walk_at "gv"); (case' k2 => intro hb; walk_at "gv"))
  | ((with_reducible refine' gt_or ?k1 ?k2); (case' k1 => walk_at "gv"); (case' k2 => intro hb; walk_at "gv"))
  | ((with_reducible refine' gv_andV ?k1 ?k2); (case' k1 => walk_at "gv"); (case' k2 => intro hb; walk_at "gv"))
  | ((with_reducible refine' gv_orV ?k1 ?k2); (case' k1 => walk_at "gv"); (case' k2 => intro hb; walk_at "gv"))
  | ((with_reducible refine' gv_notV ?_) <;> walk_at "gv")
  | ((with_reducible refine' gv_slL ?_ ?_ ?_) <;> walk_at "gv") | ((with_reducible refine' gv_slT ?_ ?_ ?_ ?_) <;> walk_at "gv")
  | exact go_none | ((with_reducible refine' go_some ?_) <;> walk_at "gv")
  | exact gd_nil | ((with_reducible refine' gd_cons ?_ ?_) <;> walk_at "gv") | ((with_reducible refine' gv_lst ?_ ?_) <;> walk_at "gv") | ((with_reducible refine' gv_tup ?_ ?_) <;> walk_at "gv")
  | ((with_reducible refine' gv_chain ?_ ?_ ?_ ?_ ?_) <;> walk_at "gv") | ((with_reducible refine' gt_truL ?_) <;> walk_at "gv") | ((with_reducible refine' gv_countI ?_ ?_) <;> walk_at "gv")
  | ((with_reducible refine' gv_lenSetI ?_ ?_) <;> walk_at "gv") | ((with_reducible refine' gv_lenSetU ?_ ?_) <;> walk_at "gv") | ((with_reducible refine' gv_lenSetT ?_ ?_) <;> walk_at "gv")
  | exact gt_yes
  | walk_at "gc"
  | exact ro_I0 | exact ro_B0 | (refine ro_I ?_; walk_at "sd")
  | exact ro_eqI | exact ro_neI | exact ro_eqS | exact ro_neS
  | (refine ro_eq ?_; walk_at "sd") | (refine ro_ne ?_; walk_at "sd")
  | exact ro_isN | exact ro_notN
  | exact ro_inI | exact ro_notInI | exact ro_inTI
  | (refine' ro_ixL ?k1; (case' k1 => walk_at "sd")) | (refine' ro_ixT ?k1; (case' k1 => walk_at "sd"))
  | (refine ro_cat ?_; walk_at "sd")
  | exact rc_lenM | exact rc_len | exact rc_lenT | exact rc_list | exact rc_listT | exact rc_tuple | exact rc_any | exact rc_all | exact rc_max2 | exact rc_min2 | exact rc_intB
  | (show (_ : Nat) ≤ _; first | decide | (simp; done) | omega)
  | (show (_ : Nat) < _; first | decide | (simp; done) | omega)
  | (show ¬ (_ ∧ _); exact fun h => absurd (show (1 : Nat) = 0 from h.1) (by decide))
  | skip)
local macro_rules | `(tactic| walk_at "ge") => `(tactic| (refine' gt_is ?k1 ?k2; (case' k1 => walk_at "gv"); (case' k2 => first | rfl | (simp; done) | skip)))
local macro_rules | `(tactic| walk_at "gw") => `(tactic| (refine' gv_is ?k1 ?k2; (case' k1 => walk_at "gv"); (case' k2 => first | rfl | (simp; done) | skip)))
local macro_rules | `(tactic| walk_at "gj") => `(tactic| first | exact gi_nil | (refine' gi_cons ?g1 ?g2; (case' g1 => walk_at "gv"); (case' g2 => walk_at "gj")))
local macro_rules | `(tactic| walk_at "gi") => `(tactic| (refine' gv_lst ?k1 ?k2; (case' k1 => walk_at "gj"); (case' k2 => (simp; try omega))))
local macro_rules | `(tactic| walk_at "gc") => `(tactic| first | ((with_reducible refine' gv_joints ?_) <;> walk_at "gv") | ((with_reducible refine' gv_beyond ?_ ?_ ?_ ?_) <;> walk_at "gv") | ((with_reducible refine' gv_outs ?_ ?_) <;> walk_at "gv") | ((with_reducible refine' gv_ends ?_ ?_ ?_ ?_ ?_) <;> walk_at "gv"))
/-! ### what a yard is asked -/
section
variable {C : Adr} {P : Program} {w : World} {K : PySem.W.Frag} {mg : Str → Option Value} {base : Heap} {fd : FuncData} {f : Addr} {CT : Addr}
abbrev s_lie_for : Stmt := top 12
abbrev N_lie_for : List Str := ["piece", "way"]
theorem sc_lie_for : FnScope N_lie_for ["piece", "way"] (defScope s_lie_for) := ⟨rfl, rfl, rfl, by decide +kernel, rfl, by decide +kernel, by decide +kernel⟩
abbrev s_Yard_time : Stmt := inClass (top 22) 1
abbrev N_Yard_time : List Str := ["self"]
theorem sc_Yard_time : FnScope N_Yard_time ["self"] (defScope s_Yard_time) := ⟨rfl, rfl, rfl, by decide +kernel, rfl, by decide +kernel, by decide +kernel⟩
abbrev s_Yard_need_piece : Stmt := inClass (top 22) 3
abbrev N_Yard_need_piece : List Str := ["self", "at"]
theorem sc_Yard_need_piece : FnScope N_Yard_need_piece ["self", "at"] (defScope s_Yard_need_piece) := ⟨rfl, rfl, rfl, by decide +kernel, rfl, by decide +kernel, by decide +kernel⟩
abbrev s_Yard_lock_of : Stmt := inClass (top 22) 4
abbrev N_Yard_lock_of : List Str := ["self", "at"]
theorem sc_Yard_lock_of : FnScope N_Yard_lock_of ["self", "at"] (defScope s_Yard_lock_of) := ⟨rfl, rfl, rfl, by decide +kernel, rfl, by decide +kernel, by decide +kernel⟩
abbrev s_Yard_train_in : Stmt := inClass (top 22) 5
abbrev N_Yard_train_in : List Str := ["self", "at", "name", "step"]
theorem sc_Yard_train_in : FnScope N_Yard_train_in ["self", "at"] (defScope s_Yard_train_in) := ⟨rfl, rfl, rfl, by decide +kernel, rfl, by decide +kernel, by decide +kernel⟩
abbrev s_Yard_lies : Stmt := inClass (top 22) 6
abbrev N_Yard_lies : List Str := ["self", "at"]
theorem sc_Yard_lies : FnScope N_Yard_lies ["self", "at"] (defScope s_Yard_lies) := ⟨rfl, rfl, rfl, by decide +kernel, rfl, by decide +kernel, by decide +kernel⟩
abbrev s_Yard_is_green : Stmt := inClass (top 22) 7
abbrev N_Yard_is_green : List Str := ["self", "signal", "one"]
theorem sc_Yard_is_green : FnScope N_Yard_is_green ["self", "signal"] (defScope s_Yard_is_green) := ⟨rfl, rfl, rfl, by decide +kernel, rfl, by decide +kernel, by decide +kernel⟩
abbrev s_Yard_where : Stmt := inClass (top 22) 8
abbrev N_Yard_where : List Str := ["self", "name", "step"]
theorem sc_Yard_where : FnScope N_Yard_where ["self", "name"] (defScope s_Yard_where) := ⟨rfl, rfl, rfl, by decide +kernel, rfl, by decide +kernel, by decide +kernel⟩
abbrev s_Yard_is_held : Stmt := inClass (top 22) 9
abbrev N_Yard_is_held : List Str := ["self", "at"]
theorem sc_Yard_is_held : FnScope N_Yard_is_held ["self", "at"] (defScope s_Yard_is_held) := ⟨rfl, rfl, rfl, by decide +kernel, rfl, by decide +kernel, by decide +kernel⟩
abbrev s_need_route : Stmt := top 24
abbrev N_need_route : List Str := ["yard", "route"]
theorem sc_need_route : FnScope N_need_route ["yard", "route"] (defScope s_need_route) := ⟨rfl, rfl, rfl, by decide +kernel, rfl, by decide +kernel, by decide +kernel⟩
def lieFor (p : Pc) (ws : List Int) : Lie := match p with
  | .plain _ _ => .no
  | .points _ s _ => if s ∈ ws then .st else .br
def spLieFor : Sp := spP (T := Pc × List Int) (fun t => [.d (enc t.1), .d (.tuple (t.2.map enc))]) (fun _ _ _ => True) fun t => .d (enc (lieFor t.1 t.2))
theorem ok_lie_for (T : Txt K mg C) (F : Fun K "lie_for" "lie_for" s_lie_for f fd) : FnOk P w K mg base CX0 1 f fd ["piece", "way"] spLieFor := by
  refine fn_P F sc_lie_for (fun _ => rfl) fun cdv A outer s H Q E hr => ⟨_, pss_cons (ps_if (pt_cmpR op_eq (pe_ix (ix_tupK (K := K) rfl) (pv 0) (pe_int) (fun _ _ => rfl)) (pe_str) (nomark _)) (pss_cons (ps_ret (pe_non))
  (pss_nil)) (pss_nil))
  (pss_cons (ps_if (pt_cmpR (op_inK (K := K) rfl) (pe_ix (ix_tupK (K := K) rfl) (pv 0) (pe_int) (fun _ _ => rfl)) (pv 1) (by rfl)) (pss_cons (ps_ret (pe_str))
  (pss_nil)) (pss_nil))
  (pss_cons (ps_ret (pe_str))
  (pss_nil))), fun ⟨p, ws⟩ B e _ q => ?_⟩
  cases p with
  | plain a c =>
    refine qx_yes (b := true) ?_ rfl fun B2 H2 x2 => ?_
    · refine gt_is (b := decide ((Pc.plain a c).word = "plain")) ?_ (word_pl a c)
      walk_at "gv"
    exact qx_ret gv_non fun u B3 H3 x3 hu => q u B3 H3 (x2.trans x3) hu
  | points t s1 b =>
    refine qx_no (b := false) ?_ rfl fun B2 H2 x2 => sx_go ?_
    · refine gt_is (b := decide ((Pc.points t s1 b).word = "plain")) ?_ (word_pt t s1 b)
      walk_at "gv"
    have q : ∀ u B2 H2, Ext B H B2 H2 → Is B2 u (.d (enc (if s1 ∈ ws then Lie.st else Lie.br))) → Q u H2 := q
    refine qx_when (b := decide (s1 ∈ ws)) ?_ (fun hb B3 H3 x3 => ?_) fun hb B3 H3 x3 => ?_
    · refine gt_test (gv_op (gv_op (gv_var rfl) gv_int (ro_ixT (ds := [.str (Pc.points t s1 b).word, .int t, .int s1, .int b]) rfl)) (gv_var rfl) ro_inTI)
    · rw [if_pos (of_decide_eq_true hb)] at q
      exact qx_ret gv_str fun u B4 H4 x4 hu => q u B4 H4 ((x2.trans x3).trans x4) hu
    · rw [if_neg (of_decide_eq_false hb)] at q
      exact qx_ret gv_str fun u B4 H4 x4 hu => q u B4 H4 ((x2.trans x3).trans x4) hu
/-- what a train's class says, where there is one -/
structure TrT (K : PySem.W.Frag) (CT : Addr) : Prop where
  cl : Cls K CT
  na : ∀ k ∈ tKeys, NoAttr K CT k
structure YArg where
  y : Addr
  A : YAd
  ta : List (Addr × Addr)
  d : Wd
def YP (K : PySem.W.Frag) (C : Adr) (CT : Addr) (t : YArg) (B H : Hp) : Prop := YAt C CT B H t.y t.A t.ta t.d ∧ (t.d.trs = [] ∨ TrT K CT)
theorem YP.ext {t : YArg} {B H B' H' : Hp} (h : YP K C CT t B H) (x : Ext B H B' H') : YP K C CT t B' H' := ⟨h.1.ext x, h.2⟩
section
variable {Γ : List (Option AV)} {B H : Hp} {t : YArg} {ta : TE}
theorem gy_pieces (T : Txt K mg C) (h : YAt C CT B H t.y t.A t.ta t.d) (ha : Gv ta Γ B H (.v (.ref t.y))) : Gv (tFld K ta "pieces") Γ B H (.d (.list (t.d.ps.map enc))) := gv_fld ha h.ob T.cl_Yard T.na_Yard_pieces (yk (i := 0) (by decide +kernel) (by decide) rfl) h.hps
theorem gy_signals (T : Txt K mg C) (h : YAt C CT B H t.y t.A t.ta t.d) (ha : Gv ta Γ B H (.v (.ref t.y))) : Gv (tFld K ta "signals") Γ B H (.d (.list (t.d.sg.map enc))) := gv_fld ha h.ob T.cl_Yard T.na_Yard_signals (yk (i := 1) (by decide +kernel) (by decide) rfl) h.hsg
theorem gy_routes (T : Txt K mg C) (h : YAt C CT B H t.y t.A t.ta t.d) (ha : Gv ta Γ B H (.v (.ref t.y))) : Gv (tFld K ta "routes") Γ B H (.d (.list (t.d.rts.map enc))) := gv_fld ha h.ob T.cl_Yard T.na_Yard_routes (yk (i := 3) (by decide +kernel) (by decide) rfl) h.hrt
theorem gy_wait (T : Txt K mg C) (h : YAt C CT B H t.y t.A t.ta t.d) (ha : Gv ta Γ B H (.v (.ref t.y))) : Gv (tFld K ta "wait") Γ B H (AI t.d.wait) := gv_fld ha h.ob T.cl_Yard T.na_Yard_wait (yk (i := 2) (by decide +kernel) (by decide) rfl) (.int _)
theorem gy_now (T : Txt K mg C) (h : YAt C CT B H t.y t.A t.ta t.d) (ha : Gv ta Γ B H (.v (.ref t.y))) : Gv (tFld K ta "now") Γ B H (AI t.d.now) := gv_fld ha h.ob T.cl_Yard T.na_Yard_now (yk (i := 4) (by decide +kernel) (by decide) rfl) (.int _)
theorem gy_points (T : Txt K mg C) (h : YAt C CT B H t.y t.A t.ta t.d) (ha : Gv ta Γ B H (.v (.ref t.y))) : Gv (tFld K ta "points") Γ B H (.v (.ref t.A.pts)) := gv_fld ha h.ob T.cl_Yard T.na_Yard_points (yk (i := 5) (by decide +kernel) (by decide) rfl) rfl
theorem gy_locks (T : Txt K mg C) (h : YAt C CT B H t.y t.A t.ta t.d) (ha : Gv ta Γ B H (.v (.ref t.y))) : Gv (tFld K ta "locks") Γ B H (.v (.ref t.A.lks)) := gv_fld ha h.ob T.cl_Yard T.na_Yard_locks (yk (i := 6) (by decide +kernel) (by decide) rfl) rfl
theorem gy_green (T : Txt K mg C) (h : YAt C CT B H t.y t.A t.ta t.d) (ha : Gv ta Γ B H (.v (.ref t.y))) : Gv (tFld K ta "green") Γ B H (.v (.ref t.A.grn)) := gv_fld ha h.ob T.cl_Yard T.na_Yard_green (yk (i := 7) (by decide +kernel) (by decide) rfl) rfl
theorem gy_falling (T : Txt K mg C) (h : YAt C CT B H t.y t.A t.ta t.d) (ha : Gv ta Γ B H (.v (.ref t.y))) : Gv (tFld K ta "falling") Γ B H (.v (.ref t.A.fal)) := gv_fld ha h.ob T.cl_Yard T.na_Yard_falling (yk (i := 8) (by decide +kernel) (by decide) rfl) rfl
theorem gy_trains (T : Txt K mg C) (h : YAt C CT B H t.y t.A t.ta t.d) (ha : Gv ta Γ B H (.v (.ref t.y))) : Gv (tFld K ta "trains") Γ B H (.v (.ref t.A.trn)) := gv_fld ha h.ob T.cl_Yard T.na_Yard_trains (yk (i := 9) (by decide +kernel) (by decide) rfl) rfl
end
def spTime (K : PySem.W.Frag) (C : Adr) (CT : Addr) : Sp := spP (T := YArg) (fun t => [.v (.ref t.y)]) (YP K C CT) fun t => AI t.d.now
theorem ok_time (T : Txt K mg C) (F : Fun K "time" "Yard.time" s_Yard_time f fd) : FnOk P w K mg base CX0 1 f fd ["self"] (spTime K C CT) := by
  refine fn_P F sc_Yard_time (fun _ => rfl) fun cdv A outer s H Q E hr => ⟨_, pss_cons (ps_ret (pe_fldK (K := K) rfl (pv 0) rfl))
  (pss_nil), fun t B e h q => ?_⟩
  exact qx_ret (gy_now T h.1 (gv_var rfl)) q
def there (n : Nat) (i : Int) : Bool := decide (0 ≤ i) && decide (i < (n : Int))
def spNeed (K : PySem.W.Frag) (C : Adr) (CT : Addr) : Sp := spR (T := YArg × Int) (fun t => [.v (.ref t.1.y), AI t.2]) (fun t => YP K C CT t.1) fun t => if there t.1.d.ps.length t.2 = true then .ok AN else .error C.NotThere
theorem ok_need (T : Txt K mg C) (F : Fun K "need_piece" "Yard.need_piece" s_Yard_need_piece f fd) : FnOk P w K mg base (L2.CX P w) 1 f fd ["self", "at"] (spNeed K C CT) := by
  refine fn_R F sc_Yard_need_piece (fun _ => rfl) fun cdv A outer s H Q E hr => ⟨_, pss_cons (ps_if (pt_not (pt_chain op_le op_lt (pe_int) (pv 1) (pe_callB (call_lenK (K := K) rfl) (by rfl) T.n_len (by decide +kernel) (pa_cons (pe_fldK (K := K) rfl (pv 0) rfl) (pa_nil))))) (pss_cons (ps_raise rfl (takes_of rfl rfl rfl rfl) (pmk_own PySem.F.excBase_ValueError T.e_NotThere.x T.e_NotThere.g T.e_NotThere.k (raises_own T.e_NotThere.b T.e_NotThere.t) rfl))
  (pss_nil)) (pss_nil))
  (pss_nil), fun ⟨t, i⟩ B e h q qe => ?_⟩
  refine qx_when (b := !there t.d.ps.length i) ?_ (fun hb B2 H2 x2 => ?_) fun hb B2 H2 x2 => ?_
  · exact gt_not (gt_B (gv_chain gv_int (gv_var rfl) (gv_cb (ga_cons (gy_pieces T h.1 (gv_var rfl)) ga_nil) rc_lenM) ro_B0 ro_B0))
  · rw [Bool.not_eq_true'] at hb
    exact qx_raise fun _ => qe B2 H2 _ (by show (if there t.d.ps.length i = true then _ else _) = _; rw [hb]; rfl) x2
  · rw [Bool.not_eq_false'] at hb
    exact sx_next fun e2 σ fr => q .non B2 H2 AN (by show (if there t.d.ps.length i = true then _ else _) = _; rw [hb]; rfl) x2 .non
def spNeedR (K : PySem.W.Frag) (C : Adr) (CT : Addr) : Sp := spR (T := YArg × Int) (fun t => [.v (.ref t.1.y), AI t.2]) (fun t => YP K C CT t.1) fun t => if there t.1.d.rts.length t.2 = true then .ok AN else .error C.NotThere
theorem ok_needR (T : Txt K mg C) (F : Fun K "need_route" "need_route" s_need_route f fd) : FnOk P w K mg base (L2.CX P w) 1 f fd ["yard", "route"] (spNeedR K C CT) := by
  refine fn_R F sc_need_route (fun _ => rfl) fun cdv A outer s H Q E hr => ⟨_, pss_cons (ps_if (pt_not (pt_chain op_le op_lt (pe_int) (pv 1) (pe_callB (call_lenK (K := K) rfl) (by rfl) T.n_len (by decide +kernel) (pa_cons (pe_fldK (K := K) rfl (pv 0) rfl) (pa_nil))))) (pss_cons (ps_raise rfl (takes_of rfl rfl rfl rfl) (pmk_own PySem.F.excBase_ValueError T.e_NotThere.x T.e_NotThere.g T.e_NotThere.k (raises_own T.e_NotThere.b T.e_NotThere.t) rfl))
  (pss_nil)) (pss_nil))
  (pss_nil), fun ⟨t, i⟩ B e h q qe => ?_⟩
  refine qx_when (b := !there t.d.rts.length i) ?_ (fun hb B2 H2 x2 => ?_) fun hb B2 H2 x2 => ?_
  · exact gt_not (gt_B (gv_chain gv_int (gv_var rfl) (gv_cb (ga_cons (gy_routes T h.1 (gv_var rfl)) ga_nil) rc_lenM) ro_B0 ro_B0))
  · rw [Bool.not_eq_true'] at hb
    exact qx_raise fun _ => qe B2 H2 _ (by show (if there t.d.rts.length i = true then _ else _) = _; rw [hb]; rfl) x2
  · rw [Bool.not_eq_false'] at hb
    exact sx_next fun e2 σ fr => q .non B2 H2 AN (by show (if there t.d.rts.length i = true then _ else _) = _; rw [hb]; rfl) x2 .non
/-- sizes, and numbers that are there -/
structure Fit (d : Wd) : Prop where
  np : d.ps.length ≤ 16
  ns : d.sg.length ≤ 16
  nr : d.rts.length ≤ 4000000
  ll : d.lks.length = d.ps.length
  lp : d.pts.length = d.ps.length
  ng : d.grn.length ≤ 1000
  hg : ∀ r ∈ d.grn, there d.rts.length r = true
  nf : d.fal.length ≤ 1000
  hf : ∀ r ∈ d.fal, there d.rts.length r.1 = true ∧ r.2.2.length ≤ 1000
  nt : d.trs.length ≤ 1000
  hn : (d.trs.map (·.1)).Nodup
  ht : ∀ t ∈ d.trs, t.2.steps ≠ [] ∧ t.2.steps.length ≤ 100000 ∧ t.2.ahead.length ≤ 1000
theorem there_at {α : Type} [DecidableEq α] [Enc α] {xs : List α} {i : Int} (h : there xs.length i = true) : ∃ (k : Nat) (a : α), i = (k : Int) ∧ xs[k]? = some a ∧ atI (xs.map enc) i = some (enc a) := by
  have h : 0 ≤ i ∧ i < (xs.length : Int) := by
    unfold there at h
    simpa using h
  have hlt : i.toNat < xs.length := by omega
  have e : ((i.toNat : Nat) : Int) = i := by omega
  refine ⟨i.toNat, xs[i.toNat], e.symm, List.getElem?_eq_getElem hlt, ?_⟩
  have := atI_map (List.getElem?_eq_getElem hlt)
  rw [e] at this
  exact this
theorem ym {A : YAd} {wt nw : Int} {m : Str} (h : m ∉ yKeys) : (yKeys.zip [A.vps, A.vsg, .int wt, A.vrt, .int nw, .ref A.pts, .ref A.lks, .ref A.grn, .ref A.fal, .ref A.trn]).lookup m = none := zip_none _ _ _ h
theorem gx_need {Γ : List (Option AV)} {B H : Hp} {t : YArg} {ta tb : TE} {E : XK} {i : Int} (h : YP K C CT t B H) (ha : Gv ta Γ B H (.v (.ref t.y))) (hb : Gv tb Γ B H (AI i)) : Gx E (tMeth C.Yard "need_piece" (spNeed K C CT) [] E ta (tCons tb tNil)) Γ B H (if there t.d.ps.length i = true then .ok AN else .error C.NotThere) :=
  gx_met (t, i) ha h.1.ob (ym (by decide +kernel)) (ga_cons hb ga_nil) rfl fun _ _ x => h.ext x
def lockN (d : Wd) (i : Int) : Option Int := (d.lks[i.toNat]?).getD none
def spLockOf (K : PySem.W.Frag) (C : Adr) (CT : Addr) : Sp := spR (T := YArg × Int) (fun t => [.v (.ref t.1.y), AI t.2]) (fun t B H => YP K C CT t.1 B H ∧ Fit t.1.d) fun t => if there t.1.d.ps.length t.2 = true then .ok (.d (enc (lockN t.1.d t.2))) else .error C.NotThere
theorem ok_lock_of (T : Txt K mg C) (F : Fun K "lock_of" "Yard.lock_of" s_Yard_lock_of f fd) (c_Yard_need_piece : Met P w K mg base (L2.CX P w) 1 C.Yard "need_piece" (spNeed K C CT)) : FnOk P w K mg base (L2.CX P w) 2 f fd ["self", "at"] (spLockOf K C CT) := by
  refine fn_R F sc_Yard_lock_of (fun _ => rfl) fun cdv A outer s H Q E hr => ⟨_, pss_cons (ps_expr (pe_met c_Yard_need_piece T.cl_Yard hr (by first | decide | omega) (passX (takes_of rfl rfl rfl rfl)) (pv 0) (pa_cons (pv 1) (pa_nil))))
  (pss_cons (ps_ret (pe_ix (ix_listK (K := K) rfl) (pe_fldK (K := K) rfl (pv 0) rfl) (pv 1) (fun _ _ => rfl)))
  (pss_nil)), fun ⟨t, i⟩ B e hpre q qe => ?_⟩
  obtain ⟨h, ft⟩ := hpre
  have h : YP K C CT t B H := h
  have ft : Fit t.d := ft
  have q : ∀ u B2 H2 g, (if there t.d.ps.length i = true then Except.ok (.d (enc (lockN t.d i))) else Except.error C.NotThere) = Except.ok g → Ext B H B2 H2 → Is B2 u g → Q u H2 := q
  refine qx_dropX (gx_need h (gv_var rfl) (gv_var rfl)) (fun g B2 H2 hg x2 => ?_) fun c B2 H2 hc x2 => ?_
  rotate_left
  · cases hth : there t.d.ps.length i with
    | true => rw [hth, if_pos rfl] at hc; cases hc
    | false =>
      rw [hth] at hc
      cases hc
      exact qe B2 H2 _ (by show (if there t.d.ps.length i = true then _ else _) = _; rw [hth]; rfl) x2
  cases hth : there t.d.ps.length i with
  | false => rw [hth] at hg; cases hg
  | true =>
    rw [hth, if_pos rfl] at q
    have h2 := h.ext x2
    obtain ⟨k, o, rfl, ho, hat⟩ := there_at (xs := t.d.lks) (i := i) (by rw [ft.ll]; exact hth)
    have e1 : lockN t.d (k : Int) = o := by unfold lockN; rw [Int.toNat_natCast, ho]; rfl
    rw [e1] at q
    exact qx_ret (gv_op (gy_locks T h2.1 (gv_var rfl)) (gv_var rfl) (ro_ixO h2.1.hlks hat)) fun u B3 H3 x3 hu => q u B3 H3 _ rfl (x2.trans x3) hu
def lieN (d : Wd) (i : Int) : Lie := (d.pts[i.toNat]?).getD .no
def spLies (K : PySem.W.Frag) (C : Adr) (CT : Addr) : Sp := spR (T := YArg × Int) (fun t => [.v (.ref t.1.y), AI t.2]) (fun t B H => YP K C CT t.1 B H ∧ Fit t.1.d) fun t => if (there t.1.d.ps.length t.2 && !decide (lieN t.1.d t.2 = .no)) = true then .ok (.d (enc (lieN t.1.d t.2))) else .error C.NotThere
theorem ok_lies (T : Txt K mg C) (F : Fun K "lies" "Yard.lies" s_Yard_lies f fd) (c_Yard_need_piece : Met P w K mg base (L2.CX P w) 1 C.Yard "need_piece" (spNeed K C CT)) : FnOk P w K mg base (L2.CX P w) 2 f fd ["self", "at"] (spLies K C CT) := by
  refine fn_R F sc_Yard_lies (fun _ => rfl) fun cdv A outer s H Q E hr => ⟨_, pss_cons (ps_expr (pe_met c_Yard_need_piece T.cl_Yard hr (by first | decide | omega) (passX (takes_of rfl rfl rfl rfl)) (pv 0) (pa_cons (pv 1) (pa_nil))))
  (pss_cons (ps_if (pt_cmpR op_isN (pe_ix (ix_listK (K := K) rfl) (pe_fldK (K := K) rfl (pv 0) rfl) (pv 1) (fun _ _ => rfl)) (pe_non) (nomark _)) (pss_cons (ps_raise rfl (takes_of rfl rfl rfl rfl) (pmk_own PySem.F.excBase_ValueError T.e_NotThere.x T.e_NotThere.g T.e_NotThere.k (raises_own T.e_NotThere.b T.e_NotThere.t) rfl))
  (pss_nil)) (pss_nil))
  (pss_cons (ps_ret (pe_ix (ix_listK (K := K) rfl) (pe_fldK (K := K) rfl (pv 0) rfl) (pv 1) (fun _ _ => rfl)))
  (pss_nil))), fun ⟨t, i⟩ B e hpre q qe => ?_⟩
  obtain ⟨h, ft⟩ := hpre
  have h : YP K C CT t B H := h
  have ft : Fit t.d := ft
  have q : ∀ u B2 H2 g, (if (there t.d.ps.length i && !decide (lieN t.d i = .no)) = true then Except.ok (.d (enc (lieN t.d i))) else Except.error C.NotThere) = Except.ok g → Ext B H B2 H2 → Is B2 u g → Q u H2 := q
  have qe : ∀ B2 H2 c, (if (there t.d.ps.length i && !decide (lieN t.d i = .no)) = true then Except.ok (AV.d (enc (lieN t.d i))) else Except.error C.NotThere) = Except.error c → Ext B H B2 H2 → E (.ref c) none H2 := qe
  refine qx_dropX (gx_need h (gv_var rfl) (gv_var rfl)) (fun g B2 H2 hg x2 => ?_) fun c B2 H2 hc x2 => ?_
  rotate_left
  · cases hth : there t.d.ps.length i with
    | true => rw [hth, if_pos rfl] at hc; cases hc
    | false =>
      rw [hth] at hc
      cases hc
      exact qe B2 H2 _ (by rw [hth]; rfl) x2
  cases hth : there t.d.ps.length i with
  | false => rw [hth] at hg; cases hg
  | true =>
    have h2 := h.ext x2
    obtain ⟨k, o, rfl, ho, hat⟩ := there_at (xs := t.d.pts) (i := i) (by rw [ft.lp]; exact hth)
    have e1 : lieN t.d (k : Int) = o := by unfold lieN; rw [Int.toNat_natCast, ho]; rfl
    rw [e1, hth, Bool.true_and] at q qe
    have hn : isN (AV.d (enc o)) = decide (o = Lie.no) := by cases o <;> rfl
    refine qx_when (b := decide (o = Lie.no)) ?_ (fun hb B3 H3 x3 => ?_) fun hb B3 H3 x3 => ?_
    · exact gt_is (gt_test (gv_op (gv_op (gy_points T h2.1 (gv_var rfl)) (gv_var rfl) (ro_ixO h2.1.hpts hat)) gv_non ro_isN)) hn
    · exact qx_raise fun _ => qe B3 H3 _ (by rw [hb]; rfl) (x2.trans x3)
    · rw [hb] at q
      have h3 := h2.ext x3
      exact qx_ret (gv_op (gy_points T h3.1 (gv_var rfl)) (gv_var rfl) (ro_ixO h3.1.hpts hat)) fun u B4 H4 x4 hu => q u B4 H4 _ rfl ((x2.trans x3).trans x4) hu
/-- whether a route of the signal is green -/
def sigOf (d : Wd) (r : Int) : Int := ((d.rts[r.toNat]?).getD (-1, [])).1
def greenN (d : Wd) (s : Int) : Bool := d.grn.any fun r => decide (sigOf d r = s)
def spIsGreen (K : PySem.W.Frag) (C : Adr) (CT : Addr) : Sp := spR (T := YArg × Int) (fun t => [.v (.ref t.1.y), AI t.2]) (fun t B H => YP K C CT t.1 B H ∧ Fit t.1.d) fun t => if there t.1.d.sg.length t.2 = true then .ok (AB (greenN t.1.d t.2)) else .error C.NotThere
theorem ok_is_green (T : Txt K mg C) (F : Fun K "is_green" "Yard.is_green" s_Yard_is_green f fd) : FnOk P w K mg base (L2.CX P w) 1 f fd ["self", "signal"] (spIsGreen K C CT) := by
  refine fn_R F sc_Yard_is_green (fun _ => rfl) fun cdv A outer s H Q E hr => ⟨_, pss_cons (ps_if (pt_not (pt_chain op_le op_lt (pe_int) (pv 1) (pe_callB (call_lenK (K := K) rfl) (by rfl) T.n_len (by decide +kernel) (pa_cons (pe_fldK (K := K) rfl (pv 0) rfl) (pa_nil))))) (pss_cons (ps_raise rfl (takes_of rfl rfl rfl rfl) (pmk_own PySem.F.excBase_ValueError T.e_NotThere.x T.e_NotThere.g T.e_NotThere.k (raises_own T.e_NotThere.b T.e_NotThere.t) rfl))
  (pss_nil)) (pss_nil))
  (pss_cons (ps_ret (pe_callB (cr_anyK (K := K) rfl rfl) (by rfl) T.n_any (by decide +kernel) (pa_cons (pe_lc (own := [("one", 2)]) (g := gName 2) (tt := tYes) (by rfl) sc_Yard_is_green.nd (pi_listK (K := K) rfl (pe_fldK (K := K) rfl (pv 0) rfl)) (blkOk_by (own := [("one", 2)]) (N := N_Yard_is_green) (sc := defScope s_Yard_is_green) (by decide +kernel)) (fun _ _ _ _ _ => pg_name (i := 2) sc_Yard_is_green.nd rfl (Or.inl rfl)) (fun _ _ _ _ _ => pts_nil) (fun _ _ _ _ _ => pe_cmpR op_eq (pe_ix (ix_tupK (K := K) rfl) (pe_ix (ix_listK (K := K) rfl) (pe_fldK (K := K) rfl (pv 0) rfl) (pv 2) (fun _ _ => rfl)) (pe_int) (fun _ _ => rfl)) (pv 1) (nomark _))) (pa_nil))))
  (pss_nil)), fun ⟨t, i⟩ B e hpre q qe => ?_⟩
  obtain ⟨h, ft⟩ := hpre
  have h : YP K C CT t B H := h
  have ft : Fit t.d := ft
  have q : ∀ u B2 H2 g, (if there t.d.sg.length i = true then Except.ok (AB (greenN t.d i)) else Except.error C.NotThere) = Except.ok g → Ext B H B2 H2 → Is B2 u g → Q u H2 := q
  refine qx_when (b := !there t.d.sg.length i) ?_ (fun hb B2 H2 x2 => ?_) fun hb B2 H2 x2 => ?_
  · exact gt_not (gt_B (gv_chain gv_int (gv_var rfl) (gv_cb (ga_cons (gy_signals T h.1 (gv_var rfl)) ga_nil) rc_lenM) ro_B0 ro_B0))
  · rw [Bool.not_eq_true'] at hb
    exact qx_raise fun _ => qe B2 H2 _ (by show (if there t.d.sg.length i = true then _ else _) = _; rw [hb]; rfl) x2
  · rw [Bool.not_eq_false'] at hb
    rw [hb, if_pos rfl] at q
    have h2 := h.ext x2
    refine qx_ret (g := AB (greenN t.d i)) (gv_ownP h2.1.hgrn sc_bl fun B3 H3 s3 s4 hg => ?_) fun u B3 H3 x3 hu => q u B3 H3 _ rfl (x2.trans x3) hu
    have hy := s4 _ _ h2.1.ob
    refine gv_is (gv_cb (ga_cons (gv_lcM (xs := t.d.grn) (fun r => decide (sigOf t.d r = i)) (gv_fld (gv_var rfl) hy T.cl_Yard T.na_Yard_green (yk (i := 7) (by decide +kernel) (by decide) rfl) hg) (by have := ft.ng; omega) (by decide) (by decide) fun r hm B4 H4 x4 => ?_) ga_nil) rc_any) ?_
    · obtain ⟨k, ⟨sgn, way⟩, rfl, ho, hat⟩ := there_at (xs := t.d.rts) (i := r) (ft.hg r hm)
      have e1 : sigOf t.d (k : Int) = sgn := by unfold sigOf; rw [Int.toNat_natCast, ho]; rfl
      rw [e1]
      exact gv_op (gv_op (gv_op (gv_fld (g := .d (.list (t.d.rts.map enc))) (gv_var rfl) (x4.hh _ _ hy) T.cl_Yard T.na_Yard_routes (yk (i := 3) (by decide +kernel) (by decide) rfl) ((h2.1.hrt.mono s3).mono x4.bb)) (gv_var rfl) (ro_ixL hat)) gv_int (ro_ixT (ds := [.int sgn, enc way]) rfl)) (gv_var rfl) ro_eqI
    · rw [List.any_map]
      rfl
def trainOf (d : Wd) (n : Int) : Option Trn := (d.trs.find? fun p => decide (p.1 = n)).map (·.2)
theorem trnK_keys : ∀ (trs : List (Int × Trn)) (ta : List (Addr × Addr)), ta.length = trs.length → (trnK trs ta).map (·.1) = (trs.map (·.1)).map (Sum.inl : Int → Key)
  | [], _, _ => by simp [trnK]
  | _ :: _, [], h => by simp at h
  | t :: trs, a :: ta, h => by
    have ih := trnK_keys trs ta (by simpa using h)
    unfold trnK at ih ⊢
    rw [List.zip_cons_cons, List.map_cons, List.map_cons, List.map_cons, List.map_cons, ih]
theorem trnK_val : ∀ (trs : List (Int × Trn)) (ta : List (Addr × Addr)), ta.length = trs.length → ∀ n : Int,
    (((trs.find? fun p => decide (p.1 = n)).map (·.2)) = none → valV (trnK trs ta) (.inl n) = none) ∧
    ∀ t, ((trs.find? fun p => decide (p.1 = n)).map (·.2)) = some t → ∃ (i : Nat) (a dx : Addr), trs[i]? = some (n, t) ∧ ta[i]? = some (a, dx) ∧ valV (trnK trs ta) (.inl n) = some (.ref a)
  | [], _, _, n => ⟨fun _ => by simp [trnK, valV], fun t h => by simp at h⟩
  | _ :: _, [], h, _ => by simp at h
  | (m, t0) :: trs, (a0, dx0) :: ta, h, n => by
    have ih := trnK_val trs ta (by simpa using h) n
    have e0 : trnK ((m, t0) :: trs) ((a0, dx0) :: ta) = (.inl m, .ref a0) :: trnK trs ta := by unfold trnK; rw [List.zip_cons_cons, List.map_cons]
    rw [e0]
    by_cases e : m = n
    · subst e
      rw [valV_pos rfl]
      simp only [List.find?_cons, decide_true]
      refine ⟨fun h => by simp at h, fun t h => ?_⟩
      simp at h
      subst h
      exact ⟨0, a0, dx0, rfl, rfl, rfl⟩
    · rw [valV_neg (by simpa using e)]
      simp only [List.find?_cons, decide_eq_false e]
      refine ⟨ih.1, fun t h => ?_⟩
      obtain ⟨i, a, dx, h1, h2, h3⟩ := ih.2 t h
      exact ⟨i + 1, a, dx, h1, h2, h3⟩
theorem find_nd : ∀ (trs : List (Int × Trn)), (trs.map (·.1)).Nodup → ∀ (k : Nat) (n : Int) (t : Trn), trs[k]? = some (n, t) → (trs.find? fun p => decide (p.1 = n)).map (·.2) = some t
  | [], _, k, n, t, h => by simp at h
  | (m, t0) :: trs, hn, 0, n, t, h => by
    simp at h
    obtain ⟨h1, h2⟩ := h
    subst h1 h2
    simp
  | (m, t0) :: trs, hn, k + 1, n, t, h => by
    rw [List.map_cons, List.nodup_cons] at hn
    have h : trs[k]? = some (n, t) := by simpa using h
    have ne : ¬ m = n := fun e => hn.1 (by rw [e]; exact List.mem_map.mpr ⟨(n, t), List.mem_of_getElem? h, rfl⟩)
    have := find_nd trs hn.2 k n t h
    simp only [List.find?_cons, decide_eq_false ne]
    exact this
/-- yard.where(name): a new list -/
def spWhere (K : PySem.W.Frag) (C : Adr) (CT : Addr) : Sp := fun vs H Q E => ∃ (t : YArg) (n : Int) (B : Hp), Same B H ∧ IsAll B vs [.v (.ref t.y), AI n] ∧ YP K C CT t B H ∧ Fit t.d ∧
  (∀ tr, trainOf t.d n = some tr → ∀ p B2 H2, Ext B H B2 H2 → H p = none → Ml B2 H2 p ((tr.steps.map Stp.p).map enc) → Q (.ref p) H2) ∧ (trainOf t.d n = none → ∀ B2 H2, Ext B H B2 H2 → E (.ref C.NotThere) none H2)
theorem ok_where (T : Txt K mg C) (F : Fun K "where" "Yard.where" s_Yard_where f fd) : FnOk P w K mg base (L2.CX P w) 1 f fd ["self", "name"] (spWhere K C CT) := by
  refine F.okX sc_Yard_where (fun vs H Q E h => ?_) (fun cdv A outer s H vs Q E hr h => ?_)
  · obtain ⟨t, n, B, _, i, _⟩ := h
    exact i.length
  obtain ⟨t, n, B, e, i, h, ft, q, qe⟩ := h
  refine ⟨_, pss_cons (ps_if (pt_cmp (pc_dnotin (hu_of hr) (pv 1) (pe_fldK (K := K) rfl (pv 0) rfl))) (pss_cons (ps_raise rfl (takes_of rfl rfl rfl rfl) (pmk_own PySem.F.excBase_ValueError T.e_NotThere.x T.e_NotThere.g T.e_NotThere.k (raises_own T.e_NotThere.b T.e_NotThere.t) rfl))
  (pss_nil)) (pss_nil))
  (pss_cons (ps_ret (pe_lc (own := [("step", 2)]) (g := gName 2) (tt := tYes) (by rfl) sc_Yard_where.nd (pi_listK (K := K) rfl (pe_fldK (K := K) rfl (pe_dget (hu_of hr) (pe_fldK (K := K) rfl (pv 0) rfl) (pv 1) (fun _ _ => rfl)) rfl)) (blkOk_by (own := [("step", 2)]) (N := N_Yard_where) (sc := defScope s_Yard_where) (by decide +kernel)) (fun _ _ _ _ _ => pg_name (i := 2) sc_Yard_where.nd rfl (Or.inl rfl)) (fun _ _ _ _ _ => pts_nil) (fun _ _ _ _ _ => pe_ix (ix_tupK (K := K) rfl) (pv 2) (pe_int) (fun _ _ => rfl))))
  (pss_nil)), ?_⟩
  refine Sx.run (Γ := Γ0 N_Yard_where [.v (.ref t.y), AI n]) (B := B) ?_ e (fr_start i (by rw [i.length]; show 2 ≤ 3; decide))
  obtain ⟨v0, v1⟩ := trnK_val t.d.trs t.ta h.1.len n
  refine qx_when (b := !(valV (trnK t.d.trs t.ta) (.inl n)).isSome) (gt_B (gv_dnotin (gv_var rfl) (gy_trains T h.1 (gv_var rfl)) kq_int (.inl h.1.htrn.2))) (fun hb B2 H2 x2 => ?_) fun hb B2 H2 x2 => ?_
  · refine qx_raise fun _ => qe ?_ B2 H2 x2
    cases hto : trainOf t.d n with
    | none => rfl
    | some tr =>
      obtain ⟨_, _, _, _, _, hv⟩ := v1 tr hto
      rw [hv] at hb
      cases hb
  · cases hto : trainOf t.d n with
    | none => rw [v0 hto] at hb; cases hb
    | some tr =>
      obtain ⟨k, a, dx, h1, h2, hv⟩ := v1 tr hto
      have hT : TrT K CT := h.2.resolve_left fun z => by rw [z] at h1; simp at h1
      obtain ⟨⟨w1, w2, ho, d1, d2⟩, hba⟩ := h.1.tr k n tr a dx h1 h2
      have hsz := (ft.ht _ (List.mem_of_getElem? h1)).2.1
      have hsz : tr.steps.length ≤ 100000 := hsz
      have h3 := h.ext x2
      have e1 : (tr.steps.map Stp.p).map enc = ((tr.steps.filter fun _ => true).map Stp.p).map enc := by rw [filter_yes]
      refine qx_retG (ds := (tr.steps.map Stp.p).map enc) ?_ fun l B3 H3 hl x3 m3 => q tr hto l B3 H3 (x2.trans x3) (x2.hh.free hl) m3
      rw [e1]
      refine gm_lcL (xs := tr.steps) (gv_fld (g := .d (.list (tr.steps.map enc))) (gv_dget (g := .v (.ref a)) (gy_trains T h3.1 (gv_var rfl)) (gv_var rfl) kq_int (.inl h3.1.htrn.2) hv rfl) (x2.hh _ _ ho) hT.cl (hT.na _ (by decide +kernel)) (zip_lookup _ _ _ 0 _ (by decide +kernel) (by decide) rfl) (d1.mono x2.bb)) (by omega) (by decide) (by decide) (fun _ => true) Stp.p (fun _ _ _ _ _ => gt_yes) fun st _ _ B4 H4 x4 => ?_
      exact gv_op (gv_var rfl) gv_int (ro_ixT (ds := [.int st.p, .int st.i, .int st.o]) rfl)
/-- which train is in a piece -/
def trainIn (d : Wd) (i : Int) : Option Int := (d.trs.find? fun p => decide (i ∈ p.2.steps.map Stp.p)).map (·.1)
def spTrainIn (K : PySem.W.Frag) (C : Adr) (CT : Addr) : Sp := spR (T := YArg × Int) (fun t => [.v (.ref t.1.y), AI t.2]) (fun t B H => YP K C CT t.1 B H ∧ Fit t.1.d) fun t => if there t.1.d.ps.length t.2 = true then .ok (.d (enc (trainIn t.1.d t.2))) else .error C.NotThere
theorem find_at : ∀ (trs : List (Int × Trn)) (i : Int) (k : Nat) (n : Int) (t : Trn), trs[k]? = some (n, t) → i ∈ t.steps.map Stp.p → (∀ (j : Nat) (m : Int) (u : Trn), j < k → trs[j]? = some (m, u) → i ∉ u.steps.map Stp.p) → (trs.find? fun p => decide (i ∈ p.2.steps.map Stp.p)).map (·.1) = some n
  | [], _, k, _, _, h, _, _ => by simp at h
  | (m, t0) :: trs, i, 0, n, t, h, hi, _ => by
    simp at h
    obtain ⟨h1, h2⟩ := h
    subst h1 h2
    simp only [List.find?_cons, decide_eq_true hi]
    rfl
  | (m, t0) :: trs, i, k + 1, n, t, h, hi, no => by
    have h : trs[k]? = some (n, t) := by simpa using h
    have h0 : i ∉ t0.steps.map Stp.p := no 0 m t0 (by omega) rfl
    simp only [List.find?_cons, decide_eq_false h0]
    exact find_at trs i k n t h hi fun j m' u hj hu => no (j + 1) m' u (by omega) (by simpa using hu)
theorem find_no (trs : List (Int × Trn)) (i : Int) (no : ∀ (j : Nat) (m : Int) (u : Trn), trs[j]? = some (m, u) → i ∉ u.steps.map Stp.p) : (trs.find? fun p => decide (i ∈ p.2.steps.map Stp.p)).map (·.1) = none := by
  rw [Option.map_eq_none_iff, List.find?_eq_none]
  intro p hp
  obtain ⟨j, hj⟩ := List.mem_iff_getElem?.mp hp
  obtain ⟨m, u⟩ := p
  simpa using no j m u hj
theorem ok_train_in (T : Txt K mg C) (F : Fun K "train_in" "Yard.train_in" s_Yard_train_in f fd) (c_Yard_need_piece : Met P w K mg base (L2.CX P w) 1 C.Yard "need_piece" (spNeed K C CT)) : FnOk P w K mg base (L2.CX P w) 2 f fd ["self", "at"] (spTrainIn K C CT) := by
  refine fn_R F sc_Yard_train_in (fun _ => rfl) fun cdv A outer s H Q E hr => ⟨_, pss_cons (ps_expr (pe_met c_Yard_need_piece T.cl_Yard hr (by first | decide | omega) (passX (takes_of rfl rfl rfl rfl)) (pv 0) (pa_cons (pv 1) (pa_nil))))
  (pss_cons (ps_lock (ps_for (passes_of rfl) rfl (pi_keys (pe_fldK (K := K) rfl (pv 0) rfl)) (pg_name (i := 2) sc_Yard_train_in.nd rfl (by first | exact Or.inl rfl | exact Or.inr rfl)) (pss_cons (ps_if (pt_cmpR (op_inK (K := K) rfl) (pv 1) (pe_lc (own := [("step", 3)]) (g := gName 3) (tt := tYes) (by rfl) sc_Yard_train_in.nd (pi_listK (K := K) rfl (pe_fldK (K := K) rfl (pe_dget (hu_of hr) (pe_fldK (K := K) rfl (pv 0) rfl) (pv 2) (fun _ _ => rfl)) rfl)) (blkOk_by (own := [("step", 3)]) (N := N_Yard_train_in) (sc := defScope s_Yard_train_in) (by decide +kernel)) (fun _ _ _ _ _ => pg_name (i := 3) sc_Yard_train_in.nd rfl (Or.inl rfl)) (fun _ _ _ _ _ => pts_nil) (fun _ _ _ _ _ => pe_ix (ix_tupK (K := K) rfl) (pv 3) (pe_int) (fun _ _ => rfl))) (by rfl)) (pss_cons (ps_ret (pv 2))
  (pss_nil)) (pss_nil))
  (pss_nil))))
  (pss_cons (ps_ret (pe_non))
  (pss_nil))), fun ⟨t, i⟩ B e hpre q qe => ?_⟩
  obtain ⟨h, ft⟩ := hpre
  have h : YP K C CT t B H := h
  have ft : Fit t.d := ft
  have q : ∀ u B2 H2 g, (if there t.d.ps.length i = true then Except.ok (.d (enc (trainIn t.d i))) else Except.error C.NotThere) = Except.ok g → Ext B H B2 H2 → Is B2 u g → Q u H2 := q
  refine qx_dropX (gx_need h (gv_var rfl) (gv_var rfl)) (fun g B2 H2 hg x2 => ?_) fun c B2 H2 hc x2 => ?_
  rotate_left
  · cases hth : there t.d.ps.length i with
    | true => rw [hth, if_pos rfl] at hc; cases hc
    | false =>
      rw [hth] at hc
      cases hc
      exact qe B2 H2 _ (by show (if there t.d.ps.length i = true then _ else _) = _; rw [hth]; rfl) x2
  cases hth : there t.d.ps.length i with
  | false => rw [hth] at hg; cases hg
  | true =>
    rw [hth, if_pos rfl] at q
    have h2 := h.ext x2
    have hnd := h2.1.nd
    have nyt : t.y ≠ t.A.trn := by
      intro z
      unfold own at hnd
      rw [List.nodup_cons] at hnd
      exact hnd.1 (by rw [z]; simp)
    have nat : ∀ (k : Nat) (a dx : Addr), t.ta[k]? = some (a, dx) → a ≠ t.A.trn := fun k a dx hk z => by
      unfold own at hnd
      simp only [List.nodup_cons] at hnd
      exact hnd.2.2.2.2.2.1 (by rw [← z]; exact List.mem_map.mpr ⟨(a, dx), List.mem_of_getElem? hk, rfl⟩)
    have hyL : ∀ od, (upd H2 t.A.trn (.frz od (.dK (trnK t.d.trs t.ta)))) t.y = _ := fun od => (upd_ne nyt).trans h2.1.ob
    refine qx_forK (ι := Unit) (ks := t.d.trs.map (·.1)) h2.1.htrn (trnK_keys _ _ h2.1.len) (fun od => gv_fld (g := .v (.ref t.A.trn)) (gv_var rfl) (hyL od) T.cl_Yard T.na_Yard_trains (yk (i := 9) (by decide +kernel) (by decide) rfl) rfl)
      (fun _ => [some (.v (.ref t.y)), some (AI i), none, none]) (fun od k _ B1 H1 => Ext B2 (upd H2 t.A.trn (.frz od (.dK (trnK t.d.trs t.ta)))) B1 H1 ∧ ∀ (j : Nat) (m : Int) (u : Trn), j < k → t.d.trs[j]? = some (m, u) → i ∉ u.steps.map Stp.p) () (by walk_at "le")
      (fun od B1 H1 x => ⟨x, fun j m u hj => by omega⟩) (fun od k _ B1 H1 ⟨x, _⟩ => ⟨x.hh _ _ upd_same, x.off h2.1.htrn.1 (by rw [upd_same]; simp)⟩) ?_ ?_
    · intro od Bs k n0 _ B3 H3 hk s1 s2 ⟨x3, no⟩
      rw [List.getElem?_map] at hk
      cases hk2 : t.d.trs[k]? with
      | none => rw [hk2] at hk; cases hk
      | some nt =>
        obtain ⟨n, tr⟩ := nt
        rw [hk2] at hk
        cases hk
        obtain ⟨k', a, dx, h4, h5, hv⟩ := (trnK_val t.d.trs t.ta h2.1.len n).2 tr (find_nd t.d.trs ft.hn k n tr hk2)
        have hT : TrT K CT := h.2.resolve_left fun z => by rw [z] at h4; simp at h4
        obtain ⟨⟨w1, w2, ho, d1, d2⟩, hba⟩ := h2.1.tr k' n tr a dx h4 h5
        have hsz := (ft.ht _ (List.mem_of_getElem? h4)).2.1
        have hsz : tr.steps.length ≤ 100000 := hsz
        have hoL := x3.hh _ _ ((upd_ne (nat k' a dx h5)).trans ho)
        have hyL3 := x3.hh _ _ (hyL od)
        have htL := x3.hh _ _ (upd_same (H := H2) (a := t.A.trn) (o := .frz od (.dK (trnK t.d.trs t.ta))))
        refine qx_when (b := decide (i ∈ tr.steps.map Stp.p)) ?_ (fun hb B4 H4 x4 => ?_) fun hb B4 H4 x4 => ?_
        · refine gt_test (gv_op (y := .d (.list ((tr.steps.map Stp.p).map enc))) (gv_var rfl) (gv_lcM Stp.p (gv_fld (g := .d (.list (tr.steps.map enc))) (gv_dget (g := .v (.ref a)) (gv_fld (g := .v (.ref t.A.trn)) (gv_var rfl) hyL3 T.cl_Yard T.na_Yard_trains (yk (i := 9) (by decide +kernel) (by decide) rfl) rfl) (gv_var rfl) kq_int (.inr ⟨od, htL⟩) hv rfl) hoL hT.cl (hT.na _ (by decide +kernel)) (zip_lookup _ _ _ 0 _ (by decide +kernel) (by decide) rfl) (d1.mono x3.bb)) (by omega) (by decide) (by decide) fun st _ B5 H5 x5 => ?_) ro_inI)
          exact gv_op (gv_var rfl) gv_int (ro_ixT (ds := [.int st.p, .int st.i, .int st.o]) rfl)
        · refine qx_ret (g := AI n) (gv_var rfl) fun u B5 H5 x5 hu => ⟨((x4.trans x5).hh _ _ htL), ?_⟩
          have e1 : trainIn t.d i = some n := find_at t.d.trs i k n tr hk2 (of_decide_eq_true hb) no
          rw [e1] at q
          exact q u B5 _ _ rfl (x2.trans (((x3.trans x4).trans x5).unlock h2.1.htrn.1 h2.1.htrn.2)) hu
        · refine sx_lx () (s2.trans x4.bb) (by walk_at "le") ⟨x3.trans x4, fun j m u hj hu => ?_⟩
          by_cases z : j < k
          · exact no j m u z hu
          · have z : j = k := by omega
            subst z
            rw [hk2] at hu
            cases hu
            exact of_decide_eq_false hb
    · intro od _ B3 H3 s1 ⟨x3, no⟩
      have e1 : trainIn t.d i = none := find_no t.d.trs i fun j m u hu => no j m u (by have := (List.getElem?_eq_some_iff.mp hu).1; rw [List.length_map]; exact this) hu
      rw [e1] at q
      exact qx_ret gv_non fun u B4 H4 x4 hu => q u B4 H4 _ rfl ((x2.trans (x3.unlock h2.1.htrn.1 h2.1.htrn.2)).trans x4) hu
def heldN (d : Wd) (i : Int) : Bool := (lockN d i).isSome || (trainIn d i).isSome
def spIsHeld (K : PySem.W.Frag) (C : Adr) (CT : Addr) : Sp := spR (T := YArg × Int) (fun t => [.v (.ref t.1.y), AI t.2]) (fun t B H => YP K C CT t.1 B H ∧ Fit t.1.d ∧ there t.1.d.ps.length t.2 = true) fun t => .ok (AB (heldN t.1.d t.2))
theorem isN_oi (o : Option Int) : isN (AV.d (enc o)) = !o.isSome := by cases o <;> rfl
theorem ok_is_held (T : Txt K mg C) (F : Fun K "is_held" "Yard.is_held" s_Yard_is_held f fd) (c_Yard_train_in : Met P w K mg base (L2.CX P w) 2 C.Yard "train_in" (spTrainIn K C CT)) : FnOk P w K mg base (L2.CX P w) 3 f fd ["self", "at"] (spIsHeld K C CT) := by
  refine fn_R F sc_Yard_is_held (fun _ => rfl) fun cdv A outer s H Q E hr => ⟨_, pss_cons (ps_ret (pe_or (pe_cmpR op_notN (pe_ix (ix_listK (K := K) rfl) (pe_fldK (K := K) rfl (pv 0) rfl) (pv 1) (fun _ _ => rfl)) (pe_non) (nomark _)) (pe_one (pe_cmpR op_notN (pe_met c_Yard_train_in T.cl_Yard hr (by first | decide | omega) (passX (takes_of rfl rfl rfl rfl)) (pv 0) (pa_cons (pv 1) (pa_nil))) (pe_non) (nomark _)))))
  (pss_nil), fun ⟨t, i⟩ B e hpre q qe => ?_⟩
  obtain ⟨h, ft, hth⟩ := hpre
  have h : YP K C CT t B H := h
  have ft : Fit t.d := ft
  have hth : there t.d.ps.length i = true := hth
  obtain ⟨k, o, rfl, ho, hat⟩ := there_at (xs := t.d.lks) (i := i) (by rw [ft.ll]; exact hth)
  have e1 : lockN t.d (k : Int) = o := by unfold lockN; rw [Int.toNat_natCast, ho]; rfl
  refine qx_ret (g := AB (heldN t.d (k : Int))) (gv_is (gv_orV (gv_op (gv_op (gy_locks T h.1 (gv_var rfl)) (gv_var rfl) (ro_ixO h.1.hlks hat)) gv_non ro_notN) fun _ =>
    gv_op (gv_metR (t, (k : Int)) (gv_var rfl) h.1.ob (ym (by decide +kernel)) (ga_cons (gv_var rfl) ga_nil) rfl (fun _ _ x => ⟨h.ext x, ft⟩) (by show (if there t.d.ps.length (k : Int) = true then _ else _) = _; rw [if_pos hth])) gv_non ro_notN) ?_) fun u B2 H2 x2 hu => q u B2 H2 _ rfl x2 hu
  rw [isN_oi, isN_oi, Bool.not_not, Bool.not_not]
  unfold heldN
  rw [e1]
end
end SB
namespace SB
open PySem PySem.Spec PyProof.Rows L2
open Enc (enc)
local macro_rules | `(tactic| walk_at "le") => `(tactic| first | exact le_nil | (refine le_keep ?_; walk_at "le") | (refine le_drop ?_; walk_at "le"))
local macro_rules | `(tactic| walk_at "sd") => `(tactic| first | assumption | (show (_ : Int) < _ ∧ _ < (1073741824 : Int); exact ⟨by omega, by omega⟩) | (show (-(2 ^ 64) < (_ : Int) ∧ _ < (2 ^ 64 : Int)) ∨ _; first | exact .inl ⟨by omega, by omega⟩ | exact .inr ⟨by omega, by omega⟩) | rfl | decide | (simp; done) | omega | skip)
local macro_rules | `(tactic| walk_at "gc") => `(tactic| fail)
local macro_rules | `(tactic| walk_at "gv") => `(tactic| first
  | exact gv_int | exact gv_str | exact gv_bl | exact gv_non | exact gv_var rfl
  | ((with_reducible refine' gv_op ?_ ?_ ?_) <;> walk_at "gv")
  | ((with_reducible refine' ga_cons ?_ ?_) <;> walk_at "gv") | exact ga_nil
  | ((with_reducible refine' gv_cb ?_ ?_) <;> walk_at "gv")
  | ((with_reducible refine' gt_test ?_) <;> walk_at "gv") | ((with_reducible refine' gt_B ?_) <;> walk_at "gv") | ((with_reducible refine' gt_not ?_) <;> walk_at "gv")
  | ((with_reducible refine' gt_and ?k1 ?k2); (case' k1 => walk_at "gv"); (case' k2 => intro hb; walk_at "gv"))
  | ((with_reducible refine' gt_or ?k1 ?k2); (case' k1 => walk_at "gv"); (case' k2 => intro hb; walk_at "gv"))
  | ((with_reducible refine' gv_andV ?k1 ?k2); (case' k1 => walk_at "gv"); (case' k2 => intro hb; walk_at "gv"))
  | ((with_reducible refine' gv_orV ?k1 ?k2); (case' k1 => walk_at "gv"); (case' k2 => intro hb; walk_at "gv"))
  | ((with_reducible refine' gv_notV ?_) <;> walk_at "gv")
  | ((with_reducible refine' gv_slL ?_ ?_ ?_) <;> walk_at "gv") | ((with_reducible refine' gv_slT ?_ ?_ ?_ ?_) <;> walk_at "gv")
  | exact go_none | ((with_reducible refine' go_some ?_) <;> walk_at "gv")
  | exact gd_nil | ((with_reducible refine' gd_cons ?_ ?_) <;> walk_at "gv") | ((with_reducible refine' gv_lst ?_ ?_) <;> walk_at "gv") | ((with_reducible refine' gv_tup ?_ ?_) <;> walk_at "gv")
  | ((with_reducible refine' gv_chain ?_ ?_ ?_ ?_ ?_) <;> walk_at "gv") | ((with_reducible refine' gt_truL ?_) <;> walk_at "gv") | ((with_reducible refine' gv_countI ?_ ?_) <;> walk_at "gv")
  | ((with_reducible refine' gv_lenSetI ?_ ?_) <;> walk_at "gv") | ((with_reducible refine' gv_lenSetU ?_ ?_) <;> walk_at "gv") | ((with_reducible refine' gv_lenSetT ?_ ?_) <;> walk_at "gv")
  | exact gt_yes
  | walk_at "gc"
  | exact ro_I0 | exact ro_B0 | (refine ro_I ?_; walk_at "sd")
  | exact ro_eqI | exact ro_neI | exact ro_eqS | exact ro_neS
  | (refine ro_eq ?_; walk_at "sd") | (refine ro_ne ?_; walk_at "sd")
  | exact ro_isN | exact ro_notN
  | exact ro_inI | exact ro_notInI | exact ro_inTI
  | (refine' ro_ixL ?k1; (case' k1 => walk_at "sd")) | (refine' ro_ixT ?k1; (case' k1 => walk_at "sd"))
  | (refine ro_cat ?_; walk_at "sd")
  | exact rc_lenM | exact rc_len | exact rc_lenT | exact rc_list | exact rc_listT | exact rc_tuple | exact rc_any | exact rc_all | exact rc_max2 | exact rc_min2 | exact rc_intB
  | (show (_ : Nat) ≤ _; first | decide | (simp; done) | omega)
  | (show (_ : Nat) < _; first | decide | (simp; done) | omega)
  | (show ¬ (_ ∧ _); exact fun h => absurd (show (1 : Nat) = 0 from h.1) (by decide))
  | skip)
local macro_rules | `(tactic| walk_at "ge") => `(tactic| (refine' gt_is ?k1 ?k2; (case' k1 => walk_at "gv"); (case' k2 => first | rfl | (simp; done) | skip)))
local macro_rules | `(tactic| walk_at "gw") => `(tactic| (refine' gv_is ?k1 ?k2; (case' k1 => walk_at "gv"); (case' k2 => first | rfl | (simp; done) | skip)))
local macro_rules | `(tactic| walk_at "gj") => `(tactic| first | exact gi_nil | (refine' gi_cons ?g1 ?g2; (case' g1 => walk_at "gv"); (case' g2 => walk_at "gj")))
local macro_rules | `(tactic| walk_at "gi") => `(tactic| (refine' gv_lst ?k1 ?k2; (case' k1 => walk_at "gj"); (case' k2 => (simp; try omega))))
local macro_rules | `(tactic| walk_at "gc") => `(tactic| first | ((with_reducible refine' gv_joints ?_) <;> walk_at "gv") | ((with_reducible refine' gv_beyond ?_ ?_ ?_ ?_) <;> walk_at "gv") | ((with_reducible refine' gv_outs ?_ ?_) <;> walk_at "gv") | ((with_reducible refine' gv_ends ?_ ?_ ?_ ?_ ?_) <;> walk_at "gv"))
/-! ### a yard that changes -/
section
variable {C : Adr} {P : Program} {w : World} {K : PySem.W.Frag} {mg : Str → Option Value} {base : Heap} {fd : FuncData} {f : Addr} {CT : Addr}
abbrev s_Yard_free : Stmt := inClass (top 22) 10
abbrev N_Yard_free : List Str := ["self", "route", "at"]
theorem sc_Yard_free : FnScope N_Yard_free ["self", "route"] (defScope s_Yard_free) := ⟨rfl, rfl, rfl, by decide +kernel, rfl, by decide +kernel, by decide +kernel⟩
theorem own_ne {y : Addr} {A : YAd} {ta : List (Addr × Addr)} (h : (own y A ta).Nodup) : y ≠ A.pts ∧ y ≠ A.lks ∧ y ≠ A.grn ∧ y ≠ A.fal ∧ y ≠ A.trn ∧ A.pts ≠ A.lks ∧ A.pts ≠ A.grn ∧ A.pts ≠ A.fal ∧ A.pts ≠ A.trn ∧ A.lks ≠ A.grn ∧ A.lks ≠ A.fal ∧ A.lks ≠ A.trn ∧ A.grn ≠ A.fal ∧ A.grn ≠ A.trn ∧ A.fal ≠ A.trn ∧
    ∀ (k : Nat) (a dx : Addr), ta[k]? = some (a, dx) → a ≠ y ∧ a ≠ A.pts ∧ a ≠ A.lks ∧ a ≠ A.grn ∧ a ≠ A.fal ∧ a ≠ A.trn := by
  unfold own at h
  simp only [List.nodup_cons, List.mem_cons, not_or] at h
  obtain ⟨⟨a1, a2, a3, a4, a5, a6⟩, ⟨b2, b3, b4, b5, b6⟩, ⟨c3, c4, c5, c6⟩, ⟨d4, d5, d6⟩, ⟨e5, e6⟩, f6, _⟩ := h
  refine ⟨a1, a2, a3, a4, a5, b2, b3, b4, b5, c3, c4, c5, d4, d5, e5, fun k a dx hk => ?_⟩
  have m : a ∈ ta.map (·.1) := List.mem_map.mpr ⟨(a, dx), List.mem_of_getElem? hk, rfl⟩
  exact ⟨fun z => a6 (z ▸ m), fun z => b6 (z ▸ m), fun z => c6 (z ▸ m), fun z => d6 (z ▸ m), fun z => e6 (z ▸ m), fun z => f6 (z ▸ m)⟩
theorem YAt.setLks {B H B2 H2 : Hp} {y : Addr} {A : YAd} {ta : List (Addr × Addr)} {d : Wd} (h : YAt C CT B H y A ta d) (x : ExtF (· = A.lks) B H B2 H2) {l : List (Option Int)} (m : Ml B2 H2 A.lks (l.map enc)) : YAt C CT B2 H2 y A ta { d with lks := l } := by
  obtain ⟨n1, n2, n3, n4, n5, n6, n7, n8, n9, n10, n11, n12, n13, n14, n15, nt⟩ := own_ne h.nd
  obtain ⟨kvs, h1, h2⟩ := h.hfal
  exact ⟨x.hh _ _ h.ob n2, x.off h.oy (by rw [h.ob]; simp), h.hps.mono x.bb, h.hsg.mono x.bb, h.hrt.mono x.bb, h.hpts.extF x n6, m, h.hgrn.extF x (Ne.symm n10), ⟨kvs, h1.extF x (Ne.symm n11), h2.mono x.bb⟩, h.htrn.extF x (Ne.symm n12), h.len,
    fun i n t a dx e1 e2 => (h.tr i n t a dx e1 e2).extF x (nt i a dx e2).2.2.1, h.nd⟩
theorem YAt.setPts {B H B2 H2 : Hp} {y : Addr} {A : YAd} {ta : List (Addr × Addr)} {d : Wd} (h : YAt C CT B H y A ta d) (x : ExtF (· = A.pts) B H B2 H2) {l : List Lie} (m : Ml B2 H2 A.pts (l.map enc)) : YAt C CT B2 H2 y A ta { d with pts := l } := by
  obtain ⟨n1, n2, n3, n4, n5, n6, n7, n8, n9, n10, n11, n12, n13, n14, n15, nt⟩ := own_ne h.nd
  obtain ⟨kvs, h1, h2⟩ := h.hfal
  exact ⟨x.hh _ _ h.ob n1, x.off h.oy (by rw [h.ob]; simp), h.hps.mono x.bb, h.hsg.mono x.bb, h.hrt.mono x.bb, m, h.hlks.extF x (Ne.symm n6), h.hgrn.extF x (Ne.symm n7), ⟨kvs, h1.extF x (Ne.symm n8), h2.mono x.bb⟩, h.htrn.extF x (Ne.symm n9), h.len,
    fun i n t a dx e1 e2 => (h.tr i n t a dx e1 e2).extF x (nt i a dx e2).2.1, h.nd⟩
theorem YAt.setGrn {B H B2 H2 : Hp} {y : Addr} {A : YAd} {ta : List (Addr × Addr)} {d : Wd} (h : YAt C CT B H y A ta d) (x : ExtF (· = A.grn) B H B2 H2) {l : List Int} (m : Ml B2 H2 A.grn (l.map enc)) : YAt C CT B2 H2 y A ta { d with grn := l } := by
  obtain ⟨n1, n2, n3, n4, n5, n6, n7, n8, n9, n10, n11, n12, n13, n14, n15, nt⟩ := own_ne h.nd
  obtain ⟨kvs, h1, h2⟩ := h.hfal
  exact ⟨x.hh _ _ h.ob n3, x.off h.oy (by rw [h.ob]; simp), h.hps.mono x.bb, h.hsg.mono x.bb, h.hrt.mono x.bb, h.hpts.extF x n7, h.hlks.extF x n10, m, ⟨kvs, h1.extF x (Ne.symm n13), h2.mono x.bb⟩, h.htrn.extF x (Ne.symm n14), h.len,
    fun i n t a dx e1 e2 => (h.tr i n t a dx e1 e2).extF x (nt i a dx e2).2.2.2.1, h.nd⟩
theorem YAt.setFal {B H B2 H2 : Hp} {y : Addr} {A : YAd} {ta : List (Addr × Addr)} {d : Wd} (h : YAt C CT B H y A ta d) (x : ExtF (· = A.fal) B H B2 H2) {kvs : List (Key × V)} {l : List (Int × Int × List Int)} (m : Md B2 H2 A.fal kvs) (hf : Fal B2 kvs l) : YAt C CT B2 H2 y A ta { d with fal := l } := by
  obtain ⟨n1, n2, n3, n4, n5, n6, n7, n8, n9, n10, n11, n12, n13, n14, n15, nt⟩ := own_ne h.nd
  exact ⟨x.hh _ _ h.ob n4, x.off h.oy (by rw [h.ob]; simp), h.hps.mono x.bb, h.hsg.mono x.bb, h.hrt.mono x.bb, h.hpts.extF x n8, h.hlks.extF x n11, h.hgrn.extF x n13, ⟨kvs, m, hf⟩, h.htrn.extF x (Ne.symm n15), h.len,
    fun i n t a dx e1 e2 => (h.tr i n t a dx e1 e2).extF x (nt i a dx e2).2.2.2.2.1, h.nd⟩
/-- a deed: the yard's own things change to what f says, or an error is raised and nothing is changed -/
def spW (K : PySem.W.Frag) (C : Adr) (CT : Addr) {T : Type} (args : T → List AV) (arg : T → YArg) (pre : T → Prop) (f : T → Except Addr Wd) : Sp := fun vs H Q E => ∃ (t : T) (B : Hp), Same B H ∧ IsAll B vs (args t) ∧ YP K C CT (arg t) B H ∧ Fit (arg t).d ∧ pre t ∧
  (∀ d', f t = .ok d' → ∀ ta' B2 H2, ExtF (· ∈ own (arg t).y (arg t).A (arg t).ta) B H B2 H2 → YAt C CT B2 H2 (arg t).y (arg t).A ta' d' → (∀ a ∈ own (arg t).y (arg t).A ta', a ∈ own (arg t).y (arg t).A (arg t).ta ∨ H a = none) → Q .non H2) ∧
  (∀ c, f t = .error c → ∀ B2 H2, Ext B H B2 H2 → E (.ref c) none H2)
def freeL (ls : List (Option Int)) (r : Int) : List (Option Int) := ls.map fun l => if l = some r then none else l
def spFree (K : PySem.W.Frag) (C : Adr) (CT : Addr) : Sp := spW K C CT (T := YArg × Int) (fun t => [.v (.ref t.1.y), AI t.2]) (·.1) (fun _ => True) fun t => .ok { t.1.d with lks := freeL t.1.d.lks t.2 }
theorem eq_oi (o : Option Int) (r : Int) : PyData.eqv (enc o) (.int r) = decide (o = some r) := by
  have := Enc.eqv (α := Option Int) o (some r)
  exact this
theorem ok_free (T : Txt K mg C) (F : Fun K "free" "Yard.free" s_Yard_free f fd) : FnOk P w K mg base CX0 1 f fd ["self", "route"] (spFree K C CT) := by
  refine F.ok sc_Yard_free (fun vs H Q E h => ?_) (fun cdv A outer s H vs Q E hr h => ?_)
  · obtain ⟨t, B, _, i, _⟩ := h
    exact i.length
  obtain ⟨⟨t, r⟩, B, e, i, h, ft, _, q, _⟩ := h
  have h : YP K C CT t B H := h
  have ft : Fit t.d := ft
  have hn16 := ft.np
  have hll := ft.ll
  refine ⟨_, pss_cons (ps_for PassesOwn.never rfl (pi_range1 (by rfl) T.n_range (pa_cons (pe_callB (call_lenK (K := K) rfl) (by rfl) T.n_len (by decide +kernel) (pa_cons (pe_fldK (K := K) rfl (pv 0) rfl) (pa_nil))) (pa_nil))) (pg_name (i := 2) sc_Yard_free.nd rfl (by first | exact Or.inl rfl | exact Or.inr rfl)) (pss_cons (ps_if (pt_cmpR op_eq (pe_ix (ix_listK (K := K) rfl) (pe_fldK (K := K) rfl (pv 0) rfl) (pv 2) (fun _ _ => rfl)) (pv 1) (nomark _)) (pss_cons (ps_asg (pe_non) (pg_sub (pe_fldK (K := K) rfl (pv 0) rfl) (pv 2) set_list))
  (pss_nil)) (pss_nil))
  (pss_nil)))
  (pss_nil), ?_⟩
  refine Sx.run (Γ := Γ0 N_Yard_free [.v (.ref t.y), AI r]) (B := B) ?_ e (fr_start i (by rw [i.length]; show 2 ≤ 3; decide))
  refine qx_forR (n := ((t.d.lks.length : Nat) : Int)) (ga_cons (gv_is (gv_cb (ga_cons (gy_locks T h.1 (gv_var rfl)) ga_nil) (rc_lenO h.1.hlks)) (by rw [List.length_map])) ga_nil) (by omega) (by omega) (fun _ => [some (.v (.ref t.y)), some (AI r), none])
    (fun k B1 H1 => ExtF (· = t.A.lks) B H B1 H1 ∧ YAt C CT B1 H1 t.y t.A t.ta { t.d with lks := freeL (t.d.lks.take k) r ++ t.d.lks.drop k }) (by walk_at "le") (fun B1 H1 x => ⟨x.f, h.1.ext x⟩) ?_ ?_
  · intro Bs k B1 H1 hk s1 s2 ⟨x1, h1⟩
    have hk' : k < t.d.lks.length := by omega
    obtain ⟨o, ho⟩ : ∃ o, t.d.lks[k]? = some o := ⟨_, List.getElem?_eq_getElem hk'⟩
    have hlen : (freeL (t.d.lks.take k) r).length = k := by unfold freeL; rw [List.length_map, List.length_take]; omega
    have hcur : (freeL (t.d.lks.take k) r ++ t.d.lks.drop k)[k]? = some o := by
      rw [List.getElem?_append_right (by omega), hlen, Nat.sub_self, List.getElem?_drop]
      exact ho
    have hdrop : t.d.lks.drop k = o :: t.d.lks.drop (k + 1) := by
      rw [List.drop_eq_getElem_cons hk']
      rw [List.getElem?_eq_getElem hk'] at ho
      cases ho
      rfl
    have htake : freeL (t.d.lks.take (k + 1)) r = freeL (t.d.lks.take k) r ++ [if o = some r then none else o] := by
      unfold freeL
      rw [List.take_add_one, ho, List.map_append]
      rfl
    have gl : ∀ {B2 H2 : Hp} {Γ : List (Option AV)}, YAt C CT B2 H2 t.y t.A t.ta { t.d with lks := freeL (t.d.lks.take k) r ++ t.d.lks.drop k } → Γ[0]? = some (some (.v (.ref t.y))) → Gv (tFld K (tVar 0) "locks") Γ B2 H2 (.v (.ref t.A.lks)) := fun h2 hg => gv_fld (g := .v (.ref t.A.lks)) (gv_var hg) h2.ob T.cl_Yard T.na_Yard_locks (yk (i := 6) (by decide +kernel) (by decide) rfl) rfl
    refine qx_when (b := decide (o = some r)) ?_ (fun hb B2 H2 x2 => ?_) fun hb B2 H2 x2 => ?_
    · refine gt_is (gt_test (gv_op (x := .d (enc o)) (gv_op (gl h1 rfl) (gv_var rfl) (ro_ixO h1.hlks (atI_map hcur))) (gv_var rfl) (ro_eq ?_))) (eq_oi o r)
      cases o <;> rfl
    · have h2 := h1.ext x2
      refine qx_set (d := .none) (k := (k : Int)) (j := k) h2.hlks gv_non (fun _ _ x => gl (h2.ext x) rfl) (fun _ _ _ => gv_var rfl) (by unfold ixN; rw [if_pos (by omega), if_pos (by rw [List.length_map, List.length_append, hlen, List.length_drop]; omega)]; rfl) fun B3 H3 x3 m3 => sx_go ?_
      have e3 : ((freeL (t.d.lks.take k) r ++ t.d.lks.drop k).map enc).set k PyData.none = (freeL (t.d.lks.take (k + 1)) r ++ t.d.lks.drop (k + 1)).map enc := by
        rw [htake, hdrop, if_pos (of_decide_eq_true hb), List.append_assoc]
        show ((freeL (t.d.lks.take k) r ++ o :: t.d.lks.drop (k + 1)).map enc).set k (enc (none : Option Int)) = _
        rw [← List.map_set, List.set_append_right _ _ (by omega), hlen, Nat.sub_self]
        rfl
      rw [e3] at m3
      exact sx_lp (s2.trans (x2.bb.trans x3.bb)) (by walk_at "le") ⟨(x1.trans x2.f).trans x3, h2.setLks x3 m3⟩
    · have e3 : freeL (t.d.lks.take k) r ++ t.d.lks.drop k = freeL (t.d.lks.take (k + 1)) r ++ t.d.lks.drop (k + 1) := by
        rw [htake, hdrop, if_neg (of_decide_eq_false hb), List.append_assoc]
        rfl
      exact sx_lp (s2.trans x2.bb) (by walk_at "le") ⟨x1.trans x2.f, by rw [← e3]; exact h1.ext x2⟩
  · intro B1 H1 s1 ⟨x1, h1⟩
    rw [Int.toNat_natCast, List.take_length, List.drop_length, List.append_nil] at h1
    exact sx_next fun e2 σ fr => q _ rfl t.ta B1 H1 (x1.mono fun z hz => by rw [hz]; simp [own]) h1 fun a ha => .inl ha
end
end SB
namespace SB
open PySem PySem.Spec PyProof.Rows L2
open Enc (enc)
local macro_rules | `(tactic| walk_at "le") => `(tactic| first | exact le_nil | (refine le_keep ?_; walk_at "le") | (refine le_drop ?_; walk_at "le"))
local macro_rules | `(tactic| walk_at "sd") => `(tactic| first | assumption | (show (_ : Int) < _ ∧ _ < (1073741824 : Int); exact ⟨by omega, by omega⟩) | (show (-(2 ^ 64) < (_ : Int) ∧ _ < (2 ^ 64 : Int)) ∨ _; first | exact .inl ⟨by omega, by omega⟩ | exact .inr ⟨by omega, by omega⟩) | rfl | decide | (simp; done) | omega | skip)
local macro_rules | `(tactic| walk_at "gc") => `(tactic| fail)
local macro_rules | `(tactic| walk_at "gv") => `(tactic| first
  | exact gv_int | exact gv_str | exact gv_bl | exact gv_non | exact gv_var rfl
  | ((with_reducible refine' gv_op ?_ ?_ ?_) <;> walk_at "gv")
  | ((with_reducible refine' ga_cons ?_ ?_) <;> walk_at "gv") | exact ga_nil
  | ((with_reducible refine' gv_cb ?_ ?_) <;> walk_at "gv")
  | ((with_reducible refine' gt_test ?_) <;> walk_at "gv") | ((with_reducible refine' gt_B ?_) <;> walk_at "gv") | ((with_reducible refine' gt_not ?_) <;> walk_at "gv")
  | ((with_reducible refine' gt_and ?k1 ?k2); (case' k1 => walk_at "gv"); (case' k2 => intro hb; walk_at "gv"))
  | ((with_reducible refine' gt_or ?k1 ?k2); (case' k1 => walk_at "gv"); (case' k2 => intro hb; walk_at "gv"))
  | ((with_reducible refine' gv_andV ?k1 ?k2); (case' k1 => walk_at "gv"); (case' k2 => intro hb; walk_at "gv"))
  | ((with_reducible refine' gv_orV ?k1 ?k2); (case' k1 => walk_at "gv"); (case' k2 => intro hb; walk_at "gv"))
  | ((with_reducible refine' gv_notV ?_) <;> walk_at "gv")
  | ((with_reducible refine' gv_slL ?_ ?_ ?_) <;> walk_at "gv") | ((with_reducible refine' gv_slT ?_ ?_ ?_ ?_) <;> walk_at "gv")
  | exact go_none | ((with_reducible refine' go_some ?_) <;> walk_at "gv")
  | exact gd_nil | ((with_reducible refine' gd_cons ?_ ?_) <;> walk_at "gv") | ((with_reducible refine' gv_lst ?_ ?_) <;> walk_at "gv") | ((with_reducible refine' gv_tup ?_ ?_) <;> walk_at "gv")
  | ((with_reducible refine' gv_chain ?_ ?_ ?_ ?_ ?_) <;> walk_at "gv") | ((with_reducible refine' gt_truL ?_) <;> walk_at "gv") | ((with_reducible refine' gv_countI ?_ ?_) <;> walk_at "gv")
  | ((with_reducible refine' gv_lenSetI ?_ ?_) <;> walk_at "gv") | ((with_reducible refine' gv_lenSetU ?_ ?_) <;> walk_at "gv") | ((with_reducible refine' gv_lenSetT ?_ ?_) <;> walk_at "gv")
  | exact gt_yes
  | walk_at "gc"
  | exact ro_I0 | exact ro_B0 | (refine ro_I ?_; walk_at "sd")
  | exact ro_eqI | exact ro_neI | exact ro_eqS | exact ro_neS
  | (refine ro_eq ?_; walk_at "sd") | (refine ro_ne ?_; walk_at "sd")
  | exact ro_isN | exact ro_notN
  | exact ro_inI | exact ro_notInI | exact ro_inTI
  | (refine' ro_ixL ?k1; (case' k1 => walk_at "sd")) | (refine' ro_ixT ?k1; (case' k1 => walk_at "sd"))
  | (refine ro_cat ?_; walk_at "sd")
  | exact rc_lenM | exact rc_len | exact rc_lenT | exact rc_list | exact rc_listT | exact rc_tuple | exact rc_any | exact rc_all | exact rc_max2 | exact rc_min2 | exact rc_intB
  | (show (_ : Nat) ≤ _; first | decide | (simp; done) | omega)
  | (show (_ : Nat) < _; first | decide | (simp; done) | omega)
  | (show ¬ (_ ∧ _); exact fun h => absurd (show (1 : Nat) = 0 from h.1) (by decide))
  | skip)
local macro_rules | `(tactic| walk_at "ge") => `(tactic| (refine' gt_is ?k1 ?k2; (case' k1 => walk_at "gv"); (case' k2 => first | rfl | (simp; done) | skip)))
local macro_rules | `(tactic| walk_at "gw") => `(tactic| (refine' gv_is ?k1 ?k2; (case' k1 => walk_at "gv"); (case' k2 => first | rfl | (simp; done) | skip)))
local macro_rules | `(tactic| walk_at "gj") => `(tactic| first | exact gi_nil | (refine' gi_cons ?g1 ?g2; (case' g1 => walk_at "gv"); (case' g2 => walk_at "gj")))
local macro_rules | `(tactic| walk_at "gi") => `(tactic| (refine' gv_lst ?k1 ?k2; (case' k1 => walk_at "gj"); (case' k2 => (simp; try omega))))
local macro_rules | `(tactic| walk_at "gc") => `(tactic| first | ((with_reducible refine' gv_joints ?_) <;> walk_at "gv") | ((with_reducible refine' gv_beyond ?_ ?_ ?_ ?_) <;> walk_at "gv") | ((with_reducible refine' gv_outs ?_ ?_) <;> walk_at "gv") | ((with_reducible refine' gv_ends ?_ ?_ ?_ ?_ ?_) <;> walk_at "gv"))
/-! ### points are thrown -/
section
variable {C : Adr} {P : Program} {w : World} {K : PySem.W.Frag} {mg : Str → Option Value} {base : Heap} {fd : FuncData} {f : Addr} {CT : Addr}
abbrev s_throw : Stmt := top 28
abbrev N_throw : List Str := ["yard", "at", "lie"]
theorem sc_throw : FnScope N_throw ["yard", "at"] (defScope s_throw) := ⟨rfl, rfl, rfl, by decide +kernel, rfl, by decide +kernel, by decide +kernel⟩
def Lie.other : Lie → Lie
  | .st => .br
  | _ => .st
def throwF (C : Adr) (d : Wd) (i : Int) : Except Addr Wd := if (there d.ps.length i && !decide (lieN d i = .no)) = true then (if heldN d i = true then .error C.Held else .ok { d with pts := d.pts.set i.toNat (lieN d i).other }) else .error C.NotThere
def spThrow (K : PySem.W.Frag) (C : Adr) (CT : Addr) : Sp := spW K C CT (T := YArg × Int) (fun t => [.v (.ref t.1.y), AI t.2]) (·.1) (fun _ => True) fun t => throwF C t.1.d t.2
theorem ok_throw (T : Txt K mg C) (F : Fun K "throw" "throw" s_throw f fd) (c_Yard_lies : Met P w K mg base (L2.CX P w) 2 C.Yard "lies" (spLies K C CT)) (c_Yard_is_held : Met P w K mg base (L2.CX P w) 3 C.Yard "is_held" (spIsHeld K C CT)) : FnOk P w K mg base (L2.CX P w) 4 f fd ["yard", "at"] (spThrow K C CT) := by
  refine F.okX sc_throw (fun vs H Q E h => ?_) (fun cdv A outer s H vs Q E hr h => ?_)
  · obtain ⟨t, B, _, i, _⟩ := h
    exact i.length
  obtain ⟨⟨t, i⟩, B, e, ia, h, ft, _, q, qe⟩ := h
  have h : YP K C CT t B H := h
  have ft : Fit t.d := ft
  have q : ∀ d', throwF C t.d i = .ok d' → ∀ ta' B2 H2, ExtF (· ∈ own t.y t.A t.ta) B H B2 H2 → YAt C CT B2 H2 t.y t.A ta' d' → (∀ a ∈ own t.y t.A ta', a ∈ own t.y t.A t.ta ∨ H a = none) → Q .non H2 := q
  have qe : ∀ c, throwF C t.d i = .error c → ∀ B2 H2, Ext B H B2 H2 → E (.ref c) none H2 := qe
  refine ⟨_, pss_cons (ps_set (i := 2) sc_throw.nd rfl (by first | exact Or.inl rfl | exact Or.inr rfl) (pe_met c_Yard_lies T.cl_Yard hr (by first | decide | omega) (passX (takes_of rfl rfl rfl rfl)) (pv 0) (pa_cons (pv 1) (pa_nil))))
  (pss_cons (ps_if (pt_val (pe_met c_Yard_is_held T.cl_Yard hr (by first | decide | omega) (passX (takes_of rfl rfl rfl rfl)) (pv 0) (pa_cons (pv 1) (pa_nil)))) (pss_cons (ps_raise rfl (takes_of rfl rfl rfl rfl) (pmk_own PySem.F.excBase_ValueError T.e_Held.x T.e_Held.g T.e_Held.k (raises_own T.e_Held.b T.e_Held.t) rfl))
  (pss_nil)) (pss_nil))
  (pss_cons (ps_asg (pe_ifExp (pt_cmpR op_eq (pv 2) (pe_globS rfl T.g_STRAIGHT) (nomark _)) (pe_globS rfl T.g_BRANCH) (pe_globS rfl T.g_STRAIGHT)) (pg_sub (pe_fldK (K := K) rfl (pv 0) rfl) (pv 1) set_list))
  (pss_nil))), ?_⟩
  refine Sx.run (Γ := Γ0 N_throw [.v (.ref t.y), AI i]) (B := B) ?_ e (fr_start ia (by rw [ia.length]; show 2 ≤ 3; decide))
  refine qx_asgX (gx_met (t, i) (gv_var rfl) h.1.ob (ym (by decide +kernel)) (ga_cons (gv_var rfl) ga_nil) rfl fun _ _ x => ⟨h.ext x, ft⟩) (fun g B2 H2 hg x2 => ?_) fun c B2 H2 hc x2 => ?_
  rotate_left
  · have hc : (if (there t.d.ps.length i && !decide (lieN t.d i = .no)) = true then Except.ok (AV.d (enc (lieN t.d i))) else Except.error C.NotThere) = Except.error c := hc
    refine qe c ?_ B2 H2 x2
    unfold throwF
    cases hth : (there t.d.ps.length i && !decide (lieN t.d i = .no)) with
    | true => rw [hth, if_pos rfl] at hc; cases hc
    | false =>
      rw [hth] at hc
      cases hc
      rfl
  have hg : (if (there t.d.ps.length i && !decide (lieN t.d i = .no)) = true then Except.ok (AV.d (enc (lieN t.d i))) else Except.error C.NotThere) = Except.ok g := hg
  cases hth : (there t.d.ps.length i && !decide (lieN t.d i = .no)) with
  | false => rw [hth] at hg; cases hg
  | true =>
    rw [hth, if_pos rfl] at hg
    cases hg
    unfold throwF at q qe
    rw [hth, if_pos rfl] at q qe
    rw [Bool.and_eq_true] at hth
    have h2 := h.ext x2
    obtain ⟨k, o, rfl, ho, hat⟩ := there_at (xs := t.d.pts) (i := i) (by rw [ft.lp]; exact hth.1)
    have e1 : lieN t.d (k : Int) = o := by unfold lieN; rw [Int.toNat_natCast, ho]; rfl
    rw [e1, Int.toNat_natCast] at q
    have hlt := (List.getElem?_eq_some_iff.mp ho).1
    refine qx_when (b := heldN t.d (k : Int)) (gt_test (gv_metR (t, (k : Int)) (gv_var rfl) h2.1.ob (ym (by decide +kernel)) (ga_cons (gv_var rfl) ga_nil) rfl (fun _ _ x => ⟨h2.ext x, ft, hth.1⟩) rfl)) (fun hb B3 H3 x3 => ?_) fun hb B3 H3 x3 => ?_
    · exact qx_raise fun _ => qe _ (by rw [if_pos hb]) B3 H3 (x2.trans x3)
    · rw [if_neg (by rw [hb]; simp)] at q
      have h3 := h2.ext x3
      have no : o ≠ .no := by
        have := hth.2
        rw [e1] at this
        simpa using this
      refine qx_set (d := enc o.other) (k := (k : Int)) (j := k) h3.1.hpts ?_ (fun _ _ x => gy_points T (h3.1.ext x) (gv_var rfl)) (fun _ _ _ => gv_var rfl) (by unfold ixN; rw [if_pos (by omega), if_pos (by rw [List.length_map]; omega)]; rfl) fun B4 H4 x4 m4 => ?_
      · rw [e1]
        refine gv_is (gv_ite (b := decide (o = Lie.st)) (x := AS "branch") (y := AS "straight") (gt_is (gt_test (gv_op (gv_var rfl) gv_str (ro_eq ?_))) ?_) (fun _ => gv_str) fun _ => gv_str) ?_
        · cases o <;> rfl
        · cases o <;> simp [enc, encLie, PyData.eqv, br_st]
        · cases o
          · exact absurd rfl no
          · rfl
          · rfl
      · rw [show (t.d.pts.map enc).set k (enc o.other) = (t.d.pts.set k o.other).map enc by rw [List.map_set]] at m4
        exact sx_next fun e2 σ fr => q _ rfl t.ta B4 H4 (((x2.trans x3).f).trans (x4.mono fun z hz => by rw [hz]; simp [own])) (h3.1.setPts x4 m4) fun a ha => .inl ha
end
end SB
namespace SB
open PySem PySem.Spec PyProof.Rows L2
open Enc (enc)
local macro_rules | `(tactic| walk_at "le") => `(tactic| first | exact le_nil | (refine le_keep ?_; walk_at "le") | (refine le_drop ?_; walk_at "le"))
local macro_rules | `(tactic| walk_at "sd") => `(tactic| first | assumption | (show (_ : Int) < _ ∧ _ < (1073741824 : Int); exact ⟨by omega, by omega⟩) | (show (-(2 ^ 64) < (_ : Int) ∧ _ < (2 ^ 64 : Int)) ∨ _; first | exact .inl ⟨by omega, by omega⟩ | exact .inr ⟨by omega, by omega⟩) | rfl | decide | (simp; done) | omega | skip)
local macro_rules | `(tactic| walk_at "gc") => `(tactic| fail)
local macro_rules | `(tactic| walk_at "gv") => `(tactic| first
  | exact gv_int | exact gv_str | exact gv_bl | exact gv_non | exact gv_var rfl
  | ((with_reducible refine' gv_op ?_ ?_ ?_) <;> walk_at "gv")
  | ((with_reducible refine' ga_cons ?_ ?_) <;> walk_at "gv") | exact ga_nil
  | ((with_reducible refine' gv_cb ?_ ?_) <;> walk_at "gv")
  | ((with_reducible refine' gt_test ?_) <;> walk_at "gv") | ((with_reducible refine' gt_B ?_) <;> walk_at "gv") | ((with_reducible refine' gt_not ?_) <;> walk_at "gv")
  | ((with_reducible refine' gt_and ?k1 ?k2); (case' k1 => walk_at "gv"); (case' k2 => intro hb; walk_at "gv"))
  | ((with_reducible refine' gt_or ?k1 ?k2); (case' k1 => walk_at "gv"); (case' k2 => intro hb; walk_at "gv"))
  | ((with_reducible refine' gv_andV ?k1 ?k2); (case' k1 => walk_at "gv"); (case' k2 => intro hb; walk_at "gv"))
  | ((with_reducible refine' gv_orV ?k1 ?k2); (case' k1 => walk_at "gv"); (case' k2 => intro hb; walk_at "gv"))
  | ((with_reducible refine' gv_notV ?_) <;> walk_at "gv")
  | ((with_reducible refine' gv_slL ?_ ?_ ?_) <;> walk_at "gv") | ((with_reducible refine' gv_slT ?_ ?_ ?_ ?_) <;> walk_at "gv")
  | exact go_none | ((with_reducible refine' go_some ?_) <;> walk_at "gv")
  | exact gd_nil | ((with_reducible refine' gd_cons ?_ ?_) <;> walk_at "gv") | ((with_reducible refine' gv_lst ?_ ?_) <;> walk_at "gv") | ((with_reducible refine' gv_tup ?_ ?_) <;> walk_at "gv")
  | ((with_reducible refine' gv_chain ?_ ?_ ?_ ?_ ?_) <;> walk_at "gv") | ((with_reducible refine' gt_truL ?_) <;> walk_at "gv") | ((with_reducible refine' gv_countI ?_ ?_) <;> walk_at "gv")
  | ((with_reducible refine' gv_lenSetI ?_ ?_) <;> walk_at "gv") | ((with_reducible refine' gv_lenSetU ?_ ?_) <;> walk_at "gv") | ((with_reducible refine' gv_lenSetT ?_ ?_) <;> walk_at "gv")
  | exact gt_yes
  | walk_at "gc"
  | exact ro_I0 | exact ro_B0 | (refine ro_I ?_; walk_at "sd")
  | exact ro_eqI | exact ro_neI | exact ro_eqS | exact ro_neS
  | (refine ro_eq ?_; walk_at "sd") | (refine ro_ne ?_; walk_at "sd")
  | exact ro_isN | exact ro_notN
  | exact ro_inI | exact ro_notInI | exact ro_inTI
  | (refine' ro_ixL ?k1; (case' k1 => walk_at "sd")) | (refine' ro_ixT ?k1; (case' k1 => walk_at "sd"))
  | (refine ro_cat ?_; walk_at "sd")
  | exact rc_lenM | exact rc_len | exact rc_lenT | exact rc_list | exact rc_listT | exact rc_tuple | exact rc_any | exact rc_all | exact rc_max2 | exact rc_min2 | exact rc_intB
  | (show (_ : Nat) ≤ _; first | decide | (simp; done) | omega)
  | (show (_ : Nat) < _; first | decide | (simp; done) | omega)
  | (show ¬ (_ ∧ _); exact fun h => absurd (show (1 : Nat) = 0 from h.1) (by decide))
  | skip)
local macro_rules | `(tactic| walk_at "ge") => `(tactic| (refine' gt_is ?k1 ?k2; (case' k1 => walk_at "gv"); (case' k2 => first | rfl | (simp; done) | skip)))
local macro_rules | `(tactic| walk_at "gw") => `(tactic| (refine' gv_is ?k1 ?k2; (case' k1 => walk_at "gv"); (case' k2 => first | rfl | (simp; done) | skip)))
local macro_rules | `(tactic| walk_at "gj") => `(tactic| first | exact gi_nil | (refine' gi_cons ?g1 ?g2; (case' g1 => walk_at "gv"); (case' g2 => walk_at "gj")))
local macro_rules | `(tactic| walk_at "gi") => `(tactic| (refine' gv_lst ?k1 ?k2; (case' k1 => walk_at "gj"); (case' k2 => (simp; try omega))))
local macro_rules | `(tactic| walk_at "gc") => `(tactic| first | ((with_reducible refine' gv_joints ?_) <;> walk_at "gv") | ((with_reducible refine' gv_beyond ?_ ?_ ?_ ?_) <;> walk_at "gv") | ((with_reducible refine' gv_outs ?_ ?_) <;> walk_at "gv") | ((with_reducible refine' gv_ends ?_ ?_ ?_ ?_ ?_) <;> walk_at "gv"))
/-! ### a route is set -/
section
variable {C : Adr} {P : Program} {w : World} {K : PySem.W.Frag} {mg : Str → Option Value} {base : Heap} {fd : FuncData} {f : Addr} {CT : Addr}
abbrev s_set_route : Stmt := top 23
abbrev N_set_route : List Str := ["yard", "route", "way", "step", "lie"]
theorem sc_set_route : FnScope N_set_route ["yard", "route"] (defScope s_set_route) := ⟨rfl, rfl, rfl, by decide +kernel, rfl, by decide +kernel, by decide +kernel⟩
def wayOf (d : Wd) (r : Int) : List Stp := ((d.rts[r.toNat]?).getD (-1, [])).2
/-- all ways go over pieces that are there -/
def WayOk (d : Wd) : Prop := ∀ t ∈ d.rts, t.2.length ≤ 1000 ∧ ∀ st ∈ t.2, there d.ps.length st.p = true
def layOne (ps : List Pc) (r : Int) (s : List (Option Int) × List Lie) (st : Stp) : List (Option Int) × List Lie :=
  (s.1.set st.p.toNat (some r), if lieFor ((ps[st.p.toNat]?).getD (.plain 0 0)) [st.i, st.o] = .no then s.2 else s.2.set st.p.toNat (lieFor ((ps[st.p.toNat]?).getD (.plain 0 0)) [st.i, st.o]))
def layWay (ps : List Pc) (r : Int) (way : List Stp) (s : List (Option Int) × List Lie) : List (Option Int) × List Lie := way.foldl (layOne ps r) s
def setF (C : Adr) (d : Wd) (r : Int) : Except Addr Wd := if there d.rts.length r = true then (if (wayOf d r).any (fun st => heldN d st.p) = true then .error C.Held else
  .ok { d with lks := (layWay d.ps r (wayOf d r) (d.lks, d.pts)).1, pts := (layWay d.ps r (wayOf d r) (d.lks, d.pts)).2, grn := d.grn ++ [r] }) else .error C.NotThere
def spSet (K : PySem.W.Frag) (C : Adr) (CT : Addr) : Sp := spW K C CT (T := YArg × Int) (fun t => [.v (.ref t.1.y), AI t.2]) (·.1) (fun t => WayOk t.1.d) fun t => setF C t.1.d t.2
theorem layOne_len {ps : List Pc} {r : Int} {s : List (Option Int) × List Lie} {st : Stp} : (layOne ps r s st).1.length = s.1.length ∧ (layOne ps r s st).2.length = s.2.length := by
  unfold layOne
  refine ⟨List.length_set, ?_⟩
  show (if _ then _ else _ : List Lie).length = _
  split
  · rfl
  · exact List.length_set
theorem layWay_len {ps : List Pc} {r : Int} : ∀ (way : List Stp) (s : List (Option Int) × List Lie), (layWay ps r way s).1.length = s.1.length ∧ (layWay ps r way s).2.length = s.2.length
  | [], _ => ⟨rfl, rfl⟩
  | st :: way, s => by
    have h1 := layWay_len (ps := ps) (r := r) way (layOne ps r s st)
    have h2 := layOne_len (ps := ps) (r := r) (s := s) (st := st)
    exact ⟨h1.1.trans h2.1, h1.2.trans h2.2⟩
theorem gx_needR {Γ : List (Option AV)} {B H : Hp} {t : YArg} {ta tb : TE} {E : XK} {i : Int} (h : YP K C CT t B H) (ha : Gv ta Γ B H (.v (.ref t.y))) (hb : Gv tb Γ B H (AI i)) : Gx E (tCall (spNeedR K C CT) [] E (tCons ta (tCons tb tNil))) Γ B H (if there t.d.rts.length i = true then .ok AN else .error C.NotThere) :=
  gx_call (t, i) (ga_cons ha (ga_cons hb ga_nil)) fun _ _ x => h.ext x
theorem gv_lieFor {Γ : List (Option AV)} {B H : Hp} {ta tb : TE} {E : XK} {p : Pc} {ws : List Int} (ha : Gv ta Γ B H (.d (enc p))) (hb : Gv tb Γ B H (.d (.tuple (ws.map enc)))) : Gv (tCall spLieFor [] E (tCons ta (tCons tb tNil))) Γ B H (.d (enc (lieFor p ws))) := gv_call (p, ws) (ga_cons ha (ga_cons hb ga_nil)) fun _ _ _ => trivial
theorem gz_locks {Γ : List (Option AV)} {B H : Hp} {y : Addr} {A : YAd} {ta : List (Addr × Addr)} {d : Wd} {te : TE} (T : Txt K mg C) (h : YAt C CT B H y A ta d) (ha : Gv te Γ B H (.v (.ref y))) : Gv (tFld K te "locks") Γ B H (.v (.ref A.lks)) := gy_locks T (t := ⟨y, A, ta, d⟩) h ha
theorem gz_points {Γ : List (Option AV)} {B H : Hp} {y : Addr} {A : YAd} {ta : List (Addr × Addr)} {d : Wd} {te : TE} (T : Txt K mg C) (h : YAt C CT B H y A ta d) (ha : Gv te Γ B H (.v (.ref y))) : Gv (tFld K te "points") Γ B H (.v (.ref A.pts)) := gy_points T (t := ⟨y, A, ta, d⟩) h ha
theorem gz_green {Γ : List (Option AV)} {B H : Hp} {y : Addr} {A : YAd} {ta : List (Addr × Addr)} {d : Wd} {te : TE} (T : Txt K mg C) (h : YAt C CT B H y A ta d) (ha : Gv te Γ B H (.v (.ref y))) : Gv (tFld K te "green") Γ B H (.v (.ref A.grn)) := gy_green T (t := ⟨y, A, ta, d⟩) h ha
theorem gz_pieces {Γ : List (Option AV)} {B H : Hp} {y : Addr} {A : YAd} {ta : List (Addr × Addr)} {d : Wd} {te : TE} (T : Txt K mg C) (h : YAt C CT B H y A ta d) (ha : Gv te Γ B H (.v (.ref y))) : Gv (tFld K te "pieces") Γ B H (.d (.list (d.ps.map enc))) := gy_pieces T (t := ⟨y, A, ta, d⟩) h ha
theorem ok_set_route (T : Txt K mg C) (F : Fun K "set_route" "set_route" s_set_route f fd) (c_need_route : Cal P w K mg base (L2.CX P w) 1 "need_route" (spNeedR K C CT)) (c_lie_for : Cal P w K mg base CX0 1 "lie_for" spLieFor) (c_Yard_is_held : Met P w K mg base (L2.CX P w) 3 C.Yard "is_held" (spIsHeld K C CT)) :
    FnOk P w K mg base (L2.CX P w) 4 f fd ["yard", "route"] (spSet K C CT) := by
  refine F.okX sc_set_route (fun vs H Q E h => ?_) (fun cdv A outer s H vs Q E hr h => ?_)
  · obtain ⟨t, B, _, i, _⟩ := h
    exact i.length
  obtain ⟨⟨t, r⟩, B, e, ia, h, ft, wo, q, qe⟩ := h
  have h : YP K C CT t B H := h
  have ft : Fit t.d := ft
  have wo : WayOk t.d := wo
  have q : ∀ d', setF C t.d r = .ok d' → ∀ ta' B2 H2, ExtF (· ∈ own t.y t.A t.ta) B H B2 H2 → YAt C CT B2 H2 t.y t.A ta' d' → (∀ a ∈ own t.y t.A ta', a ∈ own t.y t.A t.ta ∨ H a = none) → Q .non H2 := q
  have qe : ∀ c, setF C t.d r = .error c → ∀ B2 H2, Ext B H B2 H2 → E (.ref c) none H2 := qe
  refine ⟨_, pss_cons (ps_expr (pe_cal c_need_route hr (by first | decide | omega) rfl (passX (takes_of rfl rfl rfl rfl)) (pa_cons (pv 0) (pa_cons (pv 1) (pa_nil)))))
  (pss_cons (ps_set (i := 2) sc_set_route.nd rfl (by first | exact Or.inl rfl | exact Or.inr rfl) (pe_ix (ix_tupK (K := K) rfl) (pe_ix (ix_listK (K := K) rfl) (pe_fldK (K := K) rfl (pv 0) rfl) (pv 1) (fun _ _ => rfl)) (pe_int) (fun _ _ => rfl)))
  (pss_cons (ps_if (pt_val (pe_callB (cr_anyK (K := K) rfl rfl) (by rfl) T.n_any (by decide +kernel) (pa_cons (pe_lc (own := [("step", 3)]) (g := gName 3) (tt := tYes) (by rfl) sc_set_route.nd (pi_listK (K := K) rfl (pv 2)) (blkOk_by (own := [("step", 3)]) (N := N_set_route) (sc := defScope s_set_route) (by decide +kernel)) (fun _ _ _ _ _ => pg_name (i := 3) sc_set_route.nd rfl (Or.inl rfl)) (fun _ _ _ _ _ => pts_nil) (fun _ _ _ _ _ => pe_met c_Yard_is_held T.cl_Yard hr (by first | decide | omega) passF (pv 0) (pa_cons (pe_ix (ix_tupK (K := K) rfl) (pv 3) (pe_int) (fun _ _ => rfl)) (pa_nil)))) (pa_nil)))) (pss_cons (ps_raise rfl (takes_of rfl rfl rfl rfl) (pmk_own PySem.F.excBase_ValueError T.e_Held.x T.e_Held.g T.e_Held.k (raises_own T.e_Held.b T.e_Held.t) rfl))
  (pss_nil)) (pss_nil))
  (pss_cons (ps_for (passes_of rfl) rfl (pi_listK (K := K) rfl (pv 2)) (pg_name (i := 3) sc_set_route.nd rfl (by first | exact Or.inl rfl | exact Or.inr rfl)) (pss_cons (ps_asg (pv 1) (pg_sub (pe_fldK (K := K) rfl (pv 0) rfl) (pe_ix (ix_tupK (K := K) rfl) (pv 3) (pe_int) (fun _ _ => rfl)) set_list))
  (pss_cons (ps_set (i := 4) sc_set_route.nd rfl (by first | exact Or.inl rfl | exact Or.inr rfl) (pe_cal c_lie_for hr (by first | decide | omega) rfl passN (pa_cons (pe_ix (ix_listK (K := K) rfl) (pe_fldK (K := K) rfl (pv 0) rfl) (pe_ix (ix_tupK (K := K) rfl) (pv 3) (pe_int) (fun _ _ => rfl)) (fun _ _ => rfl)) (pa_cons (pe_slice (sl_tupK (K := K) rfl) (pv 3) (po_some (pe_int)) (po_none)) (pa_nil)))))
  (pss_cons (ps_if (pt_cmpR op_notN (pv 4) (pe_non) (nomark _)) (pss_cons (ps_asg (pv 4) (pg_sub (pe_fldK (K := K) rfl (pv 0) rfl) (pe_ix (ix_tupK (K := K) rfl) (pv 3) (pe_int) (fun _ _ => rfl)) set_list))
  (pss_nil)) (pss_nil))
  (pss_nil)))))
  (pss_cons (ps_expr (pe_bmK (K := K) rfl PySem.F.plainAttrs_list PySem.F.slot_list_append PySem.F.type_list_append mt_append (pe_fldK (K := K) rfl (pv 0) rfl) (pa_cons (pv 1) (pa_nil))))
  (pss_nil))))), ?_⟩
  refine Sx.run (Γ := Γ0 N_set_route [.v (.ref t.y), AI r]) (B := B) ?_ e (fr_start ia (by rw [ia.length]; show 2 ≤ 5; decide))
  refine qx_dropX (gx_needR h (gv_var rfl) (gv_var rfl)) (fun g B2 H2 hg x2 => ?_) fun c B2 H2 hc x2 => ?_
  rotate_left
  · refine qe c ?_ B2 H2 x2
    unfold setF
    cases hth : there t.d.rts.length r with
    | true => rw [hth, if_pos rfl] at hc; cases hc
    | false => rw [hth] at hc; cases hc; rfl
  cases hth : there t.d.rts.length r with
  | false => rw [hth] at hg; cases hg
  | true =>
    unfold setF at q qe
    rw [hth, if_pos rfl] at q qe
    have h2 := h.ext x2
    obtain ⟨k, ⟨sn, way⟩, rfl, ho, hat⟩ := there_at (xs := t.d.rts) (i := r) hth
    have ew : wayOf t.d (k : Int) = way := by unfold wayOf; rw [Int.toNat_natCast, ho]; rfl
    rw [ew] at q qe
    obtain ⟨hwl, hwt⟩ := wo _ (List.mem_of_getElem? ho)
    have hwl : way.length ≤ 1000 := hwl
    have hwt : ∀ st ∈ way, there t.d.ps.length st.p = true := hwt
    refine qx_asg (g := .d (.list (way.map enc))) (gv_op (gv_op (gy_routes T h2.1 (gv_var rfl)) (gv_var rfl) (ro_ixL hat)) gv_int (ro_ixT (ds := [.int sn, enc way]) (d := enc way) rfl)) fun B3 H3 x3 => ?_
    have h3 := h2.ext x3
    refine qx_when (b := way.any fun st => heldN t.d st.p) (gt_test (gv_is (gv_cb (ga_cons (gv_lcM (xs := way) (fun st => heldN t.d st.p) (gv_var rfl) (by omega) (by decide) (by decide) fun st hm B4 H4 x4 => ?_) ga_nil) rc_any) (by rw [List.any_map]; rfl))) (fun hb B4 H4 x4 => ?_) fun hb B4 H4 x4 => ?_
    · exact gv_metR (t, st.p) (gv_var rfl) (h3.ext x4).1.ob (ym (by decide +kernel)) (ga_cons (gv_op (gv_var rfl) gv_int (ro_ixT (ds := [.int st.p, .int st.i, .int st.o]) rfl)) ga_nil) rfl (fun _ _ x => ⟨(h3.ext x4).ext x, ft, hwt st hm⟩) rfl
    · exact qx_raise fun _ => qe _ (by rw [if_pos hb]) B4 H4 ((x2.trans x3).trans x4)
    rw [if_neg (by rw [hb]; simp)] at q
    have h4 := h3.ext x4
    have x04 := (x2.trans x3).trans x4
    refine qx_forD (xs := way) (gv_var rfl) (fun _ => [some (.v (.ref t.y)), some (AI (k : Int)), some (.d (.list (way.map enc))), none, none])
      (fun n B1 H1 => ExtF (· ∈ own t.y t.A t.ta) B H B1 H1 ∧ YAt C CT B1 H1 t.y t.A t.ta { t.d with lks := (layWay t.d.ps (k : Int) (way.take n) (t.d.lks, t.d.pts)).1, pts := (layWay t.d.ps (k : Int) (way.take n) (t.d.lks, t.d.pts)).2 }) (by walk_at "le") (fun B5 H5 x5 => ⟨(x04.trans x5).f, h4.1.ext x5⟩) ?_ ?_
    · intro Bs n st B5 H5 hn s1 s2 ⟨x5, h5⟩
      have hm : st ∈ way := List.mem_of_getElem? hn
      have hth2 := hwt st hm
      have etake : layWay t.d.ps (k : Int) (way.take (n + 1)) (t.d.lks, t.d.pts) = layOne t.d.ps (k : Int) (layWay t.d.ps (k : Int) (way.take n) (t.d.lks, t.d.pts)) st := by
        unfold layWay
        rw [List.take_add_one, hn, List.foldl_append]
        rfl
      obtain ⟨ll1, ll2⟩ := layWay_len (ps := t.d.ps) (r := (k : Int)) (way.take n) (t.d.lks, t.d.pts)
      have ll1 : (layWay t.d.ps (k : Int) (way.take n) (t.d.lks, t.d.pts)).1.length = t.d.ps.length := ll1.trans ft.ll
      have ll2 : (layWay t.d.ps (k : Int) (way.take n) (t.d.lks, t.d.pts)).2.length = t.d.ps.length := ll2.trans ft.lp
      generalize layWay t.d.ps (k : Int) (way.take n) (t.d.lks, t.d.pts) = S at h5 etake ll1 ll2
      obtain ⟨m, pc, em, hpc, hpat⟩ := there_at (xs := t.d.ps) (i := st.p) hth2
      obtain ⟨sp, si, so⟩ := st
      have em : sp = (m : Int) := em
      subst em
      have hpat : atI (t.d.ps.map enc) (m : Int) = some (enc pc) := hpat
      have hml := (List.getElem?_eq_some_iff.mp hpc).1
      have six : ∀ {Γ : List (Option AV)} {B H : Hp}, Γ[3]? = some (some (.d (enc (⟨(m : Int), si, so⟩ : Stp)))) → Gv (tOp (rIxT K) (tVar 3) (tC (.int 0))) Γ B H (AI (m : Int)) := fun hg => gv_op (gv_var hg) gv_int (ro_ixT (ds := [.int (m : Int), .int si, .int so]) rfl)
      refine qx_set (d := enc (some (k : Int) : Option Int)) (k := (m : Int)) (j := m) h5.hlks (gv_var rfl) (fun _ _ x => gz_locks T (h5.ext x) (gv_var rfl)) (fun _ _ _ => six rfl) (by unfold ixN; rw [if_pos (by omega), if_pos (by rw [List.length_map, ll1]; omega)]; rfl) fun B6 H6 x6 m6 => ?_
      rw [← List.map_set] at m6
      have h6 := h5.setLks x6 m6
      have x06 := x5.trans (x6.mono (G := (· ∈ own t.y t.A t.ta)) fun z hz => by rw [hz]; simp [own])
      have elie : lieFor ((t.d.ps[((m : Int)).toNat]?).getD (.plain 0 0)) [si, so] = lieFor pc [si, so] := by rw [Int.toNat_natCast, hpc]; rfl
      refine qx_asg (g := .d (enc (lieFor pc [si, so]))) (gv_lieFor (gv_op (gz_pieces T h6 (gv_var rfl)) (six rfl) (ro_ixL hpat)) (gv_is (gv_slT (ds := [.int (m : Int), .int si, .int so]) (gv_var rfl) (go_some gv_int) go_none (fun h => absurd (show (1 : Nat) = 0 from h.1) (by decide))) rfl)) fun B7 H7 x7 => ?_
      have h7 := h6.ext x7
      have hnl : isN (AV.d (enc (lieFor pc [si, so]))) = decide (lieFor pc [si, so] = .no) := by cases lieFor pc [si, so] <;> rfl
      refine qx_when (b := !decide (lieFor pc [si, so] = .no)) (gt_is (gt_test (gv_op (gv_var rfl) gv_non ro_notN)) (by rw [hnl])) (fun hb B8 H8 x8 => ?_) fun hb B8 H8 x8 => ?_
      · have h8 := h7.ext x8
        have nno : ¬ lieFor pc [si, so] = .no := by simpa using hb
        refine qx_set (d := enc (lieFor pc [si, so])) (k := (m : Int)) (j := m) h8.hpts (gv_var rfl) (fun _ _ x => gz_points T (h8.ext x) (gv_var rfl)) (fun _ _ _ => six rfl) (by unfold ixN; rw [if_pos (by omega), if_pos (by rw [List.length_map, ll2]; omega)]; rfl) fun B9 H9 x9 m9 => sx_go ?_
        rw [← List.map_set] at m9
        have h9 := h8.setPts x9 m9
        refine sx_lp (s2.trans (x6.bb.trans (x7.bb.trans (x8.bb.trans x9.bb)))) (by walk_at "le") ⟨(x06.trans ((x7.trans x8).f)).trans (x9.mono fun z hz => by rw [hz]; simp [own]), ?_⟩
        rw [etake]
        unfold layOne
        rw [elie, if_neg nno, Int.toNat_natCast]
        exact h9
      · have h8 := h7.ext x8
        have yno : lieFor pc [si, so] = .no := by simpa using hb
        refine sx_lp (s2.trans (x6.bb.trans (x7.bb.trans x8.bb))) (by walk_at "le") ⟨x06.trans ((x7.trans x8).f), ?_⟩
        rw [etake]
        unfold layOne
        rw [elie, if_pos yno, Int.toNat_natCast]
        exact h8
    · intro B5 H5 s1 ⟨x5, h5⟩
      rw [List.take_length] at h5
      refine qx_app (d := .int (k : Int)) h5.hgrn (gz_green T h5 (gv_var rfl)) (gv_var rfl) (by rw [List.length_map]; have := ft.ng; show t.d.grn.length < _; have ng : t.d.grn.length ≤ 1000 := ft.ng; omega) fun B6 H6 x6 m6 => ?_
      have e6 : t.d.grn.map enc ++ [PyData.int (k : Int)] = (t.d.grn ++ [(k : Int)]).map enc := by rw [List.map_append]; rfl
      have m6 : Ml B6 H6 t.A.grn (t.d.grn.map enc ++ [PyData.int (k : Int)]) := m6
      rw [e6] at m6
      exact sx_next fun e2 σ fr => q _ rfl t.ta B6 H6 (x5.trans (x6.mono fun z hz => by rw [hz]; simp [own])) (h5.setGrn x6 m6) fun a ha => .inl ha
end
end SB
namespace SB
open PySem PySem.Spec PyProof.Rows L2
open Enc (enc)
local macro_rules | `(tactic| walk_at "le") => `(tactic| first | exact le_nil | (refine le_keep ?_; walk_at "le") | (refine le_drop ?_; walk_at "le"))
local macro_rules | `(tactic| walk_at "sd") => `(tactic| first | assumption | (show (_ : Int) < _ ∧ _ < (1073741824 : Int); exact ⟨by omega, by omega⟩) | (show (-(2 ^ 64) < (_ : Int) ∧ _ < (2 ^ 64 : Int)) ∨ _; first | exact .inl ⟨by omega, by omega⟩ | exact .inr ⟨by omega, by omega⟩) | rfl | decide | (simp; done) | omega | skip)
local macro_rules | `(tactic| walk_at "gc") => `(tactic| fail)
local macro_rules | `(tactic| walk_at "gv") => `(tactic| first
  | exact gv_int | exact gv_str | exact gv_bl | exact gv_non | exact gv_var rfl
  | ((with_reducible refine' gv_op ?_ ?_ ?_) <;> walk_at "gv")
  | ((with_reducible refine' ga_cons ?_ ?_) <;> walk_at "gv") | exact ga_nil
  | ((with_reducible refine' gv_cb ?_ ?_) <;> walk_at "gv")
  | ((with_reducible refine' gt_test ?_) <;> walk_at "gv") | ((with_reducible refine' gt_B ?_) <;> walk_at "gv") | ((with_reducible refine' gt_not ?_) <;> walk_at "gv")
  | ((with_reducible refine' gt_and ?k1 ?k2); (case' k1 => walk_at "gv"); (case' k2 => intro hb; walk_at "gv"))
  | ((with_reducible refine' gt_or ?k1 ?k2); (case' k1 => walk_at "gv"); (case' k2 => intro hb; walk_at "gv"))
  | ((with_reducible refine' gv_andV ?k1 ?k2); (case' k1 => walk_at "gv"); (case' k2 => intro hb; walk_at "gv"))
  | ((with_reducible refine' gv_orV ?k1 ?k2); (case' k1 => walk_at "gv"); (case' k2 => intro hb; walk_at "gv"))
  | ((with_reducible refine' gv_notV ?_) <;> walk_at "gv")
  | ((with_reducible refine' gv_slL ?_ ?_ ?_) <;> walk_at "gv") | ((with_reducible refine' gv_slT ?_ ?_ ?_ ?_) <;> walk_at "gv")
  | exact go_none | ((with_reducible refine' go_some ?_) <;> walk_at "gv")
  | exact gd_nil | ((with_reducible refine' gd_cons ?_ ?_) <;> walk_at "gv") | ((with_reducible refine' gv_lst ?_ ?_) <;> walk_at "gv") | ((with_reducible refine' gv_tup ?_ ?_) <;> walk_at "gv")
  | ((with_reducible refine' gv_chain ?_ ?_ ?_ ?_ ?_) <;> walk_at "gv") | ((with_reducible refine' gt_truL ?_) <;> walk_at "gv") | ((with_reducible refine' gv_countI ?_ ?_) <;> walk_at "gv")
  | ((with_reducible refine' gv_lenSetI ?_ ?_) <;> walk_at "gv") | ((with_reducible refine' gv_lenSetU ?_ ?_) <;> walk_at "gv") | ((with_reducible refine' gv_lenSetT ?_ ?_) <;> walk_at "gv")
  | exact gt_yes
  | walk_at "gc"
  | exact ro_I0 | exact ro_B0 | (refine ro_I ?_; walk_at "sd")
  | exact ro_eqI | exact ro_neI | exact ro_eqS | exact ro_neS
  | (refine ro_eq ?_; walk_at "sd") | (refine ro_ne ?_; walk_at "sd")
  | exact ro_isN | exact ro_notN
  | exact ro_inI | exact ro_notInI | exact ro_inTI
  | (refine' ro_ixL ?k1; (case' k1 => walk_at "sd")) | (refine' ro_ixT ?k1; (case' k1 => walk_at "sd"))
  | (refine ro_cat ?_; walk_at "sd")
  | exact rc_lenM | exact rc_len | exact rc_lenT | exact rc_list | exact rc_listT | exact rc_tuple | exact rc_any | exact rc_all | exact rc_max2 | exact rc_min2 | exact rc_intB
  | (show (_ : Nat) ≤ _; first | decide | (simp; done) | omega)
  | (show (_ : Nat) < _; first | decide | (simp; done) | omega)
  | (show ¬ (_ ∧ _); exact fun h => absurd (show (1 : Nat) = 0 from h.1) (by decide))
  | skip)
local macro_rules | `(tactic| walk_at "ge") => `(tactic| (refine' gt_is ?k1 ?k2; (case' k1 => walk_at "gv"); (case' k2 => first | rfl | (simp; done) | skip)))
local macro_rules | `(tactic| walk_at "gw") => `(tactic| (refine' gv_is ?k1 ?k2; (case' k1 => walk_at "gv"); (case' k2 => first | rfl | (simp; done) | skip)))
local macro_rules | `(tactic| walk_at "gj") => `(tactic| first | exact gi_nil | (refine' gi_cons ?g1 ?g2; (case' g1 => walk_at "gv"); (case' g2 => walk_at "gj")))
local macro_rules | `(tactic| walk_at "gi") => `(tactic| (refine' gv_lst ?k1 ?k2; (case' k1 => walk_at "gj"); (case' k2 => (simp; try omega))))
local macro_rules | `(tactic| walk_at "gc") => `(tactic| first | ((with_reducible refine' gv_joints ?_) <;> walk_at "gv") | ((with_reducible refine' gv_beyond ?_ ?_ ?_ ?_) <;> walk_at "gv") | ((with_reducible refine' gv_outs ?_ ?_) <;> walk_at "gv") | ((with_reducible refine' gv_ends ?_ ?_ ?_ ?_ ?_) <;> walk_at "gv"))
/-! ### trains that are near a signal -/
section
variable {C : Adr} {P : Program} {w : World} {K : PySem.W.Frag} {mg : Str → Option Value} {base : Heap} {fd : FuncData} {f : Addr} {CT : Addr}
abbrev s_near : Stmt := top 25
abbrev N_near : List Str := ["yard", "signal", "joint", "at", "found", "name", "train", "head"]
theorem sc_near : FnScope N_near ["yard", "signal"] (defScope s_near) := ⟨rfl, rfl, rfl, by decide +kernel, rfl, by decide +kernel, by decide +kernel⟩
def nearT (ps : List Pc) (j a : Int) (tr : Trn) : Bool := match tr.steps with
  | [] => false
  | hd :: _ => tr.ahead.isEmpty && (!tr.out && (decide (hd.o = j) && decide ((beyondN ps hd.p j).map (fun (n : Nat) => (n : Int)) = some a)))
def nearN (d : Wd) (s : Int) : List Int := (d.trs.filter fun p => nearT d.ps ((d.sg[s.toNat]?).getD (0, 0)).1 ((d.sg[s.toNat]?).getD (0, 0)).2 p.2).map (·.1)
def spNear (K : PySem.W.Frag) (C : Adr) (CT : Addr) : Sp := spP (T := YArg × Int) (fun t => [.v (.ref t.1.y), AI t.2]) (fun t B H => YP K C CT t.1 B H ∧ Fit t.1.d ∧ there t.1.d.sg.length t.2 = true) fun t => .d (.list ((nearN t.1.d t.2).map enc))
theorem eq_oN (o : Option Nat) (a : Int) : PyData.eqv (oN o) (.int a) = decide (o.map (fun (n : Nat) => (n : Int)) = some a) := by
  cases o with
  | none => simp [oN, PyData.eqv]
  | some n => simp only [oN, PyData.eqv, Option.map_some]; rw [Bool.eq_iff_iff]; simp
theorem ok_near (T : Txt K mg C) (F : Fun K "near" "near" s_near f fd) (c_beyond : Cal P w K mg base CX0 2 "beyond" spBeyond) : FnOk P w K mg base CX0 3 f fd ["yard", "signal"] (spNear K C CT) := by
  refine fn_P F sc_near (fun _ => rfl) fun cdv A outer s H Q E hr => ⟨_, pss_cons (ps_asg (pe_ix (ix_listK (K := K) rfl) (pe_fldK (K := K) rfl (pv 0) rfl) (pv 1) (fun _ _ => rfl)) (pg_tupK (K := K) rfl rfl (pgs_cons (pg_name (i := 2) sc_near.nd rfl (by first | exact Or.inl rfl | exact Or.inr rfl)) (pgs_cons (pg_name (i := 3) sc_near.nd rfl (by first | exact Or.inl rfl | exact Or.inr rfl)) (pgs_nil)))))
  (pss_cons (ps_set (i := 4) sc_near.nd rfl (by first | exact Or.inl rfl | exact Or.inr rfl) (pe_lst (pa_nil)))
  (pss_cons (ps_lock (ps_for PassesOwn.never rfl (pi_keys (pe_fldK (K := K) rfl (pv 0) rfl)) (pg_name (i := 5) sc_near.nd rfl (by first | exact Or.inl rfl | exact Or.inr rfl)) (pss_cons (ps_set (i := 6) sc_near.nd rfl (by first | exact Or.inl rfl | exact Or.inr rfl) (pe_dget (hu_of hr) (pe_fldK (K := K) rfl (pv 0) rfl) (pv 5) (fun _ _ => rfl)))
  (pss_cons (ps_set (i := 7) sc_near.nd rfl (by first | exact Or.inl rfl | exact Or.inr rfl) (pe_ix (ix_listK (K := K) rfl) (pe_fldK (K := K) rfl (pv 6) rfl) (pe_int) (fun _ _ => rfl)))
  (pss_cons (ps_if (PW.pt (pw_and (pt_not (pt_truthK (K := K) rfl (pe_fldK (K := K) rfl (pv 6) rfl) (by intro _; rfl))) (pw_and (pt_not (pt_val (pe_fldK (K := K) rfl (pv 6) rfl))) (pw_and (pt_cmpR op_eq (pe_ix (ix_tupK (K := K) rfl) (pv 7) (pe_int) (fun _ _ => rfl)) (pv 2) (nomark _)) (pw_and1 (pt_cmpR op_eq (pe_cal c_beyond hr (by first | decide | omega) rfl passN (pa_cons (pe_fldK (K := K) rfl (pv 0) rfl) (pa_cons (pe_ix (ix_tupK (K := K) rfl) (pv 7) (pe_int) (fun _ _ => rfl)) (pa_cons (pv 2) (pa_nil))))) (pv 3) (nomark _))))))) (pss_cons (ps_expr (pe_bmK (K := K) rfl PySem.F.plainAttrs_list PySem.F.slot_list_append PySem.F.type_list_append mt_append (pv 4) (pa_cons (pv 5) (pa_nil))))
  (pss_nil)) (pss_nil))
  (pss_nil))))))
  (pss_cons (ps_ret (pv 4))
  (pss_nil)))), fun ⟨t, i⟩ B e hpre q => ?_⟩
  obtain ⟨h, ft, hth⟩ := hpre
  have h : YP K C CT t B H := h
  have ft : Fit t.d := ft
  have hth : there t.d.sg.length i = true := hth
  have q : ∀ u B2 H2, Ext B H B2 H2 → Is B2 u (.d (.list ((nearN t.d i).map enc))) → Q u H2 := q
  obtain ⟨k, ⟨j, a⟩, rfl, ho, hat⟩ := there_at (xs := t.d.sg) (i := i) hth
  have en : nearN t.d (k : Int) = (t.d.trs.filter fun p => nearT t.d.ps j a p.2).map (·.1) := by unfold nearN; rw [Int.toNat_natCast, ho]; rfl
  rw [en] at q
  have np : t.d.ps.length ≤ 16 := ft.np
  refine qx_asg2 (d1 := .int j) (d2 := .int a) (gv_op (gy_signals T h.1 (gv_var rfl)) (gv_var rfl) (ro_ixL hat)) fun B2 H2 x2 => ?_
  refine qx_newL (ds := []) ga_nil (by decide) fun pf B3 H3 hpf x3 m3 => ?_
  have x03 := x2.trans x3
  have hpf0 : H pf = none := x2.hh.free hpf
  have h3 := h.ext x03
  have hnd := h3.1.nd
  obtain ⟨n1, n2, n3, n4, n5, n6, n7, n8, n9, n10, n11, n12, n13, n14, n15, nt⟩ := own_ne hnd
  have npf : pf ≠ t.A.trn := fun z => by have := h.1.htrn.2; rw [← z, hpf0] at this; cases this
  have hyL : ∀ od, (upd H3 t.A.trn (.frz od (.dK (trnK t.d.trs t.ta)))) t.y = _ := fun od => (upd_ne n5).trans h3.1.ob
  have nf : t.d.trs.length ≤ 1000 := ft.nt
  refine qx_forK (ι := Unit) (ks := t.d.trs.map (·.1)) h3.1.htrn (trnK_keys _ _ h3.1.len) (fun od => gv_fld (g := .v (.ref t.A.trn)) (gv_var rfl) (hyL od) T.cl_Yard T.na_Yard_trains (yk (i := 9) (by decide +kernel) (by decide) rfl) rfl)
    (fun _ => [some (.v (.ref t.y)), some (AI (k : Int)), some (AI j), some (AI a), some (.v (.ref pf)), none, none, none])
    (fun od n _ B1 H1 => ExtF (· = pf) B3 (upd H3 t.A.trn (.frz od (.dK (trnK t.d.trs t.ta)))) B1 H1 ∧ Ml B1 H1 pf ((((t.d.trs.take n).filter fun p => nearT t.d.ps j a p.2).map (·.1)).map enc)) () (by walk_at "le")
    (fun od B1 H1 x => ⟨x.f, ?_⟩) (fun od n _ B1 H1 ⟨x, _⟩ => ⟨x.hh _ _ upd_same (Ne.symm npf), x.off h3.1.htrn.1 (by rw [upd_same]; simp)⟩) ?_ ?_
  · obtain ⟨b3, us, e3, t3⟩ := m3
    exact Ml.ext (H := upd H3 t.A.trn (.frz od (.dK (trnK t.d.trs t.ta)))) ⟨b3, us, by rw [upd_ne npf]; exact e3, t3⟩ x
  · intro od Bs n n0 _ B4 H4 hk s1 s2 ⟨x4, m4⟩
    rw [List.getElem?_map] at hk
    cases hk2 : t.d.trs[n]? with
    | none => rw [hk2] at hk; cases hk
    | some nt2 =>
      obtain ⟨nm, tr⟩ := nt2
      rw [hk2] at hk
      cases hk
      obtain ⟨k', ad, dx, h4, h5, hv⟩ := (trnK_val t.d.trs t.ta h3.1.len nm).2 tr (find_nd t.d.trs ft.hn n nm tr hk2)
      have hT : TrT K CT := h.2.resolve_left fun z => by rw [z] at h4; simp at h4
      obtain ⟨⟨w1, w2, hob, d1, d2⟩, hba⟩ := h3.1.tr k' nm tr ad dx h4 h5
      obtain ⟨hne, hsz, hsz2⟩ := ft.ht _ (List.mem_of_getElem? h4)
      have npa : ad ≠ pf := fun z => by
        obtain ⟨⟨_, _, hob0, _⟩, _⟩ := h.1.tr k' nm tr ad dx h4 h5
        rw [z, hpf0] at hob0
        cases hob0
      have npy : t.y ≠ pf := fun z => by have := h.1.ob; rw [z, hpf0] at this; cases this
      have hoL := x4.hh _ _ ((upd_ne (nt k' ad dx h5).2.2.2.2.2).trans hob) npa
      have hyL4 := x4.hh _ _ (hyL od) npy
      have htL := x4.hh _ _ (upd_same (H := H3) (a := t.A.trn) (o := .frz od (.dK (trnK t.d.trs t.ta)))) (Ne.symm npf)
      have htake : (((t.d.trs.take (n + 1)).filter fun p => nearT t.d.ps j a p.2).map (·.1)) = (((t.d.trs.take n).filter fun p => nearT t.d.ps j a p.2).map (·.1)) ++ if nearT t.d.ps j a tr = true then [nm] else [] := by
        rw [List.take_add_one, hk2, List.filter_append, List.map_append]
        congr 1
        cases hn2 : nearT t.d.ps j a tr <;> simp [List.filter_cons, hn2]
      refine qx_asg (g := .v (.ref ad)) (gv_dget (g := .v (.ref ad)) (gv_fld (g := .v (.ref t.A.trn)) (gv_var rfl) hyL4 T.cl_Yard T.na_Yard_trains (yk (i := 9) (by decide +kernel) (by decide) rfl) rfl) (gv_var rfl) kq_int (.inr ⟨od, htL⟩) hv rfl) fun B5 H5 x5 => ?_
      obtain ⟨st0, rest, ests⟩ : ∃ st0 rest, tr.steps = st0 :: rest := by
        cases hst : tr.steps with
        | nil => exact absurd hst hne
        | cons a b => exact ⟨a, b, rfl⟩
      have hoL5 := x5.hh _ _ hoL
      refine qx_asg (g := .d (enc st0)) (gv_op (x := .d (.list (tr.steps.map enc))) (gv_fld (g := .d (.list (tr.steps.map enc))) (gv_var rfl) hoL5 hT.cl (hT.na _ (by decide +kernel)) (zip_lookup _ _ _ 0 _ (by decide +kernel) (by decide) rfl) ((d1.mono x4.bb).mono x5.bb)) gv_int (ro_ixL (atI_map (xs := tr.steps) (k := 0) (by rw [ests]; rfl)))) fun B6 H6 x6 => ?_
      have x46 := x5.trans x6
      have hoL6 := x46.hh _ _ hoL
      have hyL6 := x46.hh _ _ hyL4
      have enr : nearT t.d.ps j a tr = (!!tr.ahead.isEmpty && (!tr.out && (decide (st0.o = j) && decide ((beyondN t.d.ps st0.p j).map (fun (n : Nat) => (n : Int)) = some a)))) := by unfold nearT; rw [ests, Bool.not_not]
      refine qx_when (b := nearT t.d.ps j a tr) (gt_is (gt_and (b := !!tr.ahead.isEmpty) (gt_is (gt_not (gt_truL (gv_fld (g := .d (.list (tr.ahead.map enc))) (gv_var rfl) hoL6 hT.cl (hT.na _ (by decide +kernel)) (zip_lookup _ _ _ 1 _ (by decide +kernel) (by decide) rfl) ((d2.mono x4.bb).mono x46.bb)))) (by cases tr.ahead <;> rfl)) fun _ =>
        gt_and (gt_not (gt_B (gv_fld (g := AB tr.out) (gv_var rfl) hoL6 hT.cl (hT.na _ (by decide +kernel)) (zip_lookup _ _ _ 2 _ (by decide +kernel) (by decide) rfl) (.bl _)))) fun _ => gt_and (gt_test (gv_op (gv_op (gv_var rfl) gv_int (ro_ixT (ds := [.int st0.p, .int st0.i, .int st0.o]) rfl)) (gv_var rfl) ro_eqI)) fun _ =>
        gt_is (gt_test (gv_op (gv_beyond (gv_fld (g := .d (.list (t.d.ps.map enc))) (gv_var rfl) hyL6 T.cl_Yard T.na_Yard_pieces (yk (i := 0) (by decide +kernel) (by decide) rfl) (((h3.1.hps.mono x4.bb)).mono x46.bb)) (gv_op (gv_var rfl) gv_int (ro_ixT (ds := [.int st0.p, .int st0.i, .int st0.o]) rfl)) (gv_var rfl) (by omega)) (gv_var rfl) (ro_eq ?_))) (eq_oN _ _)) enr.symm) (fun hb B7 H7 x7 => ?_) fun hb B7 H7 x7 => ?_
      · cases beyondN t.d.ps st0.p j <;> rfl
      · refine qx_app (d := .int nm) ((m4.ext x46).ext x7) (gv_var rfl) (gv_var rfl) (by
          have h1 := List.length_filter_le (fun p => nearT t.d.ps j a p.2) (t.d.trs.take n)
          have h2 : (t.d.trs.take n).length ≤ t.d.trs.length := by rw [List.length_take]; omega
          rw [List.length_map, List.length_map]
          omega) fun B8 H8 x8 m8 => sx_go ?_
        refine sx_lx () (s2.trans (x46.bb.trans (x7.bb.trans x8.bb))) (by walk_at "le") ⟨(x4.trans (x46.trans x7).f).trans x8, ?_⟩
        rw [htake, if_pos hb, List.map_append]
        exact m8
      · refine sx_lx () (s2.trans (x46.bb.trans x7.bb)) (by walk_at "le") ⟨x4.trans (x46.trans x7).f, ?_⟩
        rw [htake, if_neg (by rw [hb]; simp), List.append_nil]
        exact (m4.ext x46).ext x7
  · intro od _ B4 H4 s1 ⟨x4, m4⟩
    rw [List.length_map, List.take_length] at m4
    have xl : Ext B (upd H t.A.trn (.frz od (.dK (trnK t.d.trs t.ta)))) B4 H4 := (x03.lock h.1.htrn.1 (by rw [h.1.htrn.2]; simp)).thenF x4 fun z hz => by rw [hz, upd_ne npf]; exact hpf0
    have xu := xl.unlock h.1.htrn.1 h.1.htrn.2
    obtain ⟨b4, us, e4, t4⟩ := m4
    exact qx_retM xu hpf0 ⟨b4, us, by rw [upd_ne npf]; exact e4, t4⟩ (gv_var rfl) fun u B5 H5 x5 hu => q u B5 H5 x5 hu
end
end SB
namespace SB
open PySem PySem.Spec PyProof.Rows L2
open Enc (enc)
local macro_rules | `(tactic| walk_at "le") => `(tactic| first | exact le_nil | (refine le_keep ?_; walk_at "le") | (refine le_drop ?_; walk_at "le"))
local macro_rules | `(tactic| walk_at "sd") => `(tactic| first | assumption | (show (_ : Int) < _ ∧ _ < (1073741824 : Int); exact ⟨by omega, by omega⟩) | (show (-(2 ^ 64) < (_ : Int) ∧ _ < (2 ^ 64 : Int)) ∨ _; first | exact .inl ⟨by omega, by omega⟩ | exact .inr ⟨by omega, by omega⟩) | rfl | decide | (simp; done) | omega | skip)
local macro_rules | `(tactic| walk_at "gc") => `(tactic| fail)
local macro_rules | `(tactic| walk_at "gv") => `(tactic| first
  | exact gv_int | exact gv_str | exact gv_bl | exact gv_non | exact gv_var rfl
  | ((with_reducible refine' gv_op ?_ ?_ ?_) <;> walk_at "gv")
  | ((with_reducible refine' ga_cons ?_ ?_) <;> walk_at "gv") | exact ga_nil
  | ((with_reducible refine' gv_cb ?_ ?_) <;> walk_at "gv")
  | ((with_reducible refine' gt_test ?_) <;> walk_at "gv") | ((with_reducible refine' gt_B ?_) <;> walk_at "gv") | ((with_reducible refine' gt_not ?_) <;> walk_at "gv")
  | ((with_reducible refine' gt_and ?k1 ?k2); (case' k1 => walk_at "gv"); (case' k2 => intro hb; walk_at "gv"))
  | ((with_reducible refine' gt_or ?k1 ?k2); (case' k1 => walk_at "gv"); (case' k2 => intro hb; walk_at "gv"))
  | ((with_reducible refine' gv_andV ?k1 ?k2); (case' k1 => walk_at "gv"); (case' k2 => intro hb; walk_at "gv"))
  | ((with_reducible refine' gv_orV ?k1 ?k2); (case' k1 => walk_at "gv"); (case' k2 => intro hb; walk_at "gv"))
  | ((with_reducible refine' gv_notV ?_) <;> walk_at "gv")
  | ((with_reducible refine' gv_slL ?_ ?_ ?_) <;> walk_at "gv") | ((with_reducible refine' gv_slT ?_ ?_ ?_ ?_) <;> walk_at "gv")
  | exact go_none | ((with_reducible refine' go_some ?_) <;> walk_at "gv")
  | exact gd_nil | ((with_reducible refine' gd_cons ?_ ?_) <;> walk_at "gv") | ((with_reducible refine' gv_lst ?_ ?_) <;> walk_at "gv") | ((with_reducible refine' gv_tup ?_ ?_) <;> walk_at "gv")
  | ((with_reducible refine' gv_chain ?_ ?_ ?_ ?_ ?_) <;> walk_at "gv") | ((with_reducible refine' gt_truL ?_) <;> walk_at "gv") | ((with_reducible refine' gv_countI ?_ ?_) <;> walk_at "gv")
  | ((with_reducible refine' gv_lenSetI ?_ ?_) <;> walk_at "gv") | ((with_reducible refine' gv_lenSetU ?_ ?_) <;> walk_at "gv") | ((with_reducible refine' gv_lenSetT ?_ ?_) <;> walk_at "gv")
  | exact gt_yes
  | walk_at "gc"
  | exact ro_I0 | exact ro_B0 | (refine ro_I ?_; walk_at "sd")
  | exact ro_eqI | exact ro_neI | exact ro_eqS | exact ro_neS
  | (refine ro_eq ?_; walk_at "sd") | (refine ro_ne ?_; walk_at "sd")
  | exact ro_isN | exact ro_notN
  | exact ro_inI | exact ro_notInI | exact ro_inTI
  | (refine' ro_ixL ?k1; (case' k1 => walk_at "sd")) | (refine' ro_ixT ?k1; (case' k1 => walk_at "sd"))
  | (refine ro_cat ?_; walk_at "sd")
  | exact rc_lenM | exact rc_len | exact rc_lenT | exact rc_list | exact rc_listT | exact rc_tuple | exact rc_any | exact rc_all | exact rc_max2 | exact rc_min2 | exact rc_intB
  | (show (_ : Nat) ≤ _; first | decide | (simp; done) | omega)
  | (show (_ : Nat) < _; first | decide | (simp; done) | omega)
  | (show ¬ (_ ∧ _); exact fun h => absurd (show (1 : Nat) = 0 from h.1) (by decide))
  | skip)
local macro_rules | `(tactic| walk_at "ge") => `(tactic| (refine' gt_is ?k1 ?k2; (case' k1 => walk_at "gv"); (case' k2 => first | rfl | (simp; done) | skip)))
local macro_rules | `(tactic| walk_at "gw") => `(tactic| (refine' gv_is ?k1 ?k2; (case' k1 => walk_at "gv"); (case' k2 => first | rfl | (simp; done) | skip)))
local macro_rules | `(tactic| walk_at "gj") => `(tactic| first | exact gi_nil | (refine' gi_cons ?g1 ?g2; (case' g1 => walk_at "gv"); (case' g2 => walk_at "gj")))
local macro_rules | `(tactic| walk_at "gi") => `(tactic| (refine' gv_lst ?k1 ?k2; (case' k1 => walk_at "gj"); (case' k2 => (simp; try omega))))
local macro_rules | `(tactic| walk_at "gc") => `(tactic| first | ((with_reducible refine' gv_joints ?_) <;> walk_at "gv") | ((with_reducible refine' gv_beyond ?_ ?_ ?_ ?_) <;> walk_at "gv") | ((with_reducible refine' gv_outs ?_ ?_) <;> walk_at "gv") | ((with_reducible refine' gv_ends ?_ ?_ ?_ ?_ ?_) <;> walk_at "gv"))
/-! ### the law's own pieces, signals -/
section
variable {C : Adr} {P : Program} {w : World} {K : PySem.W.Frag} {mg : Str → Option Value} {base : Heap} {fd : FuncData} {f : Addr}
abbrev s__law_beyond : Stmt := top 32
abbrev N__law_beyond : List Str := ["_law_pieces_here", "_law_at", "_law_joint", "_law_found", "_law_k"]
theorem sc__law_beyond : FnScope N__law_beyond ["_law_pieces_here", "_law_at", "_law_joint"] (defScope s__law_beyond) := ⟨rfl, rfl, rfl, by decide +kernel, rfl, by decide +kernel, by decide +kernel⟩
abbrev s__law_outs : Stmt := top 35
abbrev N__law_outs : List Str := ["_law_piece", "_law_joint", "_law_one"]
theorem sc__law_outs : FnScope N__law_outs ["_law_piece", "_law_joint"] (defScope s__law_outs) := ⟨rfl, rfl, rfl, by decide +kernel, rfl, by decide +kernel, by decide +kernel⟩
abbrev s__law_pieces : Stmt := top 33
abbrev N__law_pieces : List Str := ["_law_script", "_law_base", "_law_pieces_here", "_law_loose", "_law_many", "_law_k", "_law_number", "_law_ends", "_law_j", "_law_pick", "_law_others", "_law_joint"]
theorem sc__law_pieces : FnScope N__law_pieces ["_law_script", "_law_base"] (defScope s__law_pieces) := ⟨rfl, rfl, rfl, by decide +kernel, rfl, by decide +kernel, by decide +kernel⟩
abbrev s__law_signals : Stmt := top 34
abbrev N__law_signals : List Str := ["_law_script", "_law_base", "_law_pieces_here", "_law_found", "_law_at", "_law_joint", "_law_number", "_law_border", "_law_shift"]
theorem sc__law_signals : FnScope N__law_signals ["_law_script", "_law_base", "_law_pieces_here"] (defScope s__law_signals) := ⟨rfl, rfl, rfl, by decide +kernel, rfl, by decide +kernel, by decide +kernel⟩
theorem ok_Lbeyond (T : Txt K mg C) (F : Fun K "_law_beyond" "_law_beyond" s__law_beyond f fd) : FnOk P w K mg base CX0 1 f fd ["_law_pieces_here", "_law_at", "_law_joint"] spBeyond := by
  refine fn_P F sc__law_beyond (fun _ => rfl) fun cdv A outer s H Q E hr => ⟨_, pss_cons (ps_setLc (i := 3) (own := [("_law_k", 4)]) (g := gName 4) (by rfl) sc__law_beyond.nd rfl rfl (sw_true rfl rfl rfl (by decide +kernel)) (pi_range1 (by rfl) T.n_range (pa_cons (pe_callB (call_lenK (K := K) rfl) (by rfl) T.n_len (by decide +kernel) (pa_cons (pv 0) (pa_nil))) (pa_nil))) (blkOk_by (own := [("_law_k", 4)]) (N := N__law_beyond) (sc := defScope s__law_beyond) (by decide +kernel)) (fun _ _ _ _ _ => pg_name (i := 4) sc__law_beyond.nd rfl (Or.inl rfl)) (fun _ _ _ _ _ => pts_one (PW.pt (pw_and (pt_cmpR op_ne (pv 4) (pv 1) (nomark _)) (pw_and1 (pt_cmpR (op_inK (K := K) rfl) (pv 2) (pe_slice (sl_tupK (K := K) rfl) (pe_ix (ix_listK (K := K) rfl) (pv 0) (pv 4) (fun _ _ => rfl)) (po_some (pe_int)) (po_none)) (by rfl)))))) (fun _ _ _ _ _ => pv 4))
  (pss_cons (ps_ret (pe_ifExp (pt_truthK (K := K) rfl (pv 3) (by intro _; rfl)) (pe_ix (ix_listK (K := K) rfl) (pv 3) (pe_int) (fun _ _ => rfl)) (pe_non)))
  (pss_nil)), fun ⟨ps, a, j⟩ B e hl q => ?_⟩
  have hl : ps.length ≤ 100 := hl
  have q : ∀ u B2 H2, Ext B H B2 H2 → Is B2 u (.d (oN (beyondN ps a j))) → Q u H2 := q
  refine qx_asg (g := .d (.list ((((List.range ((ps.length : Nat) : Int).toNat).filter fun (k : Nat) => decide ((k : Int) ≠ a) && decide (j ∈ ((ps[k]?).elim [] Pc.js))).map fun (k : Nat) => (k : Int)).map enc))) ?_ fun B2 H2 x2 => ?_
  · refine gv_lcR (n := ((ps.length : Nat) : Int)) ?_ (by omega) (by omega) (by decide) (by decide) _ (fun (k : Nat) => (k : Int)) (fun k hk B2 H2 x2 => ?_) fun k hk _ B2 H2 x2 => ?_
    · walk_at "gv"
    · have hk' : k < ps.length := by omega
      have hp : ps[k]? = some ps[k] := List.getElem?_eq_getElem hk'
      have hat := atI_map hp
      rw [hp]
      refine gt_is (gt_and (gt_test (gv_op (gv_var rfl) (gv_var rfl) ro_neI)) fun _ => gt_test (gv_op (gv_var rfl) (gv_tl (gv_op (gv_var rfl) (gv_var rfl) (ro_ixL hat))) ro_inTI)) ?_
      rw [← decide_not]
      rfl
    · exact gv_var rfl
  · have hf : beyondN ps a j = ((List.range ps.length).filter fun (k : Nat) => decide ((k : Int) ≠ a) && decide (j ∈ ((ps[k]?).elim [] Pc.js))).head? := by
      rw [List.head?_filter]
      rfl
    rw [hf] at q
    rw [Int.toNat_natCast]
    generalize (List.range ps.length).filter (fun (k : Nat) => decide ((k : Int) ≠ a) && decide (j ∈ ((ps[k]?).elim [] Pc.js))) = ks at q
    cases ks with
    | nil => exact qx_ret (gv_if (b := false) (gt_is (gt_truL (ds := []) (gv_var rfl)) rfl) (fun h => by cases h) fun _ => gv_non) fun u B3 H3 x3 hu => q u B3 H3 (x2.trans x3) hu
    | cons k ks => exact qx_ret (g := AI (k : Int)) (gv_if (b := true) (gt_is (gt_truL (ds := (((k :: ks).map fun (k : Nat) => (k : Int)).map enc)) (gv_var rfl)) rfl) (fun _ => gv_op (gv_var rfl) gv_int (ro_ixL (atI_map (xs := (k :: ks).map fun (k : Nat) => (k : Int)) (k := 0) rfl))) fun h => by cases h) fun u B3 H3 x3 hu => q u B3 H3 (x2.trans x3) hu
theorem ok_Louts (T : Txt K mg C) (F : Fun K "_law_outs" "_law_outs" s__law_outs f fd) : FnOk P w K mg base CX0 1 f fd ["_law_piece", "_law_joint"] spOuts := by
  refine fn_P F sc__law_outs (fun _ => rfl) fun cdv A outer s H Q E hr => ⟨_, pss_cons (ps_if (pt_cmpR op_eq (pe_ix (ix_tupK (K := K) rfl) (pv 0) (pe_int) (fun _ _ => rfl)) (pe_str) (nomark _)) (pss_cons (ps_ret (pe_lc (own := [("_law_one", 2)]) (g := gName 2) (by rfl) sc__law_outs.nd (pi_tupK (K := K) rfl (pe_slice (sl_tupK (K := K) rfl) (pv 0) (po_some (pe_int)) (po_none))) (blkOk_by (own := [("_law_one", 2)]) (N := N__law_outs) (sc := defScope s__law_outs) (by decide +kernel)) (fun _ _ _ _ _ => pg_name (i := 2) sc__law_outs.nd rfl (Or.inl rfl)) (fun _ _ _ _ _ => pts_one (pt_cmpR op_ne (pv 2) (pv 1) (nomark _))) (fun _ _ _ _ _ => pv 2)))
  (pss_nil)) (pss_nil))
  (pss_cons (ps_ret (pe_ifExp (pt_cmpR op_eq (pv 1) (pe_ix (ix_tupK (K := K) rfl) (pv 0) (pe_int) (fun _ _ => rfl)) (nomark _)) (pe_lst (pa_cons (pe_ix (ix_tupK (K := K) rfl) (pv 0) (pe_int) (fun _ _ => rfl)) (pa_cons (pe_ix (ix_tupK (K := K) rfl) (pv 0) (pe_int) (fun _ _ => rfl)) (pa_nil)))) (pe_lst (pa_cons (pe_ix (ix_tupK (K := K) rfl) (pv 0) (pe_int) (fun _ _ => rfl)) (pa_nil)))))
  (pss_nil)), fun ⟨p, j⟩ B e _ q => ?_⟩
  cases p with
  | plain a c =>
    refine qx_yes (b := true) ?_ rfl fun B2 H2 x2 => ?_
    · refine gt_is (b := decide ((Pc.plain a c).word = "plain")) ?_ (word_pl a c)
      walk_at "gv"
    refine qx_ret (g := .d (.list ((((Pc.plain a c).js.filter fun o => !decide (o = j)).map id).map enc))) ?_ fun u B3 H3 x3 hu => q u B3 H3 (x2.trans x3) ?_
    · refine gv_lcT (xs := (Pc.plain a c).js) (gv_tl (gv_var rfl)) (by show 2 < 16000000; decide) (by decide) (by decide) (fun o => !decide (o = j)) id ?_ ?_
      · intro o _ B3 H3 x3
        walk_at "gv"
      · intro o _ _ B3 H3 x3
        walk_at "gv"
    · rw [List.map_id] at hu
      exact hu
  | points t s1 b =>
    refine qx_no (b := false) ?_ rfl fun B2 H2 x2 => sx_go ?_
    · refine gt_is (b := decide ((Pc.points t s1 b).word = "plain")) ?_ (word_pt t s1 b)
      walk_at "gv"
    refine qx_ret (g := if decide (j = t) = true then .d (.list [.int s1, .int b]) else .d (.list [.int t])) (gv_ite ?_ (fun _ => ?_) fun _ => ?_) fun u B4 H4 x4 hu => q u B4 H4 (x2.trans x4) ?_
    · walk_at "gv"
    · walk_at "gv"
    · walk_at "gv"
    · show Dq B4 u (.list ((if j = t then [s1, b] else [t]).map enc))
      by_cases h : j = t
      · rw [if_pos h]
        rw [if_pos (decide_eq_true h)] at hu
        exact hu
      · rw [if_neg h]
        rw [if_neg (by simp [h])] at hu
        exact hu
/-- what the law draws as pieces -/
def goodJs (ps : List Pc) : Prop := 1 ≤ ps.length ∧ ps.length ≤ 8 ∧ (∀ p ∈ ps, p.js.Nodup) ∧ ∃ (m : Int) (loose : List Int) (many : Nat), PInv m (endsOf ps) loose many
theorem goodJs.ok {ps : List Pc} (h : goodJs ps) : goodPs ps = true := by
  obtain ⟨h1, h8, hn, m, loose, many, p⟩ := h
  unfold goodPs
  rw [Bool.and_eq_true, Bool.and_eq_true]
  refine ⟨⟨by simp; omega, List.all_eq_true.mpr fun p hp => decide_eq_true ?_⟩, List.all_eq_true.mpr fun j hj => ?_⟩
  · rw [(nset_iff p.js).mpr (hn p hp)]
  · obtain ⟨i, _, e⟩ := p.frm j hj
    have := jN_rng m i
    have := p.two j
    unfold okEnd
    subst e
    simp
    omega
def spPieces (K : PySem.W.Frag) : Sp := spX (T := Addr × List Int × Int) (fun t => [.v (.ref t.1), AI t.2.2]) (fun t _ H => SqL K H t.1 (t.2.1.map V.int)) fun _ g => ∃ ps : List Pc, goodJs ps ∧ g = .d (.list (ps.map enc))
theorem two_pcJ {es : List Int} (h : es.length = 2 ∨ es.length = 3) : ∃ pc : Pc, pc.js = es ∧ atI [PyData.str "plain", PyData.str "points"] ((es.length : Int) - 2) = some (.str pc.word) ∧ PyData.tuple ([.str pc.word] ++ es.map PyData.int) = enc pc := by
  rcases es with _ | ⟨a, _ | ⟨b, _ | ⟨c, _ | ⟨d, r⟩⟩⟩⟩
  · rcases h with h | h <;> cases h
  · rcases h with h | h <;> cases h
  · exact ⟨.plain a b, rfl, rfl, rfl⟩
  · exact ⟨.points a b c, rfl, rfl, rfl⟩
  · rcases h with h | h <;> simp at h
theorem endsOf_snoc (ps : List Pc) (p : Pc) : endsOf (ps ++ [p]) = endsOf ps ++ p.js := by
  unfold endsOf
  rw [List.flatMap_append, List.flatMap_singleton]
theorem ok_pieces (T : Txt K mg C) (F : Fun K "_law_pieces" "_law_pieces" s__law_pieces f fd) (c__law_mix : Cal P w K mg base CX0 2 "_law_mix" (spMix K)) : FnOk P w K mg base CX0 3 f fd ["_law_script", "_law_base"] (spPieces K) := by
  refine fn_X F sc__law_pieces (fun _ => rfl) fun cdv A outer s H Q E hr => ⟨_, pss_cons (ps_set (i := 2) sc__law_pieces.nd rfl (by first | exact Or.inl rfl | exact Or.inr rfl) (pe_lst (pa_nil)))
  (pss_cons (ps_set (i := 3) sc__law_pieces.nd rfl (by first | exact Or.inl rfl | exact Or.inr rfl) (pe_lst (pa_nil)))
  (pss_cons (ps_set (i := 4) sc__law_pieces.nd rfl (by first | exact Or.inl rfl | exact Or.inr rfl) (pe_int))
  (pss_cons (ps_for PassesOwn.never rfl (pi_range1 (by rfl) T.n_range (pa_cons (pe_op op_add (pe_int) (pe_op op_mod (pe_cal c__law_mix hr (by first | decide | omega) rfl passN (pa_cons (pv 0) (pa_cons (pv 1) (pa_nil)))) (pe_int))) (pa_nil))) (pg_name (i := 5) sc__law_pieces.nd rfl (by first | exact Or.inl rfl | exact Or.inr rfl)) (pss_cons (ps_set (i := 6) sc__law_pieces.nd rfl (by first | exact Or.inl rfl | exact Or.inr rfl) (pe_cal c__law_mix hr (by first | decide | omega) rfl passN (pa_cons (pv 0) (pa_cons (pe_op op_add (pe_op op_add (pv 1) (pe_int)) (pv 5)) (pa_nil)))))
  (pss_cons (ps_set (i := 7) sc__law_pieces.nd rfl (by first | exact Or.inl rfl | exact Or.inr rfl) (pe_lst (pa_nil)))
  (pss_cons (ps_for PassesOwn.never rfl (pi_range1 (by rfl) T.n_range (pa_cons (pe_op op_add (pe_int) (pe_callTy call_int1 (by rfl) T.n_int (by decide +kernel) (pa_cons (pe_cmpR op_lt (pe_op op_mod (pv 6) (pe_int)) (pe_int) (nomark _)) (pa_nil)))) (pa_nil))) (pg_name (i := 8) sc__law_pieces.nd rfl (by first | exact Or.inl rfl | exact Or.inr rfl)) (pss_cons (ps_set (i := 9) sc__law_pieces.nd rfl (by first | exact Or.inl rfl | exact Or.inr rfl) (pe_cal c__law_mix hr (by first | decide | omega) rfl passN (pa_cons (pv 0) (pa_cons (pe_op op_add (pe_op op_add (pe_op op_add (pv 1) (pe_int)) (pe_op op_mul (pe_int) (pv 5))) (pv 8)) (pa_nil)))))
  (pss_cons (ps_setLc (i := 10) (own := [("_law_joint", 11)]) (g := gName 11) (by rfl) sc__law_pieces.nd rfl rfl (sw_true rfl rfl rfl (by decide +kernel)) (pi_listK (K := K) rfl (pv 3)) (blkOk_by (own := [("_law_joint", 11)]) (N := N__law_pieces) (sc := defScope s__law_pieces) (by decide +kernel)) (fun _ _ _ _ _ => pg_name (i := 11) sc__law_pieces.nd rfl (Or.inl rfl)) (fun _ _ _ _ _ => pts_one (pt_cmpR (op_notInK (K := K) rfl) (pv 11) (pv 7) (by rfl))) (fun _ _ _ _ _ => pv 11))
  (pss_cons (ps_if (PW.pt (pw_and (pt_truthK (K := K) rfl (pv 10) (by intro _; rfl)) (pw_and1 (pt_cmpR op_lt (pe_op op_mod (pv 9) (pe_int)) (pe_ix (ix_listK (K := K) rfl) (pe_lst (pa_cons (pe_int) (pa_cons (pe_int) (pa_cons (pe_int) (pa_nil))))) (pv 8) (fun _ _ => rfl)) (nomark _))))) (pss_cons (ps_expr (pe_bmK (K := K) rfl PySem.F.plainAttrs_list PySem.F.slot_list_append PySem.F.type_list_append mt_append (pv 7) (pa_cons (pe_ix (ix_listK (K := K) rfl) (pv 10) (pe_op op_mod (pe_op op_fdiv (pv 9) (pe_int)) (pe_callB (call_min2 rfl) (by rfl) T.n_min (by decide +kernel) (pa_cons (pe_int) (pa_cons (pe_callB (call_lenK (K := K) rfl) (by rfl) T.n_len (by decide +kernel) (pa_cons (pv 10) (pa_nil))) (pa_nil))))) (fun _ _ => rfl)) (pa_nil))))
  (pss_nil)) (pss_cons (ps_expr (pe_bmK (K := K) rfl PySem.F.plainAttrs_list PySem.F.slot_list_append PySem.F.type_list_append mt_append (pv 7) (pa_cons (pe_op op_mod (pe_op op_add (pe_cal c__law_mix hr (by first | decide | omega) rfl passN (pa_cons (pv 0) (pa_cons (pe_op op_add (pv 1) (pe_int)) (pa_nil)))) (pe_op op_mul (pe_int) (pv 4))) (pe_int)) (pa_nil))))
  (pss_cons (ps_set (i := 4) sc__law_pieces.nd rfl (by first | exact Or.inl rfl | exact Or.inr rfl) (pe_op op_add (pv 4) (pe_int)))
  (pss_nil))))
  (pss_nil)))))
  (pss_cons (ps_set (i := 3) sc__law_pieces.nd rfl (by first | exact Or.inl rfl | exact Or.inr rfl) (pe_op op_cat (pe_lc (own := [("_law_joint", 11)]) (g := gName 11) (by rfl) sc__law_pieces.nd (pi_listK (K := K) rfl (pv 7)) (blkOk_by (own := [("_law_joint", 11)]) (N := N__law_pieces) (sc := defScope s__law_pieces) (by decide +kernel)) (fun _ _ _ _ _ => pg_name (i := 11) sc__law_pieces.nd rfl (Or.inl rfl)) (fun _ _ _ _ _ => pts_one (pt_cmpR (op_notInK (K := K) rfl) (pv 11) (pv 3) (by rfl))) (fun _ _ _ _ _ => pv 11)) (pe_lc (own := [("_law_joint", 11)]) (g := gName 11) (by rfl) sc__law_pieces.nd (pi_listK (K := K) rfl (pv 3)) (blkOk_by (own := [("_law_joint", 11)]) (N := N__law_pieces) (sc := defScope s__law_pieces) (by decide +kernel)) (fun _ _ _ _ _ => pg_name (i := 11) sc__law_pieces.nd rfl (Or.inl rfl)) (fun _ _ _ _ _ => pts_one (pt_cmpR (op_notInK (K := K) rfl) (pv 11) (pv 7) (by rfl))) (fun _ _ _ _ _ => pv 11))))
  (pss_cons (ps_expr (pe_bmK (K := K) rfl PySem.F.plainAttrs_list PySem.F.slot_list_append PySem.F.type_list_append mt_append (pv 2) (pa_cons (pe_op (op_catTK (K := K) rfl) (pe_tup (pa_cons (pe_ix (ix_listK (K := K) rfl) (pe_lst (pa_cons (pe_str) (pa_cons (pe_str) (pa_nil)))) (pe_op op_sub (pe_callB (call_lenK (K := K) rfl) (by rfl) T.n_len (by decide +kernel) (pa_cons (pv 7) (pa_nil))) (pe_int)) (fun _ _ => rfl)) (pa_nil))) (pe_callTy (call_tupleK (K := K) rfl) (by rfl) T.n_tuple (by decide +kernel) (pa_cons (pv 7) (pa_nil)))) (pa_nil))))
  (pss_nil)))))))
  (pss_cons (ps_ret (pv 2))
  (pss_nil))))), fun ⟨a, ns, bs⟩ B e hS q => ?_⟩
  have hS : SqL K H a (ns.map V.int) := hS
  have q : ∀ u B2 H2 ps, goodJs ps → Ext B H B2 H2 → Is B2 u (.d (.list (ps.map enc))) → Q u H2 := fun u B2 H2 ps hp x hu => q u B2 H2 _ ⟨ps, hp, rfl⟩ x hu
  refine qx_newL (ds := []) ga_nil (by decide) fun pp B2 H2 hp x2 m => ?_
  refine qx_asg (g := .d (.list (([] : List Int).map enc))) (gv_lst (ds := []) ga_nil (by decide)) fun B3 H3 x3 => ?_
  refine qx_asg (g := AI 0) gv_int fun B4 H4 x4 => ?_
  have x04 := (x2.trans x3).trans x4
  have hS4 := x04.hh.seq hS
  let mm := mixN ns (bs + 9)
  have r0 : 0 ≤ mixN ns bs % 8 ∧ mixN ns bs % 8 < 8 := by omega
  refine qx_forRE (n := 1 + mixN ns bs % 8) (ga_cons (gv_op gv_int (gv_op (gv_mix (gv_var rfl) (gv_var rfl) hS4) gv_int (ro_I (by decide))) ro_I0) ga_nil) (by omega) (by omega)
    (ι := List Int × Nat) (fun t => [some (.v (.ref a)), some (AI bs), some (.v (.ref pp)), some (.d (.list (t.1.map enc))), some (AI (t.2 : Int)), none, none, none, none, none, none, none])
    (fun k t B1 H1 => Ext B H B1 H1 ∧ t.2 ≤ 3 * k ∧ t.1.length ≤ 3 * k ∧ ∃ ps : List Pc, ps.length = k ∧ Ml B1 H1 pp (ps.map enc) ∧ (∀ p ∈ ps, p.js.Nodup) ∧ PInv mm (endsOf ps) t.1 t.2) ([], 0) (by walk_at "le")
    (fun B5 H5 x5 => ⟨x04.trans x5, by decide, by decide, [], rfl, (m.ext (x3.trans x4)).ext x5, fun p h => by simp at h, PInv.nil⟩) ?_ ?_
  · rintro Bs k ⟨loose, many⟩ B5 H5 hk s1 s2 ⟨x5, hm, hlo, ps, hps, m5, hnd, pin⟩
    have hm : many ≤ 3 * k := hm
    have hlo : loose.length ≤ 3 * k := hlo
    have pin : PInv mm (endsOf ps) loose many := pin
    have hk8 : k < 8 := by omega
    have hS5 := x5.hh.seq hS
    refine qx_asg (g := AI (mixN ns (bs + 1 + (k : Int)))) (gv_mix (gv_var rfl) (gv_op (gv_op (gv_var rfl) gv_int ro_I0) (gv_var rfl) ro_I0) hS5) fun B6 H6 x6 => ?_
    generalize mixN ns (bs + 1 + (k : Int)) = nu
    refine qx_newL (ds := []) ga_nil (by decide) fun pe B7 H7 hpe x7 m7 => ?_
    have x57 := x6.trans x7
    have hpe5 : H5 pe = none := x6.hh.free hpe
    have hS7 := x57.hh.seq hS5
    have b01 : (2 + (if decide (nu % 5 < 3) = true then 1 else 0) : Int) = 2 ∨ (2 + (if decide (nu % 5 < 3) = true then 1 else 0) : Int) = 3 := by
      split
      · exact .inr rfl
      · exact .inl rfl
    refine qx_forRE (n := 2 + (if decide (nu % 5 < 3) = true then 1 else 0)) (ga_cons (gv_op gv_int (gv_cb (ga_cons (gv_op (gv_op (gv_var rfl) gv_int (ro_I (by decide))) gv_int ro_B0) ga_nil) rc_intB) ro_I0) ga_nil) (by omega) (by omega)
      (ι := Nat) (fun t => [some (.v (.ref a)), some (AI bs), some (.v (.ref pp)), some (.d (.list (loose.map enc))), some (AI (t : Int)), some (AI (k : Int)), some (AI nu), some (.v (.ref pe)), none, none, none, none])
      (fun j t B1 H1 => Ext B5 H5 B1 H1 ∧ t ≤ 3 * k + j ∧ ∃ es : List Int, es.length = j ∧ Ml B1 H1 pe (es.map PyData.int) ∧ EInv mm (endsOf ps) loose es t) many (by walk_at "le")
      (fun B8 H8 x8 => ⟨x57.trans x8, hm, [], rfl, m7.ext x8, pin.start⟩) ?_ ?_
    · rintro Bs2 j t B8 H8 hj s3 s4 ⟨x8, ht, es, hes, m8, ein⟩
      have hj3 : j < 3 := by omega
      have hS8 := x8.hh.seq hS5
      refine qx_asg (g := AI (mixN ns (bs + 10 + 3 * (k : Int) + (j : Int)))) (gv_mix (gv_var rfl) (gv_op (gv_op (gv_op (gv_var rfl) gv_int ro_I0) (gv_op gv_int (gv_var rfl) (ro_I (by show (-(2 ^ 64) < (3 : Int) ∧ (3 : Int) < 2 ^ 64) ∨ _; exact .inl ⟨by decide, by decide⟩))) ro_I0) (gv_var rfl) ro_I0) hS8) fun B9 H9 x9 => ?_
      generalize mixN ns (bs + 10 + 3 * (k : Int) + (j : Int)) = pk
      refine qx_asg (g := .d (.list (((loose.filter fun z => !decide (z ∈ es)).map id).map enc))) ?_ fun B10 H10 x10 => ?_
      · refine gv_lcL (xs := loose) (gv_var rfl) (by omega) (by decide) (by decide) (fun z => !decide (z ∈ es)) id (fun z _ B11 H11 x11 => ?_) fun z _ _ B11 H11 x11 => gv_var rfl
        refine gt_own (i := 7) ((m8.ext x9).ext x11) rfl fun B12 H12 _ _ => ?_
        walk_at "gv"
      rw [List.map_id]
      obtain ⟨oth, hoth⟩ : ∃ o, (loose.filter fun z => !decide (z ∈ es)) = o := ⟨_, rfl⟩
      have hothl : oth.length ≤ loose.length := by rw [← hoth]; exact List.length_filter_le _ _
      rw [hoth]
      have m10 := (m8.ext x9).ext x10
      have x810 := x9.trans x10
      obtain ⟨c7, hc7, e7⟩ : ∃ c7 : Int, True ∧ atI [PyData.int 7, .int 2, .int 2] (j : Int) = some (.int c7) := by
        have : j = 0 ∨ j = 1 ∨ j = 2 := by omega
        rcases this with h | h | h <;> subst h <;> exact ⟨_, trivial, rfl⟩
      refine qx_if (b := !(oth.map enc).isEmpty && decide (pk % 8 < c7)) ?_ (fun hb B11 H11 x11 => ?_) fun hb B11 H11 x11 => ?_
      · refine gt_and (gt_truL (gv_var rfl)) fun _ => gt_test (gv_op (gv_op (gv_var rfl) gv_int (ro_I (by decide))) (gv_op (x := .d (.list [PyData.int 7, .int 2, .int 2])) ?_ (gv_var rfl) (ro_ixL e7)) ro_B0)
        walk_at "gv"
      · have hl0 : 0 < oth.length := by
          rw [Bool.and_eq_true] at hb
          cases oth with
          | nil => cases hb.1
          | cons => simp
        obtain ⟨M, hM, hM0, hM1⟩ : ∃ M : Int, (if ((oth.length : Nat) : Int) < 4 then ((oth.length : Nat) : Int) else 4) = M ∧ 0 < M ∧ M ≤ oth.length := by
          by_cases h : ((oth.length : Nat) : Int) < 4
          · exact ⟨_, if_pos h, by omega, by omega⟩
          · exact ⟨_, if_neg h, by omega, by omega⟩
        have i0 : 0 ≤ pk / 8 % M := Int.emod_nonneg _ (by omega)
        have i1 : pk / 8 % M < M := Int.emod_lt_of_pos _ hM0
        have hlt : (pk / 8 % M).toNat < oth.length := by omega
        obtain ⟨z, hz⟩ : ∃ z, oth[(pk / 8 % M).toNat]? = some z := ⟨_, List.getElem?_eq_getElem hlt⟩
        have hat : atI (oth.map enc) (pk / 8 % M) = some (enc z) := by
          have := atI_map hz
          rw [show (((pk / 8 % M).toNat : Nat) : Int) = pk / 8 % M by omega] at this
          exact this
        have hzm : z ∈ loose ∧ z ∉ es := by
          have := List.mem_of_getElem? hz
          rw [← hoth] at this
          obtain ⟨h1, h2⟩ := List.mem_filter.mp this
          exact ⟨h1, by simpa using h2⟩
        refine qx_app (d := enc z) (m10.ext x11) (gv_var rfl) (gv_op (gv_var rfl) (gv_op (gv_op (gv_var rfl) gv_int (ro_I ?_)) (gv_is (gv_cb (ga_cons gv_int (ga_cons (gv_cb (ga_cons (gv_var rfl) ga_nil) rc_lenM) ga_nil)) rc_min2) (by rw [hM])) (ro_I (by show (0 : Int) < _; omega))) (ro_ixL hat)) (by rw [List.length_map]; omega) fun B12 H12 x12 m12 => sx_go ?_
        · show (0 : Int) < _ ∧ _ < (1073741824 : Int)
          exact ⟨by decide, by decide⟩
        · have e12 : es.map PyData.int ++ [enc z] = (es ++ [z]).map PyData.int := by rw [List.map_append]; rfl
          rw [e12] at m12
          exact sx_lx t (s4.trans (x810.bb.trans (x11.bb.trans x12.bb))) (by walk_at "le") ⟨((x8.trans x810).trans x11).thenF x12 (fun p h => by rw [h]; exact hpe5), by omega, es ++ [z], by rw [List.length_append, hes]; rfl, m12, ein.pick pin hzm.1 hzm.2⟩
      · have hS11 := (x810.trans x11).hh.seq hS8
        refine qx_app (d := .int (jN mm t)) (m10.ext x11) (gv_var rfl) (gv_op (gv_op (gv_mix (gv_var rfl) (gv_op (gv_var rfl) gv_int ro_I0) hS11) (gv_op gv_int (gv_var rfl) (ro_I (by show (-(2 ^ 64) < (37 : Int) ∧ (37 : Int) < 2 ^ 64) ∨ _; exact .inl ⟨by decide, by decide⟩))) ro_I0) gv_int (ro_I (by decide))) (by rw [List.length_map]; omega) fun B12 H12 x12 m12 => ?_
        refine qx_asg (g := AI ((t + 1 : Nat) : Int)) (gv_is (gv_op (gv_var rfl) gv_int ro_I0) rfl) fun B13 H13 x13 => sx_go ?_
        have e12 : es.map PyData.int ++ [PyData.int (jN mm t)] = (es ++ [jN mm t]).map PyData.int := by rw [List.map_append]; rfl
        rw [e12] at m12
        have x013 := (((x8.trans x810).trans x11).thenF x12 (fun p h => by rw [h]; exact hpe5)).trans x13
        exact sx_lx (t + 1) (s4.trans (x810.bb.trans (x11.bb.trans (x12.bb.trans x13.bb)))) (by walk_at "le") ⟨x013, by omega, es ++ [jN mm t], by rw [List.length_append, hes]; rfl, m12.ext x13, ein.fresh (by omega)⟩
    · intro t B8 H8 s3 ⟨x8, ht, es, hes, m8, ein⟩
      have hes23 : es.length = 2 ∨ es.length = 3 := by omega
      have ht : t ≤ 3 * k + 3 := by omega
      refine sx_give (i := 7) x8 hpe5 m8 rfl fun B9 x9 s9 => ?_
      obtain ⟨pc, hpj, hw, epc⟩ := two_pcJ hes23
      refine qx_asg (g := .d (.list (((es.filter fun z => !decide (z ∈ loose)) ++ (loose.filter fun z => !decide (z ∈ es))).map enc))) ?_ fun B10 H10 x10 => ?_
      · refine gv_is (gv_op (gv_lcL (xs := es) (gv_var rfl) (by omega) (by decide) (by decide) (fun z => !decide (z ∈ loose)) id (fun z _ B11 H11 x11 => ?_) fun z _ _ B11 H11 x11 => gv_var rfl) (gv_lcL (xs := loose) (gv_var rfl) (by omega) (by decide) (by decide) (fun z => !decide (z ∈ es)) id (fun z _ B11 H11 x11 => ?_) fun z _ _ B11 H11 x11 => gv_var rfl) (ro_cat ?_)) ?_
        · walk_at "gv"
        · walk_at "gv"
        · have h1 := List.length_filter_le (fun z => !decide (z ∈ loose)) es
          have h2 := List.length_filter_le (fun z => !decide (z ∈ es)) loose
          simp only [List.length_map, List.map_id]
          omega
        · rw [List.map_id, List.map_id, List.map_append]
      refine qx_app (d := enc pc) ((m5.ext x9).ext x10) (gv_var rfl) ?_ (by rw [List.length_map]; omega) fun B11 H11 x11 m11 => ?_
      · rw [← epc]
        refine gv_op (x := .d (.tuple [.str pc.word])) (gv_tup (ds := [.str pc.word]) (ga_cons (gv_op (x := .d (.list [PyData.str "plain", PyData.str "points"])) (y := AI ((es.length : Int) - 2)) ?_ (gv_op (gv_is (gv_cb (ga_cons (gv_var rfl) ga_nil) rc_len) (by rw [List.length_map])) gv_int ro_I0) (ro_ixL hw)) ga_nil) (by show 1 ≤ 16000000; decide))
          (gv_cb (ga_cons (gv_var rfl) ga_nil) rc_tuple) (ro_catT (by rw [List.length_map]; show 1 + _ ≤ _; omega) (by simp) (by intro h; have := congrArg List.length h; rw [List.length_map] at this; rcases hes23 with h | h <;> simp [h] at this))
        walk_at "gv"
      · have e11 : ps.map enc ++ [enc pc] = (ps ++ [pc]).map enc := by rw [List.map_append]; rfl
        rw [e11] at m11
        refine sx_lx (((es.filter fun z => !decide (z ∈ loose)) ++ (loose.filter fun z => !decide (z ∈ es))), t) (s2.trans (x9.bb.trans (x10.bb.trans x11.bb))) (by walk_at "le")
          ⟨((x5.trans x9).trans x10).thenF x11 (fun p h => by rw [h]; exact hp), by show t ≤ 3 * (k + 1); omega, ?_, ps ++ [pc], by rw [List.length_append, hps]; rfl, m11, ?_, ?_⟩
        · show List.length _ ≤ 3 * (k + 1)
          have h1 := List.length_filter_le (fun z => !decide (z ∈ loose)) es
          have h2 := List.length_filter_le (fun z => !decide (z ∈ es)) loose
          rw [List.length_append]
          omega
        · intro p hp
          rcases List.mem_append.mp hp with h | h
          · exact hnd p h
          · simp at h
            subst h
            rw [hpj]
            exact ein.nd
        · rw [endsOf_snoc, hpj]
          exact pin.next ein
  · rintro ⟨loose, many⟩ B5 H5 s1 ⟨x5, _, _, ps, hps, m5, hnd, pin⟩
    exact qx_retM x5 hp m5 (gv_var rfl) fun u B6 H6 x6 hu => q u B6 H6 ps ⟨by omega, by omega, hnd, mm, loose, many, pin⟩ x6 hu
end
end SB
namespace SB
open PySem PySem.Spec PyProof.Rows L2
open Enc (enc)
local macro_rules | `(tactic| walk_at "le") => `(tactic| first | exact le_nil | (refine le_keep ?_; walk_at "le") | (refine le_drop ?_; walk_at "le"))
local macro_rules | `(tactic| walk_at "sd") => `(tactic| first | assumption | (show (_ : Int) < _ ∧ _ < (1073741824 : Int); exact ⟨by omega, by omega⟩) | (show (-(2 ^ 64) < (_ : Int) ∧ _ < (2 ^ 64 : Int)) ∨ _; first | exact .inl ⟨by omega, by omega⟩ | exact .inr ⟨by omega, by omega⟩) | rfl | decide | (simp; done) | omega | skip)
local macro_rules | `(tactic| walk_at "gc") => `(tactic| fail)
local macro_rules | `(tactic| walk_at "gv") => `(tactic| first
  | exact gv_int | exact gv_str | exact gv_bl | exact gv_non | exact gv_var rfl
  | ((with_reducible refine' gv_op ?_ ?_ ?_) <;> walk_at "gv")
  | ((with_reducible refine' ga_cons ?_ ?_) <;> walk_at "gv") | exact ga_nil
  | ((with_reducible refine' gv_cb ?_ ?_) <;> walk_at "gv")
  | ((with_reducible refine' gt_test ?_) <;> walk_at "gv") | ((with_reducible refine' gt_B ?_) <;> walk_at "gv") | ((with_reducible refine' gt_not ?_) <;> walk_at "gv")
  | ((with_reducible refine' gt_and ?k1 ?k2); (case' k1 => walk_at "gv"); (case' k2 => intro hb; walk_at "gv"))
  | ((with_reducible refine' gt_or ?k1 ?k2); (case' k1 => walk_at "gv"); (case' k2 => intro hb; walk_at "gv"))
  | ((with_reducible refine' gv_andV ?k1 ?k2); (case' k1 => walk_at "gv"); (case' k2 => intro hb; walk_at "gv"))
  | ((with_reducible refine' gv_orV ?k1 ?k2); (case' k1 => walk_at "gv"); (case' k2 => intro hb; walk_at "gv"))
  | ((with_reducible refine' gv_notV ?_) <;> walk_at "gv")
  | ((with_reducible refine' gv_slL ?_ ?_ ?_) <;> walk_at "gv") | ((with_reducible refine' gv_slT ?_ ?_ ?_ ?_) <;> walk_at "gv")
  | exact go_none | ((with_reducible refine' go_some ?_) <;> walk_at "gv")
  | exact gd_nil | ((with_reducible refine' gd_cons ?_ ?_) <;> walk_at "gv") | ((with_reducible refine' gv_lst ?_ ?_) <;> walk_at "gv") | ((with_reducible refine' gv_tup ?_ ?_) <;> walk_at "gv")
  | ((with_reducible refine' gv_chain ?_ ?_ ?_ ?_ ?_) <;> walk_at "gv") | ((with_reducible refine' gt_truL ?_) <;> walk_at "gv") | ((with_reducible refine' gv_countI ?_ ?_) <;> walk_at "gv")
  | ((with_reducible refine' gv_lenSetI ?_ ?_) <;> walk_at "gv") | ((with_reducible refine' gv_lenSetU ?_ ?_) <;> walk_at "gv") | ((with_reducible refine' gv_lenSetT ?_ ?_) <;> walk_at "gv")
  | exact gt_yes
  | walk_at "gc"
  | exact ro_I0 | exact ro_B0 | (refine ro_I ?_; walk_at "sd")
  | exact ro_eqI | exact ro_neI | exact ro_eqS | exact ro_neS
  | (refine ro_eq ?_; walk_at "sd") | (refine ro_ne ?_; walk_at "sd")
  | exact ro_isN | exact ro_notN
  | exact ro_inI | exact ro_notInI | exact ro_inTI
  | (refine' ro_ixL ?k1; (case' k1 => walk_at "sd")) | (refine' ro_ixT ?k1; (case' k1 => walk_at "sd"))
  | (refine ro_cat ?_; walk_at "sd")
  | exact rc_lenM | exact rc_len | exact rc_lenT | exact rc_list | exact rc_listT | exact rc_tuple | exact rc_any | exact rc_all | exact rc_max2 | exact rc_min2 | exact rc_intB
  | (show (_ : Nat) ≤ _; first | decide | (simp; done) | omega)
  | (show (_ : Nat) < _; first | decide | (simp; done) | omega)
  | (show ¬ (_ ∧ _); exact fun h => absurd (show (1 : Nat) = 0 from h.1) (by decide))
  | skip)
local macro_rules | `(tactic| walk_at "ge") => `(tactic| (refine' gt_is ?k1 ?k2; (case' k1 => walk_at "gv"); (case' k2 => first | rfl | (simp; done) | skip)))
local macro_rules | `(tactic| walk_at "gw") => `(tactic| (refine' gv_is ?k1 ?k2; (case' k1 => walk_at "gv"); (case' k2 => first | rfl | (simp; done) | skip)))
local macro_rules | `(tactic| walk_at "gj") => `(tactic| first | exact gi_nil | (refine' gi_cons ?g1 ?g2; (case' g1 => walk_at "gv"); (case' g2 => walk_at "gj")))
local macro_rules | `(tactic| walk_at "gi") => `(tactic| (refine' gv_lst ?k1 ?k2; (case' k1 => walk_at "gj"); (case' k2 => (simp; try omega))))
local macro_rules | `(tactic| walk_at "gc") => `(tactic| first | ((with_reducible refine' gv_joints ?_) <;> walk_at "gv") | ((with_reducible refine' gv_beyond ?_ ?_ ?_ ?_) <;> walk_at "gv") | ((with_reducible refine' gv_outs ?_ ?_) <;> walk_at "gv") | ((with_reducible refine' gv_ends ?_ ?_ ?_ ?_ ?_) <;> walk_at "gv"))
/-! ### the law's own signals, ways, routes -/
section
variable {C : Adr} {P : Program} {w : World} {K : PySem.W.Frag} {mg : Str → Option Value} {base : Heap} {fd : FuncData} {f : Addr}
abbrev s__law_ways : Stmt := top 36
abbrev N__law_ways : List Str := ["_law_pieces_here", "_law_signals_here", "_law_way", "_law_at", "_law_joint", "_law_found", "_law_out", "_law_here", "_law_behind", "_law_step"]
theorem sc__law_ways : FnScope N__law_ways ["_law_pieces_here", "_law_signals_here", "_law_way", "_law_at", "_law_joint"] (defScope s__law_ways) := ⟨rfl, rfl, rfl, by decide +kernel, rfl, by decide +kernel, by decide +kernel⟩
abbrev s__law_routes : Stmt := top 37
abbrev N__law_routes : List Str := ["_law_pieces_here", "_law_signals_here", "_law_found", "_law_k", "_law_way"]
theorem sc__law_routes : FnScope N__law_routes ["_law_pieces_here", "_law_signals_here"] (defScope s__law_routes) := ⟨rfl, rfl, rfl, by decide +kernel, rfl, by decide +kernel, by decide +kernel⟩
def cutX {α : Type} (xs : List α) (lo hi : Option Int) : List α := (xs.drop (HT.sIx xs.length 0 lo)).take (HT.sIx xs.length xs.length hi - HT.sIx xs.length 0 lo)
theorem cutD_map {α : Type} [DecidableEq α] [Enc α] (xs : List α) (lo hi : Option Int) : cutD (xs.map enc) lo hi = (cutX xs lo hi).map enc := by
  unfold cutD cutX
  rw [List.length_map, List.map_take, List.map_drop]
theorem cutX_from {α : Type} (xs : List α) (s : Nat) (h : s ≤ xs.length) : cutX xs (some (s : Int)) none = xs.drop s := by
  unfold cutX
  rw [HT.sIx_nat, HT.sIx_none, Nat.min_eq_left h, List.take_of_length_le (by rw [List.length_drop]; exact Nat.le_refl _)]
theorem cutX_to {α : Type} (xs : List α) (s : Nat) : cutX xs none (some (s : Int)) = xs.take s := by
  unfold cutX
  rw [HT.sIx_nat, HT.sIx_none, List.drop_zero, Nat.sub_zero]
  rw [List.take_eq_take_iff]
  omega
def goodSJ (ps : List Pc) (sg : List Sig) : Prop := sg.length ≤ 16 ∧ sg.Nodup ∧ ∀ s ∈ sg, okSig ps s = true
theorem goodSJ.ok {ps : List Pc} {sg : List Sig} (h : goodSJ ps sg) : goodSg ps sg = true := by
  unfold goodSg
  rw [Bool.and_eq_true, Bool.and_eq_true]
  refine ⟨⟨?_, decide_eq_true ?_⟩, List.all_eq_true.mpr h.2.2⟩
  · have := h.1
    simp
    omega
  · rw [(nset_iff sg).mpr h.2.1]
theorem goodSJ.turn {ps : List Pc} {fs : List Sig} (n : fs.Nodup) (h : ∀ s ∈ fs, okSig ps s = true) (k : Nat) : goodSJ ps ((fs.drop k ++ fs.take k).take 16) := by
  refine ⟨by rw [List.length_take]; omega, ?_, fun s hs => ?_⟩
  · refine List.Nodup.sublist (List.take_sublist _ _) ?_
    rw [List.perm_append_comm.nodup_iff, List.take_append_drop]
    exact n
  · have := List.mem_of_mem_take hs
    rcases List.mem_append.mp this with q | q
    · exact h s (List.mem_of_mem_drop q)
    · exact h s (List.mem_of_mem_take q)
def spSignals (K : PySem.W.Frag) : Sp := spX (T := Addr × List Int × Int × List Pc) (fun t => [.v (.ref t.1), AI t.2.2.1, .d (.list (t.2.2.2.map enc))]) (fun t _ H => SqL K H t.1 (t.2.1.map V.int) ∧ t.2.2.2.length ≤ 8 ∧ ∀ p ∈ t.2.2.2, p.js.Nodup) fun t g => ∃ sg : List Sig, goodSJ t.2.2.2 sg ∧ g = .d (.list (sg.map enc))
theorem nd_notin {xs : List Int} {i : Nat} {x : Int} (n : xs.Nodup) (h : xs[i]? = some x) : x ∉ xs.take i := by
  intro q
  have e : xs = xs.take i ++ xs.drop i := (List.take_append_drop i xs).symm
  have hi := (List.getElem?_eq_some_iff.mp h).1
  have hd : x ∈ xs.drop i := by
    rw [List.mem_iff_getElem?]
    exact ⟨0, by rw [List.getElem?_drop]; exact h⟩
  rw [e] at n
  exact (List.nodup_append.mp n).2.2 x q x hd rfl
theorem ok_signals (T : Txt K mg C) (F : Fun K "_law_signals" "_law_signals" s__law_signals f fd) (c__law_mix : Cal P w K mg base CX0 2 "_law_mix" (spMix K)) (c__law_beyond : Cal P w K mg base CX0 1 "_law_beyond" spBeyond) :
    FnOk P w K mg base CX0 3 f fd ["_law_script", "_law_base", "_law_pieces_here"] (spSignals K) := by
  refine fn_X F sc__law_signals (fun _ => rfl) fun cdv A outer s H Q E hr => ⟨_, pss_cons (ps_set (i := 3) sc__law_signals.nd rfl (by first | exact Or.inl rfl | exact Or.inr rfl) (pe_lst (pa_nil)))
  (pss_cons (ps_for PassesOwn.never rfl (pi_range1 (by rfl) T.n_range (pa_cons (pe_callB (call_lenK (K := K) rfl) (by rfl) T.n_len (by decide +kernel) (pa_cons (pv 2) (pa_nil))) (pa_nil))) (pg_name (i := 4) sc__law_signals.nd rfl (by first | exact Or.inl rfl | exact Or.inr rfl)) (pss_cons (ps_for PassesOwn.never rfl (pi_tupK (K := K) rfl (pe_slice (sl_tupK (K := K) rfl) (pe_ix (ix_listK (K := K) rfl) (pv 2) (pv 4) (fun _ _ => rfl)) (po_some (pe_int)) (po_none))) (pg_name (i := 5) sc__law_signals.nd rfl (by first | exact Or.inl rfl | exact Or.inr rfl)) (pss_cons (ps_set (i := 6) sc__law_signals.nd rfl (by first | exact Or.inl rfl | exact Or.inr rfl) (pe_cal c__law_mix hr (by first | decide | omega) rfl passN (pa_cons (pv 0) (pa_cons (pe_op op_add (pe_op op_add (pv 1) (pe_op op_mul (pe_int) (pv 4))) (pe_callB (call_lenK (K := K) rfl) (by rfl) T.n_len (by decide +kernel) (pa_cons (pv 3) (pa_nil)))) (pa_nil)))))
  (pss_cons (ps_set (i := 7) sc__law_signals.nd rfl (by first | exact Or.inl rfl | exact Or.inr rfl) (pe_cmpR op_isN (pe_cal c__law_beyond hr (by first | decide | omega) rfl passN (pa_cons (pv 2) (pa_cons (pv 4) (pa_cons (pv 5) (pa_nil))))) (pe_non) (nomark _)))
  (pss_cons (ps_if (PW.pt (pw_or (pt_cmpR op_eq (pe_op op_mod (pv 6) (pe_int)) (pe_int) (nomark _)) (pw_or1 (PW.pt (pw_and (pt_val (pv 7)) (pw_and1 (pt_cmpR op_eq (pe_op op_mod (pv 6) (pe_int)) (pe_int) (nomark _)))))))) (pss_cons (ps_expr (pe_bmK (K := K) rfl PySem.F.plainAttrs_list PySem.F.slot_list_append PySem.F.type_list_append mt_append (pv 3) (pa_cons (pe_tup (pa_cons (pv 5) (pa_cons (pv 4) (pa_nil)))) (pa_nil))))
  (pss_nil)) (pss_nil))
  (pss_nil)))))
  (pss_nil)))
  (pss_cons (ps_set (i := 8) sc__law_signals.nd rfl (by first | exact Or.inl rfl | exact Or.inr rfl) (pe_op op_mod (pe_cal c__law_mix hr (by first | decide | omega) rfl passN (pa_cons (pv 0) (pa_cons (pe_op op_add (pv 1) (pe_int)) (pa_nil)))) (pe_op op_add (pe_int) (pe_callB (call_lenK (K := K) rfl) (by rfl) T.n_len (by decide +kernel) (pa_cons (pv 3) (pa_nil))))))
  (pss_cons (ps_ret (pe_slice (sl_listK (K := K) rfl) (pe_op op_cat (pe_slice (sl_listK (K := K) rfl) (pv 3) (po_some (pv 8)) (po_none)) (pe_slice (sl_listK (K := K) rfl) (pv 3) (po_none) (po_some (pv 8)))) (po_none) (po_some (pe_int))))
  (pss_nil)))), fun ⟨a, ns, bs, ps⟩ B e hpre q => ?_⟩
  obtain ⟨hS, hl, hnd⟩ := hpre
  have hS : SqL K H a (ns.map V.int) := hS
  have hl : ps.length ≤ 8 := hl
  have hnd : ∀ p ∈ ps, p.js.Nodup := hnd
  have q : ∀ u B2 H2 sg, goodSJ ps sg → Ext B H B2 H2 → Is B2 u (.d (.list (sg.map enc))) → Q u H2 := fun u B2 H2 sg hp x hu => q u B2 H2 _ ⟨sg, hp, rfl⟩ x hu
  refine qx_newL (ds := []) ga_nil (by decide) fun pf B2 H2 hp x2 m => ?_
  refine qx_forR (n := ((ps.length : Nat) : Int)) (ga_cons (gv_cb (ga_cons (gv_var rfl) ga_nil) rc_lenM) ga_nil) (by omega) (by omega) (fun _ => [some (.v (.ref a)), some (AI bs), some (.d (.list (ps.map enc))), some (.v (.ref pf)), none, none, none, none, none])
    (fun k B1 H1 => Ext B H B1 H1 ∧ ∃ fs : List Sig, fs.length ≤ 3 * k ∧ Ml B1 H1 pf (fs.map enc) ∧ fs.Nodup ∧ ∀ s ∈ fs, okSig ps s = true ∧ s.2 < (k : Int)) (by walk_at "le") (fun B3 H3 x3 => ⟨x2.trans x3, [], by decide, m.ext x3, List.nodup_nil, fun s h => by simp at h⟩) ?_ ?_
  · intro Bs k B3 H3 hk s1 s2 ⟨x3, fs, hfl, m3, nd3, ok3⟩
    have hk' : k < ps.length := by omega
    obtain ⟨pc, hpc⟩ : ∃ pc, ps[k]? = some pc := ⟨_, List.getElem?_eq_getElem hk'⟩
    have hat := atI_map hpc
    have hpn := hnd pc (List.mem_of_getElem? hpc)
    have hjl := js_len pc
    refine qx_forT (xs := pc.js) (gv_tl (gv_op (gv_var rfl) (gv_var rfl) (ro_ixL hat))) (fun _ => [some (.v (.ref a)), some (AI bs), some (.d (.list (ps.map enc))), some (.v (.ref pf)), some (AI (k : Int)), none, none, none, none])
      (fun i B1 H1 => Ext B H B1 H1 ∧ ∃ fs : List Sig, fs.length ≤ 3 * k + i ∧ Ml B1 H1 pf (fs.map enc) ∧ fs.Nodup ∧ ∀ s ∈ fs, okSig ps s = true ∧ (s.2 < (k : Int) ∨ (s.2 = (k : Int) ∧ s.1 ∈ pc.js.take i))) (by walk_at "le")
      (fun B4 H4 x4 => ⟨x3.trans x4, fs, by omega, m3.ext x4, nd3, fun s hs => ⟨(ok3 s hs).1, .inl (ok3 s hs).2⟩⟩) ?_ ?_
    · intro Bs2 i jj B4 H4 hi s3 s4 ⟨x4, fs, hfl, m4, nd4, ok4⟩
      have hi3 : i < 3 := by
        have := (List.getElem?_eq_some_iff.mp hi).1
        omega
      have hS4 := x4.hh.seq hS
      have htk : ∀ s : Sig, okSig ps s = true ∧ (s.2 < (k : Int) ∨ (s.2 = (k : Int) ∧ s.1 ∈ pc.js.take i)) → okSig ps s = true ∧ (s.2 < (k : Int) ∨ (s.2 = (k : Int) ∧ s.1 ∈ pc.js.take (i + 1))) := fun s h => ⟨h.1, h.2.imp id fun h => ⟨h.1, by rw [List.take_add_one]; exact List.mem_append.mpr (.inl h.2)⟩⟩
      refine qx_asg (g := AI (mixN ns (bs + 3 * (k : Int) + ((fs.length : Nat) : Int)))) (gv_mix (gv_var rfl) (gv_op (gv_op (gv_var rfl) (gv_op gv_int (gv_var rfl) (ro_I (by show (-(2 ^ 64) < (3 : Int) ∧ (3 : Int) < 2 ^ 64) ∨ _; exact .inl ⟨by decide, by decide⟩))) ro_I0) (gv_is (gv_cb (ga_cons (gv_var rfl) ga_nil) (rc_lenO m4)) (by rw [List.length_map])) ro_I0) hS4) fun B5 H5 x5 => ?_
      generalize mixN ns (bs + 3 * (k : Int) + ((fs.length : Nat) : Int)) = nu
      refine qx_asg (gv_op (gv_beyond (ps := ps) (gv_var rfl) (gv_var rfl) (gv_var rfl) (by omega)) gv_non ro_isN) fun B6 H6 x6 => ?_
      generalize isN (AV.d (oN (beyondN ps (k : Int) jj))) = bo
      refine qx_when (b := decide (nu % 3 = 0) || (bo && decide (nu % 3 = 1))) ?_ (fun _ B7 H7 x7 => ?_) fun _ B7 H7 x7 => ?_
      · refine gt_or ?_ fun _ => gt_and (gt_B (gv_var rfl)) fun _ => ?_ <;> walk_at "gv"
      · have new : ((jj, (k : Int)) : Sig) ∉ fs := fun h => by
          rcases (ok4 _ h).2 with h1 | h1
          · have h1 : (k : Int) < (k : Int) := h1
            omega
          · exact nd_notin hpn hi h1.2
        refine qx_app (d := enc ((jj, (k : Int)) : Sig)) (((m4.ext x5).ext x6).ext x7) (gv_var rfl) (gv_is (gv_tup (ds := [.int jj, .int (k : Int)]) (ga_cons (gv_var rfl) (ga_cons (gv_var rfl) ga_nil)) (by show 2 ≤ 16000000; decide)) rfl) (by rw [List.length_map]; omega) fun B8 H8 x8 m8 => sx_go ?_
        have e8 : fs.map enc ++ [enc ((jj, (k : Int)) : Sig)] = (fs ++ [(jj, (k : Int))]).map enc := by rw [List.map_append]; rfl
        rw [e8] at m8
        refine sx_lp (s4.trans (x5.bb.trans (x6.bb.trans (x7.bb.trans x8.bb)))) (by walk_at "le") ⟨(x4.trans ((x5.trans x6).trans x7)).thenF x8 (fun p h => by rw [h]; exact hp), fs ++ [(jj, (k : Int))], by rw [List.length_append]; show fs.length + 1 ≤ _; omega, m8, ?_, fun s hs => ?_⟩
        · rw [List.nodup_append]
          refine ⟨nd4, by simp, fun x hx y hy e => ?_⟩
          simp at hy
          subst hy
          subst e
          exact new hx
        · rcases List.mem_append.mp hs with h | h
          · exact htk s (ok4 s h)
          · simp at h
            subst h
            refine ⟨?_, .inr ⟨rfl, ?_⟩⟩
            · have hj : jj ∈ pc.js := List.mem_of_getElem? hi
              unfold okSig
              rw [show ((k : Int)).toNat = k by omega, hpc]
              simp [hj]
              omega
            · rw [List.take_add_one, hi]
              exact List.mem_append.mpr (.inr (by simp))
      · exact sx_lp (s4.trans (x5.bb.trans (x6.bb.trans x7.bb))) (by walk_at "le") ⟨x4.trans ((x5.trans x6).trans x7), fs, by omega, ((m4.ext x5).ext x6).ext x7, nd4, fun s hs => htk s (ok4 s hs)⟩
    · intro B4 H4 s3 ⟨x4, fs, hfl, m4, nd4, ok4⟩
      refine sx_lp (s2.trans s3) (by walk_at "le") ⟨x4, fs, by omega, m4, nd4, fun s hs => ⟨(ok4 s hs).1, ?_⟩⟩
      rcases (ok4 s hs).2 with h | h
      · show s.2 < ((k + 1 : Nat) : Int)
        omega
      · have := h.1
        show s.2 < ((k + 1 : Nat) : Int)
        omega
  · intro B3 H3 s1 ⟨x3, fs, hfl, m3, nd3, ok3⟩
    refine sx_give (i := 3) x3 hp m3 rfl fun B4 x4 s4 => ?_
    have hS4 := x4.hh.seq hS
    have r0 : 0 ≤ mixN ns (bs + 30) % (1 + ((fs.length : Nat) : Int)) := Int.emod_nonneg _ (by omega)
    have r1 : mixN ns (bs + 30) % (1 + ((fs.length : Nat) : Int)) < 1 + ((fs.length : Nat) : Int) := Int.emod_lt_of_pos _ (by omega)
    refine qx_asg (g := AI (mixN ns (bs + 30) % (1 + ((fs.length : Nat) : Int)))) (gv_op (gv_mix (gv_var rfl) (gv_op (gv_var rfl) gv_int ro_I0) hS4) (gv_op gv_int (gv_cb (ga_cons (gv_var rfl) ga_nil) rc_lenM) ro_I0) (ro_I (by show (0 : Int) < _; omega))) fun B5 H5 x5 => ?_
    obtain ⟨sh, hsh⟩ : ∃ sh : Nat, mixN ns (bs + 30) % (1 + ((fs.length : Nat) : Int)) = (sh : Int) := ⟨_, (Int.toNat_of_nonneg r0).symm⟩
    rw [hsh] at r1 ⊢
    refine qx_ret (g := .d (.list (((fs.drop sh ++ fs.take sh).take 16).map enc))) (gv_is (gv_slL (gv_op (gv_slL (gv_var rfl) (go_some (gv_var rfl)) go_none) (gv_slL (gv_var rfl) go_none (go_some (gv_var rfl))) (ro_cat ?_)) go_none (go_some gv_int)) ?_) fun u B6 H6 x6 hu => q u B6 H6 _ (goodSJ.turn nd3 (fun s hs => (ok3 s hs).1) sh) (x4.trans (x5.trans x6)) hu
    · rw [cutD_map, cutD_map, cutX_from _ _ (by omega), cutX_to, List.length_map, List.length_map, List.length_drop, List.length_take]
      omega
    · rw [cutD_map, cutD_map, cutX_from _ _ (by omega), cutX_to, ← List.map_append, cutD_map, show (16 : Int) = ((16 : Nat) : Int) from rfl, cutX_to]
end
end SB
namespace SB
open PySem PySem.Spec PyProof.Rows L2
open Enc (enc)
local macro_rules | `(tactic| walk_at "le") => `(tactic| first | exact le_nil | (refine le_keep ?_; walk_at "le") | (refine le_drop ?_; walk_at "le"))
local macro_rules | `(tactic| walk_at "sd") => `(tactic| first | assumption | (show (_ : Int) < _ ∧ _ < (1073741824 : Int); exact ⟨by omega, by omega⟩) | (show (-(2 ^ 64) < (_ : Int) ∧ _ < (2 ^ 64 : Int)) ∨ _; first | exact .inl ⟨by omega, by omega⟩ | exact .inr ⟨by omega, by omega⟩) | rfl | decide | (simp; done) | omega | skip)
local macro_rules | `(tactic| walk_at "gc") => `(tactic| fail)
local macro_rules | `(tactic| walk_at "gv") => `(tactic| first
  | exact gv_int | exact gv_str | exact gv_bl | exact gv_non | exact gv_var rfl
  | ((with_reducible refine' gv_op ?_ ?_ ?_) <;> walk_at "gv")
  | ((with_reducible refine' ga_cons ?_ ?_) <;> walk_at "gv") | exact ga_nil
  | ((with_reducible refine' gv_cb ?_ ?_) <;> walk_at "gv")
  | ((with_reducible refine' gt_test ?_) <;> walk_at "gv") | ((with_reducible refine' gt_B ?_) <;> walk_at "gv") | ((with_reducible refine' gt_not ?_) <;> walk_at "gv")
  | ((with_reducible refine' gt_and ?k1 ?k2); (case' k1 => walk_at "gv"); (case' k2 => intro hb; walk_at "gv"))
  | ((with_reducible refine' gt_or ?k1 ?k2); (case' k1 => walk_at "gv"); (case' k2 => intro hb; walk_at "gv"))
  | ((with_reducible refine' gv_andV ?k1 ?k2); (case' k1 => walk_at "gv"); (case' k2 => intro hb; walk_at "gv"))
  | ((with_reducible refine' gv_orV ?k1 ?k2); (case' k1 => walk_at "gv"); (case' k2 => intro hb; walk_at "gv"))
  | ((with_reducible refine' gv_notV ?_) <;> walk_at "gv")
  | ((with_reducible refine' gv_slL ?_ ?_ ?_) <;> walk_at "gv") | ((with_reducible refine' gv_slT ?_ ?_ ?_ ?_) <;> walk_at "gv")
  | exact go_none | ((with_reducible refine' go_some ?_) <;> walk_at "gv")
  | exact gd_nil | ((with_reducible refine' gd_cons ?_ ?_) <;> walk_at "gv") | ((with_reducible refine' gv_lst ?_ ?_) <;> walk_at "gv") | ((with_reducible refine' gv_tup ?_ ?_) <;> walk_at "gv")
  | ((with_reducible refine' gv_chain ?_ ?_ ?_ ?_ ?_) <;> walk_at "gv") | ((with_reducible refine' gt_truL ?_) <;> walk_at "gv") | ((with_reducible refine' gv_countI ?_ ?_) <;> walk_at "gv")
  | ((with_reducible refine' gv_lenSetI ?_ ?_) <;> walk_at "gv") | ((with_reducible refine' gv_lenSetU ?_ ?_) <;> walk_at "gv") | ((with_reducible refine' gv_lenSetT ?_ ?_) <;> walk_at "gv")
  | exact gt_yes
  | walk_at "gc"
  | exact ro_I0 | exact ro_B0 | (refine ro_I ?_; walk_at "sd")
  | exact ro_eqI | exact ro_neI | exact ro_eqS | exact ro_neS
  | (refine ro_eq ?_; walk_at "sd") | (refine ro_ne ?_; walk_at "sd")
  | exact ro_isN | exact ro_notN
  | exact ro_inI | exact ro_notInI | exact ro_inTI
  | (refine' ro_ixL ?k1; (case' k1 => walk_at "sd")) | (refine' ro_ixT ?k1; (case' k1 => walk_at "sd"))
  | (refine ro_cat ?_; walk_at "sd")
  | exact rc_lenM | exact rc_len | exact rc_lenT | exact rc_list | exact rc_listT | exact rc_tuple | exact rc_any | exact rc_all | exact rc_max2 | exact rc_min2 | exact rc_intB
  | (show (_ : Nat) ≤ _; first | decide | (simp; done) | omega)
  | (show (_ : Nat) < _; first | decide | (simp; done) | omega)
  | (show ¬ (_ ∧ _); exact fun h => absurd (show (1 : Nat) = 0 from h.1) (by decide))
  | skip)
local macro_rules | `(tactic| walk_at "ge") => `(tactic| (refine' gt_is ?k1 ?k2; (case' k1 => walk_at "gv"); (case' k2 => first | rfl | (simp; done) | skip)))
local macro_rules | `(tactic| walk_at "gw") => `(tactic| (refine' gv_is ?k1 ?k2; (case' k1 => walk_at "gv"); (case' k2 => first | rfl | (simp; done) | skip)))
local macro_rules | `(tactic| walk_at "gj") => `(tactic| first | exact gi_nil | (refine' gi_cons ?g1 ?g2; (case' g1 => walk_at "gv"); (case' g2 => walk_at "gj")))
local macro_rules | `(tactic| walk_at "gi") => `(tactic| (refine' gv_lst ?k1 ?k2; (case' k1 => walk_at "gj"); (case' k2 => (simp; try omega))))
local macro_rules | `(tactic| walk_at "gc") => `(tactic| first | ((with_reducible refine' gv_joints ?_) <;> walk_at "gv") | ((with_reducible refine' gv_beyond ?_ ?_ ?_ ?_) <;> walk_at "gv") | ((with_reducible refine' gv_outs ?_ ?_) <;> walk_at "gv") | ((with_reducible refine' gv_ends ?_ ?_ ?_ ?_ ?_) <;> walk_at "gv"))
/-! ### the law's own ways, routes -/
section
variable {C : Adr} {P : Program} {w : World} {K : PySem.W.Frag} {mg : Str → Option Value} {base : Heap} {fd : FuncData} {f : Addr}
def spWaysL (n : Nat) : Sp := spP (T := WaysArg) (fun t => [.d (.list (t.ps.map enc)), .d (.list (t.sg.map enc)), .d (.list (t.way.map enc)), AI (t.a : Int), AI t.j]) (fun t _ _ => WaysPre n t)
  fun t => .d (.list ((waysN t.ps t.sg n t.way t.j t.a).map enc))
theorem gv_waysL {n : Nat} {Γ : List (Option AV)} {B H : Hp} {ta : TA} {E : XK} (t : WaysArg) (h : Ga ta Γ B H [.d (.list (t.ps.map enc)), .d (.list (t.sg.map enc)), .d (.list (t.way.map enc)), AI (t.a : Int), AI t.j]) (hp : WaysPre n t) :
    Gv (tCall (spWaysL n) [] E ta) Γ B H (.d (.list ((waysN t.ps t.sg n t.way t.j t.a).map enc))) := gv_call t h fun _ _ _ => hp
theorem ok_Lways_step {n : Nat} (T : Txt K mg C) (F : Fun K "_law_ways" "_law_ways" s__law_ways f fd) (c__law_beyond : Cal P w K mg base CX0 1 "_law_beyond" spBeyond) (c__law_outs : Cal P w K mg base CX0 1 "_law_outs" spOuts)
    (IH : Cal P w K mg base CX0 (3 + n) "_law_ways" (spWaysL n)) : FnOk P w K mg base CX0 (3 + n + 1) f fd ["_law_pieces_here", "_law_signals_here", "_law_way", "_law_at", "_law_joint"] (spWaysL (n + 1)) := by
  have HK : 3 + n ≤ 3 + n := Nat.le_refl _
  have c__law_beyond := c__law_beyond.mono (show 1 ≤ 3 + n by omega)
  have c__law_outs := c__law_outs.mono (show 1 ≤ 3 + n by omega)
  refine fn_P F sc__law_ways (fun _ => rfl) fun cdv A outer s H Q E hr => ⟨_, pss_cons (ps_set (i := 5) sc__law_ways.nd rfl (by first | exact Or.inl rfl | exact Or.inr rfl) (pe_lst (pa_nil)))
  (pss_cons (ps_if (pt_cmpR (op_inK (K := K) rfl) (pv 3) (pe_lc (own := [("_law_step", 9)]) (g := gName 9) (tt := tYes) (by rfl) sc__law_ways.nd (pi_listK (K := K) rfl (pv 2)) (blkOk_by (own := [("_law_step", 9)]) (N := N__law_ways) (sc := defScope s__law_ways) (by decide +kernel)) (fun _ _ _ _ _ => pg_name (i := 9) sc__law_ways.nd rfl (Or.inl rfl)) (fun _ _ _ _ _ => pts_nil) (fun _ _ _ _ _ => pe_ix (ix_tupK (K := K) rfl) (pv 9) (pe_int) (fun _ _ => rfl))) (by rfl)) (pss_cons (ps_ret (pv 5))
  (pss_nil)) (pss_nil))
  (pss_cons (ps_for PassesOwn.never rfl (pi_listK (K := K) rfl (pe_cal c__law_outs hr (by first | decide | omega) rfl passN (pa_cons (pe_ix (ix_listK (K := K) rfl) (pv 0) (pv 3) (fun _ _ => rfl)) (pa_cons (pv 4) (pa_nil))))) (pg_name (i := 6) sc__law_ways.nd rfl (by first | exact Or.inl rfl | exact Or.inr rfl)) (pss_cons (ps_set (i := 7) sc__law_ways.nd rfl (by first | exact Or.inl rfl | exact Or.inr rfl) (pe_op op_cat (pv 2) (pe_lst (pa_cons (pe_tup (pa_cons (pv 3) (pa_cons (pv 4) (pa_cons (pv 6) (pa_nil))))) (pa_nil)))))
  (pss_cons (ps_set (i := 8) sc__law_ways.nd rfl (by first | exact Or.inl rfl | exact Or.inr rfl) (pe_cal c__law_beyond hr (by first | decide | omega) rfl passN (pa_cons (pv 0) (pa_cons (pv 3) (pa_cons (pv 6) (pa_nil))))))
  (pss_cons (ps_if (PW.pt (pw_or (pt_cmpR op_isN (pv 8) (pe_non) (nomark _)) (pw_or1 (pt_cmpR (op_inDK (K := K) rfl hr.u65) (pe_tup (pa_cons (pv 6) (pa_cons (pv 8) (pa_nil)))) (pv 1) (by rfl))))) (pss_cons (ps_expr (pe_bmK (K := K) rfl PySem.F.plainAttrs_list PySem.F.slot_list_append PySem.F.type_list_append mt_append (pv 5) (pa_cons (pv 7) (pa_nil))))
  (pss_nil)) (pss_cons (ps_set (i := 5) sc__law_ways.nd rfl (by first | exact Or.inl rfl | exact Or.inr rfl) (pe_op op_cat (pv 5) (pe_cal IH hr HK rfl passN (pa_cons (pv 0) (pa_cons (pv 1) (pa_cons (pv 7) (pa_cons (pv 8) (pa_cons (pv 6) (pa_nil)))))))))
  (pss_nil)))
  (pss_nil)))))
  (pss_cons (ps_ret (pv 5))
  (pss_nil)))), fun ⟨ps, sg, way, j, a⟩ B e pre q => ?_⟩
  obtain ⟨h16, ha, hn, hnd, hin, h17⟩ := pre
  have h16 : ps.length ≤ 16 := h16
  have ha : a < ps.length := ha
  have hn : ps.length < way.length + (n + 1) := hn
  have hnd : (way.map Stp.p).Nodup := hnd
  have hin : ∀ s ∈ way, 0 ≤ s.p ∧ s.p < (ps.length : Int) := hin
  have q : ∀ u B2 H2, Ext B H B2 H2 → Is B2 u (.d (.list ((waysN ps sg (n + 1) way j a).map enc))) → Q u H2 := q
  have hway := way_le hnd hin
  refine qx_newL (ds := []) ga_nil (by decide) fun p B2 H2 hp x2 m => ?_
  refine qx_when (b := decide ((a : Int) ∈ way.map Stp.p)) ?_ ?_ ?_
  · refine gt_test (gv_op (gv_var rfl) (y := .d (.list ((way.map Stp.p).map enc))) ?_ ro_inI)
    refine gv_lcM Stp.p (gv_var rfl) (by omega) (by decide) (by decide) fun st _ B2 H2 x2 => ?_
    walk_at "gw"
  · intro hb B3 H3 x3
    refine qx_retM (x2.trans x3) hp (m.ext x3) (gv_var rfl) fun u B4 H4 x4 hu => q u B4 H4 x4 ?_
    have : waysN ps sg (n + 1) way j a = [] := by
      unfold waysN
      exact if_pos (of_decide_eq_true hb)
    rw [this]
    exact hu
  intro hb B3 H3 x3
  have hna : (a : Int) ∉ way.map Stp.p := of_decide_eq_false hb
  have x30 := x2.trans x3
  have m3 := m.ext x3
  obtain ⟨pc, hpc⟩ : ∃ pc, ps[a]? = some pc := ⟨_, List.getElem?_eq_getElem ha⟩
  let Fo : Int → List (List Stp) := fun o => if endsN ps sg a o = true then [way ++ [⟨a, j, o⟩]] else match beyondN ps a o with
        | none => []
        | some b => waysN ps sg n (way ++ [⟨a, j, o⟩]) o b
  have hFl : ∀ o, (Fo o).length ≤ 2 ^ n := fun o => by
    show (if endsN ps sg a o = true then [way ++ [⟨a, j, o⟩]] else match beyondN ps a o with
        | none => []
        | some b => waysN ps sg n (way ++ [⟨a, j, o⟩]) o b).length ≤ 2 ^ n
    split
    · exact Nat.one_le_two_pow
    · split
      · exact Nat.zero_le _
      · exact ways_len ps sg n _ _ _
  have hpow : 2 ^ n ≤ 2 ^ 17 := Nat.pow_le_pow_right (by decide) (by omega)
  have hpl : ∀ k, (((outsN pc j).take k).flatMap Fo).length ≤ 2 * 2 ^ 17 := fun k => by
    have key : ∀ os : List Int, (os.flatMap Fo).length ≤ os.length * 2 ^ n := by
      intro os
      induction os with
      | nil => simp
      | cons o os ih =>
        rw [List.flatMap_cons, List.length_append, List.length_cons, Nat.add_mul, Nat.one_mul, Nat.add_comm]
        exact Nat.add_le_add ih (hFl o)
    refine Nat.le_trans (key _) (Nat.le_trans (Nat.mul_le_mul_right _ (m := 2) ?_) (Nat.mul_le_mul_left _ hpow))
    have := outsN_len pc j
    have h3 : ((outsN pc j).take k).length ≤ (outsN pc j).length := by rw [List.length_take]; omega
    omega
  have hw : waysN ps sg (n + 1) way j a = (outsN pc j).flatMap Fo := by
    show (if (a : Int) ∈ way.map Stp.p then [] else (outsN ((ps[a]?).getD (.plain 0 0)) j).flatMap Fo) = _
    rw [if_neg hna, hpc]
    rfl
  rw [hw] at q
  refine qx_forDE (xs := outsN pc j) ?_ (ι := Addr) (fun t => [some (.d (.list (ps.map enc))), some (.d (.list (sg.map enc))), some (.d (.list (way.map enc))), some (AI (a : Int)), some (AI j), some (.v (.ref t)), none, none, none, none])
    (fun k t B1 H1 => Ext B H B1 H1 ∧ H t = none ∧ Ml B1 H1 t ((((outsN pc j).take k).flatMap Fo).map enc)) p (by walk_at "le") (fun B4 H4 x4 => ⟨x30.trans x4, hp, m3.ext x4⟩) ?_ ?_
  · have hat := atI_map hpc
    exact gv_outs (gv_op (gv_var rfl) (gv_var rfl) (ro_ixL hat)) (gv_var rfl)
  · intro Bs k o t B4 H4 hk s1 s2 ⟨x4, ht, m4⟩
    have htake : ((outsN pc j).take (k + 1)).flatMap Fo = ((outsN pc j).take k).flatMap Fo ++ Fo o := by
      rw [List.take_add_one, hk, List.flatMap_append]
      simp
    have hsz := hpl (k + 1)
    rw [htake, List.length_append] at hsz
    refine qx_asg (g := .d (.list ((way ++ [(⟨a, j, o⟩ : Stp)]).map enc))) ?_ fun B5 H5 x5 => ?_
    · refine gv_is (g := .d (.list (way.map enc ++ [enc (⟨a, j, o⟩ : Stp)]))) ?_ (by rw [List.map_append]; rfl)
      refine gv_op (y := .d (.list [enc (⟨a, j, o⟩ : Stp)])) (gv_var rfl) ?_ (ro_cat (by simp; omega))
      walk_at "gw"
    refine qx_asg (g := .d (oN (beyondN ps a o))) (gv_beyond (gv_var rfl) (gv_var rfl) (gv_var rfl) (by omega)) fun B6 H6 x6 => ?_
    have x46 := x5.trans x6
    have m6 := m4.ext x46
    refine qx_if (b := endsN ps sg a o) ?_ ?_ ?_
    · unfold endsN
      cases hb : beyondN ps a o with
      | none => exact gt_is (gt_or (b := true) (c := false) (gt_test (gv_op (gv_var rfl) gv_non ro_isN)) fun h => by cases h) rfl
      | some k2 => exact gt_is (gt_or (b := false) (c := isin (o, (k2 : Int)) sg) (gt_test (gv_op (gv_var rfl) gv_non ro_isN)) fun _ => gt_test (gv_op (x := .d (enc (o, (k2 : Int)))) (gv_is (gv_tup (ds := [.int o, .int (k2 : Int)]) (ga_cons (gv_var rfl) (ga_cons (gv_var rfl) ga_nil)) (by show 2 ≤ 16000000; decide)) rfl) (gv_var rfl) (ro_inE (α := Sig) (by decide)))) rfl
    · intro hb B7 H7 x7
      have e1 : Fo o = [way ++ [⟨a, j, o⟩]] := if_pos hb
      refine qx_app (m6.ext x7) (gv_var rfl) (gv_var rfl) (by rw [List.length_map]; omega) fun B8 H8 x8 m8 => sx_go ?_
      refine sx_lx t (s2.trans (x46.bb.trans (x7.bb.trans x8.bb))) (by walk_at "le") ⟨(x4.trans (x46.trans x7)).thenF x8 (fun z hz => by rw [hz]; exact ht), ht, ?_⟩
      rw [htake, e1, List.map_append]
      exact m8
    · intro hb B7 H7 x7
      obtain ⟨b, hbe⟩ : ∃ b, beyondN ps a o = some b := by
        cases h : beyondN ps a o with
        | none =>
          unfold endsN at hb
          rw [h] at hb
          cases hb
        | some b => exact ⟨b, rfl⟩
      have e1 : Fo o = waysN ps sg n (way ++ [⟨a, j, o⟩]) o b := by
        show (if endsN ps sg a o = true then [way ++ [⟨a, j, o⟩]] else match beyondN ps a o with
        | none => []
        | some b => waysN ps sg n (way ++ [⟨a, j, o⟩]) o b) = _
        rw [if_neg (by rw [hb]; simp), hbe]
      have hpre : WaysPre n ⟨ps, sg, way ++ [⟨a, j, o⟩], o, b⟩ := by
        refine ⟨h16, beyondN_lt hbe, ?_, ?_, ?_, by omega⟩
        · show ps.length < (way ++ [(⟨a, j, o⟩ : Stp)]).length + n
          rw [List.length_append, List.length_singleton]
          omega
        · show ((way ++ [(⟨a, j, o⟩ : Stp)]).map Stp.p).Nodup
          rw [List.map_append, List.nodup_append]
          refine ⟨hnd, by simp, ?_⟩
          intro x hx y hy e
          simp at hy
          subst hy
          subst e
          exact hna hx
        · intro st hst
          rcases List.mem_append.mp hst with h | h
          · exact hin st h
          · simp at h
            subst h
            show (0 : Int) ≤ (a : Int) ∧ (a : Int) < (ps.length : Int)
            omega
      have m7 := m6.ext x7
      refine qx_asgM (ds := ((((outsN pc j).take (k + 1)).flatMap Fo).map enc)) (fun B8 H8 σ x8 fr Q2 q2 => ?_) fun t2 B8 H8 ht2 x8 m8 => sx_go ?_
      · rw [htake, e1, List.map_append] at q2
        refine gm_catO (m7.ext x8) (gv_var rfl) (gv_waysL (⟨ps, sg, way ++ [⟨a, j, o⟩], o, b⟩ : WaysArg) ?_ hpre) (by rw [List.length_map, List.length_map, ← e1]; omega) B8 H8 σ (Ext.refl x8.bh) fr Q2 q2
        exact ga_cons (gv_var rfl) (ga_cons (gv_var rfl) (ga_cons (gv_var rfl) (ga_cons (gv_is (gv_var rfl) (by rw [hbe]; rfl)) (ga_cons (gv_var rfl) ga_nil))))
      · exact sx_lx t2 (s2.trans (x46.bb.trans (x7.bb.trans x8.bb))) (by walk_at "le") ⟨(x4.trans (x46.trans x7)).trans x8, (x4.trans (x46.trans x7)).hh.free ht2, m8⟩
  · intro t B4 H4 s1 ⟨x4, ht, m4⟩
    rw [List.take_length] at m4
    exact qx_retM x4 ht m4 (gv_var rfl) q
theorem ok_Lways (T : Txt K mg C) (F : Fun K "_law_ways" "_law_ways" s__law_ways f fd) (bF : Binds K fd ["_law_pieces_here", "_law_signals_here", "_law_way", "_law_at", "_law_joint"] []) (mF : mg "_law_ways" = some (.ref f)) (c__law_beyond : Cal P w K mg base CX0 1 "_law_beyond" spBeyond) (c__law_outs : Cal P w K mg base CX0 1 "_law_outs" spOuts) :
    ∀ n : Nat, Cal P w K mg base CX0 (3 + n) "_law_ways" (spWaysL n)
  | 0 => by
    have no : ∀ vs H Q E, ¬ spWaysL 0 vs H Q E := fun vs H Q E h => by
      obtain ⟨a, _, _, _, ⟨_, _, h1, h2, h3, _⟩, _⟩ := h
      have := way_le h2 h3
      omega
    exact Fun.cal F mF bF ⟨fun vs H Q E h => absurd h (no vs H Q E), fun A outer s H args us vs Q E _ _ _ _ h => absurd h (no vs H Q E)⟩
  | n + 1 => Fun.cal F mF bF (ok_Lways_step T F c__law_beyond c__law_outs (ok_Lways T F bF mF c__law_beyond c__law_outs n))
end
end SB
namespace SB
open PySem PySem.Spec PyProof.Rows L2
open Enc (enc)
local macro_rules | `(tactic| walk_at "le") => `(tactic| first | exact le_nil | (refine le_keep ?_; walk_at "le") | (refine le_drop ?_; walk_at "le"))
local macro_rules | `(tactic| walk_at "sd") => `(tactic| first | assumption | (show (_ : Int) < _ ∧ _ < (1073741824 : Int); exact ⟨by omega, by omega⟩) | (show (-(2 ^ 64) < (_ : Int) ∧ _ < (2 ^ 64 : Int)) ∨ _; first | exact .inl ⟨by omega, by omega⟩ | exact .inr ⟨by omega, by omega⟩) | rfl | decide | (simp; done) | omega | skip)
local macro_rules | `(tactic| walk_at "gc") => `(tactic| fail)
local macro_rules | `(tactic| walk_at "gv") => `(tactic| first
  | exact gv_int | exact gv_str | exact gv_bl | exact gv_non | exact gv_var rfl
  | ((with_reducible refine' gv_op ?_ ?_ ?_) <;> walk_at "gv")
  | ((with_reducible refine' ga_cons ?_ ?_) <;> walk_at "gv") | exact ga_nil
  | ((with_reducible refine' gv_cb ?_ ?_) <;> walk_at "gv")
  | ((with_reducible refine' gt_test ?_) <;> walk_at "gv") | ((with_reducible refine' gt_B ?_) <;> walk_at "gv") | ((with_reducible refine' gt_not ?_) <;> walk_at "gv")
  | ((with_reducible refine' gt_and ?k1 ?k2); (case' k1 => walk_at "gv"); (case' k2 => intro hb; walk_at "gv"))
  | ((with_reducible refine' gt_or ?k1 ?k2); (case' k1 => walk_at "gv"); (case' k2 => intro hb; walk_at "gv"))
  | ((with_reducible refine' gv_andV ?k1 ?k2); (case' k1 => walk_at "gv"); (case' k2 => intro hb; walk_at "gv"))
  | ((with_reducible refine' gv_orV ?k1 ?k2); (case' k1 => walk_at "gv"); (case' k2 => intro hb; walk_at "gv"))
  | ((with_reducible refine' gv_notV ?_) <;> walk_at "gv")
  | ((with_reducible refine' gv_slL ?_ ?_ ?_) <;> walk_at "gv") | ((with_reducible refine' gv_slT ?_ ?_ ?_ ?_) <;> walk_at "gv")
  | exact go_none | ((with_reducible refine' go_some ?_) <;> walk_at "gv")
  | exact gd_nil | ((with_reducible refine' gd_cons ?_ ?_) <;> walk_at "gv") | ((with_reducible refine' gv_lst ?_ ?_) <;> walk_at "gv") | ((with_reducible refine' gv_tup ?_ ?_) <;> walk_at "gv")
  | ((with_reducible refine' gv_chain ?_ ?_ ?_ ?_ ?_) <;> walk_at "gv") | ((with_reducible refine' gt_truL ?_) <;> walk_at "gv") | ((with_reducible refine' gv_countI ?_ ?_) <;> walk_at "gv")
  | ((with_reducible refine' gv_lenSetI ?_ ?_) <;> walk_at "gv") | ((with_reducible refine' gv_lenSetU ?_ ?_) <;> walk_at "gv") | ((with_reducible refine' gv_lenSetT ?_ ?_) <;> walk_at "gv")
  | exact gt_yes
  | walk_at "gc"
  | exact ro_I0 | exact ro_B0 | (refine ro_I ?_; walk_at "sd")
  | exact ro_eqI | exact ro_neI | exact ro_eqS | exact ro_neS
  | (refine ro_eq ?_; walk_at "sd") | (refine ro_ne ?_; walk_at "sd")
  | exact ro_isN | exact ro_notN
  | exact ro_inI | exact ro_notInI | exact ro_inTI
  | (refine' ro_ixL ?k1; (case' k1 => walk_at "sd")) | (refine' ro_ixT ?k1; (case' k1 => walk_at "sd"))
  | (refine ro_cat ?_; walk_at "sd")
  | exact rc_lenM | exact rc_len | exact rc_lenT | exact rc_list | exact rc_listT | exact rc_tuple | exact rc_any | exact rc_all | exact rc_max2 | exact rc_min2 | exact rc_intB
  | (show (_ : Nat) ≤ _; first | decide | (simp; done) | omega)
  | (show (_ : Nat) < _; first | decide | (simp; done) | omega)
  | (show ¬ (_ ∧ _); exact fun h => absurd (show (1 : Nat) = 0 from h.1) (by decide))
  | skip)
local macro_rules | `(tactic| walk_at "ge") => `(tactic| (refine' gt_is ?k1 ?k2; (case' k1 => walk_at "gv"); (case' k2 => first | rfl | (simp; done) | skip)))
local macro_rules | `(tactic| walk_at "gw") => `(tactic| (refine' gv_is ?k1 ?k2; (case' k1 => walk_at "gv"); (case' k2 => first | rfl | (simp; done) | skip)))
local macro_rules | `(tactic| walk_at "gj") => `(tactic| first | exact gi_nil | (refine' gi_cons ?g1 ?g2; (case' g1 => walk_at "gv"); (case' g2 => walk_at "gj")))
local macro_rules | `(tactic| walk_at "gi") => `(tactic| (refine' gv_lst ?k1 ?k2; (case' k1 => walk_at "gj"); (case' k2 => (simp; try omega))))
local macro_rules | `(tactic| walk_at "gc") => `(tactic| first | ((with_reducible refine' gv_joints ?_) <;> walk_at "gv") | ((with_reducible refine' gv_beyond ?_ ?_ ?_ ?_) <;> walk_at "gv") | ((with_reducible refine' gv_outs ?_ ?_) <;> walk_at "gv") | ((with_reducible refine' gv_ends ?_ ?_ ?_ ?_ ?_) <;> walk_at "gv"))
/-! ### routes by the law's own search; what a route is -/
section
variable {C : Adr} {P : Program} {w : World} {K : PySem.W.Frag} {mg : Str → Option Value} {base : Heap} {fd : FuncData} {f : Addr}

def spLroutes : Sp := spP (T := List Pc × List Sig) (fun t => [.d (.list (t.1.map enc)), .d (.list (t.2.map enc))]) (fun t _ _ => goodYard t.1 t.2 = true) fun t => .d (.list ((routesN t.1 t.2).map enc))
theorem good_both {ps : List Pc} {sg : List Sig} (h : goodYard ps sg = true) : goodPs ps = true ∧ goodSg ps sg = true := Bool.and_eq_true_iff.mp h
theorem gv_Lroutes {Γ : List (Option AV)} {B H : Hp} {ta tb : TE} {E : XK} {ps : List Pc} {sg : List Sig} (h1 : Gv ta Γ B H (.d (.list (ps.map enc)))) (h2 : Gv tb Γ B H (.d (.list (sg.map enc)))) (hg : goodYard ps sg = true) :
    Gv (tCall spLroutes [] E (tCons ta (tCons tb tNil))) Γ B H (.d (.list ((routesN ps sg).map enc))) := gv_call (ps, sg) (ga_cons h1 (ga_cons h2 ga_nil)) fun _ _ _ => hg
theorem routes_len {ps : List Pc} {sg : List Sig} (h : sg.length ≤ 16) : (routesN ps sg).length ≤ 16 * 2 ^ 17 := by
  unfold routesN
  refine Nat.le_trans (flat_len _ (2 ^ 17) _ fun x _ => ?_) ?_
  · rw [List.length_map]
    exact ways_len ps sg 17 _ _ _
  · rw [List.length_range]
    exact Nat.mul_le_mul_right _ h
theorem ok_Lroutes (T : Txt K mg C) (F : Fun K "_law_routes" "_law_routes" s__law_routes f fd) (c__law_ways : Cal P w K mg base CX0 20 "_law_ways" (spWaysL 17)) : FnOk P w K mg base CX0 21 f fd ["_law_pieces_here", "_law_signals_here"] spLroutes := by
  refine fn_P F sc__law_routes (fun _ => rfl) fun cdv A outer s H Q E hr => ⟨_, pss_cons (ps_set (i := 2) sc__law_routes.nd rfl (by first | exact Or.inl rfl | exact Or.inr rfl) (pe_lst (pa_nil)))
  (pss_cons (ps_for PassesOwn.never rfl (pi_range1 (by rfl) T.n_range (pa_cons (pe_callB (call_lenK (K := K) rfl) (by rfl) T.n_len (by decide +kernel) (pa_cons (pv 1) (pa_nil))) (pa_nil))) (pg_name (i := 3) sc__law_routes.nd rfl (by first | exact Or.inl rfl | exact Or.inr rfl)) (pss_cons (ps_set (i := 2) sc__law_routes.nd rfl (by first | exact Or.inl rfl | exact Or.inr rfl) (pe_op op_cat (pv 2) (pe_lc (own := [("_law_way", 4)]) (g := gName 4) (tt := tYes) (by rfl) sc__law_routes.nd (pi_listK (K := K) rfl (pe_cal c__law_ways hr (by first | decide | omega) rfl passN (pa_cons (pv 0) (pa_cons (pv 1) (pa_cons (pe_lst (pa_nil)) (pa_cons (pe_ix (ix_tupK (K := K) rfl) (pe_ix (ix_listK (K := K) rfl) (pv 1) (pv 3) (fun _ _ => rfl)) (pe_int) (fun _ _ => rfl)) (pa_cons (pe_ix (ix_tupK (K := K) rfl) (pe_ix (ix_listK (K := K) rfl) (pv 1) (pv 3) (fun _ _ => rfl)) (pe_int) (fun _ _ => rfl)) (pa_nil)))))))) (blkOk_by (own := [("_law_way", 4)]) (N := N__law_routes) (sc := defScope s__law_routes) (by decide +kernel)) (fun _ _ _ _ _ => pg_name (i := 4) sc__law_routes.nd rfl (Or.inl rfl)) (fun _ _ _ _ _ => pts_nil) (fun _ _ _ _ _ => pe_tup (pa_cons (pv 3) (pa_cons (pv 4) (pa_nil)))))))
  (pss_nil)))
  (pss_cons (ps_ret (pv 2))
  (pss_nil))), fun ⟨ps, sg⟩ B e hgy q => ?_⟩
  have hgy : goodYard ps sg = true := hgy
  have q : ∀ u B2 H2, Ext B H B2 H2 → Is B2 u (.d (.list ((routesN ps sg).map enc))) → Q u H2 := q
  obtain ⟨hgp, hgs⟩ := good_both hgy
  obtain ⟨hl1, hl16⟩ := good_len hgp
  obtain ⟨hs16, hsig⟩ := good_sg hgs
  refine qx_newL (ds := []) ga_nil (by decide) fun p B4 H4 hp x4 m => ?_
  let Fk : Nat → List (Int × List Stp) := fun k => (waysN ps sg 17 [] ((sg[k]?).getD (0, 0)).1 ((sg[k]?).getD (0, 0)).2.toNat).map fun w => ((k : Int), w)
  have hFk : ∀ k, (Fk k).length ≤ 2 ^ 17 := fun k => by
    show ((waysN ps sg 17 [] _ _).map _).length ≤ _
    rw [List.length_map]
    exact ways_len ps sg 17 _ _ _
  have hpre : ∀ k, k ≤ 16 → ((List.range k).flatMap Fk).length ≤ 16 * 2 ^ 17 := fun k hk => by
    refine Nat.le_trans (flat_len Fk (2 ^ 17) _ fun x _ => hFk x) ?_
    rw [List.length_range]
    exact Nat.mul_le_mul_right _ hk
  refine qx_forRE (n := ((sg.length : Nat) : Int)) (ga_cons (gv_cb (ga_cons (gv_var rfl) ga_nil) rc_lenM) ga_nil) (by omega) (by omega) (ι := Addr) (fun t => [some (.d (.list (ps.map enc))), some (.d (.list (sg.map enc))), some (.v (.ref t)), none, none])
    (fun k t B1 H1 => Ext B H B1 H1 ∧ H t = none ∧ Ml B1 H1 t (((List.range k).flatMap Fk).map enc)) p (by walk_at "le") (fun B5 H5 x5 => ⟨x4.trans x5, hp, m.ext x5⟩) ?_ ?_
  · intro Bs k t B5 H5 hk s1 s2 ⟨x5, ht, m5⟩
    have hk' : k < sg.length := by omega
    obtain ⟨⟨j, a⟩, hja⟩ : ∃ s, sg[k]? = some s := ⟨_, List.getElem?_eq_getElem hk'⟩
    have hmem : (j, a) ∈ sg := List.mem_of_getElem? hja
    obtain ⟨ha0, hal, _⟩ := hsig _ hmem
    have hat := atI_map hja
    have eFk : Fk k = (waysN ps sg 17 [] j a.toNat).map fun w => ((k : Int), w) := by
      show (waysN ps sg 17 [] ((sg[k]?).getD (0, 0)).1 ((sg[k]?).getD (0, 0)).2.toNat).map (fun w => ((k : Int), w)) = _
      rw [hja]
      rfl
    have ea : ((a.toNat : Nat) : Int) = a := by
      have : (0 : Int) ≤ a := ha0
      omega
    have hsz := hpre (k + 1) (by omega)
    rw [List.range_succ, List.flatMap_append, List.flatMap_singleton, List.length_append] at hsz
    have hwl : (waysN ps sg 17 [] j a.toNat).length < 16000000 := by
      have := ways_len ps sg 17 [] j a.toNat
      have : 2 ^ 17 < 16000000 := by decide
      omega
    refine qx_asgM (ds := (((List.range (k + 1)).flatMap Fk).map enc)) (fun B8 H8 σ x8 fr Q2 q2 => ?_) fun t2 B8 H8 ht2 x8 m8 => ?_
    · rw [List.range_succ, List.flatMap_append, List.flatMap_singleton, List.map_append] at q2
      refine gm_catO (m5.ext x8) (gv_var rfl) (gv_is (gv_lcM (xs := waysN ps sg 17 [] j a.toNat) (fun w => ((k : Int), w)) ?_ hwl (by decide) (by decide) fun wy _ B9 H9 x9 => ?_) (by rw [eFk])) (by rw [List.length_map, List.length_map]; omega) B8 H8 σ (Ext.refl x8.bh) fr Q2 q2
      · refine gv_waysL (⟨ps, sg, [], j, a.toNat⟩ : WaysArg) ?_ ⟨hl16, ?_, ?_, List.nodup_nil, fun s hs => by simp at hs, by omega⟩
        · refine ga_cons (gv_var rfl) (ga_cons (gv_var rfl) (ga_cons (gv_lst (ds := []) ga_nil (by decide)) (ga_cons ?_ (ga_cons ?_ ga_nil))))
          · show Gv _ _ B8 H8 (AI ((a.toNat : Nat) : Int))
            rw [ea]
            exact gv_op (x := .d (enc ((j, a) : Sig))) (gv_op (gv_var rfl) (gv_var rfl) (ro_ixL hat)) gv_int (ro_ixT (ds := [.int j, .int a]) rfl)
          · exact gv_op (x := .d (enc ((j, a) : Sig))) (gv_op (gv_var rfl) (gv_var rfl) (ro_ixL hat)) gv_int (ro_ixT (ds := [.int j, .int a]) rfl)
        · show a.toNat < ps.length
          omega
        · show ps.length < 0 + 17
          omega
      · exact gv_is (gv_tup (ds := [.int (k : Int), enc wy]) (ga_cons (gv_var rfl) (ga_cons (gv_var rfl) ga_nil)) (by show 2 ≤ 16000000; decide)) rfl
    · exact sx_lx t2 (s2.trans x8.bb) (by walk_at "le") ⟨x5.trans x8, x5.hh.free ht2, m8⟩
  · intro t B5 H5 s1 ⟨x5, ht, m5⟩
    exact qx_retM x5 ht m5 (gv_var rfl) fun u B6 H6 x6 hu => q u B6 H6 x6 hu
/-! what every found way keeps -/
def walkF (ps : List Pc) (sg : List Sig) : Bool → Option Nat → Int → List Stp → Prop
  | _, none, _, [] => True
  | _, some a, j, [] => ((j, (a : Int)) : Sig) ∈ sg
  | _, none, _, _ :: _ => False
  | fst, some a, j, st :: r => (fst = false → ((j, (a : Int)) : Sig) ∉ sg) ∧ st.p = (a : Int) ∧ st.i = j ∧ (∃ pc, ps[a]? = some pc ∧ st.o ∈ outsN pc j) ∧ walkF ps sg false (beyondN ps a st.o) st.o r
theorem waysN_walk (ps : List Pc) (sg : List Sig) : ∀ (n : Nat) (way : List Stp) (j : Int) (a : Nat), a < ps.length → (way.map Stp.p).Nodup → ∀ fst, (fst = false → ((j, (a : Int)) : Sig) ∉ sg) → ∀ w ∈ waysN ps sg n way j a, ∃ st r, w = way ++ st :: r ∧ walkF ps sg fst (some a) j (st :: r) ∧ (w.map Stp.p).Nodup
  | 0, _, _, _, _, _, _, _, w, h => by simp [waysN] at h
  | n + 1, way, j, a, ha, hnd, fst, hf, w, h => by
    unfold waysN at h
    split at h
    · simp at h
    · rename_i hna
      obtain ⟨o, ho, h⟩ := List.mem_flatMap.mp h
      have hpc : ps[a]? = some ps[a] := List.getElem?_eq_getElem ha
      rw [hpc, Option.getD_some] at ho
      have hnd2 : ((way ++ [(⟨a, j, o⟩ : Stp)]).map Stp.p).Nodup := by
        rw [List.map_append, List.nodup_append]
        refine ⟨hnd, by simp, ?_⟩
        intro x hx y hy e
        simp at hy
        subst hy
        subst e
        exact hna hx
      split at h
      · rename_i he
        simp at h
        subst h
        refine ⟨⟨a, j, o⟩, [], rfl, ⟨hf, rfl, rfl, ⟨_, hpc, ho⟩, ?_⟩, hnd2⟩
        show walkF ps sg false (beyondN ps a o) o []
        unfold endsN at he
        cases hb : beyondN ps (a : Int) o with
        | none => trivial
        | some b =>
          rw [hb] at he
          exact isin_iff.mp he
      · rename_i he
        cases hb : beyondN ps (a : Int) o with
        | none => rw [hb] at h; simp at h
        | some b =>
          rw [hb] at h
          have hob : ((o, (b : Int)) : Sig) ∉ sg := fun q => by
            apply he
            unfold endsN
            rw [hb]
            exact isin_iff.mpr q
          obtain ⟨st, r, e, hw, hn⟩ := waysN_walk ps sg n _ o b (beyondN_lt hb) hnd2 false (fun _ => hob) w h
          refine ⟨⟨a, j, o⟩, st :: r, by rw [e, List.append_assoc]; rfl, ⟨hf, rfl, rfl, ⟨_, hpc, ho⟩, ?_⟩, hn⟩
          show walkF ps sg false (beyondN ps a o) o (st :: r)
          rw [hb]
          exact hw
def RouteOk (ps : List Pc) (sg : List Sig) (t : Int × List Stp) : Prop := ∃ (k : Nat) (j : Int) (a : Nat), t.1 = (k : Int) ∧ sg[k]? = some (j, (a : Int)) ∧ walkF ps sg true (some a) j t.2 ∧ t.2 ≠ [] ∧ (t.2.map Stp.p).Nodup
theorem routesN_ok {ps : List Pc} {sg : List Sig} (h : goodYard ps sg = true) : ∀ t ∈ routesN ps sg, RouteOk ps sg t := fun t ht => by
  obtain ⟨hgp, hgs⟩ := good_both h
  obtain ⟨hs16, hsig⟩ := good_sg hgs
  unfold routesN at ht
  obtain ⟨k, hk, ht⟩ := List.mem_flatMap.mp ht
  obtain ⟨w, hw, e⟩ := List.mem_map.mp ht
  subst e
  have hk : k < sg.length := List.mem_range.mp hk
  obtain ⟨⟨j, a⟩, hja⟩ : ∃ s, sg[k]? = some s := ⟨_, List.getElem?_eq_getElem hk⟩
  rw [hja, Option.getD_some] at hw
  obtain ⟨ha0, hal, _⟩ := hsig _ (List.mem_of_getElem? hja)
  have ha0 : 0 ≤ a := ha0
  have hal : a < (ps.length : Int) := hal
  obtain ⟨st, r, e, hwk, hn⟩ := waysN_walk ps sg 17 [] j a.toNat (by omega) List.nodup_nil true (fun z => by cases z) w hw
  rw [List.nil_append] at e
  refine ⟨k, j, a.toNat, rfl, ?_, ?_, ?_, hn⟩
  · rw [hja, Int.toNat_of_nonneg ha0]
  · show walkF ps sg true (some a.toNat) j w
    rw [e]
    exact hwk
  · show w ≠ []
    rw [e]
    simp
theorem good_nd {ps : List Pc} (h : goodPs ps = true) : ∀ p ∈ ps, p.js.Nodup := fun p hp => by
  unfold goodPs at h
  simp only [Bool.and_eq_true, List.all_eq_true, decide_eq_true_eq] at h
  have := h.1.2 p hp
  exact (nset_iff p.js).mp (by omega)
end
end SB
namespace SB
open PySem PySem.Spec PyProof.Rows L2
open Enc (enc)
local macro_rules | `(tactic| walk_at "le") => `(tactic| first | exact le_nil | (refine le_keep ?_; walk_at "le") | (refine le_drop ?_; walk_at "le"))
local macro_rules | `(tactic| walk_at "sd") => `(tactic| first | assumption | (show (_ : Int) < _ ∧ _ < (1073741824 : Int); exact ⟨by omega, by omega⟩) | (show (-(2 ^ 64) < (_ : Int) ∧ _ < (2 ^ 64 : Int)) ∨ _; first | exact .inl ⟨by omega, by omega⟩ | exact .inr ⟨by omega, by omega⟩) | rfl | decide | (simp; done) | omega | skip)
local macro_rules | `(tactic| walk_at "gc") => `(tactic| fail)
local macro_rules | `(tactic| walk_at "gv") => `(tactic| first
  | exact gv_int | exact gv_str | exact gv_bl | exact gv_non | exact gv_var rfl
  | ((with_reducible refine' gv_op ?_ ?_ ?_) <;> walk_at "gv")
  | ((with_reducible refine' ga_cons ?_ ?_) <;> walk_at "gv") | exact ga_nil
  | ((with_reducible refine' gv_cb ?_ ?_) <;> walk_at "gv")
  | ((with_reducible refine' gt_test ?_) <;> walk_at "gv") | ((with_reducible refine' gt_B ?_) <;> walk_at "gv") | ((with_reducible refine' gt_not ?_) <;> walk_at "gv")
  | ((with_reducible refine' gt_and ?k1 ?k2); (case' k1 => walk_at "gv"); (case' k2 => intro hb; walk_at "gv"))
  | ((with_reducible refine' gt_or ?k1 ?k2); (case' k1 => walk_at "gv"); (case' k2 => intro hb; walk_at "gv"))
  | ((with_reducible refine' gv_andV ?k1 ?k2); (case' k1 => walk_at "gv"); (case' k2 => intro hb; walk_at "gv"))
  | ((with_reducible refine' gv_orV ?k1 ?k2); (case' k1 => walk_at "gv"); (case' k2 => intro hb; walk_at "gv"))
  | ((with_reducible refine' gv_notV ?_) <;> walk_at "gv")
  | ((with_reducible refine' gv_slL ?_ ?_ ?_) <;> walk_at "gv") | ((with_reducible refine' gv_slT ?_ ?_ ?_ ?_) <;> walk_at "gv")
  | exact go_none | ((with_reducible refine' go_some ?_) <;> walk_at "gv")
  | exact gd_nil | ((with_reducible refine' gd_cons ?_ ?_) <;> walk_at "gv") | ((with_reducible refine' gv_lst ?_ ?_) <;> walk_at "gv") | ((with_reducible refine' gv_tup ?_ ?_) <;> walk_at "gv")
  | ((with_reducible refine' gv_chain ?_ ?_ ?_ ?_ ?_) <;> walk_at "gv") | ((with_reducible refine' gt_truL ?_) <;> walk_at "gv") | ((with_reducible refine' gv_countI ?_ ?_) <;> walk_at "gv")
  | ((with_reducible refine' gv_lenSetI ?_ ?_) <;> walk_at "gv") | ((with_reducible refine' gv_lenSetU ?_ ?_) <;> walk_at "gv") | ((with_reducible refine' gv_lenSetT ?_ ?_) <;> walk_at "gv")
  | exact gt_yes
  | walk_at "gc"
  | exact ro_I0 | exact ro_B0 | (refine ro_I ?_; walk_at "sd")
  | exact ro_eqI | exact ro_neI | exact ro_eqS | exact ro_neS
  | (refine ro_eq ?_; walk_at "sd") | (refine ro_ne ?_; walk_at "sd")
  | exact ro_isN | exact ro_notN
  | exact ro_inI | exact ro_notInI | exact ro_inTI
  | (refine' ro_ixL ?k1; (case' k1 => walk_at "sd")) | (refine' ro_ixT ?k1; (case' k1 => walk_at "sd"))
  | (refine ro_cat ?_; walk_at "sd")
  | exact rc_lenM | exact rc_len | exact rc_lenT | exact rc_list | exact rc_listT | exact rc_tuple | exact rc_any | exact rc_all | exact rc_max2 | exact rc_min2 | exact rc_intB
  | (show (_ : Nat) ≤ _; first | decide | (simp; done) | omega)
  | (show (_ : Nat) < _; first | decide | (simp; done) | omega)
  | (show ¬ (_ ∧ _); exact fun h => absurd (show (1 : Nat) = 0 from h.1) (by decide))
  | skip)
local macro_rules | `(tactic| walk_at "ge") => `(tactic| (refine' gt_is ?k1 ?k2; (case' k1 => walk_at "gv"); (case' k2 => first | rfl | (simp; done) | skip)))
local macro_rules | `(tactic| walk_at "gw") => `(tactic| (refine' gv_is ?k1 ?k2; (case' k1 => walk_at "gv"); (case' k2 => first | rfl | (simp; done) | skip)))
local macro_rules | `(tactic| walk_at "gj") => `(tactic| first | exact gi_nil | (refine' gi_cons ?g1 ?g2; (case' g1 => walk_at "gv"); (case' g2 => walk_at "gj")))
local macro_rules | `(tactic| walk_at "gi") => `(tactic| (refine' gv_lst ?k1 ?k2; (case' k1 => walk_at "gj"); (case' k2 => (simp; try omega))))
/-! ### the box, by itself -/
def kPut {β : Type} (l : List (Int × β)) (r : Int) (v : β) : List (Int × β) := if (l.any fun p => decide (p.1 = r)) = true then l.map (fun p => if p.1 = r then (p.1, v) else p) else l ++ [(r, v)]
def kDrop {β : Type} (l : List (Int × β)) (r : Int) : List (Int × β) := l.filter fun p => decide (p.1 ≠ r)
def kAt {β : Type} (l : List (Int × β)) (r : Int) : Option β := (l.find? fun p => decide (p.1 = r)).map (·.2)
def sigAt (d : Wd) (s : Int) : Sig := (d.sg[s.toNat]?).getD (0, 0)
section
theorem kAt_mem {β : Type} {l : List (Int × β)} {n : Int} {v : β} (h : kAt l n = some v) : (n, v) ∈ l := by
  unfold kAt at h
  cases e : l.find? (fun p => decide (p.1 = n)) with
  | none => rw [e] at h; cases h
  | some p =>
    rw [e] at h
    cases h
    have h1 := List.find?_some e
    have h2 := List.mem_of_find?_eq_some e
    have : p.1 = n := by simpa using h1
    rw [← this]
    exact h2
theorem kAt_none {β : Type} {l : List (Int × β)} {n : Int} (h : kAt l n = none) : n ∉ l.map (·.1) := by
  unfold kAt at h
  intro q
  obtain ⟨p, hp, e⟩ := List.mem_map.mp q
  cases e2 : l.find? (fun p => decide (p.1 = n)) with
  | none =>
    have := List.find?_eq_none.mp e2 p hp
    simp at this
    exact this e
  | some z => rw [e2] at h; cases h
theorem kAt_of {β : Type} : ∀ {l : List (Int × β)}, (l.map (·.1)).Nodup → ∀ {n : Int} {v : β}, (n, v) ∈ l → kAt l n = some v
  | [], _, _, _, h => by simp at h
  | (m, u) :: l, hn, n, v, h => by
    rw [List.map_cons, List.nodup_cons] at hn
    unfold kAt
    by_cases e : m = n
    · subst e
      rw [List.find?_cons_of_pos (by simp)]
      rcases List.mem_cons.mp h with h | h
      · cases h; rfl
      · exact absurd (List.mem_map.mpr ⟨(m, v), h, rfl⟩) hn.1
    · rw [List.find?_cons_of_neg (by simpa using e)]
      rcases List.mem_cons.mp h with h | h
      · cases h; exact absurd rfl e
      · exact kAt_of hn.2 h
theorem mem_kPut {β : Type} {l : List (Int × β)} {n m : Int} {v u : β} (h : (m, u) ∈ kPut l n v) : (m = n ∧ u = v) ∨ (m ≠ n ∧ (m, u) ∈ l) := by
  unfold kPut at h
  split at h
  · obtain ⟨p, hp, e⟩ := List.mem_map.mp h
    by_cases z : p.1 = n
    · rw [if_pos z] at e
      cases e
      exact .inl ⟨z, rfl⟩
    · rw [if_neg z] at e
      subst e
      exact .inr ⟨z, hp⟩
  · rename_i hn
    rcases List.mem_append.mp h with h | h
    · refine .inr ⟨fun z => hn ?_, h⟩
      exact List.any_eq_true.mpr ⟨_, h, by simpa using z⟩
    · simp at h
      exact .inl h
theorem kPut_keys {β : Type} (l : List (Int × β)) (n : Int) (v : β) : (kPut l n v).map (·.1) = if n ∈ l.map (·.1) then l.map (·.1) else l.map (·.1) ++ [n] := by
  unfold kPut
  by_cases h : n ∈ l.map (·.1)
  · obtain ⟨p, hp, e⟩ := List.mem_map.mp h
    rw [if_pos h, if_pos (List.any_eq_true.mpr ⟨p, hp, by simpa using e⟩), List.map_map]
    refine List.map_congr_left fun q _ => ?_
    show (if q.1 = n then (q.1, v) else q).1 = q.1
    split <;> rfl
  · have : ¬ (l.any fun p => decide (p.1 = n)) = true := fun q => by
      obtain ⟨p, hp, e⟩ := List.any_eq_true.mp q
      exact h (List.mem_map.mpr ⟨p, hp, by simpa using e⟩)
    rw [if_neg h, if_neg this, List.map_append]
    rfl
theorem kPut_nd {β : Type} {l : List (Int × β)} {n : Int} {v : β} (h : (l.map (·.1)).Nodup) : ((kPut l n v).map (·.1)).Nodup := by
  rw [kPut_keys]
  split
  · exact h
  · rename_i hn
    rw [List.nodup_append]
    refine ⟨h, by simp, fun a ha b hb e => ?_⟩
    simp at hb
    subst hb
    subst e
    exact hn ha
theorem mem_kDrop {β : Type} {l : List (Int × β)} {n : Int} {p : Int × β} : p ∈ kDrop l n ↔ p ∈ l ∧ p.1 ≠ n := by
  unfold kDrop
  rw [List.mem_filter]
  simp
theorem kDrop_nd {β : Type} {l : List (Int × β)} {n : Int} (h : (l.map (·.1)).Nodup) : ((kDrop l n).map (·.1)).Nodup := by
  unfold kDrop
  exact h.sublist (List.filter_sublist.map _)
theorem kDrop_keys {β : Type} {l : List (Int × β)} {n m : Int} : m ∈ (kDrop l n).map (·.1) ↔ m ∈ l.map (·.1) ∧ m ≠ n := by
  constructor
  · intro h
    obtain ⟨p, hp, e⟩ := List.mem_map.mp h
    obtain ⟨h1, h2⟩ := mem_kDrop.mp hp
    exact ⟨List.mem_map.mpr ⟨p, h1, e⟩, e ▸ h2⟩
  · rintro ⟨h, n2⟩
    obtain ⟨p, hp, e⟩ := List.mem_map.mp h
    exact List.mem_map.mpr ⟨p, mem_kDrop.mpr ⟨hp, by rw [e]; exact n2⟩, e⟩
theorem kDrop_id {β : Type} {l : List (Int × β)} {n : Int} (h : n ∉ l.map (·.1)) : kDrop l n = l := by
  unfold kDrop
  refine List.filter_eq_self.mpr fun p hp => ?_
  have : p.1 ≠ n := fun e => h (List.mem_map.mpr ⟨p, hp, e⟩)
  simpa using this
/-- x stands right ahead of y -/
def Adj {α : Type} (l : List α) (x y : α) : Prop := ∃ l1 l2, l = l1 ++ x :: y :: l2
theorem Adj.append {α : Type} {l m : List α} {x y : α} (h : Adj (l ++ m) x y) : Adj l x y ∨ Adj m x y ∨ (l.getLast? = some x ∧ m.head? = some y) := by
  obtain ⟨l1, l2, e⟩ := h
  rcases List.append_eq_append_iff.mp e with ⟨a, e1, e2⟩ | ⟨a, e1, e2⟩
  · exact .inr (.inl ⟨a, l2, e2⟩)
  · cases a with
    | nil =>
      simp at e2
      exact .inr (.inl ⟨[], l2, by simp [← e2]⟩)
    | cons b a =>
      rw [List.cons_append] at e2
      injection e2 with e3 e4
      subst e3
      cases a with
      | nil =>
        simp at e4
        refine .inr (.inr ⟨by rw [e1]; simp, by rw [← e4]; rfl⟩)
      | cons c a =>
        rw [List.cons_append] at e4
        injection e4 with e5 e6
        subst e5
        exact .inl ⟨l1, a, e1⟩
theorem Adj.reverse {α : Type} {l : List α} {x y : α} (h : Adj l.reverse x y) : Adj l y x := by
  obtain ⟨l1, l2, e⟩ := h
  refine ⟨l2.reverse, l1.reverse, ?_⟩
  have := congrArg List.reverse e
  simpa using this
theorem Adj.map {α β : Type} {f : α → β} {l : List α} {x y : β} (h : Adj (l.map f) x y) : ∃ a b, Adj l a b ∧ f a = x ∧ f b = y := by
  obtain ⟨l1, l2, e⟩ := h
  obtain ⟨a1, a2, e1, e2, e3⟩ := List.map_eq_append_iff.mp e
  obtain ⟨b, a3, e4, e5, e6⟩ := List.map_eq_cons_iff.mp e3
  obtain ⟨c, a4, e7, e8, e9⟩ := List.map_eq_cons_iff.mp e6
  subst e4 e7
  exact ⟨b, c, ⟨a1, a4, e1⟩, e5, e8⟩
theorem Adj.tail {α : Type} {l : List α} {x y : α} (h : Adj l.tail x y) : Adj l x y := by
  obtain ⟨l1, l2, e⟩ := h
  cases l with
  | nil => simp at e
  | cons a l => exact ⟨a :: l1, l2, by rw [List.tail_cons] at e; rw [e]; rfl⟩
theorem Adj.mem {α : Type} {l : List α} {x y : α} (h : Adj l x y) : x ∈ l ∧ y ∈ l := by
  obtain ⟨l1, l2, e⟩ := h
  rw [e]
  simp
/-! joints -/
theorem beyond_spec {ps : List Pc} {a j : Int} {b : Nat} (h : beyondN ps a j = some b) : (b : Int) ≠ a ∧ ∃ pb, ps[b]? = some pb ∧ j ∈ pb.js := by
  have hl := beyondN_lt h
  unfold beyondN at h
  have h1 := List.find?_some h
  rw [Bool.and_eq_true, decide_eq_true_eq, decide_eq_true_eq, List.getElem?_eq_getElem hl] at h1
  exact ⟨h1.1, _, List.getElem?_eq_getElem hl, h1.2⟩
theorem count_at {ps : List Pc} {a : Nat} {pa : Pc} {j : Int} (h : ps[a]? = some pa) (hj : j ∈ pa.js) : 1 + (endsOf (ps.drop (a + 1))).count j ≤ (endsOf ps).count j := by
  have hl := (List.getElem?_eq_some_iff.mp h).1
  have e : ps = ps.take a ++ pa :: ps.drop (a + 1) := by
    have h1 := (List.getElem?_eq_some_iff.mp h).2
    rw [← h1, List.getElem_cons_drop hl, List.take_append_drop]
  have e2 : endsOf ps = endsOf (ps.take a) ++ (pa.js ++ endsOf (ps.drop (a + 1))) := by
    show ps.flatMap Pc.js = _
    conv => lhs; rw [e]
    rw [List.flatMap_append, List.flatMap_cons]
    rfl
  rw [e2, List.count_append, List.count_append]
  have := List.count_pos_iff.mpr hj
  omega
theorem count_three {ps : List Pc} {a b c : Nat} {pa pb pc : Pc} {j : Int} (ha : ps[a]? = some pa) (hb : ps[b]? = some pb) (hc : ps[c]? = some pc) (ja : j ∈ pa.js) (jb : j ∈ pb.js) (jc : j ∈ pc.js) (h1 : a < b) (h2 : b < c) : 3 ≤ (endsOf ps).count j := by
  have e1 := count_at ha ja
  have hb' : (ps.drop (a + 1))[b - (a + 1)]? = some pb := by rw [List.getElem?_drop, ← hb]; congr 1; omega
  have e2 := count_at hb' jb
  have hc' : ((ps.drop (a + 1)).drop (b - (a + 1) + 1))[c - (b + 1)]? = some pc := by rw [List.getElem?_drop, List.getElem?_drop, ← hc]; congr 1; omega
  have e3 := count_at hc' jc
  omega
theorem no_three {ps : List Pc} (h : goodPs ps = true) {a b c : Nat} {pa pb pc : Pc} {j : Int} (ha : ps[a]? = some pa) (hb : ps[b]? = some pb) (hc : ps[c]? = some pc) (ja : j ∈ pa.js) (jb : j ∈ pb.js) (jc : j ∈ pc.js) (n1 : a ≠ b) (n2 : b ≠ c) (n3 : a ≠ c) : False := by
  have k : (endsOf ps).count j ≤ 2 := by
    unfold goodPs at h
    simp only [Bool.and_eq_true, List.all_eq_true] at h
    have hj : j ∈ endsOf ps := List.mem_flatMap.mpr ⟨pa, List.mem_of_getElem? ha, ja⟩
    have := h.2 j hj
    unfold okEnd at this
    simp only [Bool.and_eq_true, Bool.not_eq_true', decide_eq_false_iff_not] at this
    omega
  have k2 : 3 ≤ (endsOf ps).count j := by
    by_cases l1 : a < b <;> by_cases l2 : b < c <;> by_cases l3 : a < c
    · exact count_three ha hb hc ja jb jc l1 l2
    · exact count_three ha hb hc ja jb jc l1 l2
    · exact count_three ha hc hb ja jc jb l3 (by omega)
    · exact count_three hc ha hb jc ja jb (by omega) l1
    · exact count_three hb ha hc jb ja jc (by omega) l3
    · exact count_three hb hc ha jb jc ja l2 (by omega)
    · omega
    · exact count_three hc hb ha jc jb ja (by omega) (by omega)
  omega
theorem beyond_uni {ps : List Pc} (h : goodPs ps = true) {a b : Nat} {pa pb : Pc} {j : Int} (ha : ps[a]? = some pa) (hb : ps[b]? = some pb) (n : a ≠ b) (ja : j ∈ pa.js) (jb : j ∈ pb.js) : beyondN ps (a : Int) j = some b := by
  cases e : beyondN ps (a : Int) j with
  | none =>
    unfold beyondN at e
    have hl := (List.getElem?_eq_some_iff.mp hb).1
    have := List.find?_eq_none.mp e b (List.mem_range.mpr hl)
    rw [hb] at this
    simp [jb] at this
    omega
  | some c =>
    obtain ⟨n2, pc, hc, jc⟩ := beyond_spec e
    by_cases z : c = b
    · rw [z]
    · exact (no_three h ha hb hc ja jb jc n (fun q => z q.symm) (fun q => n2 (by rw [q]))).elim
/-- what does not change -/
structure Sta (ps : List Pc) (sg : List Sig) (rts : List (Int × List Stp)) : Prop where
  np : ps.length ≤ 16
  n1 : 1 ≤ ps.length
  ns : sg.length ≤ 16
  nr : rts.length ≤ 4000000
  jnd : ∀ p ∈ ps, p.js.Nodup
  uni : ∀ (a b : Nat) (pa pb : Pc) (j : Int), ps[a]? = some pa → ps[b]? = some pb → a ≠ b → j ∈ pa.js → j ∈ pb.js → beyondN ps (a : Int) j = some b
  snd : sg.Nodup
  sok : ∀ s ∈ sg, ∃ (a : Nat) (pc : Pc), s.2 = (a : Int) ∧ ps[a]? = some pc ∧ s.1 ∈ pc.js
  rok : ∀ t ∈ rts, RouteOk ps sg t
theorem sta_of {ps : List Pc} {sg : List Sig} (h : goodYard ps sg = true) : Sta ps sg (routesN ps sg) := by
  obtain ⟨h1, h2⟩ := good_both h
  obtain ⟨g1, g2⟩ := good_sg h2
  refine ⟨(good_len h1).2, (good_len h1).1, g1, Nat.le_trans (routes_len g1) (by decide), good_nd h1, fun a b pa pb j => beyond_uni h1, ?_, fun s hs => ?_, routesN_ok h⟩
  · unfold goodSg at h2
    simp only [Bool.and_eq_true, decide_eq_true_eq] at h2
    exact (nset_iff sg).mp (by omega)
  · obtain ⟨a1, a2, a3⟩ := g2 s hs
    have hl : s.2.toNat < ps.length := by omega
    rw [List.getElem?_eq_getElem hl, Option.getD_some] at a3
    exact ⟨s.2.toNat, ps[s.2.toNat], by omega, List.getElem?_eq_getElem hl, a3⟩
def StepOk (ps : List Pc) (x : Stp) : Prop := ∃ (a : Nat) (pc : Pc), x.p = (a : Int) ∧ ps[a]? = some pc ∧ x.i ∈ pc.js ∧ x.o ∈ outsN pc x.i
def Lnk (ps : List Pc) (x y : Stp) : Prop := ∃ b : Nat, beyondN ps x.p x.o = some b ∧ y.p = (b : Int) ∧ y.i = x.o
def Stp.flip (x : Stp) : Stp := ⟨x.p, x.o, x.i⟩
theorem outs_js {pc : Pc} {i o : Int} (h : o ∈ outsN pc i) : o ∈ pc.js := by
  cases pc with
  | plain a c => exact (List.mem_filter.mp h).1
  | points t s b =>
    unfold outsN at h
    simp only at h
    split at h <;> simp at h <;> simp [Pc.js, h]
theorem outs_flip {pc : Pc} {i o : Int} (n : pc.js.Nodup) (hi : i ∈ pc.js) (h : o ∈ outsN pc i) : i ∈ outsN pc o := by
  cases pc with
  | plain a c =>
    obtain ⟨h1, h2⟩ := List.mem_filter.mp h
    have h2 : o ≠ i := by simpa using h2
    exact List.mem_filter.mpr ⟨hi, by simpa using h2.symm⟩
  | points t s b =>
    have n : [t, s, b].Nodup := n
    simp at n
    have hi : i ∈ [t, s, b] := hi
    unfold outsN at h ⊢
    simp only at h ⊢
    by_cases e : i = t
    · rw [if_pos e] at h
      simp at h
      subst e
      rw [if_neg (by rcases h with h | h <;> subst h; exact fun z => n.1.1 z.symm; exact fun z => n.1.2 z.symm)]
      simp
    · rw [if_neg e] at h
      simp at h
      subst h
      rw [if_pos rfl]
      simp at hi
      simp
      rcases hi with z | z | z
      · exact absurd z e
      · exact .inl z
      · exact .inr z
theorem StepOk.flip {ps : List Pc} {sg : List Sig} {rts : List (Int × List Stp)} (S : Sta ps sg rts) {x : Stp} (h : StepOk ps x) : StepOk ps x.flip := by
  obtain ⟨a, pc, e1, e2, e3, e4⟩ := h
  exact ⟨a, pc, e1, e2, outs_js e4, outs_flip (S.jnd pc (List.mem_of_getElem? e2)) e3 e4⟩
theorem StepOk.nn {ps : List Pc} {x : Stp} (h : StepOk ps x) : 0 ≤ x.p ∧ x.p.toNat < ps.length ∧ x.p < (ps.length : Int) := by
  obtain ⟨a, pc, e1, e2, e3, e4⟩ := h
  have := (List.getElem?_eq_some_iff.mp e2).1
  omega
theorem StepOk.th {ps : List Pc} {x : Stp} (h : StepOk ps x) : there ps.length x.p = true := by
  have := h.nn
  unfold there
  simp
  omega
theorem Lnk.flip {ps : List Pc} {sg : List Sig} {rts : List (Int × List Stp)} (S : Sta ps sg rts) {x y : Stp} (hx : StepOk ps x) (h : Lnk ps x y) : Lnk ps y.flip x.flip := by
  obtain ⟨b, e1, e2, e3⟩ := h
  obtain ⟨a, pc, f1, f2, f3, f4⟩ := hx
  obtain ⟨n, pb, g1, g2⟩ := beyond_spec e1
  refine ⟨a, ?_, f1, ?_⟩
  · show beyondN ps y.p y.i = some a
    rw [e2, e3]
    exact S.uni b a pb pc x.o g1 f2 (fun z => n (by rw [z, f1])) g2 (outs_js f4)
  · show x.o = y.i
    exact e3.symm
/-- what a way is -/
theorem walk_ok {ps : List Pc} {sg : List Sig} : ∀ {w : List Stp} {fst : Bool} {a : Nat} {j : Int} {pc : Pc}, ps[a]? = some pc → j ∈ pc.js → walkF ps sg fst (some a) j w → (∀ x ∈ w, StepOk ps x) ∧ (∀ x y, Adj w x y → Lnk ps x y) ∧ (∀ x, w.head? = some x → x.p = (a : Int) ∧ x.i = j) ∧
    (∀ x, w.getLast? = some x → beyondN ps x.p x.o = none ∨ ∃ b : Nat, beyondN ps x.p x.o = some b ∧ ((x.o, (b : Int)) : Sig) ∈ sg)
  | [], _, _, _, _, _, _, _ => ⟨fun x h => by simp at h, fun x y ⟨l1, l2, e⟩ => by simp at e, fun x h => by simp at h, fun x h => by simp at h⟩
  | st :: r, fst, a, j, pc, hp, hj, hw => by
    obtain ⟨h1, h2, h3, ⟨pc', h4, h5⟩, h6⟩ := hw
    rw [hp] at h4
    cases h4
    have so : StepOk ps st := ⟨a, pc, h2, hp, h3 ▸ hj, by rw [h3]; exact h5⟩
    cases r with
    | nil =>
      refine ⟨fun x h => ?_, fun x y ⟨l1, l2, e⟩ => ?_, fun x h => ?_, fun x h => ?_⟩
      · simp at h; subst h; exact so
      · cases l1 with
        | nil => simp at e
        | cons _ l1 => simp at e
      · simp at h; subst h; exact ⟨h2, h3⟩
      · simp at h
        subst h
        rw [h2]
        cases e : beyondN ps (a : Int) st.o with
        | none => exact .inl rfl
        | some b =>
          rw [e] at h6
          exact .inr ⟨b, rfl, h6⟩
    | cons st2 r =>
      cases e : beyondN ps (a : Int) st.o with
      | none => rw [e] at h6; exact h6.elim
      | some b =>
        rw [e] at h6
        obtain ⟨n, pb, g1, g2⟩ := beyond_spec e
        obtain ⟨k1, k2, k3, k4⟩ := walk_ok g1 g2 h6
        refine ⟨fun x h => ?_, fun x y ad => ?_, fun x h => ?_, fun x h => ?_⟩
        · rcases List.mem_cons.mp h with h | h
          · subst h; exact so
          · exact k1 x h
        · obtain ⟨l1, l2, q⟩ := ad
          cases l1 with
          | nil =>
            simp at q
            obtain ⟨q1, q2, q3⟩ := q
            subst q1
            subst q2
            obtain ⟨m1, m2⟩ := k3 st2 rfl
            exact ⟨b, by rw [h2]; exact e, m1, m2⟩
          | cons z l1 =>
            simp at q
            exact k2 x y ⟨l1, l2, q.2⟩
        · simp at h; subst h; exact ⟨h2, h3⟩
        · exact k4 x (by rw [← h]; simp [List.getLast?_cons_cons])
structure WayF (ps : List Pc) (sg : List Sig) (s : Int) (w : List Stp) : Prop where
  ne : w ≠ []
  so : ∀ x ∈ w, StepOk ps x
  lk : ∀ x y, Adj w x y → Lnk ps x y
  hd : ∃ j a : Int, sg[s.toNat]? = some (j, a) ∧ 0 ≤ s ∧ s < (sg.length : Int) ∧ ∀ x, w.head? = some x → x.p = a ∧ x.i = j
  en : ∀ x, w.getLast? = some x → beyondN ps x.p x.o = none ∨ ∃ b : Nat, beyondN ps x.p x.o = some b ∧ ((x.o, (b : Int)) : Sig) ∈ sg
  nd : (w.map Stp.p).Nodup
theorem Sta.way {ps : List Pc} {sg : List Sig} {rts : List (Int × List Stp)} (S : Sta ps sg rts) {t : Int × List Stp} (h : t ∈ rts) : WayF ps sg t.1 t.2 := by
  obtain ⟨k, j, a, e1, e2, e3, e4, e5⟩ := S.rok t h
  obtain ⟨a', pc, f1, f2, f3⟩ := S.sok _ (List.mem_of_getElem? e2)
  have f1 : (a : Int) = (a' : Int) := f1
  have : a = a' := by omega
  subst this
  obtain ⟨k1, k2, k3, k4⟩ := walk_ok f2 f3 e3
  have := (List.getElem?_eq_some_iff.mp e2).1
  exact ⟨e4, k1, k2, ⟨j, a, by rw [e1, Int.toNat_natCast]; exact e2, by omega, by omega, k3⟩, k4, e5⟩
/-! ### the state -/
def Act (d : Wd) (r : Int) : Prop := r ∈ d.grn ∨ r ∈ d.fal.map (·.1)
def pcAt (ps : List Pc) (i : Int) : Pc := (ps[i.toNat]?).getD (.plain 0 0)
def LieOk (d : Wd) (x : Stp) : Prop := lieN d x.p = lieFor (pcAt d.ps x.p) [x.i, x.o]
def Trn.path (t : Trn) : List Stp := t.steps.reverse ++ t.ahead
structure TOk (d : Wd) (t : Trn) : Prop where
  ne : t.steps ≠ []
  so : ∀ x ∈ t.path, StepOk d.ps x
  lk : ∀ x y, Adj t.path x y → Lnk d.ps x y
  li : ∀ x ∈ t.path, LieOk d x
  ou : t.out = true → t.ahead = [] ∧ ∀ x, t.steps.head? = some x → beyondN d.ps x.p x.o = none
  nd : (t.path.map Stp.p).Nodup
  un : ∀ x ∈ t.steps, lockN d x.p = none
  ru : t.ahead ≠ [] → ∃ r, there d.rts.length r = true ∧ ¬ Act d r ∧ (∀ x ∈ t.ahead, lockN d x.p = some r) ∧ ∃ pre, pre ≠ [] ∧ wayOf d r = pre ++ t.ahead
structure Inv (d : Wd) : Prop where
  st : Sta d.ps d.sg d.rts
  ll : d.lks.length = d.ps.length
  lp : d.pts.length = d.ps.length
  po : ∀ (k : Nat) (pc : Pc), d.ps[k]? = some pc → (lieN d (k : Int) = .no ↔ lieOf pc = .no)
  gnd : d.grn.Nodup
  fnd : (d.fal.map (·.1)).Nodup
  gf : ∀ r ∈ d.grn, r ∉ d.fal.map (·.1)
  act : ∀ r, Act d r → there d.rts.length r = true ∧ ∀ x ∈ wayOf d r, lockN d x.p = some r ∧ LieOk d x
  fnm : ∀ f ∈ d.fal, f.2.2.length ≤ 16
  nnd : (d.trs.map (·.1)).Nodup
  tok : ∀ n t, (n, t) ∈ d.trs → TOk d t
  dis : ∀ n t m u, (n, t) ∈ d.trs → (m, u) ∈ d.trs → n ≠ m → ∀ x ∈ t.path, ∀ y ∈ u.path, x.p ≠ y.p
  own : ∀ (i r : Int), 0 ≤ i → lockN d i = some r → (Act d r ∧ ∃ x ∈ wayOf d r, x.p = i) ∨ ∃ n t, (n, t) ∈ d.trs ∧ ∃ x ∈ t.ahead, x.p = i
theorem path_steps {t : Trn} {x : Stp} (h : x ∈ t.steps) : x ∈ t.path := List.mem_append.mpr (.inl (List.mem_reverse.mpr h))
theorem path_ahead {t : Trn} {x : Stp} (h : x ∈ t.ahead) : x ∈ t.path := List.mem_append.mpr (.inr h)
theorem path_mem {t : Trn} {x : Stp} : x ∈ t.path ↔ x ∈ t.steps ∨ x ∈ t.ahead := by unfold Trn.path; rw [List.mem_append, List.mem_reverse]
theorem there_get {α : Type} {xs : List α} {i : Int} (h : there xs.length i = true) : ∃ a, xs[i.toNat]? = some a ∧ a ∈ xs ∧ 0 ≤ i := by
  unfold there at h
  simp at h
  have hl : i.toNat < xs.length := by omega
  exact ⟨xs[i.toNat], List.getElem?_eq_getElem hl, List.getElem_mem hl, h.1⟩
theorem Sta.wayD {d : Wd} (S : Sta d.ps d.sg d.rts) {r : Int} (h : there d.rts.length r = true) : WayF d.ps d.sg (sigOf d r) (wayOf d r) := by
  obtain ⟨t, e, m, _⟩ := there_get h
  have e1 : sigOf d r = t.1 := by unfold sigOf; rw [e]; rfl
  have e2 : wayOf d r = t.2 := by unfold wayOf; rw [e]; rfl
  rw [e1, e2]
  exact S.way m
theorem lk_set {d : Wd} {p i : Int} {v : Option Int} (h0 : 0 ≤ p) (hi : 0 ≤ i) (hne : i ≠ p) : lockN { d with lks := d.lks.set p.toNat v } i = lockN d i := by
  unfold lockN
  show ((d.lks.set p.toNat v)[i.toNat]?).getD none = _
  rw [List.getElem?_set_ne (by omega)]
theorem lk_self {d : Wd} {p : Int} {v : Option Int} (h : p.toNat < d.lks.length) : lockN { d with lks := d.lks.set p.toNat v } p = v := by
  unfold lockN
  show ((d.lks.set p.toNat v)[p.toNat]?).getD none = _
  rw [List.getElem?_set_self h]
  rfl
theorem lk_free {d : Wd} {r i : Int} : lockN { d with lks := freeL d.lks r } i = if lockN d i = some r then none else lockN d i := by
  unfold lockN freeL
  show ((d.lks.map _)[i.toNat]?).getD none = _
  rw [List.getElem?_map]
  cases d.lks[i.toNat]? with
  | none => simp
  | some o => simp
/-- no train in a piece -/
theorem trainIn_none {d : Wd} {i : Int} : trainIn d i = none ↔ ∀ n t, (n, t) ∈ d.trs → ∀ x ∈ t.steps, x.p ≠ i := by
  unfold trainIn
  constructor
  · intro h n t hm x hx e
    cases q : d.trs.find? (fun p => decide (i ∈ p.2.steps.map Stp.p)) with
    | none =>
      have := List.find?_eq_none.mp q (n, t) hm
      simp at this
      exact this x hx e
    | some z => rw [q] at h; cases h
  · intro h
    cases q : d.trs.find? (fun p => decide (i ∈ p.2.steps.map Stp.p)) with
    | none => rfl
    | some z =>
      have h1 := List.find?_some q
      have h2 := List.mem_of_find?_eq_some q
      simp at h1
      obtain ⟨x, hx, e⟩ := h1
      exact (h z.1 z.2 h2 x hx e).elim
theorem trainIn_some {d : Wd} (I : Inv d) {n : Int} {t : Trn} (h : (n, t) ∈ d.trs) {x : Stp} (hx : x ∈ t.steps) : trainIn d x.p = some n := by
  cases q : trainIn d x.p with
  | none => exact absurd rfl (trainIn_none.mp q n t h x hx)
  | some m =>
    unfold trainIn at q
    cases q2 : d.trs.find? (fun p => decide (x.p ∈ p.2.steps.map Stp.p)) with
    | none => rw [q2] at q; cases q
    | some z =>
      rw [q2] at q
      cases q
      have h1 := List.find?_some q2
      have h2 := List.mem_of_find?_eq_some q2
      simp at h1
      obtain ⟨y, hy, e⟩ := h1
      by_cases e2 : z.1 = n
      · exact congrArg some e2
      · exact (I.dis z.1 z.2 n t h2 h e2 y (path_steps hy) x (path_steps hx) e).elim
theorem held_no {d : Wd} {i : Int} (h : heldN d i = false) : lockN d i = none ∧ ∀ n t, (n, t) ∈ d.trs → ∀ x ∈ t.steps, x.p ≠ i := by
  unfold heldN at h
  rw [Bool.or_eq_false_iff] at h
  refine ⟨by simpa using h.1, trainIn_none.mp (by simpa using h.2)⟩
theorem held_lock {d : Wd} {i : Int} (h : heldN d i = false) : lockN d i = none := (held_no h).1
/-- nothing that is held is on a train's way -/
theorem held_path {d : Wd} (I : Inv d) {i : Int} (h : heldN d i = false) {n : Int} {t : Trn} (hm : (n, t) ∈ d.trs) {x : Stp} (hx : x ∈ t.path) : x.p ≠ i := by
  obtain ⟨h1, h2⟩ := held_no h
  rcases path_mem.mp hx with q | q
  · exact h2 n t hm x q
  · intro e
    obtain ⟨r, _, _, h3, _⟩ := (I.tok n t hm).ru (fun z => by rw [z] at q; simp at q)
    have := h3 x q
    rw [e, h1] at this
    cases this
end
end SB
namespace SB
open PySem PySem.Spec PyProof.Rows L2
open Enc (enc)
local macro_rules | `(tactic| walk_at "le") => `(tactic| first | exact le_nil | (refine le_keep ?_; walk_at "le") | (refine le_drop ?_; walk_at "le"))
local macro_rules | `(tactic| walk_at "sd") => `(tactic| first | assumption | (show (_ : Int) < _ ∧ _ < (1073741824 : Int); exact ⟨by omega, by omega⟩) | (show (-(2 ^ 64) < (_ : Int) ∧ _ < (2 ^ 64 : Int)) ∨ _; first | exact .inl ⟨by omega, by omega⟩ | exact .inr ⟨by omega, by omega⟩) | rfl | decide | (simp; done) | omega | skip)
local macro_rules | `(tactic| walk_at "gc") => `(tactic| fail)
local macro_rules | `(tactic| walk_at "gv") => `(tactic| first
  | exact gv_int | exact gv_str | exact gv_bl | exact gv_non | exact gv_var rfl
  | ((with_reducible refine' gv_op ?_ ?_ ?_) <;> walk_at "gv")
  | ((with_reducible refine' ga_cons ?_ ?_) <;> walk_at "gv") | exact ga_nil
  | ((with_reducible refine' gv_cb ?_ ?_) <;> walk_at "gv")
  | ((with_reducible refine' gt_test ?_) <;> walk_at "gv") | ((with_reducible refine' gt_B ?_) <;> walk_at "gv") | ((with_reducible refine' gt_not ?_) <;> walk_at "gv")
  | ((with_reducible refine' gt_and ?k1 ?k2); (case' k1 => walk_at "gv"); (case' k2 => intro hb; walk_at "gv"))
  | ((with_reducible refine' gt_or ?k1 ?k2); (case' k1 => walk_at "gv"); (case' k2 => intro hb; walk_at "gv"))
  | ((with_reducible refine' gv_andV ?k1 ?k2); (case' k1 => walk_at "gv"); (case' k2 => intro hb; walk_at "gv"))
  | ((with_reducible refine' gv_orV ?k1 ?k2); (case' k1 => walk_at "gv"); (case' k2 => intro hb; walk_at "gv"))
  | ((with_reducible refine' gv_notV ?_) <;> walk_at "gv")
  | ((with_reducible refine' gv_slL ?_ ?_ ?_) <;> walk_at "gv") | ((with_reducible refine' gv_slT ?_ ?_ ?_ ?_) <;> walk_at "gv")
  | exact go_none | ((with_reducible refine' go_some ?_) <;> walk_at "gv")
  | exact gd_nil | ((with_reducible refine' gd_cons ?_ ?_) <;> walk_at "gv") | ((with_reducible refine' gv_lst ?_ ?_) <;> walk_at "gv") | ((with_reducible refine' gv_tup ?_ ?_) <;> walk_at "gv")
  | ((with_reducible refine' gv_chain ?_ ?_ ?_ ?_ ?_) <;> walk_at "gv") | ((with_reducible refine' gt_truL ?_) <;> walk_at "gv") | ((with_reducible refine' gv_countI ?_ ?_) <;> walk_at "gv")
  | ((with_reducible refine' gv_lenSetI ?_ ?_) <;> walk_at "gv") | ((with_reducible refine' gv_lenSetU ?_ ?_) <;> walk_at "gv") | ((with_reducible refine' gv_lenSetT ?_ ?_) <;> walk_at "gv")
  | exact gt_yes
  | walk_at "gc"
  | exact ro_I0 | exact ro_B0 | (refine ro_I ?_; walk_at "sd")
  | exact ro_eqI | exact ro_neI | exact ro_eqS | exact ro_neS
  | (refine ro_eq ?_; walk_at "sd") | (refine ro_ne ?_; walk_at "sd")
  | exact ro_isN | exact ro_notN
  | exact ro_inI | exact ro_notInI | exact ro_inTI
  | (refine' ro_ixL ?k1; (case' k1 => walk_at "sd")) | (refine' ro_ixT ?k1; (case' k1 => walk_at "sd"))
  | (refine ro_cat ?_; walk_at "sd")
  | exact rc_lenM | exact rc_len | exact rc_lenT | exact rc_list | exact rc_listT | exact rc_tuple | exact rc_any | exact rc_all | exact rc_max2 | exact rc_min2 | exact rc_intB
  | (show (_ : Nat) ≤ _; first | decide | (simp; done) | omega)
  | (show (_ : Nat) < _; first | decide | (simp; done) | omega)
  | (show ¬ (_ ∧ _); exact fun h => absurd (show (1 : Nat) = 0 from h.1) (by decide))
  | skip)
local macro_rules | `(tactic| walk_at "ge") => `(tactic| (refine' gt_is ?k1 ?k2; (case' k1 => walk_at "gv"); (case' k2 => first | rfl | (simp; done) | skip)))
local macro_rules | `(tactic| walk_at "gw") => `(tactic| (refine' gv_is ?k1 ?k2; (case' k1 => walk_at "gv"); (case' k2 => first | rfl | (simp; done) | skip)))
local macro_rules | `(tactic| walk_at "gj") => `(tactic| first | exact gi_nil | (refine' gi_cons ?g1 ?g2; (case' g1 => walk_at "gv"); (case' g2 => walk_at "gj")))
local macro_rules | `(tactic| walk_at "gi") => `(tactic| (refine' gv_lst ?k1 ?k2; (case' k1 => walk_at "gj"); (case' k2 => (simp; try omega))))
/-! ### deeds keep the box in order -/
section
inductive Er where
  | none | held | red
  deriving DecidableEq
theorem Inv.lkn {d : Wd} (I : Inv d) {k : Nat} : k < d.lks.length ↔ k < d.ps.length := by rw [I.ll]
/-- a way that is green or falls, off a train's way -/
theorem act_path {d : Wd} (I : Inv d) {r : Int} (ha : Act d r) {n : Int} {t : Trn} (hm : (n, t) ∈ d.trs) {x y : Stp} (hx : x ∈ wayOf d r) (hy : y ∈ t.path) : x.p ≠ y.p := by
  intro e
  have h1 := ((I.act r ha).2 x hx).1
  rw [e] at h1
  rcases path_mem.mp hy with q | q
  · rw [(I.tok n t hm).un y q] at h1
    cases h1
  · obtain ⟨r2, _, h2, h3, _⟩ := (I.tok n t hm).ru (fun z => by rw [z] at q; simp at q)
    rw [h3 y q] at h1
    cases h1
    exact h2 ha
theorem act_act {d : Wd} (I : Inv d) {r r2 : Int} (ha : Act d r) (hb : Act d r2) (hn : r ≠ r2) {x y : Stp} (hx : x ∈ wayOf d r) (hy : y ∈ wayOf d r2) : x.p ≠ y.p := by
  intro e
  have h1 := ((I.act r ha).2 x hx).1
  have h2 := ((I.act r2 hb).2 y hy).1
  rw [e, h2] at h1
  cases h1
  exact hn rfl
theorem LieOk.of {d e : Wd} (hps : e.ps = d.ps) {x : Stp} (h : lieN e x.p = lieN d x.p) (l : LieOk d x) : LieOk e x := by
  unfold LieOk at l ⊢
  rw [h, hps]
  exact l
theorem TOk.of {d e : Wd} {t : Trn} (h : TOk d t) (hps : e.ps = d.ps) (hrt : e.rts = d.rts) (hl : ∀ x ∈ t.path, lockN e x.p = lockN d x.p) (hi : ∀ x ∈ t.path, lieN e x.p = lieN d x.p)
    (ha : ∀ r, t.ahead ≠ [] → ¬ Act d r → (∀ x ∈ t.ahead, lockN d x.p = some r) → (∃ pre, wayOf d r = pre ++ t.ahead) → ¬ Act e r) : TOk e t := by
  refine ⟨h.ne, by rw [hps]; exact h.so, by rw [hps]; exact h.lk, fun x hx => (h.li x hx).of hps (hi x hx), by rw [hps]; exact h.ou, h.nd, fun x hx => (hl x (path_steps hx)).trans (h.un x hx), fun na => ?_⟩
  obtain ⟨r, h1, h2, h3, pre, h4, h5⟩ := h.ru na
  have ew : wayOf e r = wayOf d r := by unfold wayOf; rw [hrt]
  exact ⟨r, by rw [hrt]; exact h1, ha r na h2 h3 ⟨pre, h5⟩, fun x hx => (hl x (path_ahead hx)).trans (h3 x hx), pre, h4, by rw [ew]; exact h5⟩
/-! a route is set -/
theorem layWay_lk {ps : List Pc} {r : Int} {k : Nat} : ∀ (way : List Stp) (s : List (Option Int) × List Lie), (∀ x ∈ way, x.p.toNat ≠ k) → (layWay ps r way s).1[k]? = s.1[k]? ∧ (layWay ps r way s).2[k]? = s.2[k]?
  | [], _, _ => ⟨rfl, rfl⟩
  | st :: way, s, h => by
    obtain ⟨h1, h2⟩ := layWay_lk (ps := ps) (r := r) way (layOne ps r s st) fun x hx => h x (List.mem_cons_of_mem _ hx)
    have h0 := h st (by simp)
    refine ⟨h1.trans ?_, h2.trans ?_⟩
    · unfold layOne
      rw [List.getElem?_set_ne h0]
    · unfold layOne
      show (if _ then _ else _ : List Lie)[k]? = _
      split
      · rfl
      · rw [List.getElem?_set_ne h0]
theorem layOne_len' {ps : List Pc} {r : Int} {s : List (Option Int) × List Lie} {st : Stp} : (layOne ps r s st).1.length = s.1.length ∧ (layOne ps r s st).2.length = s.2.length := by
  unfold layOne
  refine ⟨List.length_set, ?_⟩
  show (if _ then _ else _ : List Lie).length = _
  split
  · rfl
  · exact List.length_set
theorem layWay_len' {ps : List Pc} {r : Int} : ∀ (way : List Stp) (s : List (Option Int) × List Lie), (layWay ps r way s).1.length = s.1.length ∧ (layWay ps r way s).2.length = s.2.length
  | [], _ => ⟨rfl, rfl⟩
  | st :: way, s => by
    have h1 := layWay_len' (ps := ps) (r := r) way (layOne ps r s st)
    have h2 := layOne_len' (ps := ps) (r := r) (s := s) (st := st)
    exact ⟨h1.1.trans h2.1, h1.2.trans h2.2⟩
theorem layWay_at {ps : List Pc} {r : Int} : ∀ (way : List Stp) (s : List (Option Int) × List Lie) (x : Stp), x ∈ way → (way.map fun z => z.p.toNat).Nodup → x.p.toNat < s.1.length → x.p.toNat < s.2.length →
    (layWay ps r way s).1[x.p.toNat]? = some (some r) ∧ (layWay ps r way s).2[x.p.toNat]? = if lieFor (pcAt ps x.p) [x.i, x.o] = .no then s.2[x.p.toNat]? else some (lieFor (pcAt ps x.p) [x.i, x.o])
  | [], _, _, h, _, _, _ => by simp at h
  | st :: way, s, x, h, hn, l1, l2 => by
    rw [List.map_cons, List.nodup_cons] at hn
    rcases List.mem_cons.mp h with h | h
    · subst h
      obtain ⟨h1, h2⟩ := layWay_lk (ps := ps) (r := r) (k := x.p.toNat) way (layOne ps r s x) fun y hy e => hn.1 (List.mem_map.mpr ⟨y, hy, e⟩)
      refine ⟨h1.trans ?_, h2.trans ?_⟩
      · unfold layOne
        rw [List.getElem?_set_self l1]
      · unfold layOne
        show (if lieFor (pcAt ps x.p) [x.i, x.o] = .no then _ else _ : List Lie)[x.p.toNat]? = _
        split
        · rfl
        · rw [List.getElem?_set_self l2]
          rfl
    · obtain ⟨m1, m2⟩ := layOne_len' (ps := ps) (r := r) (s := s) (st := st)
      have ih := layWay_at (ps := ps) (r := r) way (layOne ps r s st) x h hn.2 (by rw [m1]; exact l1) (by rw [m2]; exact l2)
      have ne : st.p.toNat ≠ x.p.toNat := fun e => hn.1 (List.mem_map.mpr ⟨x, h, e.symm⟩)
      refine ⟨ih.1, ih.2.trans ?_⟩
      have e1 : (layOne ps r s st).2[x.p.toNat]? = s.2[x.p.toNat]? := by
        unfold layOne
        show (if _ then _ else _ : List Lie)[x.p.toNat]? = _
        split
        · rfl
        · rw [List.getElem?_set_ne ne]
      rw [e1]
def setOk (d : Wd) (r : Int) : Wd := { d with lks := (layWay d.ps r (wayOf d r) (d.lks, d.pts)).1, pts := (layWay d.ps r (wayOf d r) (d.lks, d.pts)).2, grn := d.grn ++ [r] }
def setE (d : Wd) (r : Int) : Except Er Wd := if there d.rts.length r = true then (if (wayOf d r).any (fun st => heldN d st.p) = true then .error .held else .ok (setOk d r)) else .error .none
theorem nd_map_on {α β : Type} {f : α → β} : ∀ {l : List α}, (∀ a ∈ l, ∀ b ∈ l, f a = f b → a = b) → l.Nodup → (l.map f).Nodup
  | [], _, _ => List.nodup_nil
  | a :: l, h, hn => by
    rw [List.nodup_cons] at hn
    rw [List.map_cons, List.nodup_cons]
    refine ⟨fun q => ?_, nd_map_on (fun b hb c hc => h b (List.mem_cons_of_mem _ hb) c (List.mem_cons_of_mem _ hc)) hn.2⟩
    obtain ⟨b, hb, e⟩ := List.mem_map.mp q
    have := h b (List.mem_cons_of_mem _ hb) a (by simp) e
    subst this
    exact hn.1 hb
theorem nd_toNat {ps : List Pc} {w : List Stp} (so : ∀ x ∈ w, StepOk ps x) (nd : (w.map Stp.p).Nodup) : (w.map fun z => z.p.toNat).Nodup := by
  have e : w.map (fun z => z.p.toNat) = (w.map Stp.p).map Int.toNat := by rw [List.map_map]; rfl
  rw [e]
  refine nd_map_on ?_ nd
  intro a ha b hb q
  obtain ⟨x, hx, e1⟩ := List.mem_map.mp ha
  obtain ⟨y, hy, e2⟩ := List.mem_map.mp hb
  have h1 := (so x hx).nn
  have h2 := (so y hy).nn
  omega
theorem lie_plain {d : Wd} (I : Inv d) {x : Stp} (so : StepOk d.ps x) (h : lieFor (pcAt d.ps x.p) [x.i, x.o] = .no) : lieN d x.p = .no := by
  obtain ⟨a, pc, e1, e2, _⟩ := so
  have e3 : pcAt d.ps x.p = pc := by unfold pcAt; rw [e1, Int.toNat_natCast, e2]; rfl
  rw [e3] at h
  rw [e1]
  refine (I.po a pc e2).mpr ?_
  cases pc with
  | plain => rfl
  | points t s b =>
    unfold lieFor at h
    simp only at h
    split at h <;> cases h
theorem Inv.set {d : Wd} (I : Inv d) {r : Int} (ht : there d.rts.length r = true) (hh : (wayOf d r).any (fun st => heldN d st.p) = false) : Inv (setOk d r) := by
  have W := I.st.wayD ht
  have hfree : ∀ x ∈ wayOf d r, heldN d x.p = false := fun x hx => by
    have := List.any_eq_false.mp hh x hx
    simpa using this
  have ndn := nd_toNat W.so W.nd
  have L1 : ∀ i : Int, 0 ≤ i → (∀ x ∈ wayOf d r, x.p ≠ i) → lockN (setOk d r) i = lockN d i ∧ lieN (setOk d r) i = lieN d i := fun i hi hn => by
    obtain ⟨h1, h2⟩ := layWay_lk (ps := d.ps) (r := r) (k := i.toNat) (wayOf d r) (d.lks, d.pts) fun x hx e => hn x hx (by have := (W.so x hx).nn; omega)
    refine ⟨congrArg (fun o => o.getD none) h1, congrArg (fun o => o.getD .no) h2⟩
  have L2 : ∀ x ∈ wayOf d r, lockN (setOk d r) x.p = some r ∧ LieOk (setOk d r) x := fun x hx => by
    have so := W.so x hx
    have nn := so.nn
    obtain ⟨h1, h2⟩ := layWay_at (ps := d.ps) (r := r) (wayOf d r) (d.lks, d.pts) x hx ndn (by show _ < d.lks.length; rw [I.ll]; omega) (by show _ < d.pts.length; rw [I.lp]; omega)
    refine ⟨congrArg (fun o => o.getD none) h1, ?_⟩
    show (((setOk d r).pts)[x.p.toNat]?).getD .no = lieFor (pcAt d.ps x.p) [x.i, x.o]
    have h2 : ((setOk d r).pts)[x.p.toNat]? = _ := h2
    rw [h2]
    by_cases q : lieFor (pcAt d.ps x.p) [x.i, x.o] = .no
    · rw [if_pos q, q]
      exact lie_plain I so q
    · rw [if_neg q]
      rfl
  have aw : ∀ r2, Act (setOk d r) r2 → r2 = r ∨ Act d r2 := fun r2 h => by
    rcases h with h | h
    · rcases List.mem_append.mp h with h | h
      · exact .inr (.inl h)
      · simp at h; exact .inl h
    · exact .inr (.inr h)
  have na : ¬ Act d r := fun h => by
    cases hw : wayOf d r with
    | nil => exact W.ne hw
    | cons x w =>
      have hx : x ∈ wayOf d r := by rw [hw]; simp
      have := ((I.act r h).2 x hx).1
      rw [held_lock (hfree x hx)] at this
      cases this
  obtain ⟨ll1, ll2⟩ := layWay_len' (ps := d.ps) (r := r) (wayOf d r) (d.lks, d.pts)
  have pw : ∀ n t, (n, t) ∈ d.trs → ∀ x ∈ t.path, ∀ y ∈ wayOf d r, y.p ≠ x.p := fun n t hm x hx y hy e => held_path I (hfree y hy) hm hx e.symm
  refine ⟨I.st, ll1.trans I.ll, ll2.trans I.lp, fun k pc hk => ?_, ?_, I.fnd, fun r2 h2 => ?_, fun r2 h2 => ?_, I.fnm, I.nnd, fun n t hm => ?_, I.dis, fun i r2 hi h => ?_⟩
  · by_cases q : ∃ x ∈ wayOf d r, x.p = (k : Int)
    · obtain ⟨x, hx, e⟩ := q
      have h1 := (L2 x hx).2
      have hk : d.ps[k]? = some pc := hk
      have epc : pcAt d.ps x.p = pc := by unfold pcAt; rw [e, Int.toNat_natCast, hk]; rfl
      unfold LieOk at h1
      rw [← e, h1]
      show lieFor (pcAt d.ps x.p) [x.i, x.o] = .no ↔ _
      rw [epc]
      cases pc with
      | plain => exact ⟨fun _ => rfl, fun _ => rfl⟩
      | points t s b =>
        unfold lieFor lieOf
        simp only
        split <;> simp
    · have := (L1 (k : Int) (by omega) fun x hx e => q ⟨x, hx, e⟩).2
      rw [this]
      exact I.po k pc hk
  · show (d.grn ++ [r]).Nodup
    rw [List.nodup_append]
    refine ⟨I.gnd, by simp, fun a ha b hb e => ?_⟩
    simp at hb
    subst hb
    subst e
    exact na (.inl ha)
  · rcases List.mem_append.mp h2 with h | h
    · exact I.gf r2 h
    · simp at h
      subst h
      exact fun z => na (.inr z)
  · rcases aw r2 h2 with h | h
    · subst h
      exact ⟨ht, L2⟩
    · obtain ⟨h3, h4⟩ := I.act r2 h
      refine ⟨h3, fun x hx => ?_⟩
      have e : ∀ y ∈ wayOf d r, y.p ≠ x.p := fun y hy e => by
        have := (h4 x hx).1
        rw [← e, held_lock (hfree y hy)] at this
        cases this
      obtain ⟨m1, m2⟩ := L1 x.p ((I.st.wayD h3).so x hx).nn.1 e
      exact ⟨m1.trans (h4 x hx).1, LieOk.of (d := d) (e := setOk d r) rfl m2 (h4 x hx).2⟩
  · refine (I.tok n t hm).of rfl rfl (fun x hx => (L1 x.p ((I.tok n t hm).so x hx).nn.1 (pw n t hm x hx)).1) (fun x hx => (L1 x.p ((I.tok n t hm).so x hx).nn.1 (pw n t hm x hx)).2) fun r2 ne h1 h2 h3 h4 => ?_
    rcases aw r2 h4 with h | h
    · subst h
      obtain ⟨pre, e⟩ := h3
      cases ha : t.ahead with
      | nil => exact ne ha
      | cons y ys =>
        have hy : y ∈ t.ahead := by rw [ha]; simp
        have := h2 y hy
        rw [held_lock (hfree y (by rw [e]; exact List.mem_append.mpr (.inr hy)))] at this
        cases this
    · exact h1 h
  · by_cases q : ∃ x ∈ wayOf d r, x.p = i
    · obtain ⟨x, hx, e⟩ := q
      have h1 := (L2 x hx).1
      rw [e, h] at h1
      cases h1
      exact .inl ⟨.inl (List.mem_append.mpr (.inr (by simp))), x, hx, e⟩
    · rw [(L1 i hi fun x hx e => q ⟨x, hx, e⟩).1] at h
      rcases I.own i r2 hi h with ⟨h1, h2⟩ | h1
      · refine .inl ⟨?_, h2⟩
        rcases h1 with h1 | h1
        · exact .inl (List.mem_append.mpr (.inl h1))
        · exact .inr h1
      · exact .inr h1
/-! a route is given up -/
def relD (d : Wd) (r : Int) : Wd := { d with grn := d.grn.erase r, fal := kDrop d.fal r, lks := freeL d.lks r }
theorem mem_erase' {l : List Int} (h : l.Nodup) {a b : Int} : a ∈ l.erase b ↔ a ≠ b ∧ a ∈ l := h.mem_erase_iff
theorem Inv.rel {d : Wd} (I : Inv d) {r : Int} (ha : Act d r) : Inv (relD d r) := by
  have aw : ∀ r2, Act (relD d r) r2 ↔ Act d r2 ∧ r2 ≠ r := fun r2 => by
    unfold Act relD
    show (r2 ∈ d.grn.erase r ∨ r2 ∈ (kDrop d.fal r).map (·.1)) ↔ _
    rw [mem_erase' I.gnd, kDrop_keys]
    constructor
    · rintro (⟨h1, h2⟩ | ⟨h1, h2⟩)
      · exact ⟨.inl h2, h1⟩
      · exact ⟨.inr h1, h2⟩
    · rintro ⟨h1 | h1, h2⟩
      · exact .inl ⟨h2, h1⟩
      · exact .inr ⟨h1, h2⟩
  have lk : ∀ i, lockN (relD d r) i = if lockN d i = some r then none else lockN d i := fun i => lk_free (d := d)
  refine ⟨I.st, ?_, I.lp, I.po, I.gnd.erase r, kDrop_nd I.fnd, fun r2 h2 h3 => ?_, fun r2 h2 => ?_, fun f hf => I.fnm f (mem_kDrop.mp hf).1, I.nnd, fun n t hm => ?_, I.dis, fun i r2 hi h => ?_⟩
  · show (freeL d.lks r).length = _
    unfold freeL
    rw [List.length_map]
    exact I.ll
  · exact I.gf r2 (List.mem_of_mem_erase h2) (kDrop_keys.mp h3).1
  · obtain ⟨h3, h4⟩ := (aw r2).mp h2
    obtain ⟨h5, h6⟩ := I.act r2 h3
    refine ⟨h5, fun x hx => ⟨?_, (h6 x hx).2⟩⟩
    rw [lk, (h6 x hx).1, if_neg (fun z => h4 (by cases z; rfl))]
  · have T := I.tok n t hm
    refine ⟨T.ne, T.so, T.lk, T.li, T.ou, T.nd, fun x hx => by rw [lk, T.un x hx]; simp, fun ne => ?_⟩
    obtain ⟨r2, h1, h2, h3, h4⟩ := T.ru ne
    refine ⟨r2, h1, fun z => h2 ((aw r2).mp z).1, fun x hx => ?_, h4⟩
    rw [lk, h3 x hx, if_neg (fun z => h2 (by cases z; exact ha))]
  · rw [lk] at h
    split at h
    · cases h
    · rename_i hn
      rcases I.own i r2 hi h with ⟨h1, h2⟩ | h1
      · exact .inl ⟨(aw r2).mpr ⟨h1, fun z => hn (by rw [h, z])⟩, h2⟩
      · exact .inr h1
end
end SB
namespace SB
open PySem PySem.Spec PyProof.Rows L2
open Enc (enc)
local macro_rules | `(tactic| walk_at "le") => `(tactic| first | exact le_nil | (refine le_keep ?_; walk_at "le") | (refine le_drop ?_; walk_at "le"))
local macro_rules | `(tactic| walk_at "sd") => `(tactic| first | assumption | (show (_ : Int) < _ ∧ _ < (1073741824 : Int); exact ⟨by omega, by omega⟩) | (show (-(2 ^ 64) < (_ : Int) ∧ _ < (2 ^ 64 : Int)) ∨ _; first | exact .inl ⟨by omega, by omega⟩ | exact .inr ⟨by omega, by omega⟩) | rfl | decide | (simp; done) | omega | skip)
local macro_rules | `(tactic| walk_at "gc") => `(tactic| fail)
local macro_rules | `(tactic| walk_at "gv") => `(tactic| first
  | exact gv_int | exact gv_str | exact gv_bl | exact gv_non | exact gv_var rfl
  | ((with_reducible refine' gv_op ?_ ?_ ?_) <;> walk_at "gv")
  | ((with_reducible refine' ga_cons ?_ ?_) <;> walk_at "gv") | exact ga_nil
  | ((with_reducible refine' gv_cb ?_ ?_) <;> walk_at "gv")
  | ((with_reducible refine' gt_test ?_) <;> walk_at "gv") | ((with_reducible refine' gt_B ?_) <;> walk_at "gv") | ((with_reducible refine' gt_not ?_) <;> walk_at "gv")
  | ((with_reducible refine' gt_and ?k1 ?k2); (case' k1 => walk_at "gv"); (case' k2 => intro hb; walk_at "gv"))
  | ((with_reducible refine' gt_or ?k1 ?k2); (case' k1 => walk_at "gv"); (case' k2 => intro hb; walk_at "gv"))
  | ((with_reducible refine' gv_andV ?k1 ?k2); (case' k1 => walk_at "gv"); (case' k2 => intro hb; walk_at "gv"))
  | ((with_reducible refine' gv_orV ?k1 ?k2); (case' k1 => walk_at "gv"); (case' k2 => intro hb; walk_at "gv"))
  | ((with_reducible refine' gv_notV ?_) <;> walk_at "gv")
  | ((with_reducible refine' gv_slL ?_ ?_ ?_) <;> walk_at "gv") | ((with_reducible refine' gv_slT ?_ ?_ ?_ ?_) <;> walk_at "gv")
  | exact go_none | ((with_reducible refine' go_some ?_) <;> walk_at "gv")
  | exact gd_nil | ((with_reducible refine' gd_cons ?_ ?_) <;> walk_at "gv") | ((with_reducible refine' gv_lst ?_ ?_) <;> walk_at "gv") | ((with_reducible refine' gv_tup ?_ ?_) <;> walk_at "gv")
  | ((with_reducible refine' gv_chain ?_ ?_ ?_ ?_ ?_) <;> walk_at "gv") | ((with_reducible refine' gt_truL ?_) <;> walk_at "gv") | ((with_reducible refine' gv_countI ?_ ?_) <;> walk_at "gv")
  | ((with_reducible refine' gv_lenSetI ?_ ?_) <;> walk_at "gv") | ((with_reducible refine' gv_lenSetU ?_ ?_) <;> walk_at "gv") | ((with_reducible refine' gv_lenSetT ?_ ?_) <;> walk_at "gv")
  | exact gt_yes
  | walk_at "gc"
  | exact ro_I0 | exact ro_B0 | (refine ro_I ?_; walk_at "sd")
  | exact ro_eqI | exact ro_neI | exact ro_eqS | exact ro_neS
  | (refine ro_eq ?_; walk_at "sd") | (refine ro_ne ?_; walk_at "sd")
  | exact ro_isN | exact ro_notN
  | exact ro_inI | exact ro_notInI | exact ro_inTI
  | (refine' ro_ixL ?k1; (case' k1 => walk_at "sd")) | (refine' ro_ixT ?k1; (case' k1 => walk_at "sd"))
  | (refine ro_cat ?_; walk_at "sd")
  | exact rc_lenM | exact rc_len | exact rc_lenT | exact rc_list | exact rc_listT | exact rc_tuple | exact rc_any | exact rc_all | exact rc_max2 | exact rc_min2 | exact rc_intB
  | (show (_ : Nat) ≤ _; first | decide | (simp; done) | omega)
  | (show (_ : Nat) < _; first | decide | (simp; done) | omega)
  | (show ¬ (_ ∧ _); exact fun h => absurd (show (1 : Nat) = 0 from h.1) (by decide))
  | skip)
local macro_rules | `(tactic| walk_at "ge") => `(tactic| (refine' gt_is ?k1 ?k2; (case' k1 => walk_at "gv"); (case' k2 => first | rfl | (simp; done) | skip)))
local macro_rules | `(tactic| walk_at "gw") => `(tactic| (refine' gv_is ?k1 ?k2; (case' k1 => walk_at "gv"); (case' k2 => first | rfl | (simp; done) | skip)))
local macro_rules | `(tactic| walk_at "gj") => `(tactic| first | exact gi_nil | (refine' gi_cons ?g1 ?g2; (case' g1 => walk_at "gv"); (case' g2 => walk_at "gj")))
local macro_rules | `(tactic| walk_at "gi") => `(tactic| (refine' gv_lst ?k1 ?k2; (case' k1 => walk_at "gj"); (case' k2 => (simp; try omega))))
/-! ### taken back, ticks, points -/
section
def bord (d : Wd) (s : Int) : Bool := (beyondN d.ps (sigAt d s).2 (sigAt d s).1).isNone
def dropG (d : Wd) (r : Int) : Wd := { d with grn := d.grn.erase r }
def cancelOk (d : Wd) (r : Int) : Wd := if (decide (0 < d.wait) && (!(nearN d (sigOf d r)).isEmpty || bord d (sigOf d r))) = true then { d with grn := d.grn.erase r, fal := kPut d.fal r (d.now + d.wait, nearN d (sigOf d r)) } else { d with grn := d.grn.erase r, lks := freeL d.lks r }
def cancelE (d : Wd) (r : Int) : Except Er Wd := if (there d.rts.length r && decide (r ∈ d.grn)) = true then .ok (cancelOk d r) else .error .none
/-- how many trains, green and falling routes there can be -/
theorem le_pieces {α : Type} {ps : List Pc} {l : List α} {f : α → Int} (nd : (l.map f).Nodup) (h : ∀ a ∈ l, 0 ≤ f a ∧ f a < (ps.length : Int)) : l.length ≤ ps.length := by
  have := nodup_len_le (l.map f) ((List.range ps.length).map fun (k : Nat) => (k : Int)) nd fun x hx => by
    obtain ⟨a, ha, e⟩ := List.mem_map.mp hx
    have := h a ha
    refine List.mem_map.mpr ⟨x.toNat, List.mem_range.mpr (by omega), by omega⟩
  simpa using this
theorem nd_of_key {α : Type} {f : α → Int} {g : α → Int} : ∀ {l : List α}, (l.map g).Nodup → (∀ a ∈ l, ∀ b ∈ l, g a ≠ g b → f a ≠ f b) → (l.map f).Nodup
  | [], _, _ => List.nodup_nil
  | a :: l, hn, h => by
    rw [List.map_cons, List.nodup_cons] at hn ⊢
    refine ⟨fun q => ?_, nd_of_key hn.2 fun b hb c hc => h b (List.mem_cons_of_mem _ hb) c (List.mem_cons_of_mem _ hc)⟩
    obtain ⟨b, hb, e⟩ := List.mem_map.mp q
    refine h a (by simp) b (List.mem_cons_of_mem _ hb) (fun z => hn.1 ?_) e.symm
    rw [z]
    exact List.mem_map.mpr ⟨b, hb, rfl⟩
def headP (w : List Stp) : Int := (w.head?.map Stp.p).getD 0
theorem headP_mem {w : List Stp} (h : w ≠ []) : ∃ x ∈ w, headP w = x.p := by
  cases w with
  | nil => exact absurd rfl h
  | cons x w => exact ⟨x, by simp, rfl⟩
theorem Inv.trs_len {d : Wd} (I : Inv d) : d.trs.length ≤ 16 := by
  refine Nat.le_trans (le_pieces (ps := d.ps) (f := fun nt => headP nt.2.steps) (nd_of_key (g := (·.1)) I.nnd fun a ha b hb n e => ?_) fun a ha => ?_) I.st.np
  · obtain ⟨x, hx, e1⟩ := headP_mem (I.tok a.1 a.2 ha).ne
    obtain ⟨y, hy, e2⟩ := headP_mem (I.tok b.1 b.2 hb).ne
    exact I.dis a.1 a.2 b.1 b.2 ha hb n x (path_steps hx) y (path_steps hy) (by rw [← e1, ← e2]; exact e)
  · obtain ⟨x, hx, e1⟩ := headP_mem (I.tok a.1 a.2 ha).ne
    have := ((I.tok a.1 a.2 ha).so x (path_steps hx)).nn
    show 0 ≤ headP _ ∧ headP _ < _
    rw [e1]
    omega
theorem Inv.act_len {d : Wd} (I : Inv d) {l : List Int} (hn : l.Nodup) (h : ∀ r ∈ l, Act d r) : l.length ≤ 16 := by
  refine Nat.le_trans (le_pieces (ps := d.ps) (f := fun r => headP (wayOf d r)) (nd_of_key (g := id) (by rw [List.map_id]; exact hn) fun a ha b hb n e => ?_) fun a ha => ?_) I.st.np
  · obtain ⟨x, hx, e1⟩ := headP_mem (I.st.wayD (I.act a (h a ha)).1).ne
    obtain ⟨y, hy, e2⟩ := headP_mem (I.st.wayD (I.act b (h b hb)).1).ne
    exact act_act I (h a ha) (h b hb) n hx hy (by rw [← e1, ← e2]; exact e)
  · have W := I.st.wayD (I.act a (h a ha)).1
    obtain ⟨x, hx, e1⟩ := headP_mem W.ne
    have := (W.so x hx).nn
    show 0 ≤ headP _ ∧ headP _ < _
    rw [e1]
    omega
theorem Inv.grn_len {d : Wd} (I : Inv d) : d.grn.length ≤ 16 := I.act_len I.gnd fun _ h => .inl h
theorem Inv.fal_len {d : Wd} (I : Inv d) : d.fal.length ≤ 16 := by
  have := I.act_len I.fnd fun _ h => .inr h
  rw [List.length_map] at this
  exact this
theorem Inv.path_len {d : Wd} (I : Inv d) {n : Int} {t : Trn} (h : (n, t) ∈ d.trs) : t.path.length ≤ 16 := by
  have T := I.tok n t h
  refine Nat.le_trans (le_pieces (ps := d.ps) (f := Stp.p) T.nd fun x hx => ?_) I.st.np
  have := (T.so x hx).nn
  omega
theorem Inv.path_len' {d : Wd} (I : Inv d) {n : Int} {t : Trn} (h : (n, t) ∈ d.trs) : t.steps.length + t.ahead.length ≤ 16 := by
  have := I.path_len h
  unfold Trn.path at this
  rw [List.length_append, List.length_reverse] at this
  exact this
theorem near_len {d : Wd} (I : Inv d) (s : Int) : (nearN d s).length ≤ 16 := by
  unfold nearN
  rw [List.length_map]
  exact Nat.le_trans (List.length_filter_le _ _) I.trs_len
theorem Inv.fit {d : Wd} (I : Inv d) : Fit d := by
  have S := I.st
  refine ⟨S.np, S.ns, S.nr, I.ll, I.lp, Nat.le_trans I.grn_len (by decide), fun r hr => (I.act r (.inl hr)).1, Nat.le_trans I.fal_len (by decide), fun r hr => ⟨(I.act r.1 (.inr (List.mem_map.mpr ⟨r, hr, rfl⟩))).1, Nat.le_trans (I.fnm r hr) (by decide)⟩, Nat.le_trans I.trs_len (by decide), I.nnd, fun t ht => ?_⟩
  have h1 := I.path_len' (n := t.1) (t := t.2) ht
  exact ⟨(I.tok t.1 t.2 ht).ne, by omega, by omega⟩
theorem Inv.wayOk {d : Wd} (I : Inv d) : WayOk d := fun t ht => by
  have W := I.st.way ht
  refine ⟨Nat.le_trans (le_pieces (ps := d.ps) (f := Stp.p) W.nd fun x hx => ?_) (Nat.le_trans I.st.np (by decide)), fun st hs => (W.so st hs).th⟩
  have := (W.so x hx).nn
  omega
theorem Inv.cancel {d : Wd} (I : Inv d) {r : Int} (hg : r ∈ d.grn) : Inv (cancelOk d r) := by
  unfold cancelOk
  split
  · have hk : r ∉ d.fal.map (·.1) := I.gf r hg
    have ek : (kPut d.fal r (d.now + d.wait, nearN d (sigOf d r))).map (·.1) = d.fal.map (·.1) ++ [r] := by rw [kPut_keys, if_neg hk]
    have aw : ∀ r2, (r2 ∈ d.grn.erase r ∨ r2 ∈ (kPut d.fal r (d.now + d.wait, nearN d (sigOf d r))).map (·.1)) ↔ Act d r2 := fun r2 => by
      rw [ek, mem_erase' I.gnd, List.mem_append, List.mem_singleton]
      unfold Act
      constructor
      · rintro (⟨_, h⟩ | h | h)
        · exact .inl h
        · exact .inr h
        · exact .inl (h ▸ hg)
      · rintro (h | h)
        · by_cases e : r2 = r
          · exact .inr (.inr e)
          · exact .inl ⟨e, h⟩
        · exact .inr (.inl h)
    refine ⟨I.st, I.ll, I.lp, I.po, I.gnd.erase r, kPut_nd I.fnd, fun r2 h2 h3 => ?_, fun r2 h2 => I.act r2 ((aw r2).mp h2), fun f hf => ?_, I.nnd, fun n t hm => (I.tok n t hm).of rfl rfl (fun _ _ => rfl) (fun _ _ => rfl) fun r2 _ h1 _ _ z => h1 ((aw r2).mp z), I.dis, fun i r2 hi h => ?_⟩
    · rw [ek] at h3
      rcases List.mem_append.mp h3 with h | h
      · exact I.gf r2 (List.mem_of_mem_erase h2) h
      · simp at h
        exact ((mem_erase' I.gnd).mp h2).1 h
    · rcases mem_kPut (m := f.1) (u := f.2) hf with ⟨_, h2⟩ | ⟨_, h2⟩
      · rw [h2]
        exact near_len I _
      · exact I.fnm f h2
    · rcases I.own i r2 hi h with ⟨h1, h2⟩ | h1
      · exact .inl ⟨(aw r2).mpr h1, h2⟩
      · exact .inr h1
  · have := I.rel (.inl hg)
    unfold relD at this
    rw [kDrop_id (I.gf r hg)] at this
    exact this
def tickOne (d : Wd) (r : Int) : Wd := match kAt d.fal r with
  | some v => if v.1 ≤ d.now then { d with fal := kDrop d.fal r, lks := freeL d.lks r } else d
  | none => d
def tickD (d : Wd) : Wd := (d.fal.map (·.1)).foldl tickOne { d with now := d.now + 1 }
theorem Inv.now {d : Wd} (I : Inv d) (n : Int) : Inv { d with now := n } := ⟨I.st, I.ll, I.lp, I.po, I.gnd, I.fnd, I.gf, I.act, I.fnm, I.nnd, fun n t hm => (I.tok n t hm).of rfl rfl (fun _ _ => rfl) (fun _ _ => rfl) fun _ _ h _ _ => h, I.dis, I.own⟩
theorem Inv.tickOne {d : Wd} (I : Inv d) (r : Int) : Inv (tickOne d r) := by
  unfold SB.tickOne
  cases e : kAt d.fal r with
  | none => exact I
  | some v =>
    have hk : r ∈ d.fal.map (·.1) := List.mem_map.mpr ⟨_, kAt_mem e, rfl⟩
    show Inv (if _ then _ else _)
    split
    · have := I.rel (.inr hk)
      unfold relD at this
      rw [List.erase_of_not_mem (fun z => I.gf r z hk)] at this
      exact this
    · exact I
theorem Inv.tick {d : Wd} (I : Inv d) : Inv (tickD d) := by
  unfold tickD
  have h : ∀ (l : List Int) (e : Wd), Inv e → Inv (l.foldl SB.tickOne e) := by
    intro l
    induction l with
    | nil => exact fun e h => h
    | cons a l ih => exact fun e h => ih _ (h.tickOne a)
  exact h _ _ (I.now _)
def throwOk (d : Wd) (i : Int) : Wd := { d with pts := d.pts.set i.toNat (lieN d i).other }
def throwE (d : Wd) (i : Int) : Except Er Wd := if (there d.ps.length i && !decide (lieN d i = .no)) = true then (if heldN d i = true then .error .held else .ok (throwOk d i)) else .error .none
theorem li_set {d : Wd} {i j : Int} {v : Lie} (h : i.toNat ≠ j.toNat) : lieN { d with pts := d.pts.set i.toNat v } j = lieN d j := by
  unfold lieN
  show ((d.pts.set i.toNat v)[j.toNat]?).getD .no = _
  rw [List.getElem?_set_ne h]
theorem li_self {d : Wd} {i : Int} {v : Lie} (h : i.toNat < d.pts.length) : lieN { d with pts := d.pts.set i.toNat v } i = v := by
  unfold lieN
  show ((d.pts.set i.toNat v)[i.toNat]?).getD .no = _
  rw [List.getElem?_set_self h]
  rfl
theorem Inv.throw {d : Wd} (I : Inv d) {i : Int} (ht : there d.ps.length i = true) (hn : lieN d i ≠ .no) (hh : heldN d i = false) : Inv (throwOk d i) := by
  have hi : 0 ≤ i ∧ i < (d.ps.length : Int) := by unfold there at ht; simpa using ht
  have hlk := held_lock hh
  have L : ∀ {x : Stp}, StepOk d.ps x → x.p ≠ i → lieN (throwOk d i) x.p = lieN d x.p := fun so n => li_set (by have := so.nn; omega)
  refine ⟨I.st, I.ll, by show (d.pts.set _ _).length = _; rw [List.length_set]; exact I.lp, fun k pc hk => ?_, I.gnd, I.fnd, I.gf, fun r hr => ?_, I.fnm, I.nnd, fun n t hm => ?_, I.dis, I.own⟩
  · by_cases e : i.toNat = k
    · subst e
      have e2 : ((i.toNat : Nat) : Int) = i := by omega
      have h0 := I.po i.toNat pc hk
      rw [e2] at h0 ⊢
      have : lieN (throwOk d i) i = (lieN d i).other := li_self (by rw [I.lp]; omega)
      rw [this]
      constructor
      · intro q
        cases z : lieN d i <;> rw [z] at q <;> cases q
      · intro q
        exact absurd (h0.mpr q) hn
    · have : lieN (throwOk d i) (k : Int) = lieN d (k : Int) := li_set (by omega)
      rw [this]
      exact I.po k pc hk
  · obtain ⟨h1, h2⟩ := I.act r hr
    refine ⟨h1, fun x hx => ⟨(h2 x hx).1, (h2 x hx).2.of (d := d) (e := throwOk d i) rfl (L ((I.st.wayD h1).so x hx) fun e => ?_)⟩⟩
    have := (h2 x hx).1
    rw [e, hlk] at this
    cases this
  · exact (I.tok n t hm).of rfl rfl (fun _ _ => rfl) (fun x hx => L ((I.tok n t hm).so x hx) (held_path I hh hm hx)) fun _ _ h _ _ => h
end
end SB
namespace SB
open PySem PySem.Spec PyProof.Rows L2
open Enc (enc)
local macro_rules | `(tactic| walk_at "le") => `(tactic| first | exact le_nil | (refine le_keep ?_; walk_at "le") | (refine le_drop ?_; walk_at "le"))
local macro_rules | `(tactic| walk_at "sd") => `(tactic| first | assumption | (show (_ : Int) < _ ∧ _ < (1073741824 : Int); exact ⟨by omega, by omega⟩) | (show (-(2 ^ 64) < (_ : Int) ∧ _ < (2 ^ 64 : Int)) ∨ _; first | exact .inl ⟨by omega, by omega⟩ | exact .inr ⟨by omega, by omega⟩) | rfl | decide | (simp; done) | omega | skip)
local macro_rules | `(tactic| walk_at "gc") => `(tactic| fail)
local macro_rules | `(tactic| walk_at "gv") => `(tactic| first
  | exact gv_int | exact gv_str | exact gv_bl | exact gv_non | exact gv_var rfl
  | ((with_reducible refine' gv_op ?_ ?_ ?_) <;> walk_at "gv")
  | ((with_reducible refine' ga_cons ?_ ?_) <;> walk_at "gv") | exact ga_nil
  | ((with_reducible refine' gv_cb ?_ ?_) <;> walk_at "gv")
  | ((with_reducible refine' gt_test ?_) <;> walk_at "gv") | ((with_reducible refine' gt_B ?_) <;> walk_at "gv") | ((with_reducible refine' gt_not ?_) <;> walk_at "gv")
  | ((with_reducible refine' gt_and ?k1 ?k2); (case' k1 => walk_at "gv"); (case' k2 => intro hb; walk_at "gv"))
  | ((with_reducible refine' gt_or ?k1 ?k2); (case' k1 => walk_at "gv"); (case' k2 => intro hb; walk_at "gv"))
  | ((with_reducible refine' gv_andV ?k1 ?k2); (case' k1 => walk_at "gv"); (case' k2 => intro hb; walk_at "gv"))
  | ((with_reducible refine' gv_orV ?k1 ?k2); (case' k1 => walk_at "gv"); (case' k2 => intro hb; walk_at "gv"))
  | ((with_reducible refine' gv_notV ?_) <;> walk_at "gv")
  | ((with_reducible refine' gv_slL ?_ ?_ ?_) <;> walk_at "gv") | ((with_reducible refine' gv_slT ?_ ?_ ?_ ?_) <;> walk_at "gv")
  | exact go_none | ((with_reducible refine' go_some ?_) <;> walk_at "gv")
  | exact gd_nil | ((with_reducible refine' gd_cons ?_ ?_) <;> walk_at "gv") | ((with_reducible refine' gv_lst ?_ ?_) <;> walk_at "gv") | ((with_reducible refine' gv_tup ?_ ?_) <;> walk_at "gv")
  | ((with_reducible refine' gv_chain ?_ ?_ ?_ ?_ ?_) <;> walk_at "gv") | ((with_reducible refine' gt_truL ?_) <;> walk_at "gv") | ((with_reducible refine' gv_countI ?_ ?_) <;> walk_at "gv")
  | ((with_reducible refine' gv_lenSetI ?_ ?_) <;> walk_at "gv") | ((with_reducible refine' gv_lenSetU ?_ ?_) <;> walk_at "gv") | ((with_reducible refine' gv_lenSetT ?_ ?_) <;> walk_at "gv")
  | exact gt_yes
  | walk_at "gc"
  | exact ro_I0 | exact ro_B0 | (refine ro_I ?_; walk_at "sd")
  | exact ro_eqI | exact ro_neI | exact ro_eqS | exact ro_neS
  | (refine ro_eq ?_; walk_at "sd") | (refine ro_ne ?_; walk_at "sd")
  | exact ro_isN | exact ro_notN
  | exact ro_inI | exact ro_notInI | exact ro_inTI
  | (refine' ro_ixL ?k1; (case' k1 => walk_at "sd")) | (refine' ro_ixT ?k1; (case' k1 => walk_at "sd"))
  | (refine ro_cat ?_; walk_at "sd")
  | exact rc_lenM | exact rc_len | exact rc_lenT | exact rc_list | exact rc_listT | exact rc_tuple | exact rc_any | exact rc_all | exact rc_max2 | exact rc_min2 | exact rc_intB
  | (show (_ : Nat) ≤ _; first | decide | (simp; done) | omega)
  | (show (_ : Nat) < _; first | decide | (simp; done) | omega)
  | (show ¬ (_ ∧ _); exact fun h => absurd (show (1 : Nat) = 0 from h.1) (by decide))
  | skip)
local macro_rules | `(tactic| walk_at "ge") => `(tactic| (refine' gt_is ?k1 ?k2; (case' k1 => walk_at "gv"); (case' k2 => first | rfl | (simp; done) | skip)))
local macro_rules | `(tactic| walk_at "gw") => `(tactic| (refine' gv_is ?k1 ?k2; (case' k1 => walk_at "gv"); (case' k2 => first | rfl | (simp; done) | skip)))
local macro_rules | `(tactic| walk_at "gj") => `(tactic| first | exact gi_nil | (refine' gi_cons ?g1 ?g2; (case' g1 => walk_at "gv"); (case' g2 => walk_at "gj")))
local macro_rules | `(tactic| walk_at "gi") => `(tactic| (refine' gv_lst ?k1 ?k2; (case' k1 => walk_at "gj"); (case' k2 => (simp; try omega))))
/-! ### trains -/
section
def openGrn (d : Wd) (s : Int) : Option Int := d.grn.find? fun r => decide (sigOf d r = s)
def nmIn (nm : Option Int) (l : List Int) : Bool := match nm with
  | none => true
  | some n => decide (n ∈ l)
def openFal (d : Wd) (s : Int) (nm : Option Int) : Option Int := (d.fal.find? fun f => decide (sigOf d f.1 = s) && nmIn nm f.2.2).map (·.1)
def openN (d : Wd) (s : Int) (nm : Option Int) : Option Int := match openGrn d s with
  | some r => some r
  | none => openFal d s nm
def takeD (d : Wd) (r : Int) : Wd := { d with grn := d.grn.erase r, fal := kDrop d.fal r, lks := d.lks.set (headP (wayOf d r)).toNat none }
theorem open_act {d : Wd} {s : Int} {nm : Option Int} {r : Int} (h : openN d s nm = some r) : Act d r ∧ sigOf d r = s := by
  unfold openN at h
  cases e : openGrn d s with
  | some r2 =>
    rw [e] at h
    cases h
    have h1 := List.find?_some e
    exact ⟨.inl (List.mem_of_find?_eq_some e), by simpa using h1⟩
  | none =>
    rw [e] at h
    have h : openFal d s nm = some r := h
    unfold openFal at h
    cases e2 : d.fal.find? (fun f => decide (sigOf d f.1 = s) && nmIn nm f.2.2) with
    | none => rw [e2] at h; cases h
    | some f =>
      rw [e2] at h
      cases h
      have h1 := List.find?_some e2
      rw [Bool.and_eq_true] at h1
      exact ⟨.inr (List.mem_map.mpr ⟨f, List.mem_of_find?_eq_some e2, rfl⟩), by simpa using h1.1⟩
/-- a train with a changed state among the others -/
structure Put (d e : Wd) (n : Int) (t : Option Trn) : Prop where
  ps : e.ps = d.ps
  sg : e.sg = d.sg
  rt : e.rts = d.rts
  pt : e.pts = d.pts
  nnd : (e.trs.map (·.1)).Nodup
  mem : ∀ m u, (m, u) ∈ e.trs → (m = n ∧ t = some u) ∨ (m ≠ n ∧ (m, u) ∈ d.trs)
  old : ∀ m u, m ≠ n → (m, u) ∈ d.trs → (m, u) ∈ e.trs
  new : ∀ u, t = some u → (n, u) ∈ e.trs
theorem mem_kPut_of {β : Type} {l : List (Int × β)} {n m : Int} {v u : β} (hm : m ≠ n) (h : (m, u) ∈ l) : (m, u) ∈ kPut l n v := by
  unfold kPut
  split
  · exact List.mem_map.mpr ⟨(m, u), h, if_neg hm⟩
  · exact List.mem_append.mpr (.inl h)
theorem mem_kPut_self {β : Type} {l : List (Int × β)} {n : Int} {v : β} : (n, v) ∈ kPut l n v := by
  unfold kPut
  split
  · rename_i h
    obtain ⟨p, hp, e⟩ := List.any_eq_true.mp h
    exact List.mem_map.mpr ⟨p, hp, by have e : p.1 = n := by simpa using e
                                      rw [if_pos e, e]⟩
  · exact List.mem_append.mpr (.inr (by simp))
/-- one train's new state, with all that it wants -/
theorem Inv.put {d e : Wd} (I : Inv d) {n : Int} {t : Option Trn} (P : Put d e n t) (ll : e.lks.length = d.lks.length) (gnd : e.grn.Nodup) (fnd : (e.fal.map (·.1)).Nodup) (fnm : ∀ f ∈ e.fal, f.2.2.length ≤ 16)
    (aw : ∀ r, Act e r → Act d r) (gf : ∀ r ∈ e.grn, r ∉ e.fal.map (·.1))
    (la : ∀ r, Act e r → ∀ x ∈ wayOf d r, lockN e x.p = lockN d x.p)
    (lo : ∀ m u, m ≠ n → (m, u) ∈ d.trs → ∀ x ∈ u.path, lockN e x.p = lockN d x.p)
    (tk : ∀ u, t = some u → TOk e u) (ds : ∀ u, t = some u → ∀ m v, m ≠ n → (m, v) ∈ d.trs → ∀ x ∈ u.path, ∀ y ∈ v.path, x.p ≠ y.p)
    (ow : ∀ (i r : Int), 0 ≤ i → lockN e i = some r → (Act e r ∧ ∃ x ∈ wayOf d r, x.p = i) ∨ (∃ u, t = some u ∧ ∃ x ∈ u.ahead, x.p = i) ∨ ∃ m u, m ≠ n ∧ (m, u) ∈ d.trs ∧ ∃ x ∈ u.ahead, x.p = i) : Inv e := by
  have ew : ∀ r, wayOf e r = wayOf d r := fun r => by unfold wayOf; rw [P.rt]
  have el : ∀ i, lieN e i = lieN d i := fun i => by unfold lieN; rw [P.pt]
  refine ⟨by rw [P.ps, P.sg, P.rt]; exact I.st, by rw [ll, P.ps]; exact I.ll, by rw [P.pt, P.ps]; exact I.lp, fun k pc hk => ?_, gnd, fnd, gf, fun r hr => ?_, fnm, P.nnd, fun m u hm => ?_, fun m u m2 u2 h1 h2 hn x hx y hy => ?_, fun i r hi h => ?_⟩
  · rw [el]
    exact I.po k pc (by rw [← P.ps]; exact hk)
  · obtain ⟨h1, h2⟩ := I.act r (aw r hr)
    refine ⟨by rw [P.rt]; exact h1, fun x hx => ?_⟩
    rw [ew] at hx
    exact ⟨(la r hr x hx).trans (h2 x hx).1, (h2 x hx).2.of P.ps (el x.p)⟩
  · rcases P.mem m u hm with ⟨_, h⟩ | ⟨h1, h2⟩
    · exact tk u h
    · exact (I.tok m u h2).of P.ps P.rt (lo m u h1 h2) (fun x _ => el x.p) fun r _ h3 _ _ h6 => h3 (aw r h6)
  · rcases P.mem m u h1 with ⟨e1, f1⟩ | ⟨e1, f1⟩ <;> rcases P.mem m2 u2 h2 with ⟨e2, f2⟩ | ⟨e2, f2⟩
    · exact absurd (e1.trans e2.symm) hn
    · exact ds u f1 m2 u2 e2 f2 x hx y hy
    · exact fun z => ds u2 f2 m u e1 f1 y hy x hx z.symm
    · exact I.dis m u m2 u2 f1 f2 hn x hx y hy
  · rcases ow i r hi h with ⟨h1, h2⟩ | ⟨u, h1, h2⟩ | ⟨m, u, h1, h2, h3⟩
    · exact .inl ⟨h1, by rw [ew]; exact h2⟩
    · exact .inr ⟨n, u, P.new u h1, h2⟩
    · exact .inr ⟨m, u, P.old m u h1 h2, h3⟩
theorem put_kPut {d e : Wd} (I : Inv d) {n : Int} {t : Trn} (h : e = { d with trs := kPut d.trs n t, lks := e.lks, grn := e.grn, fal := e.fal }) : Put d e n (some t) := by
  have et : e.trs = kPut d.trs n t := by rw [h]
  refine ⟨by rw [h], by rw [h], by rw [h], by rw [h], by rw [et]; exact kPut_nd I.nnd, fun m u hm => ?_, fun m u hn hm => ?_, fun u hu => ?_⟩
  · rw [et] at hm
    rcases mem_kPut hm with ⟨h1, h2⟩ | h
    · exact .inl ⟨h1, by rw [h2]⟩
    · exact .inr h
  · rw [et]
    exact mem_kPut_of hn hm
  · cases hu
    rw [et]
    exact mem_kPut_self
theorem trainOf_mem {d : Wd} {n : Int} {t : Trn} (h : trainOf d n = some t) : (n, t) ∈ d.trs := kAt_mem h
theorem trainOf_of {d : Wd} (I : Inv d) {n : Int} {t : Trn} (h : (n, t) ∈ d.trs) : trainOf d n = some t := kAt_of I.nnd h
theorem mem_only {d : Wd} (I : Inv d) {n : Int} {t u : Trn} (h : (n, t) ∈ d.trs) (h2 : (n, u) ∈ d.trs) : t = u := by
  have h1 := trainOf_of I h
  have h2 := trainOf_of I h2
  rw [h1] at h2
  cases h2
  rfl
/-- a train passes a signal: what is there behind -/
theorem Inv.pass {d e : Wd} (I : Inv d) {r n : Int} {t : Trn} {fr : List Stp} (ha : Act d r) (he : e = { takeD d r with trs := kPut d.trs n t }) (e1 : t.steps = (wayOf d r).take 1 ++ fr) (e2 : t.ahead = (wayOf d r).drop 1) (e3 : t.out = false)
    (f1 : ∀ x ∈ fr.reverse, StepOk d.ps x ∧ LieOk d x ∧ lockN d x.p = none) (f2 : ∀ x y, Adj fr.reverse x y → Lnk d.ps x y) (f3 : (fr.reverse.map Stp.p).Nodup) (f4 : ∀ x y, fr.head? = some x → (wayOf d r).head? = some y → Lnk d.ps x y)
    (f5 : ∀ m u, m ≠ n → (m, u) ∈ d.trs → ∀ x ∈ fr, ∀ y ∈ u.path, x.p ≠ y.p) (f6 : ∀ u, (n, u) ∈ d.trs → u.ahead = []) : Inv e := by
  obtain ⟨ht, hw⟩ := I.act r ha
  have W := I.st.wayD ht
  obtain ⟨x0, w0, ew⟩ : ∃ x0 w0, wayOf d r = x0 :: w0 := by
    cases h : wayOf d r with
    | nil => exact absurd h W.ne
    | cons a b => exact ⟨a, b, rfl⟩
  have hx0 : x0 ∈ wayOf d r := by rw [ew]; simp
  have so0 := W.so x0 hx0
  have nn0 := so0.nn
  have hp : headP (wayOf d r) = x0.p := by rw [ew]; rfl
  have epath : t.path = fr.reverse ++ wayOf d r := by unfold Trn.path; rw [e1, e2, ew]; simp
  have lkv : ∀ i, 0 ≤ i → i ≠ x0.p → lockN e i = lockN d i := fun i hi hn => by
    rw [he]
    show (((d.lks.set (headP (wayOf d r)).toNat none))[i.toNat]?).getD none = _
    rw [hp]
    exact lk_set (d := d) nn0.1 hi hn
  have lk0 : lockN e x0.p = none := by
    rw [he]
    show (((d.lks.set (headP (wayOf d r)).toNat none))[x0.p.toNat]?).getD none = _
    rw [hp]
    exact lk_self (d := d) (by rw [I.ll]; omega)
  have aw : ∀ r2, Act e r2 ↔ Act d r2 ∧ r2 ≠ r := fun r2 => by
    rw [he]
    show (r2 ∈ d.grn.erase r ∨ r2 ∈ (kDrop d.fal r).map (·.1)) ↔ _
    rw [mem_erase' I.gnd, kDrop_keys]
    constructor
    · rintro (⟨h1, h2⟩ | ⟨h1, h2⟩)
      · exact ⟨.inl h2, h1⟩
      · exact ⟨.inr h1, h2⟩
    · rintro ⟨h1 | h1, h2⟩
      · exact .inl ⟨h2, h1⟩
      · exact .inr ⟨h1, h2⟩
  have P : Put d e n (some t) := put_kPut I (by rw [he]; rfl)
  have offw : ∀ x ∈ fr.reverse, ∀ y ∈ wayOf d r, x.p ≠ y.p := fun x hx y hy z => by
    have h1 := (f1 x hx).2.2
    have h2 := (hw y hy).1
    rw [← z, h1] at h2
    cases h2
  have ndw : ∀ x ∈ w0, x.p ≠ x0.p := fun x hx z => by
    have := W.nd
    rw [ew, List.map_cons, List.nodup_cons] at this
    exact this.1 (List.mem_map.mpr ⟨x, hx, z⟩)
  have el : ∀ i, lieN e i = lieN d i := fun i => by unfold lieN; rw [P.pt]
  refine I.put P ?_ ?_ ?_ (fun f hf => ?_) (fun r2 h => ((aw r2).mp h).1) (fun r2 h2 h3 => ?_) (fun r2 h2 x hx => ?_) (fun m u hn hm x hx => ?_) (fun u hu => ?_) (fun u hu m v hn hm x hx y hy => ?_) fun i r2 hi h => ?_
  · rw [he]
    exact List.length_set
  · rw [he]
    exact I.gnd.erase r
  · rw [he]
    exact kDrop_nd I.fnd
  · rw [he] at hf
    exact I.fnm f (mem_kDrop.mp hf).1
  · rw [he] at h2 h3
    exact I.gf r2 (List.mem_of_mem_erase h2) (kDrop_keys.mp h3).1
  · obtain ⟨h3, h4⟩ := (aw r2).mp h2
    exact lkv x.p ((I.st.wayD (I.act r2 h3).1).so x hx).nn.1 (act_act I h3 ha h4 hx hx0)
  · exact lkv x.p ((I.tok m u hm).so x hx).nn.1 fun z => act_path I ha hm hx0 hx z.symm
  · cases hu
    refine ⟨by rw [e1, ew]; simp, ?_, ?_, ?_, (fun z => by rw [e3] at z; cases z), ?_, ?_, fun ne => ?_⟩
    · intro x hx
      rw [P.ps]
      rw [epath] at hx
      rcases List.mem_append.mp hx with h | h
      · exact (f1 x h).1
      · exact W.so x h
    · intro x y ad
      rw [P.ps]
      rw [epath] at ad
      rcases ad.append with h | h | ⟨h1, h2⟩
      · exact f2 x y h
      · exact W.lk x y h
      · refine f4 x y ?_ h2
        rw [List.getLast?_reverse] at h1
        exact h1
    · intro x hx
      rw [epath] at hx
      refine LieOk.of P.ps (el x.p) ?_
      rcases List.mem_append.mp hx with h | h
      · exact (f1 x h).2.1
      · exact (hw x h).2
    · rw [epath, List.map_append, List.nodup_append]
      refine ⟨f3, W.nd, fun a ha b hb z => ?_⟩
      obtain ⟨x, hx, g1⟩ := List.mem_map.mp ha
      obtain ⟨y, hy, g2⟩ := List.mem_map.mp hb
      exact offw x hx y hy (by rw [g1, g2]; exact z)
    · intro x hx
      rw [e1, ew] at hx
      simp at hx
      rcases hx with h | h
      · rw [h]; exact lk0
      · have h := List.mem_reverse.mpr h
        rw [lkv x.p (f1 x h).1.nn.1 (offw x h x0 hx0)]
        exact (f1 x h).2.2
    · refine ⟨r, by rw [P.rt]; exact ht, fun z => ((aw r).mp z).2 rfl, fun x hx => ?_, [x0], by simp, ?_⟩
      · rw [e2, ew] at hx
        have hx : x ∈ w0 := hx
        have hx2 : x ∈ wayOf d r := by rw [ew]; exact List.mem_cons_of_mem _ hx
        rw [lkv x.p (W.so x hx2).nn.1 (ndw x hx)]
        exact (hw x hx2).1
      · show wayOf e r = _
        have : wayOf e r = wayOf d r := by unfold wayOf; rw [P.rt]
        rw [this, e2, ew]
        rfl
  · cases hu
    rw [epath] at hx
    rcases List.mem_append.mp hx with h | h
    · exact f5 m v hn hm x (List.mem_reverse.mp h) y hy
    · exact act_path I ha hm h hy
  · by_cases z : i = x0.p
    · rw [z, lk0] at h
      cases h
    · rw [lkv i hi z] at h
      rcases I.own i r2 hi h with ⟨h1, h2⟩ | ⟨m, u, h1, x, h2, h3⟩
      · by_cases q : r2 = r
        · subst q
          obtain ⟨x, hx, h3⟩ := h2
          refine .inr (.inl ⟨t, rfl, x, ?_, h3⟩)
          rw [ew] at hx
          rcases List.mem_cons.mp hx with h | h
          · rw [h] at h3; exact absurd h3.symm z
          · rw [e2, ew]; exact h
        · exact .inl ⟨(aw r2).mpr ⟨h1, q⟩, h2⟩
      · by_cases q : m = n
        · subst q
          rw [f6 u h1] at h2
          simp at h2
        · exact .inr (.inr ⟨m, u, q, h1, x, h2, h3⟩)
def enterOk (d : Wd) (n r : Int) : Wd := { takeD d r with trs := kPut d.trs n ⟨(wayOf d r).take 1, (wayOf d r).drop 1, false⟩ }
def enterE (d : Wd) (n s : Int) : Except Er Wd := if there d.sg.length s = true then (if bord d s = true then (if (trainOf d n).isSome = true then .error .held else match openN d s none with
  | none => .error .red
  | some r => .ok (enterOk d n r)) else .error .none) else .error .none
theorem Inv.enter {d : Wd} (I : Inv d) {n r s : Int} (hn : trainOf d n = none) (ho : openN d s none = some r) : Inv (enterOk d n r) := by
  refine I.pass (t := ⟨(wayOf d r).take 1, (wayOf d r).drop 1, false⟩) (fr := []) (open_act ho).1 rfl (by simp) rfl rfl (fun x hx => by simp at hx) (fun x y ad => by have := ad.mem.1; simp at this) (by simp) (fun x y hx => by simp at hx) (fun m u _ _ x hx => by simp at hx) fun u hu => ?_
  rw [trainOf_of I hu] at hn
  cases hn
/-- the number of a signal -/
def sgIx (sg : List Sig) (x : Sig) : Option Int := if x ∈ sg then some (sg.idxOf x : Nat) else none
theorem sgIx_some {sg : List Sig} {x : Sig} {s : Int} (h : sgIx sg x = some s) : ∃ k : Nat, s = (k : Int) ∧ sg[k]? = some x := by
  unfold sgIx at h
  split at h
  · rename_i hm
    cases h
    have hl := List.idxOf_lt_length_of_mem hm
    exact ⟨_, rfl, by rw [List.getElem?_eq_getElem hl, List.getElem_idxOf]⟩
  · cases h
def hdOf (t : Trn) : Stp := t.steps.head?.getD ⟨0, 0, 0⟩
def goAhead (d : Wd) (n : Int) (t : Trn) (st : Stp) (rest : List Stp) : Wd := { d with lks := d.lks.set st.p.toNat none, trs := kPut d.trs n ⟨st :: t.steps, rest, false⟩ }
def goOut (d : Wd) (n : Int) (t : Trn) : Wd := { d with trs := kPut d.trs n ⟨t.steps, [], true⟩ }
def goPass (d : Wd) (n r : Int) (t : Trn) : Wd := { takeD d r with trs := kPut d.trs n ⟨(wayOf d r).take 1 ++ t.steps, (wayOf d r).drop 1, false⟩ }
def goRoute (d : Wd) (n : Int) (t : Trn) (a : Nat) : Option Int := match sgIx d.sg ((hdOf t).o, (a : Int)) with
  | none => none
  | some s => openN d s (some n)
def goE (d : Wd) (n : Int) : Except Er Wd := match trainOf d n with
  | none => .error .none
  | some t => if t.out = true then .error .red else match t.ahead with
    | st :: rest => .ok (goAhead d n t st rest)
    | [] => match beyondN d.ps (hdOf t).p (hdOf t).o with
      | none => .ok (goOut d n t)
      | some a => match goRoute d n t a with
        | none => .error .red
        | some r => .ok (goPass d n r t)
theorem hdOf_mem {t : Trn} (h : t.steps ≠ []) : hdOf t ∈ t.steps ∧ t.steps.head? = some (hdOf t) := by
  unfold hdOf
  cases e : t.steps with
  | nil => exact absurd e h
  | cons a b => exact ⟨by simp, rfl⟩
theorem Inv.goAhead {d : Wd} (I : Inv d) {n : Int} {t : Trn} (hm : (n, t) ∈ d.trs) {st : Stp} {rest : List Stp} (ha : t.ahead = st :: rest) : Inv (goAhead d n t st rest) := by
  have T := I.tok n t hm
  have hst : st ∈ t.ahead := by rw [ha]; simp
  have so := T.so st (path_ahead hst)
  have nn := so.nn
  obtain ⟨r, h1, h2, h3, pre, h4, h5⟩ := T.ru (by rw [ha]; simp)
  have lkv : ∀ i, 0 ≤ i → i ≠ st.p → lockN (SB.goAhead d n t st rest) i = lockN d i := fun i hi hn => lk_set (d := d) nn.1 hi hn
  have lk0 : lockN (SB.goAhead d n t st rest) st.p = none := lk_self (d := d) (by rw [I.ll]; omega)
  have P : Put d (SB.goAhead d n t st rest) n (some ⟨st :: t.steps, rest, false⟩) := put_kPut I rfl
  have epath : (⟨st :: t.steps, rest, false⟩ : Trn).path = t.path := by unfold Trn.path; rw [ha]; simp
  have ndp : ∀ x ∈ t.steps ++ rest, x.p ≠ st.p := fun x hx z => by
    have := T.nd
    unfold Trn.path at this
    rw [ha, List.map_append, List.map_cons, List.nodup_append, List.nodup_cons] at this
    obtain ⟨_, ⟨q1, _⟩, q2⟩ := this
    rcases List.mem_append.mp hx with h | h
    · exact q2 x.p (List.mem_map.mpr ⟨x, List.mem_reverse.mpr h, rfl⟩) st.p (by simp) z
    · exact q1 (List.mem_map.mpr ⟨x, h, z⟩)
  refine I.put P List.length_set I.gnd I.fnd I.fnm (fun _ h => h) I.gf (fun r2 h6 x hx => ?_) (fun m u hn hm2 x hx => ?_) (fun u hu => ?_) (fun u hu m v hn hm2 x hx y hy => ?_) fun i r2 hi h => ?_
  · exact lkv x.p ((I.st.wayD (I.act r2 h6).1).so x hx).nn.1 (act_path I h6 hm hx (path_ahead hst))
  · exact lkv x.p ((I.tok m u hm2).so x hx).nn.1 (I.dis m u n t hm2 hm hn x hx st (path_ahead hst))
  · cases hu
    refine ⟨by simp, by rw [epath]; exact T.so, by rw [epath]; exact T.lk, by rw [epath]; exact T.li, (fun z => by cases z), by rw [epath]; exact T.nd, fun x hx => ?_, fun _ => ⟨r, h1, h2, fun x hx => ?_, pre ++ [st], by simp, ?_⟩⟩
    · rcases List.mem_cons.mp hx with h | h
      · rw [h]; exact lk0
      · rw [lkv x.p (T.so x (path_steps h)).nn.1 (ndp x (List.mem_append.mpr (.inl h)))]
        exact T.un x h
    · have hx : x ∈ rest := hx
      have hx2 : x ∈ t.ahead := by rw [ha]; exact List.mem_cons_of_mem _ hx
      rw [lkv x.p (T.so x (path_ahead hx2)).nn.1 (ndp x (List.mem_append.mpr (.inr hx)))]
      exact h3 x hx2
    · show wayOf d r = _
      rw [h5, ha]
      simp
  · cases hu
    rw [epath] at hx
    exact I.dis n t m v hm hm2 (fun z => hn z.symm) x hx y hy
  · by_cases z : i = st.p
    · rw [z, lk0] at h
      cases h
    · rw [lkv i hi z] at h
      rcases I.own i r2 hi h with h6 | ⟨m, u, q1, x, q2, q3⟩
      · exact .inl h6
      · by_cases q : m = n
        · subst q
          have := mem_only I q1 hm
          subst this
          rw [ha] at q2
          rcases List.mem_cons.mp q2 with q4 | q4
          · rw [q4] at q3; exact absurd q3.symm z
          · exact .inr (.inl ⟨_, rfl, x, q4, q3⟩)
        · exact .inr (.inr ⟨m, u, q, q1, x, q2, q3⟩)
theorem Inv.goOut {d : Wd} (I : Inv d) {n : Int} {t : Trn} (hm : (n, t) ∈ d.trs) (ha : t.ahead = []) (hb : beyondN d.ps (hdOf t).p (hdOf t).o = none) : Inv (goOut d n t) := by
  have T := I.tok n t hm
  have P : Put d (SB.goOut d n t) n (some ⟨t.steps, [], true⟩) := put_kPut I rfl
  have epath : (⟨t.steps, [], true⟩ : Trn).path = t.path := by unfold Trn.path; rw [ha]
  refine I.put P rfl I.gnd I.fnd I.fnm (fun _ h => h) I.gf (fun _ _ _ _ => rfl) (fun _ _ _ _ _ _ => rfl) (fun u hu => ?_) (fun u hu m v hn hm2 x hx y hy => ?_) fun i r2 hi h => ?_
  · cases hu
    refine ⟨T.ne, by rw [epath]; exact T.so, by rw [epath]; exact T.lk, by rw [epath]; exact T.li, fun _ => ⟨rfl, fun x hx => ?_⟩, by rw [epath]; exact T.nd, T.un, fun z => absurd rfl z⟩
    have h1 := (hdOf_mem T.ne).2
    have hx : t.steps.head? = some x := hx
    rw [h1] at hx
    cases hx
    exact hb
  · cases hu
    rw [epath] at hx
    exact I.dis n t m v hm hm2 (fun z => hn z.symm) x hx y hy
  · rcases I.own i r2 hi h with h6 | ⟨m, u, q1, x, q2, q3⟩
    · exact .inl h6
    · by_cases q : m = n
      · subst q
        have := mem_only I q1 hm
        subst this
        rw [ha] at q2
        simp at q2
      · exact .inr (.inr ⟨m, u, q, q1, x, q2, q3⟩)
theorem goRoute_some {d : Wd} {n : Int} {t : Trn} {a : Nat} {r : Int} (h : goRoute d n t a = some r) : ∃ k : Nat, d.sg[k]? = some ((hdOf t).o, (a : Int)) ∧ openN d (k : Int) (some n) = some r ∧ sgIx d.sg ((hdOf t).o, (a : Int)) = some (k : Int) := by
  unfold goRoute at h
  cases e : sgIx d.sg ((hdOf t).o, (a : Int)) with
  | none => rw [e] at h; cases h
  | some s =>
    rw [e] at h
    obtain ⟨k, e1, e2⟩ := sgIx_some e
    subst e1
    exact ⟨k, e2, h, rfl⟩
theorem Inv.goPass {d : Wd} (I : Inv d) {n : Int} {t : Trn} (hm : (n, t) ∈ d.trs) (ha : t.ahead = []) {a : Nat} (hb : beyondN d.ps (hdOf t).p (hdOf t).o = some a) {r : Int} (hr : goRoute d n t a = some r) : Inv (goPass d n r t) := by
  have T := I.tok n t hm
  obtain ⟨k, h1, h2, _⟩ := goRoute_some hr
  obtain ⟨h3, h4⟩ := open_act h2
  have W := I.st.wayD (I.act r h3).1
  have epath : t.path = t.steps.reverse := by unfold Trn.path; rw [ha]; simp
  refine I.pass (fr := t.steps) h3 rfl rfl rfl rfl (fun x hx => ?_) (fun x y ad => T.lk x y (by rw [epath]; exact ad)) (by have := T.nd; rw [epath] at this; exact this) (fun x y hx hy => ?_) (fun m u hn hm2 x hx y hy => I.dis n t m u hm hm2 (fun z => hn z.symm) x (path_steps hx) y hy) fun u hu => ?_
  · have hx := List.mem_reverse.mp hx
    exact ⟨T.so x (path_steps hx), T.li x (path_steps hx), T.un x hx⟩
  · rw [(hdOf_mem T.ne).2] at hx
    cases hx
    obtain ⟨j, a', g1, _, _, g2⟩ := W.hd
    rw [h4, Int.toNat_natCast, h1] at g1
    cases g1
    obtain ⟨g3, g4⟩ := g2 y hy
    exact ⟨a, hb, g3, g4⟩
  · rw [mem_only I hu hm]
    exact ha
def drawOk (d : Wd) (n : Int) (t : Trn) : Wd := if t.steps.length = 1 then { d with trs := kDrop d.trs n } else { d with trs := kPut d.trs n ⟨t.steps.dropLast, t.ahead, t.out⟩ }
def drawE (d : Wd) (n : Int) : Except Er Wd := match trainOf d n with
  | none => .error .none
  | some t => if (decide (t.steps.length = 1) && !t.out) = true then .error .held else .ok (drawOk d n t)
theorem put_drop {d : Wd} (I : Inv d) (n : Int) : Put d { d with trs := kDrop d.trs n } n none := by
  refine ⟨rfl, rfl, rfl, rfl, kDrop_nd I.nnd, fun m u hm => ?_, fun m u hn hm => mem_kDrop.mpr ⟨hm, hn⟩, fun u hu => by cases hu⟩
  obtain ⟨h1, h2⟩ := mem_kDrop.mp hm
  exact .inr ⟨h2, h1⟩
theorem Inv.draw {d : Wd} (I : Inv d) {n : Int} {t : Trn} (hm : (n, t) ∈ d.trs) (hh : t.steps.length = 1 → t.out = true) : Inv (drawOk d n t) := by
  have T := I.tok n t hm
  unfold drawOk
  split
  · rename_i h1
    have ha := (T.ou (hh h1)).1
    refine I.put (put_drop I n) rfl I.gnd I.fnd I.fnm (fun _ h => h) I.gf (fun _ _ _ _ => rfl) (fun _ _ _ _ _ _ => rfl) (fun u hu => by cases hu) (fun u hu => by cases hu) fun i r2 hi h => ?_
    rcases I.own i r2 hi h with h6 | ⟨m, u, q1, x, q2, q3⟩
    · exact .inl h6
    · by_cases q : m = n
      · subst q
        have := mem_only I q1 hm
        subst this
        rw [ha] at q2
        simp at q2
      · exact .inr (.inr ⟨m, u, q, q1, x, q2, q3⟩)
  · rename_i h1
    have hsub : ∀ x ∈ t.steps.dropLast, x ∈ t.steps := fun x hx => List.dropLast_subset _ hx
    obtain ⟨x0, x1, xs, es⟩ : ∃ x0 x1 xs, t.steps = x0 :: x1 :: xs := by
      cases e : t.steps with
      | nil => exact absurd e T.ne
      | cons a b =>
        cases b with
        | nil => rw [e] at h1; exact absurd rfl h1
        | cons c b => exact ⟨a, c, b, rfl⟩
    have epath : (⟨t.steps.dropLast, t.ahead, t.out⟩ : Trn).path = t.path.tail := by
      unfold Trn.path
      have : t.steps.dropLast.reverse = t.steps.reverse.tail := by rw [List.tail_reverse]
      show t.steps.dropLast.reverse ++ t.ahead = _
      rw [this, List.tail_append_of_ne_nil (by simpa using T.ne)]
    have sub : ∀ x ∈ (⟨t.steps.dropLast, t.ahead, t.out⟩ : Trn).path, x ∈ t.path := fun x hx => by rw [epath] at hx; exact List.mem_of_mem_tail hx
    refine I.put (put_kPut (t := ⟨t.steps.dropLast, t.ahead, t.out⟩) I rfl) rfl I.gnd I.fnd I.fnm (fun _ h => h) I.gf (fun _ _ _ _ => rfl) (fun _ _ _ _ _ _ => rfl) (fun u hu => ?_) (fun u hu m v hn hm2 x hx y hy => ?_) fun i r2 hi h => ?_
    · cases hu
      refine ⟨by rw [es]; simp, fun x hx => T.so x (sub x hx), fun x y ad => T.lk x y (by rw [epath] at ad; exact ad.tail), fun x hx => T.li x (sub x hx), fun z => ?_, ?_, fun x hx => T.un x (hsub x hx), T.ru⟩
      · obtain ⟨q1, q2⟩ := T.ou z
        refine ⟨q1, fun x hx => q2 x ?_⟩
        rw [es] at hx ⊢
        exact hx
      · rw [epath, List.map_tail]
        exact T.nd.sublist (List.tail_sublist _)
    · cases hu
      exact I.dis n t m v hm hm2 (fun z => hn z.symm) x (sub x hx) y hy
    · rcases I.own i r2 hi h with h6 | ⟨m, u, q1, x, q2, q3⟩
      · exact .inl h6
      · by_cases q : m = n
        · subst q
          have := mem_only I q1 hm
          subst this
          exact .inr (.inl ⟨_, rfl, x, q2, q3⟩)
        · exact .inr (.inr ⟨m, u, q, q1, x, q2, q3⟩)
def freeW (l : List (Option Int)) (w : List Stp) : List (Option Int) := w.foldl (fun l st => l.set st.p.toNat none) l
def turnOk (d : Wd) (n : Int) (t : Trn) : Wd := { d with lks := freeW d.lks t.ahead, trs := kPut d.trs n ⟨t.steps.reverse.map Stp.flip, [], false⟩, fal := d.fal.map fun f => (f.1, f.2.1, f.2.2.filter fun m => !decide (m = n)) }
def turnE (d : Wd) (n : Int) : Except Er Wd := match trainOf d n with
  | none => .error .none
  | some t => if t.out = true then .error .red else .ok (turnOk d n t)
theorem freeW_len : ∀ (w : List Stp) (l : List (Option Int)), (freeW l w).length = l.length
  | [], _ => rfl
  | x :: w, l => (freeW_len w (l.set x.p.toNat none)).trans List.length_set
theorem freeW_off {k : Nat} : ∀ (w : List Stp) (l : List (Option Int)), (∀ x ∈ w, x.p.toNat ≠ k) → (freeW l w)[k]? = l[k]?
  | [], _, _ => rfl
  | x :: w, l, h => by
    refine (freeW_off w (l.set x.p.toNat none) fun y hy => h y (List.mem_cons_of_mem _ hy)).trans ?_
    rw [List.getElem?_set_ne (h x (by simp))]
theorem freeW_on {k : Nat} : ∀ (w : List Stp) (l : List (Option Int)), (∃ x ∈ w, x.p.toNat = k) ∨ (l[k]?).getD none = none → ((freeW l w)[k]?).getD none = none
  | [], _, h => by
    rcases h with ⟨x, hx, _⟩ | h
    · simp at hx
    · exact h
  | x :: w, l, h => by
    refine freeW_on w (l.set x.p.toNat none) ?_
    by_cases e : x.p.toNat = k
    · refine .inr ?_
      subst e
      rw [List.getElem?_set]
      split
      · split <;> rfl
      · exact absurd rfl (by assumption)
    · rcases h with ⟨y, hy, e2⟩ | h
      · rcases List.mem_cons.mp hy with q | q
        · rw [q] at e2; exact absurd e2 e
        · exact .inl ⟨y, q, e2⟩
      · exact .inr (by rw [List.getElem?_set_ne e]; exact h)
theorem LieOk.flip {d : Wd} {x : Stp} (h : LieOk d x) : LieOk d x.flip := by
  unfold LieOk at h ⊢
  show lieN d x.p = lieFor (pcAt d.ps x.p) [x.o, x.i]
  rw [h]
  cases pcAt d.ps x.p with
  | plain => rfl
  | points t s b =>
    unfold lieFor
    simp only
    have : (s ∈ [x.i, x.o]) ↔ (s ∈ [x.o, x.i]) := by simp; exact or_comm
    by_cases q : s ∈ [x.i, x.o]
    · rw [if_pos q, if_pos (this.mp q)]
    · rw [if_neg q, if_neg (fun z => q (this.mpr z))]
theorem Inv.turn {d : Wd} (I : Inv d) {n : Int} {t : Trn} (hm : (n, t) ∈ d.trs) : Inv (turnOk d n t) := by
  have T := I.tok n t hm
  have S := I.st
  have P : Put d (turnOk d n t) n (some ⟨t.steps.reverse.map Stp.flip, [], false⟩) := put_kPut I rfl
  have lkv : ∀ i, 0 ≤ i → (∀ x ∈ t.ahead, x.p ≠ i) → lockN (turnOk d n t) i = lockN d i := fun i hi hn => congrArg (fun o => o.getD none) (freeW_off t.ahead d.lks fun x hx e => hn x hx (by have := (T.so x (path_ahead hx)).nn; omega))
  have lk0 : ∀ x ∈ t.ahead, lockN (turnOk d n t) x.p = none := fun x hx => freeW_on t.ahead d.lks (.inl ⟨x, hx, rfl⟩)
  have epath : (⟨t.steps.reverse.map Stp.flip, [], false⟩ : Trn).path = t.steps.map Stp.flip := by
    unfold Trn.path
    show (t.steps.reverse.map Stp.flip).reverse ++ [] = _
    rw [List.append_nil, ← List.map_reverse, List.reverse_reverse]
  have ek : (turnOk d n t).fal.map (·.1) = d.fal.map (·.1) := by
    show (d.fal.map _).map _ = _
    rw [List.map_map]
    rfl
  have aw : ∀ r2, Act (turnOk d n t) r2 → Act d r2 := fun r2 h => by
    rcases h with h | h
    · exact .inl h
    · rw [ek] at h; exact .inr h
  have offs : ∀ x ∈ t.steps, ∀ y ∈ t.ahead, y.p ≠ x.p := fun x hx y hy z => by
    have := T.nd
    unfold Trn.path at this
    rw [List.map_append, List.nodup_append] at this
    exact this.2.2 x.p (List.mem_map.mpr ⟨x, List.mem_reverse.mpr hx, rfl⟩) y.p (List.mem_map.mpr ⟨y, hy, rfl⟩) z.symm
  refine I.put P (freeW_len _ _) I.gnd (by rw [ek]; exact I.fnd) (fun f hf => ?_) aw (fun r hr => by rw [ek]; exact I.gf r hr) (fun r2 h6 x hx => ?_) (fun m u hn hm2 x hx => ?_) (fun u hu => ?_) (fun u hu m v hn hm2 x hx y hy => ?_) fun i r2 hi h => ?_
  · obtain ⟨g, hg, e⟩ := List.mem_map.mp hf
    subst e
    exact Nat.le_trans (List.length_filter_le _ _) (I.fnm g hg)
  · exact lkv x.p ((S.wayD (I.act r2 (aw r2 h6)).1).so x hx).nn.1 fun y hy z => act_path I (aw r2 h6) hm hx (path_ahead hy) z.symm
  · exact lkv x.p ((I.tok m u hm2).so x hx).nn.1 fun y hy z => I.dis n t m u hm hm2 (fun z => hn z.symm) y (path_ahead hy) x hx z
  · cases hu
    refine ⟨by simpa using T.ne, fun x hx => ?_, fun x y ad => ?_, fun x hx => ?_, (fun z => by cases z), ?_, fun x hx => ?_, fun z => absurd rfl z⟩
    · rw [epath] at hx
      obtain ⟨a, h1, h2⟩ := List.mem_map.mp hx
      subst h2
      exact (T.so a (path_steps h1)).flip S
    · rw [epath] at ad
      obtain ⟨a, b, h1, h2, h3⟩ := ad.map
      subst h2 h3
      have h4 : Adj t.steps.reverse b a := by
        have h5 : Adj (t.steps.reverse).reverse a b := by rw [List.reverse_reverse]; exact h1
        exact h5.reverse
      have h6 : Adj t.path b a := by
        obtain ⟨l1, l2, e⟩ := h4
        exact ⟨l1, l2 ++ t.ahead, by unfold Trn.path; rw [e]; simp⟩
      exact (T.lk b a h6).flip S (T.so b h6.mem.1)
    · rw [epath] at hx
      obtain ⟨a, h1, h2⟩ := List.mem_map.mp hx
      subst h2
      exact LieOk.of (d := d) (e := turnOk d n t) rfl rfl (T.li a (path_steps h1)).flip
    · rw [epath, List.map_map]
      have h1 := T.nd
      unfold Trn.path at h1
      rw [List.map_append, List.nodup_append] at h1
      have h2 := h1.1
      rw [List.map_reverse, (List.reverse_perm _).nodup_iff] at h2
      exact h2
    · have hx : x ∈ t.steps.reverse.map Stp.flip := hx
      obtain ⟨a, h1, h2⟩ := List.mem_map.mp hx
      subst h2
      have h1 := List.mem_reverse.mp h1
      show lockN (turnOk d n t) a.p = none
      rw [lkv a.p (T.so a (path_steps h1)).nn.1 (offs a h1)]
      exact T.un a h1
  · cases hu
    rw [epath] at hx
    obtain ⟨a, h1, h2⟩ := List.mem_map.mp hx
    subst h2
    exact I.dis n t m v hm hm2 (fun z => hn z.symm) a (path_steps h1) y hy
  · by_cases q : ∃ x ∈ t.ahead, x.p = i
    · obtain ⟨x, hx, e⟩ := q
      rw [← e, lk0 x hx] at h
      cases h
    · rw [lkv i hi fun x hx e => q ⟨x, hx, e⟩] at h
      rcases I.own i r2 hi h with ⟨h1, h2⟩ | ⟨m, u, q1, x, q2, q3⟩
      · refine .inl ⟨?_, h2⟩
        rcases h1 with h1 | h1
        · exact .inl h1
        · exact .inr (by rw [ek]; exact h1)
      · by_cases q5 : m = n
        · subst q5
          have := mem_only I q1 hm
          subst this
          exact absurd ⟨x, q2, q3⟩ q
        · exact .inr (.inr ⟨m, u, q5, q1, x, q2, q3⟩)
end
end SB
namespace SB
open PySem PySem.Spec PyProof.Rows L2
open Enc (enc)
local macro_rules | `(tactic| walk_at "le") => `(tactic| first | exact le_nil | (refine le_keep ?_; walk_at "le") | (refine le_drop ?_; walk_at "le"))
local macro_rules | `(tactic| walk_at "sd") => `(tactic| first | assumption | (show (_ : Int) < _ ∧ _ < (1073741824 : Int); exact ⟨by omega, by omega⟩) | (show (-(2 ^ 64) < (_ : Int) ∧ _ < (2 ^ 64 : Int)) ∨ _; first | exact .inl ⟨by omega, by omega⟩ | exact .inr ⟨by omega, by omega⟩) | rfl | decide | (simp; done) | omega | skip)
local macro_rules | `(tactic| walk_at "gc") => `(tactic| fail)
local macro_rules | `(tactic| walk_at "gv") => `(tactic| first
  | exact gv_int | exact gv_str | exact gv_bl | exact gv_non | exact gv_var rfl
  | ((with_reducible refine' gv_op ?_ ?_ ?_) <;> walk_at "gv")
  | ((with_reducible refine' ga_cons ?_ ?_) <;> walk_at "gv") | exact ga_nil
  | ((with_reducible refine' gv_cb ?_ ?_) <;> walk_at "gv")
  | ((with_reducible refine' gt_test ?_) <;> walk_at "gv") | ((with_reducible refine' gt_B ?_) <;> walk_at "gv") | ((with_reducible refine' gt_not ?_) <;> walk_at "gv")
  | ((with_reducible refine' gt_and ?k1 ?k2); (case' k1 => walk_at "gv"); (case' k2 => intro hb; walk_at "gv"))
  | ((with_reducible refine' gt_or ?k1 ?k2); (case' k1 => walk_at "gv"); (case' k2 => intro hb; walk_at "gv"))
  | ((with_reducible refine' gv_andV ?k1 ?k2); (case' k1 => walk_at "gv"); (case' k2 => intro hb; walk_at "gv"))
  | ((with_reducible refine' gv_orV ?k1 ?k2); (case' k1 => walk_at "gv"); (case' k2 => intro hb; walk_at "gv"))
  | ((with_reducible refine' gv_notV ?_) <;> walk_at "gv")
  | ((with_reducible refine' gv_slL ?_ ?_ ?_) <;> walk_at "gv") | ((with_reducible refine' gv_slT ?_ ?_ ?_ ?_) <;> walk_at "gv")
  | exact go_none | ((with_reducible refine' go_some ?_) <;> walk_at "gv")
  | exact gd_nil | ((with_reducible refine' gd_cons ?_ ?_) <;> walk_at "gv") | ((with_reducible refine' gv_lst ?_ ?_) <;> walk_at "gv") | ((with_reducible refine' gv_tup ?_ ?_) <;> walk_at "gv")
  | ((with_reducible refine' gv_chain ?_ ?_ ?_ ?_ ?_) <;> walk_at "gv") | ((with_reducible refine' gt_truL ?_) <;> walk_at "gv") | ((with_reducible refine' gv_countI ?_ ?_) <;> walk_at "gv")
  | ((with_reducible refine' gv_lenSetI ?_ ?_) <;> walk_at "gv") | ((with_reducible refine' gv_lenSetU ?_ ?_) <;> walk_at "gv") | ((with_reducible refine' gv_lenSetT ?_ ?_) <;> walk_at "gv")
  | exact gt_yes
  | walk_at "gc"
  | exact ro_I0 | exact ro_B0 | (refine ro_I ?_; walk_at "sd")
  | exact ro_eqI | exact ro_neI | exact ro_eqS | exact ro_neS
  | (refine ro_eq ?_; walk_at "sd") | (refine ro_ne ?_; walk_at "sd")
  | exact ro_isN | exact ro_notN
  | exact ro_inI | exact ro_notInI | exact ro_inTI
  | (refine' ro_ixL ?k1; (case' k1 => walk_at "sd")) | (refine' ro_ixT ?k1; (case' k1 => walk_at "sd"))
  | (refine ro_cat ?_; walk_at "sd")
  | exact rc_lenM | exact rc_len | exact rc_lenT | exact rc_list | exact rc_listT | exact rc_tuple | exact rc_any | exact rc_all | exact rc_max2 | exact rc_min2 | exact rc_intB
  | (show (_ : Nat) ≤ _; first | decide | (simp; done) | omega)
  | (show (_ : Nat) < _; first | decide | (simp; done) | omega)
  | (show ¬ (_ ∧ _); exact fun h => absurd (show (1 : Nat) = 0 from h.1) (by decide))
  | skip)
local macro_rules | `(tactic| walk_at "ge") => `(tactic| (refine' gt_is ?k1 ?k2; (case' k1 => walk_at "gv"); (case' k2 => first | rfl | (simp; done) | skip)))
local macro_rules | `(tactic| walk_at "gw") => `(tactic| (refine' gv_is ?k1 ?k2; (case' k1 => walk_at "gv"); (case' k2 => first | rfl | (simp; done) | skip)))
local macro_rules | `(tactic| walk_at "gj") => `(tactic| first | exact gi_nil | (refine' gi_cons ?g1 ?g2; (case' g1 => walk_at "gv"); (case' g2 => walk_at "gj")))
local macro_rules | `(tactic| walk_at "gi") => `(tactic| (refine' gv_lst ?k1 ?k2; (case' k1 => walk_at "gj"); (case' k2 => (simp; try omega))))
/-! ### a new yard, and all deeds -/
section
theorem Inv.new {ps : List Pc} {sg : List Sig} (h : goodYard ps sg = true) (wait : Int) : Inv (wNew ps sg wait) := by
  have na : ∀ r, ¬ Act (wNew ps sg wait) r := fun r h => by rcases h with h | h <;> simp [wNew] at h
  have lk : ∀ i, lockN (wNew ps sg wait) i = none := fun i => by
    unfold lockN wNew
    show ((List.replicate ps.length (none : Option Int))[i.toNat]?).getD none = none
    rw [List.getElem?_replicate]
    split <;> rfl
  refine ⟨sta_of h, List.length_replicate, List.length_map .., fun k pc hk => ?_, List.nodup_nil, List.nodup_nil, fun r h => by simp [wNew] at h, fun r h => absurd h (na r), fun f hf => by simp [wNew] at hf, List.nodup_nil, fun n t h => by simp [wNew] at h, fun n t m u h => by simp [wNew] at h, fun i r _ h => by rw [lk] at h; cases h⟩
  have hk : ps[k]? = some pc := hk
  unfold lieN
  show (((ps.map lieOf)[((k : Nat) : Int).toNat]?).getD .no = .no) ↔ _
  rw [Int.toNat_natCast, List.getElem?_map, hk]
  exact Iff.rfl
theorem setE_ok {d d' : Wd} {r : Int} (h : setE d r = .ok d') : there d.rts.length r = true ∧ (wayOf d r).any (fun st => heldN d st.p) = false ∧ d' = setOk d r := by
  unfold setE at h
  split at h
  · rename_i h1
    split at h
    · cases h
    · rename_i h2
      cases h
      exact ⟨h1, by simpa using h2, rfl⟩
  · cases h
theorem cancelE_ok {d d' : Wd} {r : Int} (h : cancelE d r = .ok d') : there d.rts.length r = true ∧ r ∈ d.grn ∧ d' = cancelOk d r := by
  unfold cancelE at h
  split at h
  · rename_i h1
    rw [Bool.and_eq_true, decide_eq_true_eq] at h1
    cases h
    exact ⟨h1.1, h1.2, rfl⟩
  · cases h
theorem throwE_ok {d d' : Wd} {i : Int} (h : throwE d i = .ok d') : there d.ps.length i = true ∧ lieN d i ≠ .no ∧ heldN d i = false ∧ d' = throwOk d i := by
  unfold throwE at h
  split at h
  · rename_i h1
    rw [Bool.and_eq_true] at h1
    split at h
    · cases h
    · rename_i h2
      cases h
      exact ⟨h1.1, by simpa using h1.2, by simpa using h2, rfl⟩
  · cases h
theorem enterE_ok {d d' : Wd} {n s : Int} (h : enterE d n s = .ok d') : there d.sg.length s = true ∧ bord d s = true ∧ trainOf d n = none ∧ ∃ r, openN d s none = some r ∧ d' = enterOk d n r := by
  unfold enterE at h
  split at h
  · rename_i h1
    split at h
    · rename_i h2
      split at h
      · cases h
      · rename_i h3
        cases e : openN d s none with
        | none => rw [e] at h; cases h
        | some r =>
          rw [e] at h
          cases h
          exact ⟨h1, h2, by simpa using h3, r, rfl, rfl⟩
    · cases h
  · cases h
theorem goE_ok {d d' : Wd} {n : Int} (h : goE d n = .ok d') : ∃ t, trainOf d n = some t ∧ t.out = false ∧ ((∃ st rest, t.ahead = st :: rest ∧ d' = goAhead d n t st rest) ∨ (t.ahead = [] ∧ beyondN d.ps (hdOf t).p (hdOf t).o = none ∧ d' = goOut d n t) ∨
    (t.ahead = [] ∧ ∃ a r, beyondN d.ps (hdOf t).p (hdOf t).o = some a ∧ goRoute d n t a = some r ∧ d' = goPass d n r t)) := by
  unfold goE at h
  cases e : trainOf d n with
  | none => rw [e] at h; cases h
  | some t =>
    rw [e] at h
    simp only at h
    split at h
    · cases h
    · rename_i h1
      refine ⟨t, rfl, by simpa using h1, ?_⟩
      cases e2 : t.ahead with
      | cons st rest =>
        rw [e2] at h
        cases h
        exact .inl ⟨st, rest, rfl, rfl⟩
      | nil =>
        rw [e2] at h
        simp only at h
        cases e3 : beyondN d.ps (hdOf t).p (hdOf t).o with
        | none =>
          rw [e3] at h
          cases h
          exact .inr (.inl ⟨rfl, rfl, rfl⟩)
        | some a =>
          rw [e3] at h
          simp only at h
          cases e4 : goRoute d n t a with
          | none => rw [e4] at h; cases h
          | some r =>
            rw [e4] at h
            cases h
            exact .inr (.inr ⟨rfl, a, r, rfl, e4, rfl⟩)
theorem drawE_ok {d d' : Wd} {n : Int} (h : drawE d n = .ok d') : ∃ t, trainOf d n = some t ∧ (t.steps.length = 1 → t.out = true) ∧ d' = drawOk d n t := by
  unfold drawE at h
  cases e : trainOf d n with
  | none => rw [e] at h; cases h
  | some t =>
    rw [e] at h
    simp only at h
    split at h
    · cases h
    · rename_i h1
      cases h
      exact ⟨t, rfl, fun z => by simpa [z] using h1, rfl⟩
theorem turnE_ok {d d' : Wd} {n : Int} (h : turnE d n = .ok d') : ∃ t, trainOf d n = some t ∧ t.out = false ∧ d' = turnOk d n t := by
  unfold turnE at h
  cases e : trainOf d n with
  | none => rw [e] at h; cases h
  | some t =>
    rw [e] at h
    simp only at h
    split at h
    · cases h
    · rename_i h1
      cases h
      exact ⟨t, rfl, by simpa using h1, rfl⟩
inductive Deed where
  | set (r : Int) | cancel (r : Int) | throw (i : Int) | tick | enter (n s : Int) | go (n : Int) | draw (n : Int) | turn (n : Int)
def stepE (d : Wd) : Deed → Except Er Wd
  | .set r => setE d r
  | .cancel r => cancelE d r
  | .throw i => throwE d i
  | .tick => .ok (tickD d)
  | .enter n s => enterE d n s
  | .go n => goE d n
  | .draw n => drawE d n
  | .turn n => turnE d n
def toD (d : Wd) : Except Er Wd → Wd
  | .ok e => e
  | .error _ => d
theorem Inv.stepE {d d' : Wd} (I : Inv d) {a : Deed} (h : stepE d a = .ok d') : Inv d' := by
  cases a with
  | set r => obtain ⟨h1, h2, e⟩ := setE_ok h; subst e; exact I.set h1 h2
  | cancel r => obtain ⟨h1, h2, e⟩ := cancelE_ok h; subst e; exact I.cancel h2
  | throw i => obtain ⟨h1, h2, h3, e⟩ := throwE_ok h; subst e; exact I.throw h1 h2 h3
  | tick => cases h; exact I.tick
  | enter n s => obtain ⟨h1, h2, h3, r, h4, e⟩ := enterE_ok h; subst e; exact I.enter h3 h4
  | go n =>
    obtain ⟨t, h1, h2, ⟨st, rest, h3, e⟩ | ⟨h3, h4, e⟩ | ⟨h3, a, r, h4, h5, e⟩⟩ := goE_ok h
    · subst e; exact I.goAhead (trainOf_mem h1) h3
    · subst e; exact I.goOut (trainOf_mem h1) h3 h4
    · subst e; exact I.goPass (trainOf_mem h1) h3 h4 h5
  | draw n => obtain ⟨t, h1, h2, e⟩ := drawE_ok h; subst e; exact I.draw (trainOf_mem h1) h2
  | turn n => obtain ⟨t, h1, h2, e⟩ := turnE_ok h; subst e; exact I.turn (trainOf_mem h1)
theorem Inv.toD {d : Wd} (I : Inv d) (a : Deed) : Inv (toD d (SB.stepE d a)) := by
  cases h : SB.stepE d a with
  | ok e => exact I.stepE h
  | error _ => exact I
/-- the same yard -/
def SamePl (d e : Wd) : Prop := e.ps = d.ps ∧ e.sg = d.sg ∧ e.wait = d.wait ∧ e.rts = d.rts
theorem tickOne_same (d : Wd) (r : Int) : SamePl d (tickOne d r) := by
  unfold tickOne
  split
  · split
    · exact ⟨rfl, rfl, rfl, rfl⟩
    · exact ⟨rfl, rfl, rfl, rfl⟩
  · exact ⟨rfl, rfl, rfl, rfl⟩
theorem SamePl.trans {a b c : Wd} (h : SamePl a b) (g : SamePl b c) : SamePl a c := ⟨g.1.trans h.1, g.2.1.trans h.2.1, g.2.2.1.trans h.2.2.1, g.2.2.2.trans h.2.2.2⟩
theorem tickD_same (d : Wd) : SamePl d (tickD d) := by
  unfold tickD
  have h : ∀ (l : List Int) (e : Wd), SamePl d e → SamePl d (l.foldl tickOne e) := by
    intro l
    induction l with
    | nil => exact fun e h => h
    | cons a l ih => exact fun e h => ih _ (h.trans (tickOne_same e a))
  exact h _ _ ⟨rfl, rfl, rfl, rfl⟩
theorem stepE_same {d d' : Wd} {a : Deed} (h : stepE d a = .ok d') : SamePl d d' := by
  cases a with
  | set r => obtain ⟨h1, h2, e⟩ := setE_ok h; subst e; exact ⟨rfl, rfl, rfl, rfl⟩
  | cancel r =>
    obtain ⟨h1, h2, e⟩ := cancelE_ok h
    subst e
    unfold cancelOk
    split <;> exact ⟨rfl, rfl, rfl, rfl⟩
  | throw i => obtain ⟨h1, h2, h3, e⟩ := throwE_ok h; subst e; exact ⟨rfl, rfl, rfl, rfl⟩
  | tick => cases h; exact tickD_same d
  | enter n s => obtain ⟨h1, h2, h3, r, h4, e⟩ := enterE_ok h; subst e; exact ⟨rfl, rfl, rfl, rfl⟩
  | go n =>
    obtain ⟨t, h1, h2, ⟨st, rest, h3, e⟩ | ⟨h3, h4, e⟩ | ⟨h3, a, r, h4, h5, e⟩⟩ := goE_ok h
    · subst e; exact ⟨rfl, rfl, rfl, rfl⟩
    · subst e; exact ⟨rfl, rfl, rfl, rfl⟩
    · subst e; exact ⟨rfl, rfl, rfl, rfl⟩
  | draw n =>
    obtain ⟨t, h1, h2, e⟩ := drawE_ok h
    subst e
    unfold drawOk
    split <;> exact ⟨rfl, rfl, rfl, rfl⟩
  | turn n => obtain ⟨t, h1, h2, e⟩ := turnE_ok h; subst e; exact ⟨rfl, rfl, rfl, rfl⟩
theorem toD_same (d : Wd) (a : Deed) : SamePl d (toD d (stepE d a)) := by
  cases h : stepE d a with
  | ok e => exact stepE_same h
  | error _ => exact ⟨rfl, rfl, rfl, rfl⟩
end
end SB
namespace SB
open PySem PySem.Spec PyProof.Rows L2
open Enc (enc)
local macro_rules | `(tactic| walk_at "le") => `(tactic| first | exact le_nil | (refine le_keep ?_; walk_at "le") | (refine le_drop ?_; walk_at "le"))
local macro_rules | `(tactic| walk_at "sd") => `(tactic| first | assumption | (show (_ : Int) < _ ∧ _ < (1073741824 : Int); exact ⟨by omega, by omega⟩) | (show (-(2 ^ 64) < (_ : Int) ∧ _ < (2 ^ 64 : Int)) ∨ _; first | exact .inl ⟨by omega, by omega⟩ | exact .inr ⟨by omega, by omega⟩) | rfl | decide | (simp; done) | omega | skip)
local macro_rules | `(tactic| walk_at "gc") => `(tactic| fail)
local macro_rules | `(tactic| walk_at "gv") => `(tactic| first
  | exact gv_int | exact gv_str | exact gv_bl | exact gv_non | exact gv_var rfl
  | ((with_reducible refine' gv_op ?_ ?_ ?_) <;> walk_at "gv")
  | ((with_reducible refine' ga_cons ?_ ?_) <;> walk_at "gv") | exact ga_nil
  | ((with_reducible refine' gv_cb ?_ ?_) <;> walk_at "gv")
  | ((with_reducible refine' gt_test ?_) <;> walk_at "gv") | ((with_reducible refine' gt_B ?_) <;> walk_at "gv") | ((with_reducible refine' gt_not ?_) <;> walk_at "gv")
  | ((with_reducible refine' gt_and ?k1 ?k2); (case' k1 => walk_at "gv"); (case' k2 => intro hb; walk_at "gv"))
  | ((with_reducible refine' gt_or ?k1 ?k2); (case' k1 => walk_at "gv"); (case' k2 => intro hb; walk_at "gv"))
  | ((with_reducible refine' gv_andV ?k1 ?k2); (case' k1 => walk_at "gv"); (case' k2 => intro hb; walk_at "gv"))
  | ((with_reducible refine' gv_orV ?k1 ?k2); (case' k1 => walk_at "gv"); (case' k2 => intro hb; walk_at "gv"))
  | ((with_reducible refine' gv_notV ?_) <;> walk_at "gv")
  | ((with_reducible refine' gv_slL ?_ ?_ ?_) <;> walk_at "gv") | ((with_reducible refine' gv_slT ?_ ?_ ?_ ?_) <;> walk_at "gv")
  | exact go_none | ((with_reducible refine' go_some ?_) <;> walk_at "gv")
  | exact gd_nil | ((with_reducible refine' gd_cons ?_ ?_) <;> walk_at "gv") | ((with_reducible refine' gv_lst ?_ ?_) <;> walk_at "gv") | ((with_reducible refine' gv_tup ?_ ?_) <;> walk_at "gv")
  | ((with_reducible refine' gv_chain ?_ ?_ ?_ ?_ ?_) <;> walk_at "gv") | ((with_reducible refine' gt_truL ?_) <;> walk_at "gv") | ((with_reducible refine' gv_countI ?_ ?_) <;> walk_at "gv")
  | ((with_reducible refine' gv_lenSetI ?_ ?_) <;> walk_at "gv") | ((with_reducible refine' gv_lenSetU ?_ ?_) <;> walk_at "gv") | ((with_reducible refine' gv_lenSetT ?_ ?_) <;> walk_at "gv")
  | exact gt_yes
  | walk_at "gc"
  | exact ro_I0 | exact ro_B0 | (refine ro_I ?_; walk_at "sd")
  | exact ro_eqI | exact ro_neI | exact ro_eqS | exact ro_neS
  | (refine ro_eq ?_; walk_at "sd") | (refine ro_ne ?_; walk_at "sd")
  | exact ro_isN | exact ro_notN
  | exact ro_inI | exact ro_notInI | exact ro_inTI
  | (refine' ro_ixL ?k1; (case' k1 => walk_at "sd")) | (refine' ro_ixT ?k1; (case' k1 => walk_at "sd"))
  | (refine ro_cat ?_; walk_at "sd")
  | exact rc_lenM | exact rc_len | exact rc_lenT | exact rc_list | exact rc_listT | exact rc_tuple | exact rc_any | exact rc_all | exact rc_max2 | exact rc_min2 | exact rc_intB
  | (show (_ : Nat) ≤ _; first | decide | (simp; done) | omega)
  | (show (_ : Nat) < _; first | decide | (simp; done) | omega)
  | (show ¬ (_ ∧ _); exact fun h => absurd (show (1 : Nat) = 0 from h.1) (by decide))
  | skip)
local macro_rules | `(tactic| walk_at "ge") => `(tactic| (refine' gt_is ?k1 ?k2; (case' k1 => walk_at "gv"); (case' k2 => first | rfl | (simp; done) | skip)))
local macro_rules | `(tactic| walk_at "gw") => `(tactic| (refine' gv_is ?k1 ?k2; (case' k1 => walk_at "gv"); (case' k2 => first | rfl | (simp; done) | skip)))
local macro_rules | `(tactic| walk_at "gj") => `(tactic| first | exact gi_nil | (refine' gi_cons ?g1 ?g2; (case' g1 => walk_at "gv"); (case' g2 => walk_at "gj")))
local macro_rules | `(tactic| walk_at "gi") => `(tactic| (refine' gv_lst ?k1 ?k2; (case' k1 => walk_at "gj"); (case' k2 => (simp; try omega))))
/-! ### dicts with numbers as keys -/
section
inductive Kd {β : Type} (e : Int × β → PyData) (B : Hp) : List (Key × V) → List (Int × β) → Prop
  | nil : Kd e B [] []
  | cons {v : V} {kvs : List (Key × V)} {r : Int × β} {rs : List (Int × β)} : Dq B v (e r) → Kd e B kvs rs → Kd e B ((.inl r.1, v) :: kvs) (r :: rs)
variable {β : Type} {e : Int × β → PyData}
theorem Kd.mono {B B' : Hp} (s : Same B B') : ∀ {kvs : List (Key × V)} {rs : List (Int × β)}, Kd e B kvs rs → Kd e B' kvs rs
  | _, _, .nil => .nil
  | _, _, .cons h t => .cons (h.mono s) (Kd.mono s t)
theorem Kd.keys {B : Hp} : ∀ {kvs : List (Key × V)} {rs : List (Int × β)}, Kd e B kvs rs → kvs.map (·.1) = (rs.map (·.1)).map (Sum.inl : Int → Key)
  | _, _, .nil => rfl
  | _, _, .cons h t => by rw [List.map_cons, List.map_cons, List.map_cons, Kd.keys t]
theorem Kd.length {B : Hp} : ∀ {kvs : List (Key × V)} {rs : List (Int × β)}, Kd e B kvs rs → kvs.length = rs.length
  | _, _, .nil => rfl
  | _, _, .cons _ t => congrArg (· + 1) (Kd.length t)
theorem inl_eq (a b : Int) : ((Sum.inl a : Key) = Sum.inl b) ↔ a = b := ⟨fun h => by cases h; rfl, fun h => by rw [h]⟩
theorem Kd.drop {B : Hp} (r : Int) : ∀ {kvs : List (Key × V)} {l : List (Int × β)}, Kd e B kvs l → Kd e B (dropK kvs (.inl r)) (kDrop l r)
  | _, _, .nil => .nil
  | _, _, .cons (v := v) (kvs := kvs) (r := p) (rs := l) h t => by
    have ih := Kd.drop r t
    unfold dropK kDrop at ih ⊢
    by_cases e : p.1 = r
    · rw [List.filter_cons_of_neg (by simp [e]), List.filter_cons_of_neg (by simp [e])]
      exact ih
    · rw [List.filter_cons_of_pos (by simp [e]), List.filter_cons_of_pos (by simp [e])]
      exact .cons h ih
theorem Kd.val {B : Hp} (r : Int) : ∀ {kvs : List (Key × V)} {l : List (Int × β)}, Kd e B kvs l → (kAt l r = none → valV kvs (.inl r) = none) ∧ ∀ v, kAt l r = some v → ∃ u, valV kvs (.inl r) = some u ∧ Dq B u (e (r, v))
  | _, _, .nil => ⟨fun _ => rfl, fun v h => by simp [kAt] at h⟩
  | _, _, .cons (v := u) (kvs := kvs) (r := p) (rs := l) h t => by
    have ih := Kd.val r t
    unfold kAt at ih ⊢
    by_cases q : p.1 = r
    · rw [valV_pos (by rw [q]), List.find?_cons_of_pos (by simp [q])]
      refine ⟨fun h => by simp at h, fun v hv => ?_⟩
      simp at hv
      subst hv
      subst q
      exact ⟨u, rfl, h⟩
    · rw [valV_neg (by simpa using q), List.find?_cons_of_neg (by simp [q])]
      exact ih
theorem Kd.any {B : Hp} (r : Int) : ∀ {kvs : List (Key × V)} {l : List (Int × β)}, Kd e B kvs l → (kvs.any fun kv => decide (kv.1 = .inl r)) = l.any fun p => decide (p.1 = r)
  | _, _, .nil => rfl
  | _, _, .cons h t => by
    rw [List.any_cons, List.any_cons, Kd.any r t]
    congr 1
    exact decide_eq_decide.mpr (inl_eq _ _)
theorem Kd.repl {B : Hp} (r : Int) {u : V} {v : β} (hu : Dq B u (e (r, v))) : ∀ {kvs : List (Key × V)} {l : List (Int × β)}, Kd e B kvs l → Kd e B (kvs.map fun kv => if kv.1 = .inl r then (kv.1, u) else kv) (l.map fun p => if p.1 = r then (p.1, v) else p)
  | _, _, .nil => .nil
  | _, _, .cons (r := p) h t => by
    rw [List.map_cons, List.map_cons]
    by_cases q : p.1 = r
    · rw [if_pos (by rw [q]), if_pos q]
      subst q
      exact .cons (r := (p.1, v)) hu (Kd.repl p.1 hu t)
    · rw [if_neg (by simpa using q), if_neg q]
      exact .cons h (Kd.repl r hu t)
theorem Kd.snoc {B : Hp} (r : Int) {u : V} {v : β} (hu : Dq B u (e (r, v))) : ∀ {kvs : List (Key × V)} {l : List (Int × β)}, Kd e B kvs l → Kd e B (kvs ++ [(.inl r, u)]) (l ++ [(r, v)])
  | _, _, .nil => .cons (r := (r, v)) hu .nil
  | _, _, .cons h t => .cons h (Kd.snoc r hu t)
theorem Kd.put {B : Hp} (r : Int) {u : V} {v : β} (hu : Dq B u (e (r, v))) {kvs : List (Key × V)} {l : List (Int × β)} (h : Kd e B kvs l) : Kd e B (putK kvs (.inl r) u) (kPut l r v) := by
  unfold putK kPut
  rw [h.any r]
  split
  · exact h.repl r hu
  · exact h.snoc r hu
theorem Kd.isSome {B : Hp} (r : Int) {kvs : List (Key × V)} {l : List (Int × β)} (h : Kd e B kvs l) : (valV kvs (.inl r)).isSome = (kAt l r).isSome := by
  obtain ⟨h1, h2⟩ := h.val r
  cases q : kAt l r with
  | none => rw [h1 q]; rfl
  | some v =>
    obtain ⟨u, h3, _⟩ := h2 v q
    rw [h3]
    rfl
theorem kAt_isSome {l : List (Int × β)} {n : Int} : (kAt l n).isSome = decide (n ∈ l.map (·.1)) := by
  cases q : kAt l n with
  | none => rw [Option.isSome_none, decide_eq_false (kAt_none q)]
  | some v => rw [Option.isSome_some, decide_eq_true (List.mem_map.mpr ⟨_, kAt_mem q, rfl⟩)]
theorem Fal.kd {B : Hp} : ∀ {kvs : List (Key × V)} {l : List (Int × Int × List Int)}, Fal B kvs l → Kd falD B kvs l
  | _, _, .nil => .nil
  | _, _, .cons h t => .cons h (Fal.kd t)
theorem Kd.fal {B : Hp} : ∀ {kvs : List (Key × V)} {l : List (Int × Int × List Int)}, Kd falD B kvs l → Fal B kvs l
  | _, _, .nil => .nil
  | _, _, .cons h t => .cons h (Kd.fal t)
/-! what is refused -/
def erA (C : Adr) : Er → Addr
  | .none => C.NotThere
  | .held => C.Held
  | .red => C.Red
def liftE (C : Adr) : Except Er Wd → Except Addr Wd
  | .ok d => .ok d
  | .error e => .error (erA C e)
theorem setF_E (C : Adr) (d : Wd) (r : Int) : setF C d r = liftE C (setE d r) := by
  unfold setF setE
  split
  · split
    · rfl
    · rfl
  · rfl
theorem throwF_E (C : Adr) (d : Wd) (r : Int) : throwF C d r = liftE C (throwE d r) := by
  unfold throwF throwE
  split
  · split
    · rfl
    · rfl
  · rfl
theorem liftE_ok {C : Adr} {x : Except Er Wd} {d : Wd} (h : liftE C x = .ok d) : x = .ok d := by
  cases x with
  | ok e => cases h; rfl
  | error e => cases h
theorem liftE_er {C : Adr} {x : Except Er Wd} {c : Addr} (h : liftE C x = .error c) : ∃ e, x = .error e ∧ c = erA C e := by
  cases x with
  | ok e => cases h
  | error e => cases h; exact ⟨e, rfl, rfl⟩
end
section
variable {C : Adr} {P : Program} {w : World} {K : PySem.W.Frag} {mg : Str → Option Value} {base : Heap} {fd : FuncData} {f : Addr} {CT : Addr} {Γ : List (Option AV)} {B H : Hp} {ta : TE} {tr : TA} {tz : TS} {D : Ends} {T : Type} {args : T → List AV} {arg : T → YArg} {pre : T → Prop} {fw : T → Except Addr Wd} {E : XK}
/-- a deed that is done -/
theorem qx_metW {m : Str} {gs : List AV} {d' : Wd} {fs : List (Str × V)} {dx a CY : Addr} (t : T) (ha : Gv ta Γ B H (.v (.ref a))) (hy : H a = some (.ins CY dx fs)) (hm : fs.lookup m = none) (ht : Ga tr Γ B H gs) (he : args t = .v (.ref a) :: gs)
    (h : YP K C CT (arg t) B H) (ft : Fit (arg t).d) (hp : pre t) (hf : fw t = .ok d')
    (k : ∀ ta' B2 H2, ExtF (· ∈ own (arg t).y (arg t).A (arg t).ta) B H B2 H2 → YAt C CT B2 H2 (arg t).y (arg t).A ta' d' → (∀ x ∈ own (arg t).y (arg t).A ta', x ∈ own (arg t).y (arg t).A (arg t).ta ∨ H x = none) → Sx tz D Γ B2 H2) :
    Sx (tSeq (tDrop (tMeth CY m (spW K C CT args arg pre fw) [] E ta tr)) tz) D Γ B H := fun e σ f =>
  ha B H σ (Ext.refl e) f _ fun u B2 H2 e2 hu => by
    have hu : u = .ref a := hu
    subst hu
    refine ⟨a, dx, fs, rfl, e2.hh _ _ hy, hm, ht B2 H2 σ e2 (f.mono e2.bb) _ fun us B3 H3 e3 hus => ?_⟩
    have x := e2.trans e3
    refine ⟨t, B3, x.bh, by rw [List.append_nil, he]; exact .cons rfl hus, h.ext x, ft, hp, fun d2 hd2 ta' B4 H4 x4 h4 n4 => ?_, fun c hc => by rw [hf] at hc; cases hc⟩
    rw [hf] at hd2
    cases hd2
    exact k ta' B4 H4 (x.f.trans x4) h4 (fun y hy => (n4 y hy).imp id fun q => x.hh.free q) x4.bh σ (f.mono (x.bb.trans x4.bb))
theorem qx_callW (t : T) (ht : Ga tr Γ B H (args t)) (h : YP K C CT (arg t) B H) (ft : Fit (arg t).d) (hp : pre t)
    (k : ∀ d', fw t = .ok d' → ∀ ta' B2 H2, ExtF (· ∈ own (arg t).y (arg t).A (arg t).ta) B H B2 H2 → YAt C CT B2 H2 (arg t).y (arg t).A ta' d' → (∀ x ∈ own (arg t).y (arg t).A ta', x ∈ own (arg t).y (arg t).A (arg t).ta ∨ H x = none) → Sx tz D Γ B2 H2)
    (ke : ∀ c, fw t = .error c → ∀ B2 H2, Ext B H B2 H2 → E (.ref c) none H2) :
    Sx (tSeq (tDrop (tCall (spW K C CT args arg pre fw) [] E tr)) tz) D Γ B H := fun e σ f =>
  ht B H σ (Ext.refl e) f _ fun us B2 H2 x hu =>
    ⟨t, B2, x.bh, by rw [List.append_nil]; exact hu, h.ext x, ft, hp, fun d2 hd2 ta' B4 H4 x4 h4 n4 => k d2 hd2 ta' B4 H4 (x.f.trans x4) h4 (fun y hy => (n4 y hy).imp id fun q => x.hh.free q) x4.bh σ (f.mono (x.bb.trans x4.bb)), fun c hc B4 H4 x4 => ke c hc B4 H4 (x.trans x4)⟩
end
section
variable {K : PySem.W.Frag} {B H : Hp} {p : Addr} {ns : List Int} {n : Int}
theorem ro_notInO (m : Ml B H p (ns.map enc)) : Ro (rIn K true) B H (AI n) (.v (.ref p)) (AB (!decide (n ∈ ns))) := fun B1 H1 u w e hu hw Q q => by
  have hw : w = .ref p := hw
  subst hw
  obtain ⟨hb, us, hp, t⟩ := m.ext e
  refine ⟨_, _, rfl, .inl (SqL.of hp), flatD_ok hu rfl, flatAll_ok t (flat_ints ns), ?_⟩
  rw [if_pos rfl, inV_ok hu rfl t (flat_ints ns), show ((ns.map enc).any fun z => PyData.eqv z (.int n)) = decide (n ∈ ns) from any_ints n ns]
  exact q _ B1 H1 (Ext.refl e.bh) (.bl _)
theorem ro_inO (m : Ml B H p (ns.map enc)) : Ro (rIn K false) B H (AI n) (.v (.ref p)) (AB (decide (n ∈ ns))) := fun B1 H1 u w e hu hw Q q => by
  have hw : w = .ref p := hw
  subst hw
  obtain ⟨hb, us, hp, t⟩ := m.ext e
  refine ⟨_, _, rfl, .inl (SqL.of hp), flatD_ok hu rfl, flatAll_ok t (flat_ints ns), ?_⟩
  rw [if_neg Bool.false_ne_true, inV_ok hu rfl t (flat_ints ns), show ((ns.map enc).any fun z => PyData.eqv z (.int n)) = decide (n ∈ ns) from any_ints n ns]
  exact q _ B1 H1 (Ext.refl e.bh) (.bl _)
end
end SB
namespace SB
open PySem PySem.Spec PyProof.Rows L2
open Enc (enc)
local macro_rules | `(tactic| walk_at "le") => `(tactic| first | exact le_nil | (refine le_keep ?_; walk_at "le") | (refine le_drop ?_; walk_at "le"))
local macro_rules | `(tactic| walk_at "sd") => `(tactic| first | assumption | (show (_ : Int) < _ ∧ _ < (1073741824 : Int); exact ⟨by omega, by omega⟩) | (show (-(2 ^ 64) < (_ : Int) ∧ _ < (2 ^ 64 : Int)) ∨ _; first | exact .inl ⟨by omega, by omega⟩ | exact .inr ⟨by omega, by omega⟩) | rfl | decide | (simp; done) | omega | skip)
local macro_rules | `(tactic| walk_at "gc") => `(tactic| fail)
local macro_rules | `(tactic| walk_at "gv") => `(tactic| first
  | exact gv_int | exact gv_str | exact gv_bl | exact gv_non | exact gv_var rfl
  | ((with_reducible refine' gv_op ?_ ?_ ?_) <;> walk_at "gv")
  | ((with_reducible refine' ga_cons ?_ ?_) <;> walk_at "gv") | exact ga_nil
  | ((with_reducible refine' gv_cb ?_ ?_) <;> walk_at "gv")
  | ((with_reducible refine' gt_test ?_) <;> walk_at "gv") | ((with_reducible refine' gt_B ?_) <;> walk_at "gv") | ((with_reducible refine' gt_not ?_) <;> walk_at "gv")
  | ((with_reducible refine' gt_and ?k1 ?k2); (case' k1 => walk_at "gv"); (case' k2 => intro hb; walk_at "gv"))
  | ((with_reducible refine' gt_or ?k1 ?k2); (case' k1 => walk_at "gv"); (case' k2 => intro hb; walk_at "gv"))
  | ((with_reducible refine' gv_andV ?k1 ?k2); (case' k1 => walk_at "gv"); (case' k2 => intro hb; walk_at "gv"))
  | ((with_reducible refine' gv_orV ?k1 ?k2); (case' k1 => walk_at "gv"); (case' k2 => intro hb; walk_at "gv"))
  | ((with_reducible refine' gv_notV ?_) <;> walk_at "gv")
  | ((with_reducible refine' gv_slL ?_ ?_ ?_) <;> walk_at "gv") | ((with_reducible refine' gv_slT ?_ ?_ ?_ ?_) <;> walk_at "gv")
  | exact go_none | ((with_reducible refine' go_some ?_) <;> walk_at "gv")
  | exact gd_nil | ((with_reducible refine' gd_cons ?_ ?_) <;> walk_at "gv") | ((with_reducible refine' gv_lst ?_ ?_) <;> walk_at "gv") | ((with_reducible refine' gv_tup ?_ ?_) <;> walk_at "gv")
  | ((with_reducible refine' gv_chain ?_ ?_ ?_ ?_ ?_) <;> walk_at "gv") | ((with_reducible refine' gt_truL ?_) <;> walk_at "gv") | ((with_reducible refine' gv_countI ?_ ?_) <;> walk_at "gv")
  | ((with_reducible refine' gv_lenSetI ?_ ?_) <;> walk_at "gv") | ((with_reducible refine' gv_lenSetU ?_ ?_) <;> walk_at "gv") | ((with_reducible refine' gv_lenSetT ?_ ?_) <;> walk_at "gv")
  | exact gt_yes
  | walk_at "gc"
  | exact ro_I0 | exact ro_B0 | (refine ro_I ?_; walk_at "sd")
  | exact ro_eqI | exact ro_neI | exact ro_eqS | exact ro_neS
  | (refine ro_eq ?_; walk_at "sd") | (refine ro_ne ?_; walk_at "sd")
  | exact ro_isN | exact ro_notN
  | exact ro_inI | exact ro_notInI | exact ro_inTI
  | (refine' ro_ixL ?k1; (case' k1 => walk_at "sd")) | (refine' ro_ixT ?k1; (case' k1 => walk_at "sd"))
  | (refine ro_cat ?_; walk_at "sd")
  | exact rc_lenM | exact rc_len | exact rc_lenT | exact rc_list | exact rc_listT | exact rc_tuple | exact rc_any | exact rc_all | exact rc_max2 | exact rc_min2 | exact rc_intB
  | (show (_ : Nat) ≤ _; first | decide | (simp; done) | omega)
  | (show (_ : Nat) < _; first | decide | (simp; done) | omega)
  | (show ¬ (_ ∧ _); exact fun h => absurd (show (1 : Nat) = 0 from h.1) (by decide))
  | skip)
local macro_rules | `(tactic| walk_at "ge") => `(tactic| (refine' gt_is ?k1 ?k2; (case' k1 => walk_at "gv"); (case' k2 => first | rfl | (simp; done) | skip)))
local macro_rules | `(tactic| walk_at "gw") => `(tactic| (refine' gv_is ?k1 ?k2; (case' k1 => walk_at "gv"); (case' k2 => first | rfl | (simp; done) | skip)))
local macro_rules | `(tactic| walk_at "gj") => `(tactic| first | exact gi_nil | (refine' gi_cons ?g1 ?g2; (case' g1 => walk_at "gv"); (case' g2 => walk_at "gj")))
local macro_rules | `(tactic| walk_at "gi") => `(tactic| (refine' gv_lst ?k1 ?k2; (case' k1 => walk_at "gj"); (case' k2 => (simp; try omega))))
local macro_rules | `(tactic| walk_at "gc") => `(tactic| first | ((with_reducible refine' gv_joints ?_) <;> walk_at "gv") | ((with_reducible refine' gv_beyond ?_ ?_ ?_ ?_) <;> walk_at "gv") | ((with_reducible refine' gv_outs ?_ ?_) <;> walk_at "gv") | ((with_reducible refine' gv_ends ?_ ?_ ?_ ?_ ?_) <;> walk_at "gv"))
/-! ### a route is taken back; a tick -/
section
variable {C : Adr} {P : Program} {w : World} {K : PySem.W.Frag} {mg : Str → Option Value} {base : Heap} {fd : FuncData} {f : Addr} {CT : Addr}
abbrev s_cancel : Stmt := top 26
abbrev N_cancel : List Str := ["yard", "route", "signal", "names", "joint", "at"]
theorem sc_cancel : FnScope N_cancel ["yard", "route"] (defScope s_cancel) := ⟨rfl, rfl, rfl, by decide +kernel, rfl, by decide +kernel, by decide +kernel⟩
abbrev s_tick : Stmt := top 27
abbrev N_tick : List Str := ["yard", "route"]
theorem sc_tick : FnScope N_tick ["yard"] (defScope s_tick) := ⟨rfl, rfl, rfl, by decide +kernel, rfl, by decide +kernel, by decide +kernel⟩
/-- a deed, by the state alone -/
def spD (K : PySem.W.Frag) (C : Adr) (CT : Addr) {T : Type} (args : T → List AV) (arg : T → YArg) (g : T → Except Er Wd) : Sp := spW K C CT args arg (fun t => Inv (arg t).d) fun t => liftE C (g t)
def spCancel (K : PySem.W.Frag) (C : Adr) (CT : Addr) : Sp := spD K C CT (T := YArg × Int) (fun t => [.v (.ref t.1.y), AI t.2]) (·.1) fun t => cancelE t.1.d t.2
def spTick (K : PySem.W.Frag) (C : Adr) (CT : Addr) : Sp := spD K C CT (T := YArg) (fun t => [.v (.ref t.y)]) id fun t => .ok (tickD t.d)
theorem YAt.setNow {B H B2 H2 : Hp} {y : Addr} {A : YAd} {ta : List (Addr × Addr)} {d : Wd} (h : YAt C CT B H y A ta d) (x : ExtF (· = y) B H B2 H2) {n : Int} (hb : B2 y = none)
    (ho : H2 y = some (.ins C.Yard A.dx (putF "now" (.int n) (yKeys.zip [A.vps, A.vsg, .int d.wait, A.vrt, .int d.now, .ref A.pts, .ref A.lks, .ref A.grn, .ref A.fal, .ref A.trn])))) : YAt C CT B2 H2 y A ta { d with now := n } := by
  obtain ⟨n1, n2, n3, n4, n5, n6, n7, n8, n9, n10, n11, n12, n13, n14, n15, nt⟩ := own_ne h.nd
  obtain ⟨kvs, h1, h2⟩ := h.hfal
  rw [zip_put _ _ _ 4 _ (by decide +kernel) (by decide) rfl] at ho
  exact ⟨ho, hb, h.hps.mono x.bb, h.hsg.mono x.bb, h.hrt.mono x.bb, h.hpts.extF x (Ne.symm n1), h.hlks.extF x (Ne.symm n2), h.hgrn.extF x (Ne.symm n3), ⟨kvs, h1.extF x (Ne.symm n4), h2.mono x.bb⟩, h.htrn.extF x (Ne.symm n5), h.len,
    fun i m t a dx e1 e2 => (h.tr i m t a dx e1 e2).extF x (nt i a dx e2).1, h.nd⟩
section
variable {Γ : List (Option AV)} {B H : Hp} {y : Addr} {A : YAd} {ta : List (Addr × Addr)} {d : Wd} {te : TE}
theorem gz_signals (T : Txt K mg C) (h : YAt C CT B H y A ta d) (ha : Gv te Γ B H (.v (.ref y))) : Gv (tFld K te "signals") Γ B H (.d (.list (d.sg.map enc))) := gy_signals T (t := ⟨y, A, ta, d⟩) h ha
theorem gz_routes (T : Txt K mg C) (h : YAt C CT B H y A ta d) (ha : Gv te Γ B H (.v (.ref y))) : Gv (tFld K te "routes") Γ B H (.d (.list (d.rts.map enc))) := gy_routes T (t := ⟨y, A, ta, d⟩) h ha
theorem gz_wait (T : Txt K mg C) (h : YAt C CT B H y A ta d) (ha : Gv te Γ B H (.v (.ref y))) : Gv (tFld K te "wait") Γ B H (AI d.wait) := gy_wait T (t := ⟨y, A, ta, d⟩) h ha
theorem gz_now (T : Txt K mg C) (h : YAt C CT B H y A ta d) (ha : Gv te Γ B H (.v (.ref y))) : Gv (tFld K te "now") Γ B H (AI d.now) := gy_now T (t := ⟨y, A, ta, d⟩) h ha
theorem gz_falling (T : Txt K mg C) (h : YAt C CT B H y A ta d) (ha : Gv te Γ B H (.v (.ref y))) : Gv (tFld K te "falling") Γ B H (.v (.ref A.fal)) := gy_falling T (t := ⟨y, A, ta, d⟩) h ha
theorem gz_trains (T : Txt K mg C) (h : YAt C CT B H y A ta d) (ha : Gv te Γ B H (.v (.ref y))) : Gv (tFld K te "trains") Γ B H (.v (.ref A.trn)) := gy_trains T (t := ⟨y, A, ta, d⟩) h ha
end
theorem Inv.erase {d : Wd} (I : Inv d) (r : Int) : Fit { d with grn := d.grn.erase r } := by
  have f := I.fit
  have h1 : (d.grn.erase r).length ≤ d.grn.length := List.length_erase_le
  have h2 := f.ng
  exact ⟨f.np, f.ns, f.nr, f.ll, f.lp, by show (d.grn.erase r).length ≤ 1000; omega, fun x hx => f.hg x (List.mem_of_mem_erase hx), f.nf, f.hf, f.nt, f.hn, f.ht⟩
theorem Inv.sig {d : Wd} (I : Inv d) {r : Int} (h : there d.rts.length r = true) : there d.sg.length (sigOf d r) = true := by
  obtain ⟨j, a, h1, h2, h3, _⟩ := (I.st.wayD h).hd
  unfold there
  simp
  exact ⟨h2, h3⟩
theorem gv_near {Γ : List (Option AV)} {B H : Hp} {t : YArg} {ta tb : TE} {E : XK} {s : Int} (h : YP K C CT t B H) (ft : Fit t.d) (hs : there t.d.sg.length s = true) (ha : Gv ta Γ B H (.v (.ref t.y))) (hb : Gv tb Γ B H (AI s)) :
    Gv (tCall (spNear K C CT) [] E (tCons ta (tCons tb tNil))) Γ B H (.d (.list ((nearN t.d s).map enc))) := gv_call (t, s) (ga_cons ha (ga_cons hb ga_nil)) fun _ _ x => ⟨h.ext x, ft, hs⟩
theorem ok_cancel (T : Txt K mg C) (F : Fun K "cancel" "cancel" s_cancel f fd) (c_need_route : Cal P w K mg base (L2.CX P w) 1 "need_route" (spNeedR K C CT)) (c_near : Cal P w K mg base CX0 3 "near" (spNear K C CT)) (c_beyond : Cal P w K mg base CX0 2 "beyond" spBeyond) (c_Yard_free : Met P w K mg base CX0 1 C.Yard "free" (spFree K C CT)) :
    FnOk P w K mg base (L2.CX P w) 4 f fd ["yard", "route"] (spCancel K C CT) := by
  refine F.okX sc_cancel (fun vs H Q E h => ?_) (fun cdv A outer s H vs Q E hr h => ?_)
  · obtain ⟨t, B, _, i, _⟩ := h
    exact i.length
  obtain ⟨⟨t, r⟩, B, e, ia, h0, ft0, I0, q0, qe0⟩ := h
  have h : YP K C CT t B H := h0
  have ft : Fit t.d := ft0
  have I : Inv t.d := I0
  have q : ∀ d', liftE C (cancelE t.d r) = .ok d' → ∀ ta' B2 H2, ExtF (· ∈ own t.y t.A t.ta) B H B2 H2 → YAt C CT B2 H2 t.y t.A ta' d' → (∀ a ∈ own t.y t.A ta', a ∈ own t.y t.A t.ta ∨ H a = none) → Q .non H2 := q0
  have qe : ∀ c, liftE C (cancelE t.d r) = .error c → ∀ B2 H2, Ext B H B2 H2 → E (.ref c) none H2 := qe0
  clear h0 ft0 I0 q0 qe0
  refine ⟨_, pss_cons (ps_expr (pe_cal c_need_route hr (by first | decide | omega) rfl (passX (takes_of rfl rfl rfl rfl)) (pa_cons (pv 0) (pa_cons (pv 1) (pa_nil)))))
  (pss_cons (ps_if (pt_cmpR (op_notInK (K := K) rfl) (pv 1) (pe_fldK (K := K) rfl (pv 0) rfl) (by rfl)) (pss_cons (ps_raise rfl (takes_of rfl rfl rfl rfl) (pmk_own PySem.F.excBase_ValueError T.e_NotThere.x T.e_NotThere.g T.e_NotThere.k (raises_own T.e_NotThere.b T.e_NotThere.t) rfl))
  (pss_nil)) (pss_nil))
  (pss_cons (ps_expr (pe_bmK (K := K) rfl PySem.F.plainAttrs_list PySem.F.slot_list_remove PySem.F.type_list_remove mt_remove (pe_fldK (K := K) rfl (pv 0) rfl) (pa_cons (pv 1) (pa_nil))))
  (pss_cons (ps_set (i := 2) sc_cancel.nd rfl (by first | exact Or.inl rfl | exact Or.inr rfl) (pe_ix (ix_tupK (K := K) rfl) (pe_ix (ix_listK (K := K) rfl) (pe_fldK (K := K) rfl (pv 0) rfl) (pv 1) (fun _ _ => rfl)) (pe_int) (fun _ _ => rfl)))
  (pss_cons (ps_set (i := 3) sc_cancel.nd rfl (by first | exact Or.inl rfl | exact Or.inr rfl) (pe_cal c_near hr (by first | decide | omega) rfl passN (pa_cons (pv 0) (pa_cons (pv 2) (pa_nil)))))
  (pss_cons (ps_asg (pe_ix (ix_listK (K := K) rfl) (pe_fldK (K := K) rfl (pv 0) rfl) (pv 2) (fun _ _ => rfl)) (pg_tupK (K := K) rfl rfl (pgs_cons (pg_name (i := 4) sc_cancel.nd rfl (by first | exact Or.inl rfl | exact Or.inr rfl)) (pgs_cons (pg_name (i := 5) sc_cancel.nd rfl (by first | exact Or.inl rfl | exact Or.inr rfl)) (pgs_nil)))))
  (pss_cons (ps_if (PW.pt (pw_and (pt_cmpR op_gt (pe_fldK (K := K) rfl (pv 0) rfl) (pe_int) (nomark _)) (pw_and1 (PW.pt (pw_or (pt_truthK (K := K) rfl (pv 3) (by intro _; rfl)) (pw_or1 (pt_cmpR op_isN (pe_cal c_beyond hr (by first | decide | omega) rfl passN (pa_cons (pe_fldK (K := K) rfl (pv 0) rfl) (pa_cons (pv 5) (pa_cons (pv 4) (pa_nil))))) (pe_non) (nomark _)))))))) (pss_cons (ps_dput (hu_of hr) (pe_fldK (K := K) rfl (pv 0) rfl) (pv 1) (pe_tup (pa_cons (pe_op op_add (pe_fldK (K := K) rfl (pv 0) rfl) (pe_fldK (K := K) rfl (pv 0) rfl)) (pa_cons (pv 3) (pa_nil)))) rfl)
  (pss_nil)) (pss_cons (ps_expr (pe_met c_Yard_free T.cl_Yard hr (by first | decide | omega) passN (pv 0) (pa_cons (pv 1) (pa_nil))))
  (pss_nil)))
  (pss_nil))))))), ?_⟩
  refine Sx.run (Γ := Γ0 N_cancel [.v (.ref t.y), AI r]) (B := B) ?_ e (fr_start ia (by rw [ia.length]; show 2 ≤ 6; decide))
  refine qx_dropX (gx_needR h (gv_var rfl) (gv_var rfl)) (fun g B2 H2 hg x2 => ?_) fun c B2 H2 hc x2 => ?_
  rotate_left
  · refine qe c ?_ B2 H2 x2
    unfold cancelE
    cases hth : there t.d.rts.length r with
    | true => rw [hth, if_pos rfl] at hc; cases hc
    | false => rw [hth] at hc; cases hc; rfl
  cases hth : there t.d.rts.length r with
  | false => rw [hth] at hg; cases hg
  | true =>
    unfold cancelE at q qe
    rw [hth, Bool.true_and] at q qe
    have h2 := h.ext x2
    refine qx_when (b := !decide (r ∈ t.d.grn)) (gt_test (gv_op (gv_var rfl) (gy_green T h2.1 (gv_var rfl)) (ro_notInO h2.1.hgrn))) (fun hb B3 H3 x3 => ?_) fun hb B3 H3 x3 => ?_
    · exact qx_raise fun _ => qe _ (by rw [if_neg (by simpa using hb)]; rfl) B3 H3 (x2.trans x3)
    have hin : r ∈ t.d.grn := by simpa using hb
    rw [if_pos (by simpa using hin)] at q
    have h3 := h2.ext x3
    refine qx_remove (xs := t.d.grn) h3.1.hgrn (gy_green T h3.1 (gv_var rfl)) (fun _ _ _ => gv_var rfl) hin fun B4 H4 x4 m4 => ?_
    have h4 := h3.1.setGrn x4 m4
    have h4P : YP K C CT ⟨t.y, t.A, t.ta, { t.d with grn := t.d.grn.erase r }⟩ B4 H4 := ⟨h4, h.2⟩
    have ft4 := I.erase r
    have x04 := (x2.trans x3).f.trans (x4.mono (G := (· ∈ own t.y t.A t.ta)) fun z hz => by rw [hz]; simp [own])
    obtain ⟨k, ⟨sn, way⟩, rfl, ho, hat⟩ := there_at (xs := t.d.rts) (i := r) hth
    have es : sigOf t.d (k : Int) = sn := by unfold sigOf; rw [Int.toNat_natCast, ho]; rfl
    have hsg : there t.d.sg.length sn = true := es ▸ I.sig hth
    obtain ⟨m, ⟨j, a⟩, rfl, hso, hsat⟩ := there_at (xs := t.d.sg) (i := sn) hsg
    have esa : sigAt t.d (m : Int) = (j, a) := by unfold sigAt; rw [Int.toNat_natCast, hso]; rfl
    unfold cancelOk at q
    rw [es] at q
    unfold bord at q
    rw [esa] at q
    refine qx_asg (g := AI (m : Int)) (gv_op (gv_op (gz_routes T h4 (gv_var rfl)) (gv_var rfl) (ro_ixL hat)) gv_int (ro_ixT (ds := [.int (m : Int), enc way]) rfl)) fun B5 H5 x5 => ?_
    have h5 := h4P.ext x5
    refine qx_asg (g := .d (.list ((nearN t.d (m : Int)).map enc))) (gv_is (gv_near (t := ⟨t.y, t.A, t.ta, { t.d with grn := t.d.grn.erase (k : Int) }⟩) h5 ft4 hsg (gv_var rfl) (gv_var rfl)) rfl) fun B6 H6 x6 => ?_
    have h6 := h5.ext x6
    refine qx_asg2 (d1 := .int j) (d2 := .int a) (gv_op (gz_signals T h6.1 (gv_var rfl)) (gv_var rfl) (ro_ixL hsat)) fun B7 H7 x7 => ?_
    have h7 := h6.ext x7
    have x07 := x04.trans ((x5.trans x6).trans x7).f
    have enr : (!((nearN t.d (m : Int)).map (enc (α := Int))).isEmpty) = !(nearN t.d (m : Int)).isEmpty := by rw [List.isEmpty_map]
    have np : t.d.ps.length ≤ 100 := by have := ft.np; omega
    refine qx_if (b := decide (0 < t.d.wait) && (!(nearN t.d (m : Int)).isEmpty || (beyondN t.d.ps a j).isNone)) (gt_and (gt_test (gv_op (gz_wait T h7.1 (gv_var rfl)) gv_int ro_B0)) fun _ => gt_or (gt_is (gt_truL (gv_var rfl)) enr) fun _ => gt_is (gt_test (gv_op (gv_beyond (gz_pieces T h7.1 (gv_var rfl)) (gv_var rfl) (gv_var rfl) np) gv_non ro_isN)) (by cases beyondN t.d.ps a j <;> rfl)) (fun hb2 B8 H8 x8 => ?_) fun hb2 B8 H8 x8 => ?_
    · rw [if_pos hb2] at q
      have h8 := h7.ext x8
      obtain ⟨kvs, hm, hF⟩ := h8.1.hfal
      have hl : kvs.length < 16000000 := by rw [hF.length]; have := ft.nf; show t.d.fal.length < _; omega
      refine qx_dput (κ := AI (k : Int)) (k := .inl (k : Int)) (g := .d (.tuple [.int (t.d.now + t.d.wait), .list ((nearN t.d (m : Int)).map enc)])) hm (gv_tup (ga_cons (gv_op (gz_now T h8.1 (gv_var rfl)) (gz_wait T h8.1 (gv_var rfl)) ro_I0) (ga_cons (gv_var rfl) ga_nil)) (by show 2 ≤ 16000000; decide)) (fun _ _ x => gz_falling T (h8.1.ext x) (gv_var rfl)) (fun _ _ _ => gv_var rfl) kq_int hl fun u B9 H9 x9 hu m9 => ?_
      have hK := (Kd.put (e := falD) (k : Int) (v := (t.d.now + t.d.wait, nearN t.d (m : Int))) hu (hF.kd.mono x9.bb)).fal
      refine sx_next fun e2 σ fr => q _ rfl t.ta B9 H9 ((x07.trans x8.f).trans (x9.mono fun z hz => by rw [hz]; simp [own])) (h8.1.setFal x9 m9 hK) fun x hx => .inl hx
    · rw [if_neg (by rw [hb2]; simp)] at q
      have h8 := h7.ext x8
      refine qx_metW (d' := { t.d with grn := t.d.grn.erase (k : Int), lks := freeL t.d.lks (k : Int) }) ((⟨t.y, t.A, t.ta, { t.d with grn := t.d.grn.erase (k : Int) }⟩ : YArg), (k : Int)) (gv_var rfl) h8.1.ob (ym (by decide +kernel)) (ga_cons (gv_var rfl) ga_nil) rfl h8 ft4 trivial rfl fun ta' B9 H9 x9 h9 n9 => ?_
      refine sx_next fun e2 σ fr => q _ rfl ta' B9 H9 ((x07.trans x8.f).trans x9) h9 fun x hx => (n9 x hx).imp id fun z => (x07.trans x8.f).free z
theorem kAt_drop {β : Type} {l : List (Int × β)} {r r2 : Int} (n : r2 ≠ r) : kAt (kDrop l r) r2 = kAt l r2 := by
  unfold kAt kDrop
  congr 1
  induction l with
  | nil => rfl
  | cons p l ih =>
    by_cases e : p.1 = r
    · rw [List.filter_cons_of_neg (by simp [e]), ih, List.find?_cons_of_neg (by simp [e]; exact fun z => n z.symm)]
    · rw [List.filter_cons_of_pos (by simp [e])]
      by_cases e2 : p.1 = r2
      · rw [List.find?_cons_of_pos (by simp [e2]), List.find?_cons_of_pos (by simp [e2])]
      · rw [List.find?_cons_of_neg (by simp [e2]), List.find?_cons_of_neg (by simp [e2]), ih]
theorem tickOne_at {d : Wd} {r r2 : Int} (n : r2 ≠ r) : kAt (tickOne d r).fal r2 = kAt d.fal r2 := by
  unfold tickOne
  split
  · split
    · exact kAt_drop n
    · rfl
  · rfl
theorem tickOne_now {d : Wd} {r : Int} : (tickOne d r).now = d.now := by
  unfold tickOne
  split
  · split <;> rfl
  · rfl
theorem tickOne_trs {d : Wd} {r : Int} : (tickOne d r).trs = d.trs := by
  unfold tickOne
  split
  · split <;> rfl
  · rfl
theorem tick_at : ∀ (l : List Int) (d : Wd) (r : Int), r ∉ l → kAt (l.foldl tickOne d).fal r = kAt d.fal r ∧ (l.foldl tickOne d).now = d.now ∧ (l.foldl tickOne d).trs = d.trs
  | [], _, _, _ => ⟨rfl, rfl, rfl⟩
  | a :: l, d, r, h => by
    have h1 := tick_at l (tickOne d a) r fun z => h (List.mem_cons_of_mem _ z)
    exact ⟨h1.1.trans (tickOne_at fun z => h (by simp [z])), h1.2.1.trans tickOne_now, h1.2.2.trans tickOne_trs⟩
theorem Inv.tickF {d : Wd} (I : Inv d) : ∀ l : List Int, Inv (l.foldl SB.tickOne d) := by
  intro l
  induction l generalizing d with
  | nil => exact I
  | cons a l ih => exact ih (I.tickOne a)
theorem ok_tick (T : Txt K mg C) (F : Fun K "tick" "tick" s_tick f fd) (c_Yard_free : Met P w K mg base CX0 1 C.Yard "free" (spFree K C CT)) : FnOk P w K mg base CX0 2 f fd ["yard"] (spTick K C CT) := by
  refine F.ok sc_tick (fun vs H Q E h => ?_) (fun cdv A outer s H vs Q E hr h => ?_)
  · obtain ⟨t, B, _, i, _⟩ := h
    exact i.length
  obtain ⟨t, B, e, ia, h, ft, I, q, _⟩ := h
  have h : YP K C CT t B H := h
  have ft : Fit t.d := ft
  have I : Inv t.d := I
  have q : ∀ d', liftE C (.ok (tickD t.d)) = .ok d' → ∀ ta' B2 H2, ExtF (· ∈ own t.y t.A t.ta) B H B2 H2 → YAt C CT B2 H2 t.y t.A ta' d' → (∀ a ∈ own t.y t.A ta', a ∈ own t.y t.A t.ta ∨ H a = none) → Q .non H2 := q
  refine ⟨_, pss_cons (ps_fldK (K := K) rfl (pv 0) (pe_op op_add (pe_fldK (K := K) rfl (pv 0) rfl) (pe_int)) rfl)
  (pss_cons (ps_for PassesOwn.never rfl (pi_listK (K := K) rfl (pe_callTy (call_list_dK rfl) (by rfl) T.n_list (by decide +kernel) (pa_cons (pe_fldK (K := K) rfl (pv 0) rfl) (pa_nil)))) (pg_name (i := 1) sc_tick.nd rfl (by first | exact Or.inl rfl | exact Or.inr rfl)) (pss_cons (ps_if (pt_cmpR op_le (pe_ix (ix_tupK (K := K) rfl) (pe_dget (hu_of hr) (pe_fldK (K := K) rfl (pv 0) rfl) (pv 1) (fun _ _ => rfl)) (pe_int) (fun _ _ => rfl)) (pe_fldK (K := K) rfl (pv 0) rfl) (nomark _)) (pss_cons (ps_expr (pe_dpop1 (pe_fldK (K := K) rfl (pv 0) rfl) (pv 1) ⟨rfl, rfl, rfl, rfl⟩))
  (pss_cons (ps_expr (pe_met c_Yard_free T.cl_Yard hr (by first | decide | omega) passN (pv 0) (pa_cons (pv 1) (pa_nil))))
  (pss_nil))) (pss_nil))
  (pss_nil)))
  (pss_nil)), ?_⟩
  refine Sx.run (Γ := Γ0 N_tick [.v (.ref t.y)]) (B := B) ?_ e (fr_start ia (by rw [ia.length]; show 1 ≤ 2; decide))
  refine qx_fld (g := AI (t.d.now + 1)) (gv_op (gy_now T h.1 (gv_var rfl)) gv_int ro_I0) (gv_var rfl) h.1.ob h.1.oy T.cl_Yard T.na_Yard_now (by rw [List.length_zip]; show min 10 10 < 1000; decide) fun u B2 H2 x2 hu ho2 hb2 => ?_
  cases hu
  have h2 := h.1.setNow x2 hb2 ho2
  let d1 : Wd := { t.d with now := t.d.now + 1 }
  have I1 : Inv d1 := I.now _
  have x02 := x2.mono (G := (· ∈ own t.y t.A t.ta)) fun z hz => by rw [hz]; simp [own]
  obtain ⟨kvs, hm, hF⟩ := h2.hfal
  refine qx_forDE (ι := List (Addr × Addr)) (xs := t.d.fal.map (·.1)) (gv_cb (ga_cons (gz_falling T h2 (gv_var rfl)) ga_nil) (rc_listDk hm hF.keys)) (fun _ => [some (.v (.ref t.y)), none])
    (fun k ta' B1 H1 => ExtF (· ∈ own t.y t.A t.ta) B H B1 H1 ∧ YAt C CT B1 H1 t.y t.A ta' (((t.d.fal.map (·.1)).take k).foldl tickOne d1) ∧ ∀ a ∈ own t.y t.A ta', a ∈ own t.y t.A t.ta ∨ H a = none) t.ta (by walk_at "le") (fun B1 H1 x => ⟨x02.trans x.f, h2.ext x, fun a ha => .inl ha⟩) ?_ ?_
  · intro Bs k r ta' B3 H3 hk s1 s2 ⟨x3, h3, n3⟩
    have hlt := (List.getElem?_eq_some_iff.mp hk).1
    have hnot : r ∉ (t.d.fal.map (·.1)).take k := fun z => by
      have h1 := I.fnd
      rw [← List.take_append_drop k (t.d.fal.map (·.1)), List.nodup_append] at h1
      refine h1.2.2 r z r ?_ rfl
      rw [List.drop_eq_getElem_cons hlt]
      have := (List.getElem?_eq_some_iff.mp hk).2
      rw [this]
      simp
    have htake : ((t.d.fal.map (·.1)).take (k + 1)).foldl tickOne d1 = tickOne (((t.d.fal.map (·.1)).take k).foldl tickOne d1) r := by
      rw [List.take_add_one, hk, List.foldl_append]
      rfl
    obtain ⟨ea, en, et⟩ := tick_at ((t.d.fal.map (·.1)).take k) d1 r hnot
    have I3 := I1.tickF ((t.d.fal.map (·.1)).take k)
    rw [htake]
    generalize ((t.d.fal.map (·.1)).take k).foldl tickOne d1 = d3 at h3 ea en et I3 ⊢
    obtain ⟨v, hv⟩ : ∃ v, kAt d1.fal r = some v := by
      cases z : kAt d1.fal r with
      | some v => exact ⟨v, rfl⟩
      | none => exact absurd (List.mem_of_getElem? hk) (kAt_none z)
    rw [hv] at ea
    have ft3 := I3.fit
    obtain ⟨kvs3, hm3, hF3⟩ := h3.hfal
    obtain ⟨u, hu, du⟩ := (hF3.kd.val r).2 v ea
    have e1 : tickOne d3 r = if v.1 ≤ d3.now then { d3 with fal := kDrop d3.fal r, lks := freeL d3.lks r } else d3 := by unfold tickOne; rw [ea]
    rw [e1]
    refine qx_when (b := decide (v.1 ≤ d3.now)) (gt_test (gv_op (gv_op (gv_dget (g := .d (falD (r, v))) (gz_falling T h3 (gv_var rfl)) (gv_var rfl) kq_int (.inl hm3.2) hu du) gv_int (ro_ixT (ds := [.int v.1, .list (v.2.map enc)]) rfl)) (gz_now T h3 (gv_var rfl)) ro_B0)) (fun hb B4 H4 x4 => ?_) fun hb B4 H4 x4 => ?_
    · have hb : v.1 ≤ d3.now := of_decide_eq_true hb
      rw [if_pos hb]
      have h4 := h3.ext x4
      obtain ⟨kvs4, hm4, hF4⟩ := h4.hfal
      obtain ⟨u4, hu4, du4⟩ := (hF4.kd.val r).2 v ea
      refine qx_dpop (κ := AI r) (k := .inl r) hm4 (gz_falling T h4 (gv_var rfl)) (fun _ _ _ => gv_var rfl) kq_int hu4 fun B5 H5 x5 m5 => ?_
      have h5 := h4.setFal x5 m5 ((hF4.kd.drop r).mono x5.bb).fal
      have h5P : YP K C CT ⟨t.y, t.A, ta', { d3 with fal := kDrop d3.fal r }⟩ B5 H5 := by
        refine ⟨h5, ?_⟩
        rcases h.2 with z | z
        · exact .inl (et.trans z)
        · exact .inr z
      have ft5 : Fit { d3 with fal := kDrop d3.fal r } := ⟨ft3.np, ft3.ns, ft3.nr, ft3.ll, ft3.lp, ft3.ng, ft3.hg, Nat.le_trans (List.length_filter_le _ _) ft3.nf, fun x hx => ft3.hf x (mem_kDrop.mp hx).1, ft3.nt, ft3.hn, ft3.ht⟩
      refine qx_metW (d' := { d3 with fal := kDrop d3.fal r, lks := freeL d3.lks r }) ((⟨t.y, t.A, ta', { d3 with fal := kDrop d3.fal r }⟩ : YArg), r) (gv_var rfl) h5.ob (ym (by decide +kernel)) (ga_cons (gv_var rfl) ga_nil) rfl h5P ft5 trivial rfl fun ta2 B6 H6 x6 h6 n6 => ?_
      have x5' := (x3.trans x4.f).trans (x5.mono (G := (· ∈ own t.y t.A t.ta)) fun z hz => by rw [hz]; simp [own])
      refine sx_go (sx_lx ta2 (s2.trans (x4.bb.trans (x5.bb.trans x6.bb))) (by walk_at "le") ⟨x5'.thenF x6 (fun a ha => n3 a ha), h6, fun a ha => ?_⟩)
      rcases n6 a ha with z | z
      · exact n3 a z
      · exact .inr (x5'.free z)
    · rw [if_neg (by simpa using hb)]
      exact sx_lx ta' (s2.trans x4.bb) (by walk_at "le") ⟨x3.trans x4.f, h3.ext x4, n3⟩
  · intro ta' B3 H3 s1 ⟨x3, h3, n3⟩
    rw [List.take_length] at h3
    exact sx_next fun e2 σ fr => q _ rfl ta' B3 H3 x3 h3 n3
end
end SB
namespace SB
open PySem PySem.Spec PyProof.Rows L2
open Enc (enc)
local macro_rules | `(tactic| walk_at "le") => `(tactic| first | exact le_nil | (refine le_keep ?_; walk_at "le") | (refine le_drop ?_; walk_at "le"))
local macro_rules | `(tactic| walk_at "sd") => `(tactic| first | assumption | (show (_ : Int) < _ ∧ _ < (1073741824 : Int); exact ⟨by omega, by omega⟩) | (show (-(2 ^ 64) < (_ : Int) ∧ _ < (2 ^ 64 : Int)) ∨ _; first | exact .inl ⟨by omega, by omega⟩ | exact .inr ⟨by omega, by omega⟩) | rfl | decide | (simp; done) | omega | skip)
local macro_rules | `(tactic| walk_at "gc") => `(tactic| fail)
local macro_rules | `(tactic| walk_at "gv") => `(tactic| first
  | exact gv_int | exact gv_str | exact gv_bl | exact gv_non | exact gv_var rfl
  | ((with_reducible refine' gv_op ?_ ?_ ?_) <;> walk_at "gv")
  | ((with_reducible refine' ga_cons ?_ ?_) <;> walk_at "gv") | exact ga_nil
  | ((with_reducible refine' gv_cb ?_ ?_) <;> walk_at "gv")
  | ((with_reducible refine' gt_test ?_) <;> walk_at "gv") | ((with_reducible refine' gt_B ?_) <;> walk_at "gv") | ((with_reducible refine' gt_not ?_) <;> walk_at "gv")
  | ((with_reducible refine' gt_and ?k1 ?k2); (case' k1 => walk_at "gv"); (case' k2 => intro hb; walk_at "gv"))
  | ((with_reducible refine' gt_or ?k1 ?k2); (case' k1 => walk_at "gv"); (case' k2 => intro hb; walk_at "gv"))
  | ((with_reducible refine' gv_andV ?k1 ?k2); (case' k1 => walk_at "gv"); (case' k2 => intro hb; walk_at "gv"))
  | ((with_reducible refine' gv_orV ?k1 ?k2); (case' k1 => walk_at "gv"); (case' k2 => intro hb; walk_at "gv"))
  | ((with_reducible refine' gv_notV ?_) <;> walk_at "gv")
  | ((with_reducible refine' gv_slL ?_ ?_ ?_) <;> walk_at "gv") | ((with_reducible refine' gv_slT ?_ ?_ ?_ ?_) <;> walk_at "gv")
  | exact go_none | ((with_reducible refine' go_some ?_) <;> walk_at "gv")
  | exact gd_nil | ((with_reducible refine' gd_cons ?_ ?_) <;> walk_at "gv") | ((with_reducible refine' gv_lst ?_ ?_) <;> walk_at "gv") | ((with_reducible refine' gv_tup ?_ ?_) <;> walk_at "gv")
  | ((with_reducible refine' gv_chain ?_ ?_ ?_ ?_ ?_) <;> walk_at "gv") | ((with_reducible refine' gt_truL ?_) <;> walk_at "gv") | ((with_reducible refine' gv_countI ?_ ?_) <;> walk_at "gv")
  | ((with_reducible refine' gv_lenSetI ?_ ?_) <;> walk_at "gv") | ((with_reducible refine' gv_lenSetU ?_ ?_) <;> walk_at "gv") | ((with_reducible refine' gv_lenSetT ?_ ?_) <;> walk_at "gv")
  | exact gt_yes
  | walk_at "gc"
  | exact ro_I0 | exact ro_B0 | (refine ro_I ?_; walk_at "sd")
  | exact ro_eqI | exact ro_neI | exact ro_eqS | exact ro_neS
  | (refine ro_eq ?_; walk_at "sd") | (refine ro_ne ?_; walk_at "sd")
  | exact ro_isN | exact ro_notN
  | exact ro_inI | exact ro_notInI | exact ro_inTI
  | (refine' ro_ixL ?k1; (case' k1 => walk_at "sd")) | (refine' ro_ixT ?k1; (case' k1 => walk_at "sd"))
  | (refine ro_cat ?_; walk_at "sd")
  | exact rc_lenM | exact rc_len | exact rc_lenT | exact rc_list | exact rc_listT | exact rc_tuple | exact rc_any | exact rc_all | exact rc_max2 | exact rc_min2 | exact rc_intB
  | (show (_ : Nat) ≤ _; first | decide | (simp; done) | omega)
  | (show (_ : Nat) < _; first | decide | (simp; done) | omega)
  | (show ¬ (_ ∧ _); exact fun h => absurd (show (1 : Nat) = 0 from h.1) (by decide))
  | skip)
local macro_rules | `(tactic| walk_at "ge") => `(tactic| (refine' gt_is ?k1 ?k2; (case' k1 => walk_at "gv"); (case' k2 => first | rfl | (simp; done) | skip)))
local macro_rules | `(tactic| walk_at "gw") => `(tactic| (refine' gv_is ?k1 ?k2; (case' k1 => walk_at "gv"); (case' k2 => first | rfl | (simp; done) | skip)))
local macro_rules | `(tactic| walk_at "gj") => `(tactic| first | exact gi_nil | (refine' gi_cons ?g1 ?g2; (case' g1 => walk_at "gv"); (case' g2 => walk_at "gj")))
local macro_rules | `(tactic| walk_at "gi") => `(tactic| (refine' gv_lst ?k1 ?k2; (case' k1 => walk_at "gj"); (case' k2 => (simp; try omega))))
/-! ### the law's world -/
section
variable {C : Adr} {P : Program} {w : World} {K : PySem.W.Frag} {mg : Str → Option Value} {base : Heap} {fd : FuncData} {f : Addr}
abbrev lNames : List Str := ["pieces", "signals", "wait", "points", "green", "now", "routes", "locks", "falls", "trains"]
abbrev lKs : List Key := lNames.map Sum.inr
structure LAd where
  vps : V
  vsg : V
  vrt : V
  vgr : V
  pts : Addr
  lks : Addr
  fal : Addr
  trn : Addr
abbrev lVals (A : LAd) (d : Wd) : List V := [A.vps, A.vsg, .int d.wait, .ref A.pts, A.vgr, .int d.now, A.vrt, .ref A.lks, .ref A.fal, .ref A.trn]
def lfD (d : Wd) (r : Int × Int × List Int) : PyData := .tuple [.int r.2.1, .list (r.2.2.map enc), .bool (bord d (sigOf d r.1))]
def trD (t : Trn) : PyData := .list [.list (t.steps.map enc), .list (t.ahead.map enc), .bool t.out]
def ltD (p : Int × Trn) : PyData := trD p.2
def ownL (l : Addr) (A : LAd) : List Addr := [l, A.pts, A.lks, A.fal, A.trn]
/-- the world at l, to be read: its dict and its trains may be locked -/
structure LRd (B H : Hp) (l : Addr) (A : LAd) (d : Wd) : Prop where
  ob : Rd H l (.dK (lKs.zip (lVals A d)))
  bo : B l = none
  hps : Dq B A.vps (.list (d.ps.map enc))
  hsg : Dq B A.vsg (.list (d.sg.map enc))
  hrt : Dq B A.vrt (.list (d.rts.map enc))
  hgr : Dq B A.vgr (.list (d.grn.map enc))
  hpts : Ml B H A.pts (d.pts.map enc)
  hlks : Ml B H A.lks (d.lks.map enc)
  hfal : ∃ kvs, Md B H A.fal kvs ∧ Kd (lfD d) B kvs d.fal
  htrn : ∃ kvs, B A.trn = none ∧ Rd H A.trn (.dK kvs) ∧ Kd ltD B kvs d.trs
  nd : (ownL l A).Nodup
/-- .. its trains alone -/
structure LTr (B H : Hp) (l : Addr) (A : LAd) (d : Wd) : Prop where
  ob : Rd H l (.dK (lKs.zip (lVals A d)))
  bo : B l = none
  htrn : ∃ kvs, B A.trn = none ∧ Rd H A.trn (.dK kvs) ∧ Kd ltD B kvs d.trs
theorem LRd.tr {B H : Hp} {l : Addr} {A : LAd} {d : Wd} (h : LRd B H l A d) : LTr B H l A d := ⟨h.ob, h.bo, h.htrn⟩
structure LAt (B H : Hp) (l : Addr) (A : LAd) (d : Wd) : Prop where
  ob : Md B H l (lKs.zip (lVals A d))
  hps : Dq B A.vps (.list (d.ps.map enc))
  hsg : Dq B A.vsg (.list (d.sg.map enc))
  hrt : Dq B A.vrt (.list (d.rts.map enc))
  hgr : Dq B A.vgr (.list (d.grn.map enc))
  hpts : Ml B H A.pts (d.pts.map enc)
  hlks : Ml B H A.lks (d.lks.map enc)
  hfal : ∃ kvs, Md B H A.fal kvs ∧ Kd (lfD d) B kvs d.fal
  htrn : ∃ kvs, Md B H A.trn kvs ∧ Kd ltD B kvs d.trs
  nd : (ownL l A).Nodup
theorem LAt.rd {B H : Hp} {l : Addr} {A : LAd} {d : Wd} (h : LAt B H l A d) : LRd B H l A d := by
  obtain ⟨kvs, h1, h2⟩ := h.htrn
  exact ⟨.inl h.ob.2, h.ob.1, h.hps, h.hsg, h.hrt, h.hgr, h.hpts, h.hlks, h.hfal, ⟨kvs, h1.1, .inl h1.2, h2⟩, h.nd⟩
theorem off_ext {B H B' H' : Hp} {a : Addr} {u : HO} (x : Ext B H B' H') (h : Rd H a u) (hb : B a = none) : B' a = none := x.off hb (by rcases h with h | ⟨_, h⟩ <;> rw [h] <;> simp)
theorem LTr.ext {B H B' H' : Hp} {l : Addr} {A : LAd} {d : Wd} (h : LTr B H l A d) (x : Ext B H B' H') : LTr B' H' l A d := by
  obtain ⟨kvt, t1, t2, t3⟩ := h.htrn
  exact ⟨rd_ext h.ob x, off_ext x h.ob h.bo, ⟨kvt, off_ext x t2 t1, rd_ext t2 x, t3.mono x.bb⟩⟩
theorem LRd.ext {B H B' H' : Hp} {l : Addr} {A : LAd} {d : Wd} (h : LRd B H l A d) (x : Ext B H B' H') : LRd B' H' l A d := by
  obtain ⟨kvs, h1, h2⟩ := h.hfal
  obtain ⟨kvt, t1, t2, t3⟩ := h.htrn
  exact ⟨rd_ext h.ob x, off_ext x h.ob h.bo, h.hps.mono x.bb, h.hsg.mono x.bb, h.hrt.mono x.bb, h.hgr.mono x.bb, h.hpts.ext x, h.hlks.ext x, ⟨kvs, h1.ext x, h2.mono x.bb⟩, ⟨kvt, off_ext x t2 t1, rd_ext t2 x, t3.mono x.bb⟩, h.nd⟩
theorem LAt.extF {F : Addr → Prop} {B H B' H' : Hp} {l : Addr} {A : LAd} {d : Wd} (h : LAt B H l A d) (x : ExtF F B H B' H') (n : ∀ a ∈ ownL l A, ¬ F a) : LAt B' H' l A d := by
  obtain ⟨kvs, h1, h2⟩ := h.hfal
  obtain ⟨kvt, t1, t2⟩ := h.htrn
  exact ⟨h.ob.extF x (n _ (by simp [ownL])), h.hps.mono x.bb, h.hsg.mono x.bb, h.hrt.mono x.bb, h.hgr.mono x.bb, h.hpts.extF x (n _ (by simp [ownL])), h.hlks.extF x (n _ (by simp [ownL])),
    ⟨kvs, h1.extF x (n _ (by simp [ownL])), h2.mono x.bb⟩, ⟨kvt, t1.extF x (n _ (by simp [ownL])), t2.mono x.bb⟩, h.nd⟩
theorem LAt.ext {B H B' H' : Hp} {l : Addr} {A : LAd} {d : Wd} (h : LAt B H l A d) (x : Ext B H B' H') : LAt B' H' l A d := h.extF (F := fun _ => False) x.f fun _ _ z => z
theorem ownL_ne {l : Addr} {A : LAd} (h : (ownL l A).Nodup) : l ≠ A.pts ∧ l ≠ A.lks ∧ l ≠ A.fal ∧ l ≠ A.trn ∧ A.pts ≠ A.lks ∧ A.pts ≠ A.fal ∧ A.pts ≠ A.trn ∧ A.lks ≠ A.fal ∧ A.lks ≠ A.trn ∧ A.fal ≠ A.trn := by
  unfold ownL at h
  simp only [List.nodup_cons, List.mem_cons, not_or, List.not_mem_nil] at h
  obtain ⟨⟨a1, a2, a3, a4, _⟩, ⟨b2, b3, b4, _⟩, ⟨c3, c4, _⟩, ⟨d4, _⟩, _⟩ := h
  exact ⟨a1, a2, a3, a4, b2, b3, b4, c3, c4, d4⟩
theorem lKs_nd : lKs.Nodup := by decide +kernel
theorem LAt.own_some {B H : Hp} {l : Addr} {A : LAd} {d : Wd} (h : LAt B H l A d) : ∀ a ∈ ownL l A, H a ≠ none := by
  intro a ha
  obtain ⟨kvs, h1, h2⟩ := h.hfal
  obtain ⟨kvt, t1, t2⟩ := h.htrn
  simp [ownL] at ha
  rcases ha with z | z | z | z | z <;> subst z
  · exact h.ob.ne
  · exact h.hpts.ne
  · exact h.hlks.ne
  · exact h1.ne
  · exact t1.ne
/-! stores -/
section
variable {B H B2 H2 : Hp} {l : Addr} {A : LAd} {d : Wd} {u : V}
theorem lput (h : LAt B H l A d) {k : Str} {i : Nat} {m : Md B2 H2 l (putK (lKs.zip (lVals A d)) (.inr k) u)} (e : lKs.idxOf (Sum.inr k : Key) = i) (hl : i < lKs.length) : Md B2 H2 l (lKs.zip ((lVals A d).set i u)) := by
  rw [zk_put lKs_nd e hl rfl] at m
  exact m
theorem LAt.setGrn (h : LAt B H l A d) (x : ExtF (· = l) B H B2 H2) {g : List Int} (m : Md B2 H2 l (putK (lKs.zip (lVals A d)) (.inr "green") u)) (hu : Dq B2 u (.list (g.map enc))) : LAt B2 H2 l { A with vgr := u } { d with grn := g } := by
  obtain ⟨n1, n2, n3, n4, n5, n6, n7, n8, n9, n10⟩ := ownL_ne h.nd
  obtain ⟨kvs, h1, h2⟩ := h.hfal
  obtain ⟨kvt, t1, t2⟩ := h.htrn
  exact ⟨lput h (i := 4) (m := m) (by decide +kernel) (by decide), h.hps.mono x.bb, h.hsg.mono x.bb, h.hrt.mono x.bb, hu, h.hpts.extF x (Ne.symm n1), h.hlks.extF x (Ne.symm n2), ⟨kvs, h1.extF x (Ne.symm n3), h2.mono x.bb⟩, ⟨kvt, t1.extF x (Ne.symm n4), t2.mono x.bb⟩, h.nd⟩
theorem LAt.setNow (h : LAt B H l A d) (x : ExtF (· = l) B H B2 H2) {n : Int} (m : Md B2 H2 l (putK (lKs.zip (lVals A d)) (.inr "now") (.int n))) : LAt B2 H2 l A { d with now := n } := by
  obtain ⟨n1, n2, n3, n4, n5, n6, n7, n8, n9, n10⟩ := ownL_ne h.nd
  obtain ⟨kvs, h1, h2⟩ := h.hfal
  obtain ⟨kvt, t1, t2⟩ := h.htrn
  exact ⟨lput h (i := 5) (m := m) (by decide +kernel) (by decide), h.hps.mono x.bb, h.hsg.mono x.bb, h.hrt.mono x.bb, h.hgr.mono x.bb, h.hpts.extF x (Ne.symm n1), h.hlks.extF x (Ne.symm n2), ⟨kvs, h1.extF x (Ne.symm n3), h2.mono x.bb⟩, ⟨kvt, t1.extF x (Ne.symm n4), t2.mono x.bb⟩, h.nd⟩
theorem LAt.newLks (h : LAt B H l A d) (x : ExtF (· = l) B H B2 H2) {g : List (Option Int)} {q : Addr} (hq : H q = none) (mq : Ml B2 H2 q (g.map enc)) (m : Md B2 H2 l (putK (lKs.zip (lVals A d)) (.inr "locks") (.ref q))) : LAt B2 H2 l { A with lks := q } { d with lks := g } := by
  obtain ⟨n1, n2, n3, n4, n5, n6, n7, n8, n9, n10⟩ := ownL_ne h.nd
  obtain ⟨kvs, h1, h2⟩ := h.hfal
  obtain ⟨kvt, t1, t2⟩ := h.htrn
  have hs := h.own_some
  have nq : ∀ a ∈ ownL l A, a ≠ q := fun a ha z => hs a ha (z ▸ hq)
  have q1 := nq l (by simp [ownL])
  have q2 := nq A.pts (by simp [ownL])
  have q3 := nq A.fal (by simp [ownL])
  have q4 := nq A.trn (by simp [ownL])
  refine ⟨lput h (i := 7) (m := m) (by decide +kernel) (by decide), h.hps.mono x.bb, h.hsg.mono x.bb, h.hrt.mono x.bb, h.hgr.mono x.bb, h.hpts.extF x (Ne.symm n1), mq, ⟨kvs, h1.extF x (Ne.symm n3), h2.mono x.bb⟩, ⟨kvt, t1.extF x (Ne.symm n4), t2.mono x.bb⟩, ?_⟩
  simp [ownL, n1, n3, n4, n6, n7, n10, q1, q2, Ne.symm q3, Ne.symm q4]
theorem LAt.setLks (h : LAt B H l A d) (x : ExtF (· = A.lks) B H B2 H2) {g : List (Option Int)} (m : Ml B2 H2 A.lks (g.map enc)) : LAt B2 H2 l A { d with lks := g } := by
  obtain ⟨n1, n2, n3, n4, n5, n6, n7, n8, n9, n10⟩ := ownL_ne h.nd
  obtain ⟨kvs, h1, h2⟩ := h.hfal
  obtain ⟨kvt, t1, t2⟩ := h.htrn
  exact ⟨h.ob.extF x n2, h.hps.mono x.bb, h.hsg.mono x.bb, h.hrt.mono x.bb, h.hgr.mono x.bb, h.hpts.extF x n5, m, ⟨kvs, h1.extF x (Ne.symm n8), h2.mono x.bb⟩, ⟨kvt, t1.extF x (Ne.symm n9), t2.mono x.bb⟩, h.nd⟩
theorem LAt.setPts (h : LAt B H l A d) (x : ExtF (· = A.pts) B H B2 H2) {g : List Lie} (m : Ml B2 H2 A.pts (g.map enc)) : LAt B2 H2 l A { d with pts := g } := by
  obtain ⟨n1, n2, n3, n4, n5, n6, n7, n8, n9, n10⟩ := ownL_ne h.nd
  obtain ⟨kvs, h1, h2⟩ := h.hfal
  obtain ⟨kvt, t1, t2⟩ := h.htrn
  exact ⟨h.ob.extF x n1, h.hps.mono x.bb, h.hsg.mono x.bb, h.hrt.mono x.bb, h.hgr.mono x.bb, m, h.hlks.extF x (Ne.symm n5), ⟨kvs, h1.extF x (Ne.symm n6), h2.mono x.bb⟩, ⟨kvt, t1.extF x (Ne.symm n7), t2.mono x.bb⟩, h.nd⟩
theorem LAt.setFal (h : LAt B H l A d) (x : ExtF (· = A.fal) B H B2 H2) {g : List (Int × Int × List Int)} {kvs : List (Key × V)} (m : Md B2 H2 A.fal kvs) (k : Kd (lfD d) B2 kvs g) : LAt B2 H2 l A { d with fal := g } := by
  obtain ⟨n1, n2, n3, n4, n5, n6, n7, n8, n9, n10⟩ := ownL_ne h.nd
  obtain ⟨kvt, t1, t2⟩ := h.htrn
  exact ⟨h.ob.extF x n3, h.hps.mono x.bb, h.hsg.mono x.bb, h.hrt.mono x.bb, h.hgr.mono x.bb, h.hpts.extF x n6, h.hlks.extF x n8, ⟨kvs, m, k⟩, ⟨kvt, t1.extF x (Ne.symm n10), t2.mono x.bb⟩, h.nd⟩
theorem LAt.setTrn (h : LAt B H l A d) (x : ExtF (· = A.trn) B H B2 H2) {g : List (Int × Trn)} {kvs : List (Key × V)} (m : Md B2 H2 A.trn kvs) (k : Kd ltD B2 kvs g) : LAt B2 H2 l A { d with trs := g } := by
  obtain ⟨n1, n2, n3, n4, n5, n6, n7, n8, n9, n10⟩ := ownL_ne h.nd
  obtain ⟨kvf, f1, f2⟩ := h.hfal
  exact ⟨h.ob.extF x n4, h.hps.mono x.bb, h.hsg.mono x.bb, h.hrt.mono x.bb, h.hgr.mono x.bb, h.hpts.extF x n7, h.hlks.extF x n9, ⟨kvf, f1.extF x n10, f2.mono x.bb⟩, ⟨kvs, m, k⟩, h.nd⟩
end
/-! entries -/
section
variable {Γ : List (Option AV)} {B H : Hp} {l : Addr} {A : LAd} {d : Wd} {te : TE}
theorem lval {k : Str} {i : Nat} {v : V} (e : lKs.idxOf (Sum.inr k : Key) = i) (hl : i < lKs.length) (h : (lVals A d)[i]? = some v) : valV (lKs.zip (lVals A d)) (.inr k) = some v := zk_val lKs (lVals A d) _ i v e hl h
theorem gl_pieces (h : LRd B H l A d) (ha : Gv te Γ B H (.v (.ref l))) : Gv (tDGet te (tC (.str "pieces"))) Γ B H (.d (.list (d.ps.map enc))) := gv_dget ha gv_str kq_str h.ob (lval (i := 0) (by decide +kernel) (by decide) rfl) h.hps
theorem gl_signals (h : LRd B H l A d) (ha : Gv te Γ B H (.v (.ref l))) : Gv (tDGet te (tC (.str "signals"))) Γ B H (.d (.list (d.sg.map enc))) := gv_dget ha gv_str kq_str h.ob (lval (i := 1) (by decide +kernel) (by decide) rfl) h.hsg
theorem gl_wait (h : LRd B H l A d) (ha : Gv te Γ B H (.v (.ref l))) : Gv (tDGet te (tC (.str "wait"))) Γ B H (AI d.wait) := gv_dget ha gv_str kq_str h.ob (lval (i := 2) (by decide +kernel) (by decide) rfl) (.int _)
theorem gl_points (h : LRd B H l A d) (ha : Gv te Γ B H (.v (.ref l))) : Gv (tDGet te (tC (.str "points"))) Γ B H (.v (.ref A.pts)) := gv_dget ha gv_str kq_str h.ob (lval (i := 3) (by decide +kernel) (by decide) rfl) rfl
theorem gl_green (h : LRd B H l A d) (ha : Gv te Γ B H (.v (.ref l))) : Gv (tDGet te (tC (.str "green"))) Γ B H (.d (.list (d.grn.map enc))) := gv_dget ha gv_str kq_str h.ob (lval (i := 4) (by decide +kernel) (by decide) rfl) h.hgr
theorem gl_now (h : LRd B H l A d) (ha : Gv te Γ B H (.v (.ref l))) : Gv (tDGet te (tC (.str "now"))) Γ B H (AI d.now) := gv_dget ha gv_str kq_str h.ob (lval (i := 5) (by decide +kernel) (by decide) rfl) (.int _)
theorem gl_routes (h : LRd B H l A d) (ha : Gv te Γ B H (.v (.ref l))) : Gv (tDGet te (tC (.str "routes"))) Γ B H (.d (.list (d.rts.map enc))) := gv_dget ha gv_str kq_str h.ob (lval (i := 6) (by decide +kernel) (by decide) rfl) h.hrt
theorem gl_locks (h : LRd B H l A d) (ha : Gv te Γ B H (.v (.ref l))) : Gv (tDGet te (tC (.str "locks"))) Γ B H (.v (.ref A.lks)) := gv_dget ha gv_str kq_str h.ob (lval (i := 7) (by decide +kernel) (by decide) rfl) rfl
theorem gl_falls (h : LRd B H l A d) (ha : Gv te Γ B H (.v (.ref l))) : Gv (tDGet te (tC (.str "falls"))) Γ B H (.v (.ref A.fal)) := gv_dget ha gv_str kq_str h.ob (lval (i := 8) (by decide +kernel) (by decide) rfl) rfl
theorem gl_trains (h : LTr B H l A d) (ha : Gv te Γ B H (.v (.ref l))) : Gv (tDGet te (tC (.str "trains"))) Γ B H (.v (.ref A.trn)) := gv_dget ha gv_str kq_str h.ob (lval (i := 9) (by decide +kernel) (by decide) rfl) rfl
/-- a train's own entry -/
theorem gl_train {n : Int} {t : Trn} {ty : TE} (h : LTr B H l A d) (ha : Gv te Γ B H (.v (.ref l))) (hk : Gv ty Γ B H (AI n)) (ht : kAt d.trs n = some t) : Gv (tDGet (tDGet te (tC (.str "trains"))) ty) Γ B H (.d (trD t)) := by
  obtain ⟨kvt, t1, t2, t3⟩ := h.htrn
  obtain ⟨u, h1, h2⟩ := (t3.val n).2 t ht
  exact gv_dget (gl_trains h ha) hk kq_int t2 h1 h2
end
theorem rd_upd {H : Hp} {a q : Addr} {u w : HO} {od : Obj} (h : Rd H a u) (hL : H q = some w) (n : a = q → u = w) : Rd (upd H q (.frz od w)) a u := by
  by_cases e : a = q
  · subst e
    rw [n rfl]
    exact .inr ⟨od, upd_same⟩
  · rcases h with h | ⟨o, h⟩
    · exact .inl (by rw [upd_ne e]; exact h)
    · exact .inr ⟨o, by rw [upd_ne e]; exact h⟩
/-- what may be locked while the trains are gone through -/
theorem LRd.lockT {B H : Hp} {l : Addr} {A : LAd} {d : Wd} (h : LRd B H l A d) : ∃ q w, H q = some w ∧ Mut (some w) ∧ B q = none ∧ ∀ od, LTr B (upd H q (.frz od w)) l A d ∧ ∃ o kvs, (upd H q (.frz od w)) A.trn = some (.frz o (.dK kvs)) ∧ Kd ltD B kvs d.trs ∧ B A.trn = none := by
  obtain ⟨n1, n2, n3, n4, n5, n6, n7, n8, n9, n10⟩ := ownL_ne h.nd
  obtain ⟨kvt, t1, t2, t3⟩ := h.htrn
  rcases t2 with t2 | ⟨o, t2⟩
  · exact ⟨A.trn, _, t2, True.intro, t1, fun od => ⟨⟨rd_upd h.ob t2 fun z => absurd z n4, h.bo, kvt, t1, .inr ⟨od, upd_same⟩, t3⟩, od, kvt, upd_same, t3, t1⟩⟩
  · obtain ⟨p1, us, p2, p3⟩ := h.hpts
    exact ⟨A.pts, _, p2, True.intro, p1, fun od => ⟨⟨rd_upd h.ob p2 fun z => absurd z n1, h.bo, kvt, t1, .inr ⟨o, by rw [upd_ne (Ne.symm n7)]; exact t2⟩, t3⟩, o, kvt, by rw [upd_ne (Ne.symm n7)]; exact t2, t3, t1⟩⟩
/-- the trains of a world that is not locked -/
theorem LAt.lockT {B H : Hp} {l : Addr} {A : LAd} {d : Wd} (h : LAt B H l A d) : ∃ kvs, Md B H A.trn kvs ∧ Kd ltD B kvs d.trs ∧ ∀ od, LRd B (upd H A.trn (.frz od (.dK kvs))) l A d := by
  obtain ⟨n1, n2, n3, n4, n5, n6, n7, n8, n9, n10⟩ := ownL_ne h.nd
  obtain ⟨kvt, t1, t2⟩ := h.htrn
  obtain ⟨kvf, f1, f2⟩ := h.hfal
  refine ⟨kvt, t1, t2, fun od => ?_⟩
  obtain ⟨p1, us, p2, p3⟩ := h.hpts
  obtain ⟨k1, ks, k2, k3⟩ := h.hlks
  exact ⟨.inl (by rw [upd_ne n4]; exact h.ob.2), h.ob.1, h.hps, h.hsg, h.hrt, h.hgr, ⟨p1, us, by rw [upd_ne n7]; exact p2, p3⟩, ⟨k1, ks, by rw [upd_ne n9]; exact k2, k3⟩, ⟨kvf, ⟨f1.1, by rw [upd_ne n10]; exact f1.2⟩, f2⟩, ⟨kvt, t1.1, .inr ⟨od, upd_same⟩, t2⟩, h.nd⟩
/-! what such a def promises -/
structure LArg where
  l : Addr
  A : LAd
  d : Wd
/-- nothing changes; R: the world is there to be read -/
def spLr {T : Type} (args : T → List AV) (arg : T → LArg) (pre : T → Prop) (res : T → AV) : Sp := spP args (fun t B H => LRd B H (arg t).l (arg t).A (arg t).d ∧ Inv (arg t).d ∧ pre t) res
/-- the world changes -/
def LNew (B H B2 H2 : Hp) (l : Addr) (A A' : LAd) (d' : Wd) : Prop := ExtF (· ∈ ownL l A) B H B2 H2 ∧ LAt B2 H2 l A' d' ∧ ∀ a ∈ ownL l A', a ∈ ownL l A ∨ H a = none
def spLw {T : Type} (args : T → List AV) (arg : T → LArg) (pre : T → Prop) (res : T → AV) (nx : T → Wd) : Sp := fun vs H Q _ => ∃ (t : T) (B : Hp), Same B H ∧ IsAll B vs (args t) ∧ LAt B H (arg t).l (arg t).A (arg t).d ∧ Inv (arg t).d ∧ pre t ∧
  ∀ u A' B2 H2, LNew B H B2 H2 (arg t).l (arg t).A A' (nx t) → Is B2 u (res t) → Q u H2
theorem LNew.refl {B H : Hp} {l : Addr} {A : LAd} {d : Wd} (h : LAt B H l A d) (e : Same B H) : LNew B H B H l A A d := ⟨(Ext.refl e).f, h, fun _ h => .inl h⟩
theorem LNew.trans {B H B1 H1 B2 H2 : Hp} {l : Addr} {A A1 A2 : LAd} {d1 d2 : Wd} (a : LNew B H B1 H1 l A A1 d1) (b : LNew B1 H1 B2 H2 l A1 A2 d2) : LNew B H B2 H2 l A A2 d2 :=
  ⟨a.1.thenF b.1 fun p hp => a.2.2 p hp, b.2.1, fun p hp => by
    rcases b.2.2 p hp with h | h
    · exact a.2.2 p h
    · exact .inr (a.1.free h)⟩
theorem LNew.ext {B H B1 H1 B2 H2 : Hp} {l : Addr} {A A1 : LAd} {d1 : Wd} (a : LNew B H B1 H1 l A A1 d1) (x : Ext B1 H1 B2 H2) : LNew B H B2 H2 l A A1 d1 := ⟨a.1.trans x.f, a.2.1.ext x, a.2.2⟩
theorem LNew.of {F : Addr → Prop} {B H B1 H1 : Hp} {l : Addr} {A A1 : LAd} {d1 : Wd} (x : ExtF F B H B1 H1) (hF : ∀ a, F a → a ∈ ownL l A) (h : LAt B1 H1 l A1 d1) (n : ∀ a ∈ ownL l A1, a ∈ ownL l A ∨ H a = none) : LNew B H B1 H1 l A A1 d1 := ⟨x.mono hF, h, n⟩
theorem gw_callL {T : Type} {args : T → List AV} {arg : T → LArg} {pre : T → Prop} {res : T → AV} {nx : T → Wd} {E : XK} {tr : TA} {Γ : List (Option AV)} {B H : Hp} (t : T) (ht : Ga tr Γ B H (args t)) (h : LAt B H (arg t).l (arg t).A (arg t).d) (I : Inv (arg t).d) (hp : pre t) :
    Gw (tCall (spLw args arg pre res nx) [] E tr) Γ B H fun u B2 H2 => ∃ A', LNew B H B2 H2 (arg t).l (arg t).A A' (nx t) ∧ Is B2 u (res t) := fun e σ f Q q =>
  ht B H σ (Ext.refl e) f _ fun us B2 H2 x hu => ⟨t, B2, x.bh, by rw [List.append_nil]; exact hu, h.ext x, I, hp, fun u A' B3 H3 n hr => q u B3 H3 (x.bb.trans n.1.bb) n.1.bh ⟨A', ⟨x.f.trans n.1, n.2.1, fun a ha => (n.2.2 a ha).imp id fun z => x.hh.free z⟩, hr⟩⟩
/-- a def that changes the world, by its body -/
theorem fn_Lw {x qual : Str} {st : Stmt} {N ps : List Str} {k : Nat} {T : Type} {args : T → List AV} {arg : T → LArg} {pre : T → Prop} {res : T → AV} {nx : T → Wd} (F : Fun K x qual st f fd) (S : FnScope N ps (defScope st)) (hl : ∀ a, (args a).length = ps.length)
    (body : ∀ (cdv : Value) (A : Around) (outer : List Env) (s : Shared) (H : Hp) (Q : VK) (E : XK), Room k (A.deeper (envOfC qual (defScope st) s.heap.objs.size f cdv)) →
      ∃ t, PSs (cxOf CX0 P w K mg base N qual (defScope st) f cdv A outer s H E).nox (defBody st) t ∧ ∀ (a : T) (B : Hp), Same B H → LAt B H (arg a).l (arg a).A (arg a).d → Inv (arg a).d → pre a → (∀ u A' B2 H2, LNew B H B2 H2 (arg a).l (arg a).A A' (nx a) → Is B2 u (res a) → Q u H2) → Sx t { nx := fun _ H' => Q .non H', rt := Q } (Γ0 N (args a)) B H) :
    FnOk P w K mg base CX0 (k + 1) f fd ps (spLw args arg pre res nx) := by
  refine F.ok S (fun vs H Q E h => ?_) (fun cdv A outer s H vs Q E hr h => ?_)
  · obtain ⟨a, B, _, i, _⟩ := h
    rw [i.length, hl]
  · obtain ⟨a, B, e, i, p, I, pr, q⟩ := h
    obtain ⟨t, h1, h2⟩ := body cdv A outer s H Q E hr
    refine ⟨t, h1, h2 a B e p I pr q e _ (fr_start i ?_)⟩
    rw [i.length, hl]
    exact take_len S.pre
end
end SB
namespace SB
open PySem PySem.Spec PyProof.Rows L2
open Enc (enc)
local macro_rules | `(tactic| walk_at "le") => `(tactic| first | exact le_nil | (refine le_keep ?_; walk_at "le") | (refine le_drop ?_; walk_at "le"))
local macro_rules | `(tactic| walk_at "sd") => `(tactic| first | assumption | (show (_ : Int) < _ ∧ _ < (1073741824 : Int); exact ⟨by omega, by omega⟩) | (show (-(2 ^ 64) < (_ : Int) ∧ _ < (2 ^ 64 : Int)) ∨ _; first | exact .inl ⟨by omega, by omega⟩ | exact .inr ⟨by omega, by omega⟩) | rfl | decide | (simp; done) | omega | skip)
local macro_rules | `(tactic| walk_at "gc") => `(tactic| fail)
local macro_rules | `(tactic| walk_at "gv") => `(tactic| first
  | exact gv_int | exact gv_str | exact gv_bl | exact gv_non | exact gv_var rfl
  | ((with_reducible refine' gv_op ?_ ?_ ?_) <;> walk_at "gv")
  | ((with_reducible refine' ga_cons ?_ ?_) <;> walk_at "gv") | exact ga_nil
  | ((with_reducible refine' gv_cb ?_ ?_) <;> walk_at "gv")
  | ((with_reducible refine' gt_test ?_) <;> walk_at "gv") | ((with_reducible refine' gt_B ?_) <;> walk_at "gv") | ((with_reducible refine' gt_not ?_) <;> walk_at "gv")
  | ((with_reducible refine' gt_and ?k1 ?k2); (case' k1 => walk_at "gv"); (case' k2 => intro hb; walk_at "gv"))
  | ((with_reducible refine' gt_or ?k1 ?k2); (case' k1 => walk_at "gv"); (case' k2 => intro hb; walk_at "gv"))
  | ((with_reducible refine' gv_andV ?k1 ?k2); (case' k1 => walk_at "gv"); (case' k2 => intro hb; walk_at "gv"))
  | ((with_reducible refine' gv_orV ?k1 ?k2); (case' k1 => walk_at "gv"); (case' k2 => intro hb; walk_at "gv"))
  | ((with_reducible refine' gv_notV ?_) <;> walk_at "gv")
  | ((with_reducible refine' gv_slL ?_ ?_ ?_) <;> walk_at "gv") | ((with_reducible refine' gv_slT ?_ ?_ ?_ ?_) <;> walk_at "gv")
  | exact go_none | ((with_reducible refine' go_some ?_) <;> walk_at "gv")
  | exact gd_nil | ((with_reducible refine' gd_cons ?_ ?_) <;> walk_at "gv") | ((with_reducible refine' gv_lst ?_ ?_) <;> walk_at "gv") | ((with_reducible refine' gv_tup ?_ ?_) <;> walk_at "gv")
  | ((with_reducible refine' gv_chain ?_ ?_ ?_ ?_ ?_) <;> walk_at "gv") | ((with_reducible refine' gt_truL ?_) <;> walk_at "gv") | ((with_reducible refine' gv_countI ?_ ?_) <;> walk_at "gv")
  | ((with_reducible refine' gv_lenSetI ?_ ?_) <;> walk_at "gv") | ((with_reducible refine' gv_lenSetU ?_ ?_) <;> walk_at "gv") | ((with_reducible refine' gv_lenSetT ?_ ?_) <;> walk_at "gv")
  | exact gt_yes
  | walk_at "gc"
  | exact ro_I0 | exact ro_B0 | (refine ro_I ?_; walk_at "sd")
  | exact ro_eqI | exact ro_neI | exact ro_eqS | exact ro_neS
  | (refine ro_eq ?_; walk_at "sd") | (refine ro_ne ?_; walk_at "sd")
  | exact ro_isN | exact ro_notN
  | exact ro_inI | exact ro_notInI | exact ro_inTI
  | (refine' ro_ixL ?k1; (case' k1 => walk_at "sd")) | (refine' ro_ixT ?k1; (case' k1 => walk_at "sd"))
  | (refine ro_cat ?_; walk_at "sd")
  | exact rc_lenM | exact rc_len | exact rc_lenT | exact rc_list | exact rc_listT | exact rc_tuple | exact rc_any | exact rc_all | exact rc_max2 | exact rc_min2 | exact rc_intB
  | (show (_ : Nat) ≤ _; first | decide | (simp; done) | omega)
  | (show (_ : Nat) < _; first | decide | (simp; done) | omega)
  | (show ¬ (_ ∧ _); exact fun h => absurd (show (1 : Nat) = 0 from h.1) (by decide))
  | skip)
local macro_rules | `(tactic| walk_at "ge") => `(tactic| (refine' gt_is ?k1 ?k2; (case' k1 => walk_at "gv"); (case' k2 => first | rfl | (simp; done) | skip)))
local macro_rules | `(tactic| walk_at "gw") => `(tactic| (refine' gv_is ?k1 ?k2; (case' k1 => walk_at "gv"); (case' k2 => first | rfl | (simp; done) | skip)))
local macro_rules | `(tactic| walk_at "gj") => `(tactic| first | exact gi_nil | (refine' gi_cons ?g1 ?g2; (case' g1 => walk_at "gv"); (case' g2 => walk_at "gj")))
local macro_rules | `(tactic| walk_at "gi") => `(tactic| (refine' gv_lst ?k1 ?k2; (case' k1 => walk_at "gj"); (case' k2 => (simp; try omega))))
local macro_rules | `(tactic| walk_at "gc") => `(tactic| first | ((with_reducible refine' gv_joints ?_) <;> walk_at "gv") | ((with_reducible refine' gv_beyond ?_ ?_ ?_ ?_) <;> walk_at "gv") | ((with_reducible refine' gv_outs ?_ ?_) <;> walk_at "gv") | ((with_reducible refine' gv_ends ?_ ?_ ?_ ?_ ?_) <;> walk_at "gv"))
/-! ### the law's box -/
section
variable {C : Adr} {P : Program} {w : World} {K : PySem.W.Frag} {mg : Str → Option Value} {base : Heap} {fd : FuncData} {f : Addr}
abbrev s__law_train_in : Stmt := top 39
abbrev N__law_train_in : List Str := ["_law_world", "_law_at", "_law_found", "_law_name", "_law_step"]
theorem sc__law_train_in : FnScope N__law_train_in ["_law_world", "_law_at"] (defScope s__law_train_in) := ⟨rfl, rfl, rfl, by decide +kernel, rfl, by decide +kernel, by decide +kernel⟩
abbrev s__law_held : Stmt := top 40
abbrev N__law_held : List Str := ["_law_world", "_law_at"]
theorem sc__law_held : FnScope N__law_held ["_law_world", "_law_at"] (defScope s__law_held) := ⟨rfl, rfl, rfl, by decide +kernel, rfl, by decide +kernel, by decide +kernel⟩
abbrev s__law_free : Stmt := top 41
abbrev N__law_free : List Str := ["_law_world", "_law_route", "_law_lock"]
theorem sc__law_free : FnScope N__law_free ["_law_world", "_law_route"] (defScope s__law_free) := ⟨rfl, rfl, rfl, by decide +kernel, rfl, by decide +kernel, by decide +kernel⟩
abbrev s__law_set : Stmt := top 42
abbrev N__law_set : List Str := ["_law_world", "_law_route", "_law_way", "_law_step", "_law_piece"]
theorem sc__law_set : FnScope N__law_set ["_law_world", "_law_route"] (defScope s__law_set) := ⟨rfl, rfl, rfl, by decide +kernel, rfl, by decide +kernel, by decide +kernel⟩
abbrev s__law_near : Stmt := top 43
abbrev N__law_near : List Str := ["_law_world", "_law_signal", "_law_joint", "_law_at", "_law_found", "_law_name", "_law_train", "_law_head"]
theorem sc__law_near : FnScope N__law_near ["_law_world", "_law_signal"] (defScope s__law_near) := ⟨rfl, rfl, rfl, by decide +kernel, rfl, by decide +kernel, by decide +kernel⟩
abbrev s__law_cancel : Stmt := top 44
abbrev N__law_cancel : List Str := ["_law_world", "_law_route", "_law_joint", "_law_at", "_law_names", "_law_border", "_law_one"]
theorem sc__law_cancel : FnScope N__law_cancel ["_law_world", "_law_route"] (defScope s__law_cancel) := ⟨rfl, rfl, rfl, by decide +kernel, rfl, by decide +kernel, by decide +kernel⟩
abbrev s__law_tick : Stmt := top 45
abbrev N__law_tick : List Str := ["_law_world", "_law_route"]
theorem sc__law_tick : FnScope N__law_tick ["_law_world"] (defScope s__law_tick) := ⟨rfl, rfl, rfl, by decide +kernel, rfl, by decide +kernel, by decide +kernel⟩
abbrev s__law_throw : Stmt := top 46
abbrev N__law_throw : List Str := ["_law_world", "_law_at"]
theorem sc__law_throw : FnScope N__law_throw ["_law_world", "_law_at"] (defScope s__law_throw) := ⟨rfl, rfl, rfl, by decide +kernel, rfl, by decide +kernel, by decide +kernel⟩
theorem gm_ownP {Γ : List (Option AV)} {B H : Hp} {p : Addr} {ds es : List PyData} {te : TE} (m : Ml B H p ds) (hz : ∀ d ∈ es, flatD d = true) (h : ∀ B1 H1, Same B B1 → Same H H1 → Dq B1 (.ref p) (.list ds) → Gm te Γ B1 H1 es) : Gm te Γ B H es := fun B1 H1 σ e f Q q => by
  obtain ⟨hb, us, hp, t⟩ := m.ext e
  have s1 : Same B1 (upd B1 p (.lst us)) := fun c o q => by rw [upd_ne (ne_of_none q hb)]; exact q
  refine h (upd B1 p (.lst us)) H1 (e.bb.trans s1) e.hh (.lst upd_same (t.mono s1)) _ H1 σ (Ext.refl (same_own e.bh hp)) (f.mono s1) Q fun l B2 H2 x hl ml => ?_
  obtain ⟨mb, vs, mh, mt⟩ := ml
  have flat : ∀ {us : List V} {ds : List PyData}, DqAll B2 us ds → (∀ d ∈ ds, flatD d = true) → DqAll B1 us ds := by
    intro us ds
    induction us generalizing ds with
    | nil => intro h _; cases h; exact .nil
    | cons u us ih =>
      intro h hz
      cases h with
      | cons h t =>
        refine .cons ?_ (ih t fun d hd => hz d (List.mem_cons_of_mem _ hd))
        have := hz _ (List.mem_cons_self ..)
        cases h with
        | non => exact .non
        | bl b => exact .bl b
        | int i => exact .int i
        | str x => exact .str x
        | lst => cases this
        | tup => cases this
  exact q l B1 H2 ⟨Same.refl _, e.bh.trans x.hh, x.hh, fun _ h => .inl h⟩ hl ⟨e.bh.free hl, vs, mh, flat mt hz⟩
theorem gm_lcM {α β : Type} [DecidableEq α] [Enc α] [DecidableEq β] [Enc β] {Γ : List (Option AV)} {B H : Hp} {te tl : TE} {j : Nat} {xs : List α} {vs : List Nat} (f : α → β) (h : Gv tl Γ B H (.d (.list (xs.map enc)))) (hz : xs.length < 16000000) (hv : j ∈ vs) (hnd : vs.Nodup)
    (he : ∀ a ∈ xs, ∀ B1 H1, Ext B H B1 H1 → Gv te ((Ow Γ vs).set j (some (.d (enc a)))) B1 H1 (.d (enc (f a)))) : Gm (tLc (iList K tl) (gName j) tYes te vs) Γ B H ((xs.map f).map enc) := by
  have h := gm_lcL (K := K) h hz hv hnd (fun _ => true) f (fun _ _ _ _ _ => gt_yes) fun a ha _ => he a ha
  rw [filter_yes] at h
  exact h
theorem rd_same {H H' : Hp} {a : Addr} {u : HO} (h : Rd H a u) (s : Same H H') : Rd H' a u := by
  rcases h with h | ⟨o, h⟩
  · exact .inl (s _ _ h)
  · exact .inr ⟨o, s _ _ h⟩
def spLtrainIn : Sp := spLr (T := LArg × Int) (fun t => [.v (.ref t.1.l), AI t.2]) (·.1) (fun _ => True) fun t => .d (enc (trainIn t.1.d t.2))
def inT (d : Wd) (i n : Int) : Bool := match kAt d.trs n with
  | some t => decide (i ∈ t.steps.map Stp.p)
  | none => false
theorem trainIn_head {d : Wd} (I : Inv d) (i : Int) : trainIn d i = ((d.trs.map (·.1)).filter (inT d i)).head? := by
  unfold trainIn
  rw [List.head?_filter, List.find?_map]
  congr 1
  have key : ∀ l : List (Int × Trn), (∀ p ∈ l, p ∈ d.trs) → l.find? (fun p => decide (i ∈ p.2.steps.map Stp.p)) = l.find? (inT d i ∘ fun p => p.1) := by
    intro l
    induction l with
    | nil => intro _; rfl
    | cons p l ih =>
      intro h
      have e : decide (i ∈ p.2.steps.map Stp.p) = (inT d i ∘ fun p => p.1) p := by
        show _ = inT d i p.1
        unfold inT
        rw [kAt_of I.nnd (show (p.1, p.2) ∈ d.trs from h p (by simp))]
      rw [List.find?_cons, List.find?_cons, e, ih fun q hq => h q (List.mem_cons_of_mem _ hq)]
  exact key _ fun _ h => h
theorem trn_at {d : Wd} {n : Int} (h : n ∈ d.trs.map (·.1)) : ∃ t, kAt d.trs n = some t ∧ (n, t) ∈ d.trs := by
  cases q : kAt d.trs n with
  | none => exact absurd h (kAt_none q)
  | some t => exact ⟨t, rfl, kAt_mem q⟩
theorem gv_tsteps {Γ : List (Option AV)} {B H : Hp} {te : TE} {t : Trn} (h : Gv te Γ B H (.d (trD t))) : Gv (tOp (rIxL K) te (tC (.int 0))) Γ B H (.d (.list (t.steps.map enc))) := gv_op h gv_int (ro_ixL (ds := [.list (t.steps.map enc), .list (t.ahead.map enc), .bool t.out]) rfl)
theorem gv_tahead {Γ : List (Option AV)} {B H : Hp} {te : TE} {t : Trn} (h : Gv te Γ B H (.d (trD t))) : Gv (tOp (rIxL K) te (tC (.int 1))) Γ B H (.d (.list (t.ahead.map enc))) := gv_op h gv_int (ro_ixL (ds := [.list (t.steps.map enc), .list (t.ahead.map enc), .bool t.out]) rfl)
theorem gv_tout {Γ : List (Option AV)} {B H : Hp} {te : TE} {t : Trn} (h : Gv te Γ B H (.d (trD t))) : Gv (tOp (rIxL K) te (tC (.int 2))) Γ B H (AB t.out) := gv_op h gv_int (ro_ixL (ds := [.list (t.steps.map enc), .list (t.ahead.map enc), .bool t.out]) rfl)
theorem gv_sp {Γ : List (Option AV)} {B H : Hp} {te : TE} {x : Stp} (h : Gv te Γ B H (.d (enc x))) : Gv (tOp (rIxT K) te (tC (.int 0))) Γ B H (AI x.p) := gv_op h gv_int (ro_ixT (ds := [.int x.p, .int x.i, .int x.o]) rfl)
theorem gv_si {Γ : List (Option AV)} {B H : Hp} {te : TE} {x : Stp} (h : Gv te Γ B H (.d (enc x))) : Gv (tOp (rIxT K) te (tC (.int 1))) Γ B H (AI x.i) := gv_op h gv_int (ro_ixT (ds := [.int x.p, .int x.i, .int x.o]) rfl)
theorem gv_so {Γ : List (Option AV)} {B H : Hp} {te : TE} {x : Stp} (h : Gv te Γ B H (.d (enc x))) : Gv (tOp (rIxT K) te (tC (.int 2))) Γ B H (AI x.o) := gv_op h gv_int (ro_ixT (ds := [.int x.p, .int x.i, .int x.o]) rfl)
theorem ok_Ltrain_in (T : Txt K mg C) (F : Fun K "_law_train_in" "_law_train_in" s__law_train_in f fd) : FnOk P w K mg base CX0 1 f fd ["_law_world", "_law_at"] spLtrainIn := by
  refine fn_P F sc__law_train_in (fun _ => rfl) fun cdv A outer s H Q E hr => ⟨_, pss_cons (ps_lock (ps_setLc (i := 2) (own := [("_law_name", 3)]) (g := gName 3) (by rfl) sc__law_train_in.nd rfl rfl (sw_true rfl rfl rfl (by decide +kernel)) (pi_keys (pe_dget (hu_of hr) (pv 0) (pe_str) (fun _ _ => rfl))) (blkOk_by (own := [("_law_name", 3)]) (N := N__law_train_in) (sc := defScope s__law_train_in) (by decide +kernel)) (fun _ _ _ _ _ => pg_name (i := 3) sc__law_train_in.nd rfl (Or.inl rfl)) (fun _ _ _ _ _ => pts_one (pt_cmpR (op_inK (K := K) rfl) (pv 1) (pe_lc (own := [("_law_step", 4)]) (g := gName 4) (tt := tYes) (by rfl) sc__law_train_in.nd (pi_listK (K := K) rfl (pe_ix (ix_listK (K := K) rfl) (pe_dget (hu_of hr) (pe_dget (hu_of hr) (pv 0) (pe_str) (fun _ _ => rfl)) (pv 3) (fun _ _ => rfl)) (pe_int) (fun _ _ => rfl))) (by refine blkOk_by ?_; rfl) (fun _ _ _ _ _ => pg_name (i := 4) sc__law_train_in.nd rfl (Or.inl rfl)) (fun _ _ _ _ _ => pts_nil) (fun _ _ _ _ _ => pe_ix (ix_tupK (K := K) rfl) (pv 4) (pe_int) (fun _ _ => rfl))) (by rfl))) (fun _ _ _ _ _ => pv 3)))
  (pss_cons (ps_ret (pe_ifExp (pt_truthK (K := K) rfl (pv 2) (by intro _; rfl)) (pe_ix (ix_listK (K := K) rfl) (pv 2) (pe_int) (fun _ _ => rfl)) (pe_non)))
  (pss_nil)), fun ⟨t, i⟩ B e hpre q => ?_⟩
  obtain ⟨h, I, _⟩ := hpre
  have h : LRd B H t.l t.A t.d := h
  have I : Inv t.d := I
  have q : ∀ u B2 H2, Ext B H B2 H2 → Is B2 u (.d (enc (trainIn t.d i))) → Q u H2 := q
  have nt := I.trs_len
  obtain ⟨lq, lw, hL, mu, hqb, hlk⟩ := h.lockT
  refine qx_asgLk (ds := (((t.d.trs.map (·.1)).filter (inT t.d i)).map id).map enc) hL mu hqb (fun od => ?_) fun p B2 H2 hp x2 m2 => ?_
  · obtain ⟨hT, o, kvs, ht1, ht2, ht3⟩ := hlk od
    refine gm_lcK (ks := t.d.trs.map (·.1)) (inT t.d i) id ?_ ht1 ht3 ht2.keys ?_ ?_ ?_ ?_ ?_
    · exact gl_trains hT (gv_var rfl)
    · rw [List.length_map]; omega
    · decide
    · decide
    · intro n hn B1 H1 x
      obtain ⟨tr, h1, h2⟩ := trn_at hn
      have hT1 := hT.ext x
      have hs := I.path_len' h2
      refine gt_is (gt_test (gv_op (y := .d (.list ((tr.steps.map Stp.p).map enc))) (gv_var rfl) (gv_lcM Stp.p (gv_tsteps (gl_train hT1 (gv_var rfl) (gv_var rfl) h1)) (by omega) (by decide) (by decide) fun st _ B3 H3 x3 => gv_sp (gv_var rfl)) ro_inI)) ?_
      unfold inT
      rw [h1]
    · intro n hn _ B1 H1 x
      exact gv_var rfl
  · rw [trainIn_head I, ← List.map_id ((t.d.trs.map (·.1)).filter (inT t.d i))] at q
    refine qx_ret (gv_if (gt_truO m2 (gv_var rfl)) (fun hb => ?_) fun hb => ?_) fun u B3 H3 x3 hu => q u B3 H3 (x2.trans x3) hu
    · cases hl : ((t.d.trs.map (·.1)).filter (inT t.d i)).map id with
      | nil => rw [hl] at hb; cases hb
      | cons a as => rw [hl] at m2; exact gv_op (gv_var rfl) gv_int (ro_ixO (d := .int a) m2 (atI_map (xs := a :: as) (k := 0) rfl))
    · cases hl : ((t.d.trs.map (·.1)).filter (inT t.d i)).map id with
      | nil => exact gv_non
      | cons a as => rw [hl] at hb; cases hb
theorem gv_LtrainIn {Γ : List (Option AV)} {B H : Hp} {t : LArg} {ta tb : TE} {E : XK} {i : Int} (h : LRd B H t.l t.A t.d) (I : Inv t.d) (ha : Gv ta Γ B H (.v (.ref t.l))) (hb : Gv tb Γ B H (AI i)) :
    Gv (tCall spLtrainIn [] E (tCons ta (tCons tb tNil))) Γ B H (.d (enc (trainIn t.d i))) := gv_call (t, i) (ga_cons ha (ga_cons hb ga_nil)) fun _ _ x => ⟨h.ext x, I, trivial⟩
def spLheld : Sp := spLr (T := LArg × Int) (fun t => [.v (.ref t.1.l), AI t.2]) (·.1) (fun t => there t.1.d.ps.length t.2 = true) fun t => AB (heldN t.1.d t.2)
theorem ok_Lheld (T : Txt K mg C) (F : Fun K "_law_held" "_law_held" s__law_held f fd) (c__law_train_in : Cal P w K mg base CX0 1 "_law_train_in" spLtrainIn) : FnOk P w K mg base CX0 2 f fd ["_law_world", "_law_at"] spLheld := by
  refine fn_P F sc__law_held (fun _ => rfl) fun cdv A outer s H Q E hr => ⟨_, pss_cons (ps_ret (pe_or (pe_cmpR op_notN (pe_ix (ix_listK (K := K) rfl) (pe_dget (hu_of hr) (pv 0) (pe_str) (fun _ _ => rfl)) (pv 1) (fun _ _ => rfl)) (pe_non) (nomark _)) (pe_one (pe_cmpR op_notN (pe_cal c__law_train_in hr (by first | decide | omega) rfl passN (pa_cons (pv 0) (pa_cons (pv 1) (pa_nil)))) (pe_non) (nomark _)))))
  (pss_nil), fun ⟨t, i⟩ B e hpre q => ?_⟩
  obtain ⟨h, I, hth⟩ := hpre
  have h : LRd B H t.l t.A t.d := h
  have I : Inv t.d := I
  have hth : there t.d.ps.length i = true := hth
  obtain ⟨k, o, hk, ho, hat⟩ := there_at (xs := t.d.lks) (i := i) (by rw [I.ll]; exact hth)
  have e1 : lockN t.d i = o := by unfold lockN; rw [hk, Int.toNat_natCast, ho]; rfl
  refine qx_ret (g := AB (heldN t.d i)) (gv_is (gv_orV (gv_op (gv_op (gl_locks h (gv_var rfl)) (gv_var rfl) (ro_ixO h.hlks hat)) gv_non ro_notN) fun _ => gv_op (gv_LtrainIn h I (gv_var rfl) (gv_var rfl)) gv_non ro_notN) ?_) fun u B2 H2 x2 hu => q u B2 H2 x2 hu
  rw [isN_oi, isN_oi, Bool.not_not, Bool.not_not]
  unfold heldN
  rw [e1]
theorem gv_Lheld {Γ : List (Option AV)} {B H : Hp} {t : LArg} {ta tb : TE} {E : XK} {i : Int} (h : LRd B H t.l t.A t.d) (I : Inv t.d) (hth : there t.d.ps.length i = true) (ha : Gv ta Γ B H (.v (.ref t.l))) (hb : Gv tb Γ B H (AI i)) :
    Gv (tCall spLheld [] E (tCons ta (tCons tb tNil))) Γ B H (AB (heldN t.d i)) := gv_call (t, i) (ga_cons ha (ga_cons hb ga_nil)) fun _ _ x => ⟨h.ext x, I, hth⟩
def spLfree : Sp := fun vs H Q _ => ∃ (t : LArg) (r : Int) (B : Hp), Same B H ∧ IsAll B vs [.v (.ref t.l), AI r] ∧ LAt B H t.l t.A t.d ∧ t.d.lks.length ≤ 100 ∧ ∀ A' B2 H2, LNew B H B2 H2 t.l t.A A' { t.d with lks := freeL t.d.lks r } → Q .non H2
theorem ok_Lfree (T : Txt K mg C) (F : Fun K "_law_free" "_law_free" s__law_free f fd) : FnOk P w K mg base CX0 1 f fd ["_law_world", "_law_route"] spLfree := by
  refine F.ok sc__law_free (fun vs H Q E h => ?_) (fun cdv A outer s H vs Q E hr h => ?_)
  · obtain ⟨t, r, B, _, i, _⟩ := h
    exact i.length
  obtain ⟨t, r, B, e, i, h, hl, q⟩ := h
  refine ⟨_, pss_cons (ps_dput (hu_of hr) (pv 0) (pe_str) (pe_lc (own := [("_law_lock", 2)]) (g := gName 2) (tt := tYes) (by rfl) sc__law_free.nd (pi_listK (K := K) rfl (pe_dget (hu_of hr) (pv 0) (pe_str) (fun _ _ => rfl))) (blkOk_by (own := [("_law_lock", 2)]) (N := N__law_free) (sc := defScope s__law_free) (by decide +kernel)) (fun _ _ _ _ _ => pg_name (i := 2) sc__law_free.nd rfl (Or.inl rfl)) (fun _ _ _ _ _ => pts_nil) (fun _ _ _ _ _ => pe_ifExp (pt_cmpR op_eq (pv 2) (pv 1) (nomark _)) (pe_non) (pv 2))) rfl)
  (pss_nil), ?_⟩
  refine Sx.run (Γ := Γ0 N__law_free [.v (.ref t.l), AI r]) (B := B) ?_ e (fr_start i (by rw [i.length]; show 2 ≤ 3; decide))
  refine qx_dputM (ds := (freeL t.d.lks r).map enc) (κ := AS "locks") (k := .inr "locks") h.ob (gm_ownP h.hlks (fun d hd => ?_) fun B1 H1 s1 s2 hd => ?_) (fun _ _ _ => gv_var rfl) (fun _ _ _ => gv_str) kq_str (by show 10 < 16000000; decide) fun p B2 H2 x2 hp m2 md => ?_
  · obtain ⟨o, _, e2⟩ := List.mem_map.mp hd
    subst e2
    cases o <;> rfl
  · refine gm_lcM (xs := t.d.lks) (j := 2) (vs := [2]) (fun o => if o = some r then none else o) (gv_dget (gv_var rfl) gv_str kq_str (rd_same h.rd.ob s2) (lval (i := 7) (by decide +kernel) (by decide) rfl) hd) (by omega) (by decide) (by decide) fun o ho B3 H3 x3 => ?_
    refine gv_is (gv_ite (b := decide (o = some r)) (x := AN) (y := .d (enc o)) (gt_is (gt_test (gv_op (gv_var rfl) (gv_var rfl) (ro_eq (by cases o <;> rfl)))) (eq_oi o r)) (fun _ => gv_non) fun _ => gv_var rfl) ?_
    by_cases z : o = some r
    · rw [decide_eq_true z, if_pos rfl, if_pos z]; rfl
    · rw [decide_eq_false z, if_neg Bool.false_ne_true, if_neg z]
  · exact sx_next fun e2 σ fr => q _ B2 H2 (LNew.of x2 (fun a ha => by rw [ha]; simp [ownL]) (h.newLks x2 hp m2 md) fun a ha => by
      simp [ownL] at ha ⊢
      rcases ha with z | z | z | z | z
      · exact .inl (.inl z)
      · exact .inl (.inr (.inl z))
      · exact .inr (z ▸ hp)
      · exact .inl (.inr (.inr (.inr (.inl z))))
      · exact .inl (.inr (.inr (.inr (.inr z)))))
theorem gw_Lfree {Γ : List (Option AV)} {B H : Hp} {t : LArg} {ta tb : TE} {E : XK} {r : Int} (h : LAt B H t.l t.A t.d) (hl : t.d.lks.length ≤ 100) (ha : Gv ta Γ B H (.v (.ref t.l))) (hb : Gv tb Γ B H (AI r)) :
    Gw (tCall spLfree [] E (tCons ta (tCons tb tNil))) Γ B H fun u B2 H2 => ∃ A', LNew B H B2 H2 t.l t.A A' { t.d with lks := freeL t.d.lks r } := fun e σ f Q q =>
  ga_cons ha (ga_cons hb ga_nil) B H σ (Ext.refl e) f _ fun us B2 H2 x hu => ⟨t, r, B2, x.bh, by rw [List.append_nil]; exact hu, h.ext x, hl, fun A' B3 H3 n => q _ B3 H3 (x.bb.trans n.1.bb) n.1.bh ⟨A', x.f.trans n.1, n.2.1, fun a ha => (n.2.2 a ha).imp id fun z => x.hh.free z⟩⟩
def wdE : Except Er Wd → Str
  | .ok _ => "ok"
  | .error .none => "none"
  | .error .held => "held"
  | .error .red => "red"
def spLset : Sp := spLw (T := LArg × Int) (fun t => [.v (.ref t.1.l), AI t.2]) (·.1) (fun t => there t.1.d.rts.length t.2 = true) (fun t => AS (wdE (setE t.1.d t.2))) fun t => toD t.1.d (setE t.1.d t.2)
end
end SB
namespace SB
open PySem PySem.Spec PyProof.Rows L2
open Enc (enc)
local macro_rules | `(tactic| walk_at "le") => `(tactic| first | exact le_nil | (refine le_keep ?_; walk_at "le") | (refine le_drop ?_; walk_at "le"))
local macro_rules | `(tactic| walk_at "sd") => `(tactic| first | assumption | (show (_ : Int) < _ ∧ _ < (1073741824 : Int); exact ⟨by omega, by omega⟩) | (show (-(2 ^ 64) < (_ : Int) ∧ _ < (2 ^ 64 : Int)) ∨ _; first | exact .inl ⟨by omega, by omega⟩ | exact .inr ⟨by omega, by omega⟩) | rfl | decide | (simp; done) | omega | skip)
local macro_rules | `(tactic| walk_at "gc") => `(tactic| fail)
local macro_rules | `(tactic| walk_at "gv") => `(tactic| first
  | exact gv_int | exact gv_str | exact gv_bl | exact gv_non | exact gv_var rfl
  | ((with_reducible refine' gv_op ?_ ?_ ?_) <;> walk_at "gv")
  | ((with_reducible refine' ga_cons ?_ ?_) <;> walk_at "gv") | exact ga_nil
  | ((with_reducible refine' gv_cb ?_ ?_) <;> walk_at "gv")
  | ((with_reducible refine' gt_test ?_) <;> walk_at "gv") | ((with_reducible refine' gt_B ?_) <;> walk_at "gv") | ((with_reducible refine' gt_not ?_) <;> walk_at "gv")
  | ((with_reducible refine' gt_and ?k1 ?k2); (case' k1 => walk_at "gv"); (case' k2 => intro hb; walk_at "gv"))
  | ((with_reducible refine' gt_or ?k1 ?k2); (case' k1 => walk_at "gv"); (case' k2 => intro hb; walk_at "gv"))
  | ((with_reducible refine' gv_andV ?k1 ?k2); (case' k1 => walk_at "gv"); (case' k2 => intro hb; walk_at "gv"))
  | ((with_reducible refine' gv_orV ?k1 ?k2); (case' k1 => walk_at "gv"); (case' k2 => intro hb; walk_at "gv"))
  | ((with_reducible refine' gv_notV ?_) <;> walk_at "gv")
  | ((with_reducible refine' gv_slL ?_ ?_ ?_) <;> walk_at "gv") | ((with_reducible refine' gv_slT ?_ ?_ ?_ ?_) <;> walk_at "gv")
  | exact go_none | ((with_reducible refine' go_some ?_) <;> walk_at "gv")
  | exact gd_nil | ((with_reducible refine' gd_cons ?_ ?_) <;> walk_at "gv") | ((with_reducible refine' gv_lst ?_ ?_) <;> walk_at "gv") | ((with_reducible refine' gv_tup ?_ ?_) <;> walk_at "gv")
  | ((with_reducible refine' gv_chain ?_ ?_ ?_ ?_ ?_) <;> walk_at "gv") | ((with_reducible refine' gt_truL ?_) <;> walk_at "gv") | ((with_reducible refine' gv_countI ?_ ?_) <;> walk_at "gv")
  | ((with_reducible refine' gv_lenSetI ?_ ?_) <;> walk_at "gv") | ((with_reducible refine' gv_lenSetU ?_ ?_) <;> walk_at "gv") | ((with_reducible refine' gv_lenSetT ?_ ?_) <;> walk_at "gv")
  | exact gt_yes
  | walk_at "gc"
  | exact ro_I0 | exact ro_B0 | (refine ro_I ?_; walk_at "sd")
  | exact ro_eqI | exact ro_neI | exact ro_eqS | exact ro_neS
  | (refine ro_eq ?_; walk_at "sd") | (refine ro_ne ?_; walk_at "sd")
  | exact ro_isN | exact ro_notN
  | exact ro_inI | exact ro_notInI | exact ro_inTI
  | (refine' ro_ixL ?k1; (case' k1 => walk_at "sd")) | (refine' ro_ixT ?k1; (case' k1 => walk_at "sd"))
  | (refine ro_cat ?_; walk_at "sd")
  | exact rc_lenM | exact rc_len | exact rc_lenT | exact rc_list | exact rc_listT | exact rc_tuple | exact rc_any | exact rc_all | exact rc_max2 | exact rc_min2 | exact rc_intB
  | (show (_ : Nat) ≤ _; first | decide | (simp; done) | omega)
  | (show (_ : Nat) < _; first | decide | (simp; done) | omega)
  | (show ¬ (_ ∧ _); exact fun h => absurd (show (1 : Nat) = 0 from h.1) (by decide))
  | skip)
local macro_rules | `(tactic| walk_at "ge") => `(tactic| (refine' gt_is ?k1 ?k2; (case' k1 => walk_at "gv"); (case' k2 => first | rfl | (simp; done) | skip)))
local macro_rules | `(tactic| walk_at "gw") => `(tactic| (refine' gv_is ?k1 ?k2; (case' k1 => walk_at "gv"); (case' k2 => first | rfl | (simp; done) | skip)))
local macro_rules | `(tactic| walk_at "gj") => `(tactic| first | exact gi_nil | (refine' gi_cons ?g1 ?g2; (case' g1 => walk_at "gv"); (case' g2 => walk_at "gj")))
local macro_rules | `(tactic| walk_at "gi") => `(tactic| (refine' gv_lst ?k1 ?k2; (case' k1 => walk_at "gj"); (case' k2 => (simp; try omega))))
local macro_rules | `(tactic| walk_at "gc") => `(tactic| first | ((with_reducible refine' gv_joints ?_) <;> walk_at "gv") | ((with_reducible refine' gv_beyond ?_ ?_ ?_ ?_) <;> walk_at "gv") | ((with_reducible refine' gv_outs ?_ ?_) <;> walk_at "gv") | ((with_reducible refine' gv_ends ?_ ?_ ?_ ?_ ?_) <;> walk_at "gv"))
/-! ### the law's box: what is done to it -/
section
variable {C : Adr} {P : Program} {w : World} {K : PySem.W.Frag} {mg : Str → Option Value} {base : Heap} {fd : FuncData} {f : Addr}
theorem ownL_grn {l : Addr} {A : LAd} {u : V} : ownL l { A with vgr := u } = ownL l A := rfl
theorem lnew_ext {B H B2 H2 : Hp} {l : Addr} {A : LAd} {d : Wd} (h : LAt B H l A d) (x : Ext B H B2 H2) : LNew B H B2 H2 l A A d := ⟨x.f, h.ext x, fun _ h => .inl h⟩
theorem pc_plain (a c : Int) : ((Pc.plain a c).word = "points") = False := by
  have := word_pl' a c
  simpa using this
theorem ok_Lset (T : Txt K mg C) (F : Fun K "_law_set" "_law_set" s__law_set f fd) (c__law_held : Cal P w K mg base CX0 2 "_law_held" spLheld) : FnOk P w K mg base CX0 3 f fd ["_law_world", "_law_route"] spLset := by
  refine fn_Lw F sc__law_set (fun _ => rfl) fun cdv A outer s H Q E hr => ⟨_, pss_cons (ps_set (i := 2) sc__law_set.nd rfl (by first | exact Or.inl rfl | exact Or.inr rfl) (pe_ix (ix_tupK (K := K) rfl) (pe_ix (ix_listK (K := K) rfl) (pe_dget (hu_of hr) (pv 0) (pe_str) (fun _ _ => rfl)) (pv 1) (fun _ _ => rfl)) (pe_int) (fun _ _ => rfl)))
  (pss_cons (ps_if (pt_val (pe_callB (cr_anyK (K := K) rfl rfl) (by rfl) T.n_any (by decide +kernel) (pa_cons (pe_lc (own := [("_law_step", 3)]) (g := gName 3) (tt := tYes) (by rfl) sc__law_set.nd (pi_listK (K := K) rfl (pv 2)) (blkOk_by (own := [("_law_step", 3)]) (N := N__law_set) (sc := defScope s__law_set) (by decide +kernel)) (fun _ _ _ _ _ => pg_name (i := 3) sc__law_set.nd rfl (Or.inl rfl)) (fun _ _ _ _ _ => pts_nil) (fun _ _ _ _ _ => pe_cal c__law_held hr (by first | decide | omega) rfl passN (pa_cons (pv 0) (pa_cons (pe_ix (ix_tupK (K := K) rfl) (pv 3) (pe_int) (fun _ _ => rfl)) (pa_nil))))) (pa_nil)))) (pss_cons (ps_ret (pe_str))
  (pss_nil)) (pss_nil))
  (pss_cons (ps_for PassesOwn.never rfl (pi_listK (K := K) rfl (pv 2)) (pg_name (i := 3) sc__law_set.nd rfl (by first | exact Or.inl rfl | exact Or.inr rfl)) (pss_cons (ps_asg (pv 1) (pg_sub (pe_dget (hu_of hr) (pv 0) (pe_str) (fun _ _ => rfl)) (pe_ix (ix_tupK (K := K) rfl) (pv 3) (pe_int) (fun _ _ => rfl)) set_list))
  (pss_cons (ps_set (i := 4) sc__law_set.nd rfl (by first | exact Or.inl rfl | exact Or.inr rfl) (pe_ix (ix_listK (K := K) rfl) (pe_dget (hu_of hr) (pv 0) (pe_str) (fun _ _ => rfl)) (pe_ix (ix_tupK (K := K) rfl) (pv 3) (pe_int) (fun _ _ => rfl)) (fun _ _ => rfl)))
  (pss_cons (ps_if (pt_cmpR op_eq (pe_ix (ix_tupK (K := K) rfl) (pv 4) (pe_int) (fun _ _ => rfl)) (pe_str) (nomark _)) (pss_cons (ps_asg (pe_ix (ix_listK (K := K) rfl) (pe_lst (pa_cons (pe_str) (pa_cons (pe_str) (pa_nil)))) (pe_callTy call_int1 (by rfl) T.n_int (by decide +kernel) (pa_cons (pe_cmpR (op_inK (K := K) rfl) (pe_ix (ix_tupK (K := K) rfl) (pv 4) (pe_int) (fun _ _ => rfl)) (pe_slice (sl_tupK (K := K) rfl) (pv 3) (po_some (pe_int)) (po_none)) (by rfl)) (pa_nil))) (fun _ _ => rfl)) (pg_sub (pe_dget (hu_of hr) (pv 0) (pe_str) (fun _ _ => rfl)) (pe_ix (ix_tupK (K := K) rfl) (pv 3) (pe_int) (fun _ _ => rfl)) set_list))
  (pss_nil)) (pss_nil))
  (pss_nil)))))
  (pss_cons (ps_dput (hu_of hr) (pv 0) (pe_str) (pe_op op_cat (pe_dget (hu_of hr) (pv 0) (pe_str) (fun _ _ => rfl)) (pe_lst (pa_cons (pv 1) (pa_nil)))) rfl)
  (pss_cons (ps_ret (pe_str))
  (pss_nil))))), fun ⟨t, r⟩ B e h I hth q => ?_⟩
  have h : LAt B H t.l t.A t.d := h
  have I : Inv t.d := I
  have hth : there t.d.rts.length r = true := hth
  have q : ∀ u A' B2 H2, LNew B H B2 H2 t.l t.A A' (toD t.d (setE t.d r)) → Is B2 u (AS (wdE (setE t.d r))) → Q u H2 := q
  obtain ⟨k, ⟨sn, way⟩, hk, ho, hat⟩ := there_at (xs := t.d.rts) (i := r) hth
  have ew : wayOf t.d r = way := by unfold wayOf; rw [hk, Int.toNat_natCast, ho]; rfl
  have W := I.st.wayD hth
  rw [ew] at W
  obtain ⟨hwl, _⟩ := I.wayOk _ (List.mem_of_getElem? ho)
  have hwl : way.length ≤ 1000 := hwl
  unfold setE at q
  rw [if_pos hth, ew] at q
  refine qx_asg (g := .d (.list (way.map enc))) (gv_op (gv_op (gl_routes h.rd (gv_var rfl)) (gv_var rfl) (ro_ixL hat)) gv_int (ro_ixT (ds := [.int sn, enc way]) (d := enc way) rfl)) fun B3 H3 x3 => ?_
  have h3 := h.ext x3
  refine qx_when (b := way.any fun st => heldN t.d st.p) (gt_test (gv_is (gv_cb (ga_cons (gv_lcM (xs := way) (fun st => heldN t.d st.p) (gv_var rfl) (by omega) (by decide) (by decide) fun st hm B4 H4 x4 => ?_) ga_nil) rc_any) (by rw [List.any_map]; rfl))) (fun hb B4 H4 x4 => ?_) fun hb B4 H4 x4 => ?_
  · exact gv_Lheld (h3.ext x4).rd I (W.so st hm).th (gv_var rfl) (gv_sp (gv_var rfl))
  · rw [if_pos hb] at q
    exact qx_ret gv_str fun u B5 H5 x5 hu => q u t.A B5 H5 (lnew_ext h ((x3.trans x4).trans x5)) hu
  rw [if_neg (by rw [hb]; simp)] at q
  have h4 := h3.ext x4
  have x04 := x3.trans x4
  refine qx_forD (xs := way) (gv_var rfl) (fun _ => [some (.v (.ref t.l)), some (AI r), some (.d (.list (way.map enc))), none, none])
    (fun n B1 H1 => ExtF (· ∈ ownL t.l t.A) B H B1 H1 ∧ LAt B1 H1 t.l t.A { t.d with lks := (layWay t.d.ps r (way.take n) (t.d.lks, t.d.pts)).1, pts := (layWay t.d.ps r (way.take n) (t.d.lks, t.d.pts)).2 }) (by walk_at "le") (fun B5 H5 x5 => ⟨(x04.trans x5).f, h4.ext x5⟩) ?_ ?_
  · intro Bs n st B5 H5 hn s1 s2 ⟨x5, h5⟩
    have hm : st ∈ way := List.mem_of_getElem? hn
    have hth2 := (W.so st hm).th
    have etake : layWay t.d.ps r (way.take (n + 1)) (t.d.lks, t.d.pts) = layOne t.d.ps r (layWay t.d.ps r (way.take n) (t.d.lks, t.d.pts)) st := by
      unfold layWay
      rw [List.take_add_one, hn, List.foldl_append]
      rfl
    obtain ⟨ll1, ll2⟩ := layWay_len (ps := t.d.ps) (r := r) (way.take n) (t.d.lks, t.d.pts)
    have ll1 : (layWay t.d.ps r (way.take n) (t.d.lks, t.d.pts)).1.length = t.d.ps.length := ll1.trans I.ll
    have ll2 : (layWay t.d.ps r (way.take n) (t.d.lks, t.d.pts)).2.length = t.d.ps.length := ll2.trans I.lp
    generalize layWay t.d.ps r (way.take n) (t.d.lks, t.d.pts) = S at h5 etake ll1 ll2
    obtain ⟨m, pc, em, hpc, hpat⟩ := there_at (xs := t.d.ps) (i := st.p) hth2
    have hml := (List.getElem?_eq_some_iff.mp hpc).1
    have em2 : st.p.toNat = m := by rw [em]; rfl
    have six : ∀ {Γ : List (Option AV)} {B H : Hp}, Γ[3]? = some (some (.d (enc st))) → Gv (tOp (rIxT K) (tVar 3) (tC (.int 0))) Γ B H (AI st.p) := fun hg => gv_sp (gv_var hg)
    have hix : ∀ {ds : List PyData}, ds.length = t.d.ps.length → ixN ds.length st.p = some m := fun hd => by unfold ixN; rw [em, if_pos (by omega), if_pos (by rw [hd]; omega)]; rfl
    refine qx_set (d := enc (some r : Option Int)) (k := st.p) (j := m) h5.hlks (gv_var rfl) (fun _ _ x => gl_locks (h5.ext x).rd (gv_var rfl)) (fun _ _ _ => six rfl) (hix (by rw [List.length_map]; exact ll1)) fun B6 H6 x6 m6 => ?_
    rw [← List.map_set] at m6
    have h6 := h5.setLks x6 m6
    have x06 := x5.trans (x6.mono (G := (· ∈ ownL t.l t.A)) fun z hz => by rw [hz]; simp [ownL])
    refine qx_asg (g := .d (enc pc)) (gv_op (gl_pieces h6.rd (gv_var rfl)) (six rfl) (ro_ixL hpat)) fun B7 H7 x7 => ?_
    have h7 := h6.ext x7
    have elie : pcAt t.d.ps st.p = pc := by unfold pcAt; rw [em2, hpc]; rfl
    have el1 : layOne t.d.ps r S st = (S.1.set m (some r), if lieFor pc [st.i, st.o] = .no then S.2 else S.2.set m (lieFor pc [st.i, st.o])) := by
      show (S.1.set st.p.toNat (some r), if lieFor (pcAt t.d.ps st.p) [st.i, st.o] = .no then S.2 else S.2.set st.p.toNat (lieFor (pcAt t.d.ps st.p) [st.i, st.o])) = _
      rw [elie, em2]
    rw [etake, el1]
    cases pc with
    | plain a c =>
      refine qx_no (b := false) (gt_is (b := decide ((Pc.plain a c).word = "points")) (gt_test (gv_op (gv_op (gv_var rfl) gv_int (ro_ixT (ds := [.str (Pc.plain a c).word, .int a, .int c]) rfl)) gv_str ro_eqS)) (word_pl' a c)) rfl fun B8 H8 x8 => sx_go ?_
      exact sx_lp (s2.trans (x6.bb.trans (x7.bb.trans x8.bb))) (by walk_at "le") ⟨x06.trans (x7.trans x8).f, h7.ext x8⟩
    | points a s2' b =>
      refine qx_yes (b := true) (gt_is (b := decide ((Pc.points a s2' b).word = "points")) (gt_test (gv_op (gv_op (gv_var rfl) gv_int (ro_ixT (ds := [.str (Pc.points a s2' b).word, .int a, .int s2', .int b]) rfl)) gv_str ro_eqS)) (word_pt' a s2' b)) rfl fun B8 H8 x8 => ?_
      have h8 := h7.ext x8
      have enl : lieFor (Pc.points a s2' b) [st.i, st.o] ≠ .no := by unfold lieFor; simp only; split <;> simp
      rw [if_neg enl]
      refine qx_set (d := enc (lieFor (Pc.points a s2' b) [st.i, st.o])) (k := st.p) (j := m) h8.hpts ?_ (fun _ _ x => gl_points (h8.ext x).rd (gv_var rfl)) (fun _ _ _ => six rfl) (hix (by rw [List.length_map]; exact ll2)) fun B9 H9 x9 m9 => ?_
      · refine gv_op (x := .d (.list [.str "branch", .str "straight"])) (y := AI (if decide (s2' ∈ [st.i, st.o]) = true then 1 else 0)) (gv_lst (ds := [.str "branch", .str "straight"]) (ga_cons gv_str (ga_cons gv_str ga_nil)) (by show 2 ≤ 16000000; decide)) (gv_cb (ga_cons (gv_op (y := .d (.tuple ([st.i, st.o].map enc))) (gv_op (gv_var rfl) gv_int (ro_ixT (ds := [.str (Pc.points a s2' b).word, .int a, .int s2', .int b]) rfl)) (gv_is (gv_slT (ds := [.int st.p, .int st.i, .int st.o]) (gv_var rfl) (go_some gv_int) go_none (fun h => absurd (show (1 : Nat) = 0 from h.1) (by decide))) rfl) ro_inTI) ga_nil) rc_intB) (ro_ixL ?_)
        unfold lieFor
        simp only
        by_cases z : s2' ∈ [st.i, st.o]
        · rw [if_pos z, decide_eq_true z]; rfl
        · rw [if_neg z, decide_eq_false z]; rfl
      · rw [← List.map_set] at m9
        have h9 := h8.setPts x9 m9
        have x9' := x9.mono (G := (· ∈ ownL t.l t.A)) fun z hz => by rw [hz]; simp [ownL]
        exact sx_go (sx_lp (s2.trans (x6.bb.trans (x7.bb.trans (x8.bb.trans x9.bb)))) (by walk_at "le") ⟨(x06.trans (x7.trans x8).f).trans x9', h9⟩)
  · intro B5 H5 s1 ⟨x5, h5⟩
    rw [List.take_length] at h5
    have hgl := I.grn_len
    refine qx_dput (κ := AS "green") (k := .inr "green") (g := .d (.list ((t.d.grn ++ [r]).map enc))) h5.ob (gv_is (gv_op (gl_green h5.rd (gv_var rfl)) (gv_lst (ds := [.int r]) (ga_cons (gv_var rfl) ga_nil) (by show 1 ≤ 16000000; decide)) (ro_cat (by show (t.d.grn.map enc).length + 1 ≤ _; rw [List.length_map]; omega))) (by rw [List.map_append]; rfl)) (fun _ _ _ => gv_var rfl) (fun _ _ _ => gv_str) kq_str (by show 10 < 16000000; decide) fun u B6 H6 x6 hu m6 => ?_
    have h6 := h5.setGrn x6 m6 hu
    have x06 := x5.trans (x6.mono (G := (· ∈ ownL t.l t.A)) fun z hz => by rw [hz]; simp [ownL])
    refine qx_ret gv_str fun u2 B7 H7 x7 hu2 => q u2 { t.A with vgr := u } B7 H7 ⟨x06.trans x7.f, ?_, fun a ha => .inl ha⟩ hu2
    have e7 : toD t.d (Except.ok (setOk t.d r)) = { t.d with lks := (layWay t.d.ps r way (t.d.lks, t.d.pts)).1, pts := (layWay t.d.ps r way (t.d.lks, t.d.pts)).2, grn := t.d.grn ++ [r] } := by
      show setOk t.d r = _
      unfold setOk
      rw [ew]
    rw [e7]
    exact h6.ext x7
end
end SB
namespace SB
open PySem PySem.Spec PyProof.Rows L2
open Enc (enc)
local macro_rules | `(tactic| walk_at "le") => `(tactic| first | exact le_nil | (refine le_keep ?_; walk_at "le") | (refine le_drop ?_; walk_at "le"))
local macro_rules | `(tactic| walk_at "sd") => `(tactic| first | assumption | (show (_ : Int) < _ ∧ _ < (1073741824 : Int); exact ⟨by omega, by omega⟩) | (show (-(2 ^ 64) < (_ : Int) ∧ _ < (2 ^ 64 : Int)) ∨ _; first | exact .inl ⟨by omega, by omega⟩ | exact .inr ⟨by omega, by omega⟩) | rfl | decide | (simp; done) | omega | skip)
local macro_rules | `(tactic| walk_at "gc") => `(tactic| fail)
local macro_rules | `(tactic| walk_at "gv") => `(tactic| first
  | exact gv_int | exact gv_str | exact gv_bl | exact gv_non | exact gv_var rfl
  | ((with_reducible refine' gv_op ?_ ?_ ?_) <;> walk_at "gv")
  | ((with_reducible refine' ga_cons ?_ ?_) <;> walk_at "gv") | exact ga_nil
  | ((with_reducible refine' gv_cb ?_ ?_) <;> walk_at "gv")
  | ((with_reducible refine' gt_test ?_) <;> walk_at "gv") | ((with_reducible refine' gt_B ?_) <;> walk_at "gv") | ((with_reducible refine' gt_not ?_) <;> walk_at "gv")
  | ((with_reducible refine' gt_and ?k1 ?k2); (case' k1 => walk_at "gv"); (case' k2 => intro hb; walk_at "gv"))
  | ((with_reducible refine' gt_or ?k1 ?k2); (case' k1 => walk_at "gv"); (case' k2 => intro hb; walk_at "gv"))
  | ((with_reducible refine' gv_andV ?k1 ?k2); (case' k1 => walk_at "gv"); (case' k2 => intro hb; walk_at "gv"))
  | ((with_reducible refine' gv_orV ?k1 ?k2); (case' k1 => walk_at "gv"); (case' k2 => intro hb; walk_at "gv"))
  | ((with_reducible refine' gv_notV ?_) <;> walk_at "gv")
  | ((with_reducible refine' gv_slL ?_ ?_ ?_) <;> walk_at "gv") | ((with_reducible refine' gv_slT ?_ ?_ ?_ ?_) <;> walk_at "gv")
  | exact go_none | ((with_reducible refine' go_some ?_) <;> walk_at "gv")
  | exact gd_nil | ((with_reducible refine' gd_cons ?_ ?_) <;> walk_at "gv") | ((with_reducible refine' gv_lst ?_ ?_) <;> walk_at "gv") | ((with_reducible refine' gv_tup ?_ ?_) <;> walk_at "gv")
  | ((with_reducible refine' gv_chain ?_ ?_ ?_ ?_ ?_) <;> walk_at "gv") | ((with_reducible refine' gt_truL ?_) <;> walk_at "gv") | ((with_reducible refine' gv_countI ?_ ?_) <;> walk_at "gv")
  | ((with_reducible refine' gv_lenSetI ?_ ?_) <;> walk_at "gv") | ((with_reducible refine' gv_lenSetU ?_ ?_) <;> walk_at "gv") | ((with_reducible refine' gv_lenSetT ?_ ?_) <;> walk_at "gv")
  | exact gt_yes
  | walk_at "gc"
  | exact ro_I0 | exact ro_B0 | (refine ro_I ?_; walk_at "sd")
  | exact ro_eqI | exact ro_neI | exact ro_eqS | exact ro_neS
  | (refine ro_eq ?_; walk_at "sd") | (refine ro_ne ?_; walk_at "sd")
  | exact ro_isN | exact ro_notN
  | exact ro_inI | exact ro_notInI | exact ro_inTI
  | (refine' ro_ixL ?k1; (case' k1 => walk_at "sd")) | (refine' ro_ixT ?k1; (case' k1 => walk_at "sd"))
  | (refine ro_cat ?_; walk_at "sd")
  | exact rc_lenM | exact rc_len | exact rc_lenT | exact rc_list | exact rc_listT | exact rc_tuple | exact rc_any | exact rc_all | exact rc_max2 | exact rc_min2 | exact rc_intB
  | (show (_ : Nat) ≤ _; first | decide | (simp; done) | omega)
  | (show (_ : Nat) < _; first | decide | (simp; done) | omega)
  | (show ¬ (_ ∧ _); exact fun h => absurd (show (1 : Nat) = 0 from h.1) (by decide))
  | skip)
local macro_rules | `(tactic| walk_at "ge") => `(tactic| (refine' gt_is ?k1 ?k2; (case' k1 => walk_at "gv"); (case' k2 => first | rfl | (simp; done) | skip)))
local macro_rules | `(tactic| walk_at "gw") => `(tactic| (refine' gv_is ?k1 ?k2; (case' k1 => walk_at "gv"); (case' k2 => first | rfl | (simp; done) | skip)))
local macro_rules | `(tactic| walk_at "gj") => `(tactic| first | exact gi_nil | (refine' gi_cons ?g1 ?g2; (case' g1 => walk_at "gv"); (case' g2 => walk_at "gj")))
local macro_rules | `(tactic| walk_at "gi") => `(tactic| (refine' gv_lst ?k1 ?k2; (case' k1 => walk_at "gj"); (case' k2 => (simp; try omega))))
local macro_rules | `(tactic| walk_at "gc") => `(tactic| first | ((with_reducible refine' gv_joints ?_) <;> walk_at "gv") | ((with_reducible refine' gv_beyond ?_ ?_ ?_ ?_) <;> walk_at "gv") | ((with_reducible refine' gv_outs ?_ ?_) <;> walk_at "gv") | ((with_reducible refine' gv_ends ?_ ?_ ?_ ?_ ?_) <;> walk_at "gv"))
/-! ### near, taken back, ticks, points -/
section
variable {C : Adr} {P : Program} {w : World} {K : PySem.W.Frag} {mg : Str → Option Value} {base : Heap} {fd : FuncData} {f : Addr}
/-- the trains, as near wants them -/
structure TInv (d : Wd) : Prop where
  st : Sta d.ps d.sg d.rts
  nnd : (d.trs.map (·.1)).Nodup
  len : d.trs.length ≤ 16
  ne : ∀ n t, (n, t) ∈ d.trs → t.steps ≠ [] ∧ (∀ x ∈ t.steps, StepOk d.ps x) ∧ t.steps.length + t.ahead.length ≤ 16
theorem Inv.ti {d : Wd} (I : Inv d) : TInv d := ⟨I.st, I.nnd, I.trs_len, fun n t h => ⟨(I.tok n t h).ne, fun x hx => (I.tok n t h).so x (path_steps hx), I.path_len' h⟩⟩
theorem TInv.at {d : Wd} (I : TInv d) {n : Int} {t : Trn} (h : (n, t) ∈ d.trs) : kAt d.trs n = some t := kAt_of I.nnd h
/-- near, as the law asks it -/
theorem near_eq {d : Wd} (I : TInv d) {n : Int} {t : Trn} (h : (n, t) ∈ d.trs) {j a : Int} (hs : (j, a) ∈ d.sg) {x : Stp} {r : List Stp} (ex : t.steps = x :: r) : nearT d.ps j a t = (decide (t.ahead = []) && (!t.out && (decide (x.o = j) && !decide (x.p = a)))) := by
  obtain ⟨a', pa, e1, e2, e3⟩ := I.st.sok _ hs
  have e1 : a = (a' : Int) := e1
  have e3 : j ∈ pa.js := e3
  obtain ⟨k, pc, f1, f2, f3, f4⟩ := (I.ne n t h).2.1 x (by rw [ex]; simp)
  unfold nearT
  rw [ex]
  simp only
  have z1 : t.ahead.isEmpty = decide (t.ahead = []) := by cases t.ahead <;> rfl
  rw [z1]
  congr 2
  by_cases q : x.o = j
  · rw [decide_eq_true q, Bool.true_and, Bool.true_and]
    by_cases z : x.p = a
    · rw [decide_eq_true z]
      refine decide_eq_false fun y => ?_
      cases hb : beyondN d.ps x.p j with
      | none => rw [hb] at y; cases y
      | some b =>
        rw [hb] at y
        cases y
        exact (beyond_spec hb).1 z.symm
    · rw [decide_eq_false z]
      refine decide_eq_true ?_
      have : beyondN d.ps x.p j = some a' := by
        rw [f1]
        exact I.st.uni k a' pc pa j f2 e2 (fun y => z (by rw [f1, e1, y])) (q ▸ outs_js f4) e3
      rw [this, e1]
      rfl
  · rw [decide_eq_false q, Bool.false_and, Bool.false_and]
theorem LTr.extF {F : Addr → Prop} {B H B' H' : Hp} {l : Addr} {A : LAd} {d : Wd} (h : LTr B H l A d) (x : ExtF F B H B' H') (n1 : ¬ F l) (n2 : ¬ F A.trn) : LTr B' H' l A d := by
  obtain ⟨kvt, t1, t2, t3⟩ := h.htrn
  have r : ∀ {a : Addr} {u : HO}, Rd H a u → ¬ F a → Rd H' a u := fun h n => by
    rcases h with h | ⟨o, h⟩
    · exact .inl (x.hh _ _ h n)
    · exact .inr ⟨o, x.hh _ _ h n⟩
  have ne : ∀ {a : Addr} {u : HO}, Rd H a u → H a ≠ none := fun h => by rcases h with h | ⟨_, h⟩ <;> rw [h] <;> simp
  exact ⟨r h.ob n1, x.off h.bo (ne h.ob), ⟨kvt, x.off t1 (ne t2), r t2 n2, t3.mono x.bb⟩⟩
theorem rd_ne {H : Hp} {a : Addr} {u : HO} (h : Rd H a u) : H a ≠ none := by rcases h with h | ⟨_, h⟩ <;> rw [h] <;> simp
def spLnear : Sp := spP (T := LArg × Int) (fun t => [.v (.ref t.1.l), AI t.2]) (fun t B H => LRd B H t.1.l t.1.A t.1.d ∧ TInv t.1.d ∧ there t.1.d.sg.length t.2 = true) fun t => .d (.list ((nearN t.1.d t.2).map enc))
theorem ok_Lnear (T : Txt K mg C) (F : Fun K "_law_near" "_law_near" s__law_near f fd) : FnOk P w K mg base CX0 1 f fd ["_law_world", "_law_signal"] spLnear := by
  refine fn_P F sc__law_near (fun _ => rfl) fun cdv A outer s H Q E hr => ⟨_, pss_cons (ps_asg (pe_ix (ix_listK (K := K) rfl) (pe_dget (hu_of hr) (pv 0) (pe_str) (fun _ _ => rfl)) (pv 1) (fun _ _ => rfl)) (pg_tupK (K := K) rfl rfl (pgs_cons (pg_name (i := 2) sc__law_near.nd rfl (by first | exact Or.inl rfl | exact Or.inr rfl)) (pgs_cons (pg_name (i := 3) sc__law_near.nd rfl (by first | exact Or.inl rfl | exact Or.inr rfl)) (pgs_nil)))))
  (pss_cons (ps_set (i := 4) sc__law_near.nd rfl (by first | exact Or.inl rfl | exact Or.inr rfl) (pe_lst (pa_nil)))
  (pss_cons (ps_lock (ps_for PassesOwn.never rfl (pi_keys (pe_dget (hu_of hr) (pv 0) (pe_str) (fun _ _ => rfl))) (pg_name (i := 5) sc__law_near.nd rfl (by first | exact Or.inl rfl | exact Or.inr rfl)) (pss_cons (ps_set (i := 6) sc__law_near.nd rfl (by first | exact Or.inl rfl | exact Or.inr rfl) (pe_dget (hu_of hr) (pe_dget (hu_of hr) (pv 0) (pe_str) (fun _ _ => rfl)) (pv 5) (fun _ _ => rfl)))
  (pss_cons (ps_set (i := 7) sc__law_near.nd rfl (by first | exact Or.inl rfl | exact Or.inr rfl) (pe_ix (ix_listK (K := K) rfl) (pe_ix (ix_listK (K := K) rfl) (pv 6) (pe_int) (fun _ _ => rfl)) (pe_int) (fun _ _ => rfl)))
  (pss_cons (ps_if (PW.pt (pw_and (pt_cmpR (op_eqDK (K := K) rfl hr.units) (pe_ix (ix_listK (K := K) rfl) (pv 6) (pe_int) (fun _ _ => rfl)) (pe_lst (pa_nil)) (nomark _)) (pw_and (pt_not (pt_val (pe_ix (ix_listK (K := K) rfl) (pv 6) (pe_int) (fun _ _ => rfl)))) (pw_and (pt_cmpR op_eq (pe_ix (ix_tupK (K := K) rfl) (pv 7) (pe_int) (fun _ _ => rfl)) (pv 2) (nomark _)) (pw_and1 (pt_cmpR op_ne (pe_ix (ix_tupK (K := K) rfl) (pv 7) (pe_int) (fun _ _ => rfl)) (pv 3) (nomark _))))))) (pss_cons (ps_expr (pe_bmK (K := K) rfl PySem.F.plainAttrs_list PySem.F.slot_list_append PySem.F.type_list_append mt_append (pv 4) (pa_cons (pv 5) (pa_nil))))
  (pss_nil)) (pss_nil))
  (pss_nil))))))
  (pss_cons (ps_ret (pv 4))
  (pss_nil)))), fun ⟨t, i⟩ B e hpre q => ?_⟩
  obtain ⟨h, I, hth⟩ := hpre
  have h : LRd B H t.l t.A t.d := h
  have I : TInv t.d := I
  have hth : there t.d.sg.length i = true := hth
  have q : ∀ u B2 H2, Ext B H B2 H2 → Is B2 u (.d (.list ((nearN t.d i).map enc))) → Q u H2 := q
  obtain ⟨k, ⟨j, a⟩, hk, ho, hat⟩ := there_at (xs := t.d.sg) (i := i) hth
  have en : nearN t.d i = (t.d.trs.filter fun p => nearT t.d.ps j a p.2).map (·.1) := by unfold nearN; rw [hk, Int.toNat_natCast, ho]; rfl
  rw [en] at q
  have nf := I.len
  refine qx_asg2 (d1 := .int j) (d2 := .int a) (gv_op (gl_signals h (gv_var rfl)) (gv_var rfl) (ro_ixL hat)) fun B2 H2 x2 => ?_
  refine qx_newL (ds := []) ga_nil (by decide) fun pf B3 H3 hpf x3 m3 => ?_
  have x03 := x2.trans x3
  have hpf0 : H pf = none := x2.hh.free hpf
  have h3 := h.ext x03
  obtain ⟨lq, lw, hL, mu, hqb, hlk⟩ := h.lockT
  have hL3 := x03.hh _ _ hL
  have hqb3 : B3 lq = none := x03.off hqb (by rw [hL]; simp)
  have npq : lq ≠ pf := fun z => by rw [z, hpf0] at hL; cases hL
  have npl : t.l ≠ pf := fun z => rd_ne h.ob (by rw [z, hpf0])
  have npt : t.A.trn ≠ pf := fun z => by obtain ⟨_, _, h2, _⟩ := h.htrn; exact rd_ne h2 (by rw [z, hpf0])
  have hlk3 : ∀ od, LTr B3 (upd H3 lq (.frz od lw)) t.l t.A t.d ∧ ∃ o kvs, (upd H3 lq (.frz od lw)) t.A.trn = some (.frz o (.dK kvs)) ∧ Kd ltD B3 kvs t.d.trs ∧ B3 t.A.trn = none := fun od => by
    obtain ⟨a1, o, kvs, a2, a3, a4⟩ := hlk od
    have xl := x03.lock (z := .frz od lw) hqb (by rw [hL]; simp)
    exact ⟨a1.ext xl, o, kvs, xl.hh _ _ a2, a3.mono x03.bb, xl.off a4 (by rw [a2]; simp)⟩
  obtain ⟨kvs, hkk⟩ : ∃ kvs : List (Key × V), kvs.map (·.1) = (t.d.trs.map (·.1)).map (Sum.inl : Int → Key) ∧ ∀ od, ∃ o, (upd H3 lq (.frz od lw)) t.A.trn = some (.frz o (.dK kvs)) := by
    obtain ⟨kvs, t1, t2, t3⟩ := h3.htrn
    refine ⟨kvs, t3.keys, fun od => ?_⟩
    obtain ⟨_, o, kvs2, a2, a3, _⟩ := hlk3 od
    have := a3.keys
    by_cases z : t.A.trn = lq
    · rw [← z, upd_same] at a2
      rw [← z, upd_same]
      cases a2
      rcases t2 with t2 | ⟨o', t2⟩
      · rw [z, hL3] at t2; cases t2; exact ⟨od, rfl⟩
      · rw [z, hL3] at t2
        cases t2
    · rw [upd_ne z] at a2 ⊢
      rcases t2 with t2 | ⟨o', t2⟩
      · rw [a2] at t2; cases t2
      · exact ⟨o', t2⟩
  obtain ⟨hkeys, hfr⟩ := hkk
  refine qx_forL (ι := Unit) (q := lq) (p := t.A.trn) (ks := t.d.trs.map (·.1)) hL3 mu hqb3 hkeys (fun od => gl_trains (hlk3 od).1 (gv_var rfl))
    (fun _ => [some (.v (.ref t.l)), some (AI i), some (AI j), some (AI a), some (.v (.ref pf)), none, none, none])
    (fun od n _ B1 H1 => ExtF (· = pf) B3 (upd H3 lq (.frz od lw)) B1 H1 ∧ Ml B1 H1 pf ((((t.d.trs.take n).filter fun p => nearT t.d.ps j a p.2).map (·.1)).map enc)) () (by walk_at "le")
    (fun od B1 H1 x => ⟨x.f, ?_⟩) (fun od n _ B1 H1 ⟨x, _⟩ => ⟨?_, x.hh _ _ upd_same npq, x.off hqb3 (by rw [upd_same]; simp)⟩) (fun od => ?_) ?_ ?_
  · obtain ⟨b3, us, e3, t3⟩ := m3
    exact Ml.ext (H := upd H3 lq (.frz od lw)) ⟨b3, us, by rw [upd_ne (Ne.symm npq)]; exact e3, t3⟩ x
  · obtain ⟨o, ho2⟩ := hfr od
    exact ⟨o, x.hh _ _ ho2 npt⟩
  · obtain ⟨o, ho2⟩ := hfr od
    exact ⟨o, fun n _ B1 H1 ⟨x, _⟩ => x.hh _ _ ho2 npt⟩
  · intro od Bs n n0 _ B4 H4 hk2 s1 s2 ⟨x4, m4⟩
    rw [List.getElem?_map] at hk2
    cases hk3 : t.d.trs[n]? with
    | none => rw [hk3] at hk2; cases hk2
    | some nt2 =>
      obtain ⟨nm, tr⟩ := nt2
      rw [hk3] at hk2
      cases hk2
      have hmem := List.mem_of_getElem? hk3
      have hT4 := (hlk3 od).1.extF x4 npl npt
      have htake : (((t.d.trs.take (n + 1)).filter fun p => nearT t.d.ps j a p.2).map (·.1)) = (((t.d.trs.take n).filter fun p => nearT t.d.ps j a p.2).map (·.1)) ++ if nearT t.d.ps j a tr = true then [nm] else [] := by
        rw [List.take_add_one, hk3, List.filter_append, List.map_append]
        congr 1
        cases hn2 : nearT t.d.ps j a tr <;> simp [List.filter_cons, hn2]
      obtain ⟨st0, rest, ests⟩ : ∃ st0 rest, tr.steps = st0 :: rest := by
        cases hst : tr.steps with
        | nil => exact absurd hst (I.ne nm tr hmem).1
        | cons a b => exact ⟨a, b, rfl⟩
      have enr := near_eq I hmem (List.mem_of_getElem? ho) ests
      refine qx_asg (g := .d (trD tr)) (gl_train hT4 (gv_var rfl) (gv_var rfl) (I.at hmem)) fun B5 H5 x5 => ?_
      refine qx_asg (g := .d (enc st0)) (gv_op (gv_tsteps (gv_var rfl)) gv_int (ro_ixL (atI_map (xs := tr.steps) (k := 0) (by rw [ests]; rfl)))) fun B6 H6 x6 => ?_
      have x46 := x5.trans x6
      refine qx_when (b := nearT t.d.ps j a tr) (gt_is (gt_and (gt_test (gv_op (x := .d (enc tr.ahead)) (y := .d (enc ([] : List Stp))) (gv_tahead (gv_var rfl)) (gv_lst (ds := []) ga_nil (by decide)) (ro_eqE (by decide)))) fun _ => gt_and (gt_not (gt_B (gv_tout (gv_var rfl)))) fun _ => gt_and (gt_test (gv_op (gv_so (gv_var rfl)) (gv_var rfl) ro_eqI)) fun _ => gt_test (gv_op (gv_sp (gv_var rfl)) (gv_var rfl) ro_neI)) enr.symm) (fun hb B7 H7 x7 => ?_) fun hb B7 H7 x7 => ?_
      · refine qx_app (d := .int nm) ((m4.ext x46).ext x7) (gv_var rfl) (gv_var rfl) (by
          have h1 := List.length_filter_le (fun p => nearT t.d.ps j a p.2) (t.d.trs.take n)
          have h2 : (t.d.trs.take n).length ≤ t.d.trs.length := by rw [List.length_take]; omega
          rw [List.length_map, List.length_map]
          omega) fun B8 H8 x8 m8 => sx_go ?_
        refine sx_lx () (s2.trans (x46.bb.trans (x7.bb.trans x8.bb))) (by walk_at "le") ⟨(x4.trans (x46.trans x7).f).trans x8, ?_⟩
        rw [htake, if_pos hb, List.map_append]
        exact m8
      · refine sx_lx () (s2.trans (x46.bb.trans x7.bb)) (by walk_at "le") ⟨x4.trans (x46.trans x7).f, ?_⟩
        rw [htake, if_neg (by rw [hb]; simp), List.append_nil]
        exact (m4.ext x46).ext x7
  · intro od _ B4 H4 s1 ⟨x4, m4⟩
    rw [List.length_map, List.take_length] at m4
    have xl : Ext B (upd H lq (.frz od lw)) B4 H4 := (x03.lock hqb (by rw [hL]; simp)).thenF x4 fun z hz => by rw [hz, upd_ne (Ne.symm npq)]; exact hpf0
    have xu := xl.unlock hqb hL
    obtain ⟨b4, us, e4, t4⟩ := m4
    exact qx_retM xu hpf0 ⟨b4, us, by rw [upd_ne (Ne.symm npq)]; exact e4, t4⟩ (gv_var rfl) fun u B5 H5 x5 hu => q u B5 H5 x5 hu
end
end SB
namespace SB
open PySem PySem.Spec PyProof.Rows L2
open Enc (enc)
local macro_rules | `(tactic| walk_at "le") => `(tactic| first | exact le_nil | (refine le_keep ?_; walk_at "le") | (refine le_drop ?_; walk_at "le"))
local macro_rules | `(tactic| walk_at "sd") => `(tactic| first | assumption | (show (_ : Int) < _ ∧ _ < (1073741824 : Int); exact ⟨by omega, by omega⟩) | (show (-(2 ^ 64) < (_ : Int) ∧ _ < (2 ^ 64 : Int)) ∨ _; first | exact .inl ⟨by omega, by omega⟩ | exact .inr ⟨by omega, by omega⟩) | rfl | decide | (simp; done) | omega | skip)
local macro_rules | `(tactic| walk_at "gc") => `(tactic| fail)
local macro_rules | `(tactic| walk_at "gv") => `(tactic| first
  | exact gv_int | exact gv_str | exact gv_bl | exact gv_non | exact gv_var rfl
  | ((with_reducible refine' gv_op ?_ ?_ ?_) <;> walk_at "gv")
  | ((with_reducible refine' ga_cons ?_ ?_) <;> walk_at "gv") | exact ga_nil
  | ((with_reducible refine' gv_cb ?_ ?_) <;> walk_at "gv")
  | ((with_reducible refine' gt_test ?_) <;> walk_at "gv") | ((with_reducible refine' gt_B ?_) <;> walk_at "gv") | ((with_reducible refine' gt_not ?_) <;> walk_at "gv")
  | ((with_reducible refine' gt_and ?k1 ?k2); (case' k1 => walk_at "gv"); (case' k2 => intro hb; walk_at "gv"))
  | ((with_reducible refine' gt_or ?k1 ?k2); (case' k1 => walk_at "gv"); (case' k2 => intro hb; walk_at "gv"))
  | ((with_reducible refine' gv_andV ?k1 ?k2); (case' k1 => walk_at "gv"); (case' k2 => intro hb; walk_at "gv"))
  | ((with_reducible refine' gv_orV ?k1 ?k2); (case' k1 => walk_at "gv"); (case' k2 => intro hb; walk_at "gv"))
  | ((with_reducible refine' gv_notV ?_) <;> walk_at "gv")
  | ((with_reducible refine' gv_slL ?_ ?_ ?_) <;> walk_at "gv") | ((with_reducible refine' gv_slT ?_ ?_ ?_ ?_) <;> walk_at "gv")
  | exact go_none | ((with_reducible refine' go_some ?_) <;> walk_at "gv")
  | exact gd_nil | ((with_reducible refine' gd_cons ?_ ?_) <;> walk_at "gv") | ((with_reducible refine' gv_lst ?_ ?_) <;> walk_at "gv") | ((with_reducible refine' gv_tup ?_ ?_) <;> walk_at "gv")
  | ((with_reducible refine' gv_chain ?_ ?_ ?_ ?_ ?_) <;> walk_at "gv") | ((with_reducible refine' gt_truL ?_) <;> walk_at "gv") | ((with_reducible refine' gv_countI ?_ ?_) <;> walk_at "gv")
  | ((with_reducible refine' gv_lenSetI ?_ ?_) <;> walk_at "gv") | ((with_reducible refine' gv_lenSetU ?_ ?_) <;> walk_at "gv") | ((with_reducible refine' gv_lenSetT ?_ ?_) <;> walk_at "gv")
  | exact gt_yes
  | walk_at "gc"
  | exact ro_I0 | exact ro_B0 | (refine ro_I ?_; walk_at "sd")
  | exact ro_eqI | exact ro_neI | exact ro_eqS | exact ro_neS
  | (refine ro_eq ?_; walk_at "sd") | (refine ro_ne ?_; walk_at "sd")
  | exact ro_isN | exact ro_notN
  | exact ro_inI | exact ro_notInI | exact ro_inTI
  | (refine' ro_ixL ?k1; (case' k1 => walk_at "sd")) | (refine' ro_ixT ?k1; (case' k1 => walk_at "sd"))
  | (refine ro_cat ?_; walk_at "sd")
  | exact rc_lenM | exact rc_len | exact rc_lenT | exact rc_list | exact rc_listT | exact rc_tuple | exact rc_any | exact rc_all | exact rc_max2 | exact rc_min2 | exact rc_intB
  | (show (_ : Nat) ≤ _; first | decide | (simp; done) | omega)
  | (show (_ : Nat) < _; first | decide | (simp; done) | omega)
  | (show ¬ (_ ∧ _); exact fun h => absurd (show (1 : Nat) = 0 from h.1) (by decide))
  | skip)
local macro_rules | `(tactic| walk_at "ge") => `(tactic| (refine' gt_is ?k1 ?k2; (case' k1 => walk_at "gv"); (case' k2 => first | rfl | (simp; done) | skip)))
local macro_rules | `(tactic| walk_at "gw") => `(tactic| (refine' gv_is ?k1 ?k2; (case' k1 => walk_at "gv"); (case' k2 => first | rfl | (simp; done) | skip)))
local macro_rules | `(tactic| walk_at "gj") => `(tactic| first | exact gi_nil | (refine' gi_cons ?g1 ?g2; (case' g1 => walk_at "gv"); (case' g2 => walk_at "gj")))
local macro_rules | `(tactic| walk_at "gi") => `(tactic| (refine' gv_lst ?k1 ?k2; (case' k1 => walk_at "gj"); (case' k2 => (simp; try omega))))
local macro_rules | `(tactic| walk_at "gc") => `(tactic| first | ((with_reducible refine' gv_joints ?_) <;> walk_at "gv") | ((with_reducible refine' gv_beyond ?_ ?_ ?_ ?_) <;> walk_at "gv") | ((with_reducible refine' gv_outs ?_ ?_) <;> walk_at "gv") | ((with_reducible refine' gv_ends ?_ ?_ ?_ ?_ ?_) <;> walk_at "gv"))
/-! ### taken back, ticks, points -/
section
variable {C : Adr} {P : Program} {w : World} {K : PySem.W.Frag} {mg : Str → Option Value} {base : Heap} {fd : FuncData} {f : Addr}
theorem gv_Lnear {Γ : List (Option AV)} {B H : Hp} {t : LArg} {ta tb : TE} {E : XK} {s : Int} (h : LRd B H t.l t.A t.d) (I : TInv t.d) (hs : there t.d.sg.length s = true) (ha : Gv ta Γ B H (.v (.ref t.l))) (hb : Gv tb Γ B H (AI s)) :
    Gv (tCall spLnear [] E (tCons ta (tCons tb tNil))) Γ B H (.d (.list ((nearN t.d s).map enc))) := gv_call (t, s) (ga_cons ha (ga_cons hb ga_nil)) fun _ _ x => ⟨h.ext x, I, hs⟩
def spLcancel : Sp := spLw (T := LArg × Int) (fun t => [.v (.ref t.1.l), AI t.2]) (·.1) (fun t => there t.1.d.rts.length t.2 = true) (fun t => AS (wdE (cancelE t.1.d t.2))) fun t => toD t.1.d (cancelE t.1.d t.2)
theorem ok_Lcancel (T : Txt K mg C) (F : Fun K "_law_cancel" "_law_cancel" s__law_cancel f fd) (c__law_near : Cal P w K mg base CX0 1 "_law_near" spLnear) (c__law_beyond : Cal P w K mg base CX0 1 "_law_beyond" spBeyond) (c__law_free : Cal P w K mg base CX0 1 "_law_free" spLfree) :
    FnOk P w K mg base CX0 2 f fd ["_law_world", "_law_route"] spLcancel := by
  refine fn_Lw F sc__law_cancel (fun _ => rfl) fun cdv A outer s H Q E hr => ⟨_, pss_cons (ps_if (pt_cmpR (op_notInK (K := K) rfl) (pv 1) (pe_dget (hu_of hr) (pv 0) (pe_str) (fun _ _ => rfl)) (by rfl)) (pss_cons (ps_ret (pe_str))
  (pss_nil)) (pss_nil))
  (pss_cons (ps_dput (hu_of hr) (pv 0) (pe_str) (pe_lc (own := [("_law_one", 6)]) (g := gName 6) (by rfl) sc__law_cancel.nd (pi_listK (K := K) rfl (pe_dget (hu_of hr) (pv 0) (pe_str) (fun _ _ => rfl))) (blkOk_by (own := [("_law_one", 6)]) (N := N__law_cancel) (sc := defScope s__law_cancel) (by decide +kernel)) (fun _ _ _ _ _ => pg_name (i := 6) sc__law_cancel.nd rfl (Or.inl rfl)) (fun _ _ _ _ _ => pts_one (pt_cmpR op_ne (pv 6) (pv 1) (nomark _))) (fun _ _ _ _ _ => pv 6)) rfl)
  (pss_cons (ps_asg (pe_ix (ix_listK (K := K) rfl) (pe_dget (hu_of hr) (pv 0) (pe_str) (fun _ _ => rfl)) (pe_ix (ix_tupK (K := K) rfl) (pe_ix (ix_listK (K := K) rfl) (pe_dget (hu_of hr) (pv 0) (pe_str) (fun _ _ => rfl)) (pv 1) (fun _ _ => rfl)) (pe_int) (fun _ _ => rfl)) (fun _ _ => rfl)) (pg_tupK (K := K) rfl rfl (pgs_cons (pg_name (i := 2) sc__law_cancel.nd rfl (by first | exact Or.inl rfl | exact Or.inr rfl)) (pgs_cons (pg_name (i := 3) sc__law_cancel.nd rfl (by first | exact Or.inl rfl | exact Or.inr rfl)) (pgs_nil)))))
  (pss_cons (ps_set (i := 4) sc__law_cancel.nd rfl (by first | exact Or.inl rfl | exact Or.inr rfl) (pe_cal c__law_near hr (by first | decide | omega) rfl passN (pa_cons (pv 0) (pa_cons (pe_ix (ix_tupK (K := K) rfl) (pe_ix (ix_listK (K := K) rfl) (pe_dget (hu_of hr) (pv 0) (pe_str) (fun _ _ => rfl)) (pv 1) (fun _ _ => rfl)) (pe_int) (fun _ _ => rfl)) (pa_nil)))))
  (pss_cons (ps_set (i := 5) sc__law_cancel.nd rfl (by first | exact Or.inl rfl | exact Or.inr rfl) (pe_cmpR op_isN (pe_cal c__law_beyond hr (by first | decide | omega) rfl passN (pa_cons (pe_dget (hu_of hr) (pv 0) (pe_str) (fun _ _ => rfl)) (pa_cons (pv 3) (pa_cons (pv 2) (pa_nil))))) (pe_non) (nomark _)))
  (pss_cons (ps_if (PW.pt (pw_and (pt_cmpR op_gt (pe_dget (hu_of hr) (pv 0) (pe_str) (fun _ _ => rfl)) (pe_int) (nomark _)) (pw_and1 (PW.pt (pw_or (pt_truthK (K := K) rfl (pv 4) (by intro _; rfl)) (pw_or1 (pt_val (pv 5)))))))) (pss_cons (ps_dput (hu_of hr) (pe_dget (hu_of hr) (pv 0) (pe_str) (fun _ _ => rfl)) (pv 1) (pe_tup (pa_cons (pe_op op_add (pe_dget (hu_of hr) (pv 0) (pe_str) (fun _ _ => rfl)) (pe_dget (hu_of hr) (pv 0) (pe_str) (fun _ _ => rfl))) (pa_cons (pv 4) (pa_cons (pv 5) (pa_nil))))) rfl)
  (pss_nil)) (pss_cons (ps_expr (pe_cal c__law_free hr (by first | decide | omega) rfl passN (pa_cons (pv 0) (pa_cons (pv 1) (pa_nil)))))
  (pss_nil)))
  (pss_cons (ps_ret (pe_str))
  (pss_nil))))))), fun ⟨t, r⟩ B e h I hth q => ?_⟩
  have h : LAt B H t.l t.A t.d := h
  have I : Inv t.d := I
  have hth : there t.d.rts.length r = true := hth
  have q : ∀ u A' B2 H2, LNew B H B2 H2 t.l t.A A' (toD t.d (cancelE t.d r)) → Is B2 u (AS (wdE (cancelE t.d r))) → Q u H2 := q
  unfold cancelE at q
  rw [hth, Bool.true_and] at q
  have hgl := I.grn_len
  have ft := I.fit
  refine qx_when (b := !decide (r ∈ t.d.grn)) (gt_test (gv_op (gv_var rfl) (gl_green h.rd (gv_var rfl)) ro_notInI)) (fun hb B3 H3 x3 => ?_) fun hb B3 H3 x3 => ?_
  · rw [if_neg (by simpa using hb)] at q
    exact qx_ret gv_str fun u B5 H5 x5 hu => q u t.A B5 H5 (lnew_ext h (x3.trans x5)) hu
  have hin : r ∈ t.d.grn := by simpa using hb
  rw [if_pos (by simpa using hin)] at q
  have h3 := h.ext x3
  have efl : t.d.grn.filter (fun z => !decide (z = r)) = t.d.grn.erase r := by
    rw [I.gnd.erase_eq_filter]
    refine List.filter_congr fun z _ => ?_
    rw [bne, Bool.not_inj_iff, Bool.eq_iff_iff]
    simp
  refine qx_dput (κ := AS "green") (k := .inr "green") (g := .d (.list ((t.d.grn.erase r).map enc))) h3.ob ?_ (fun _ _ _ => gv_var rfl) (fun _ _ _ => gv_str) kq_str (by show 10 < 16000000; decide) fun u B4 H4 x4 hu m4 => ?_
  · have hlc : ∀ {te : TE} {tt : TT}, (∀ a ∈ t.d.grn, ∀ B1 H1, Ext B3 H3 B1 H1 → Gt tt ((Ow (Γ0 N__law_cancel [.v (.ref t.l), AI r]) [6]).set 6 (some (AI a))) B1 H1 (!decide (a = r))) → (∀ a ∈ t.d.grn, ∀ B1 H1, Ext B3 H3 B1 H1 → Gv te ((Ow (Γ0 N__law_cancel [.v (.ref t.l), AI r]) [6]).set 6 (some (AI a))) B1 H1 (AI a)) →
        Gv (tLc (iList K (tDGet (tVar 0) (tC (.str "green")))) (gName 6) tt te [6]) (Γ0 N__law_cancel [.v (.ref t.l), AI r]) B3 H3 (.d (.list ((t.d.grn.erase r).map enc))) := fun h1 h2 => by
      have := gv_lcL (K := K) (α := Int) (β := Int) (j := 6) (vs := [6]) (xs := t.d.grn) (gl_green h3.rd (gv_var (Γ := Γ0 N__law_cancel [.v (.ref t.l), AI r]) (i := 0) rfl)) (by omega) (by decide) (by decide) (fun z => !decide (z = r)) id h1 fun a ha _ => h2 a ha
      rw [List.map_id, efl] at this
      exact this
    refine hlc (fun a ha B1 H1 x => ?_) fun a ha B1 H1 x => ?_
    · exact gt_test (gv_op (gv_var rfl) (gv_var rfl) ro_neI)
    · exact gv_var rfl
  have h4 := h3.setGrn x4 m4 hu
  have x04 := x3.f.trans (x4.mono (G := (· ∈ ownL t.l t.A)) fun z hz => by rw [hz]; simp [ownL])
  obtain ⟨k, ⟨sn, way⟩, hk, ho, hat⟩ := there_at (xs := t.d.rts) (i := r) hth
  have es : sigOf t.d r = sn := by unfold sigOf; rw [hk, Int.toNat_natCast, ho]; rfl
  have hsg : there t.d.sg.length sn = true := es ▸ I.sig hth
  obtain ⟨m, ⟨j, a⟩, hmm, hso, hsat⟩ := there_at (xs := t.d.sg) (i := sn) hsg
  have esa : sigAt t.d sn = (j, a) := by unfold sigAt; rw [hmm, Int.toNat_natCast, hso]; rfl
  have eb : bord t.d sn = (beyondN t.d.ps a j).isNone := by unfold bord; rw [esa]
  have np : t.d.ps.length ≤ 100 := by have := ft.np; omega
  have TI : TInv { t.d with grn := t.d.grn.erase r } := ⟨I.st, I.nnd, I.trs_len, I.ti.ne⟩
  have rt : ∀ {Γ : List (Option AV)} {B H : Hp} {A : LAd} {d2 : Wd}, LRd B H t.l A d2 → d2.rts = t.d.rts → Γ[0]? = some (some (.v (.ref t.l))) → Γ[1]? = some (some (AI r)) → Gv (tOp (rIxT K) (tOp (rIxL K) (tDGet (tVar 0) (tC (.str "routes"))) (tVar 1)) (tC (.int 0))) Γ B H (AI sn) := fun hh e1 g0 g1 =>
    gv_op (x := .d (enc (sn, way))) (gv_op (gl_routes hh (gv_var g0)) (gv_var g1) (ro_ixL (by rw [e1]; exact hat))) gv_int (ro_ixT (ds := [.int sn, enc way]) rfl)
  refine qx_asg2 (d1 := .int j) (d2 := .int a) (gv_op (gl_signals h4.rd (gv_var rfl)) (rt h4.rd rfl rfl rfl) (ro_ixL hsat)) fun B5 H5 x5 => ?_
  have h5 := h4.ext x5
  refine qx_asg (g := .d (.list ((nearN t.d sn).map enc))) (gv_is (gv_Lnear (t := ⟨t.l, { t.A with vgr := u }, { t.d with grn := t.d.grn.erase r }⟩) h5.rd TI hsg (gv_var rfl) (rt h5.rd rfl rfl rfl)) rfl) fun B6 H6 x6 => ?_
  have h6 := h5.ext x6
  refine qx_asg (g := AB (bord t.d sn)) (gv_is (gv_op (gv_beyond (gl_pieces h6.rd (gv_var rfl)) (gv_var rfl) (gv_var rfl) np) gv_non ro_isN) (by rw [eb]; cases beyondN t.d.ps a j <;> rfl)) fun B7 H7 x7 => ?_
  have h7 := h6.ext x7
  have x07 := x04.trans ((x5.trans x6).trans x7).f
  have enr : (!((nearN t.d sn).map (enc (α := Int))).isEmpty) = !(nearN t.d sn).isEmpty := by rw [List.isEmpty_map]
  unfold cancelOk at q
  rw [es] at q
  refine qx_if (b := decide (0 < t.d.wait) && (!(nearN t.d sn).isEmpty || bord t.d sn)) (gt_and (gt_test (gv_op (gl_wait h7.rd (gv_var rfl)) gv_int ro_B0)) fun _ => gt_or (gt_is (gt_truL (gv_var rfl)) enr) fun _ => gt_B (gv_var rfl)) (fun hb2 B8 H8 x8 => ?_) fun hb2 B8 H8 x8 => ?_
  · rw [if_pos hb2] at q
    have h8 := h7.ext x8
    obtain ⟨kvs, hm, hF⟩ := h8.hfal
    have hl : kvs.length < 16000000 := by rw [hF.length]; have := I.fal_len; show t.d.fal.length < _; omega
    refine qx_dput (κ := AI r) (k := .inl r) (g := .d (.tuple [.int (t.d.now + t.d.wait), .list ((nearN t.d sn).map enc), .bool (bord t.d sn)])) hm (gv_tup (ga_cons (gv_op (gl_now h8.rd (gv_var rfl)) (gl_wait h8.rd (gv_var rfl)) ro_I0) (ga_cons (gv_var rfl) (ga_cons (gv_var rfl) ga_nil))) (by show 3 ≤ 16000000; decide)) (fun _ _ x => gl_falls (h8.ext x).rd (gv_var rfl)) (fun _ _ _ => gv_var rfl) kq_int hl fun u2 B9 H9 x9 hu9 m9 => ?_
    have hK := Kd.put (e := lfD t.d) r (v := (t.d.now + t.d.wait, nearN t.d sn)) (u := u2) (by unfold lfD; rw [es]; exact hu9) (hF.mono x9.bb)
    have h9 := h8.setFal x9 m9 hK
    have x09 := (x07.trans x8.f).trans (x9.mono (G := (· ∈ ownL t.l t.A)) fun z hz => by rw [hz]; simp [ownL])
    exact sx_go (qx_ret gv_str fun u3 B10 H10 x10 hu3 => q u3 _ B10 H10 ⟨x09.trans x10.f, h9.ext x10, fun a ha => .inl ha⟩ hu3)
  · rw [if_neg (by rw [hb2]; simp)] at q
    have h8 := h7.ext x8
    refine qx_dropG (gw_Lfree (t := ⟨t.l, { t.A with vgr := u }, { t.d with grn := t.d.grn.erase r }⟩) h8 (by show t.d.lks.length ≤ 100; rw [I.ll]; exact np) (gv_var rfl) (gv_var rfl)) fun u2 B9 H9 _ ⟨A9, x9, h9, n9⟩ => ?_
    exact sx_go (qx_ret gv_str fun u3 B10 H10 x10 hu3 => q u3 A9 B10 H10 ⟨((x07.trans x8.f).trans x9).trans x10.f, h9.ext x10, fun a ha => (n9 a ha).imp id fun z => (x07.trans x8.f).free z⟩ hu3)
def spLtick : Sp := spLw (T := LArg) (fun t => [.v (.ref t.l)]) id (fun _ => True) (fun _ => AS "ok") fun t => tickD t.d
theorem ok_Ltick (T : Txt K mg C) (F : Fun K "_law_tick" "_law_tick" s__law_tick f fd) (c__law_free : Cal P w K mg base CX0 1 "_law_free" spLfree) : FnOk P w K mg base CX0 2 f fd ["_law_world"] spLtick := by
  refine fn_Lw F sc__law_tick (fun _ => rfl) fun cdv A outer s H Q E hr => ⟨_, pss_cons (ps_dput (hu_of hr) (pv 0) (pe_str) (pe_op op_add (pe_dget (hu_of hr) (pv 0) (pe_str) (fun _ _ => rfl)) (pe_int)) rfl)
  (pss_cons (ps_for PassesOwn.never rfl (pi_listK (K := K) rfl (pe_callTy (call_list_dK rfl) (by rfl) T.n_list (by decide +kernel) (pa_cons (pe_dget (hu_of hr) (pv 0) (pe_str) (fun _ _ => rfl)) (pa_nil)))) (pg_name (i := 1) sc__law_tick.nd rfl (by first | exact Or.inl rfl | exact Or.inr rfl)) (pss_cons (ps_if (pt_cmpR op_le (pe_ix (ix_tupK (K := K) rfl) (pe_dget (hu_of hr) (pe_dget (hu_of hr) (pv 0) (pe_str) (fun _ _ => rfl)) (pv 1) (fun _ _ => rfl)) (pe_int) (fun _ _ => rfl)) (pe_dget (hu_of hr) (pv 0) (pe_str) (fun _ _ => rfl)) (nomark _)) (pss_cons (ps_expr (pe_dpop1 (pe_dget (hu_of hr) (pv 0) (pe_str) (fun _ _ => rfl)) (pv 1) ⟨rfl, rfl, rfl, rfl⟩))
  (pss_cons (ps_expr (pe_cal c__law_free hr (by first | decide | omega) rfl passN (pa_cons (pv 0) (pa_cons (pv 1) (pa_nil)))))
  (pss_nil))) (pss_nil))
  (pss_nil)))
  (pss_cons (ps_ret (pe_str))
  (pss_nil))), fun t B e h I _ q => ?_⟩
  have h : LAt B H t.l t.A t.d := h
  have I : Inv t.d := I
  have q : ∀ u A' B2 H2, LNew B H B2 H2 t.l t.A A' (tickD t.d) → Is B2 u (AS "ok") → Q u H2 := q
  refine qx_dput (κ := AS "now") (k := .inr "now") (g := AI (t.d.now + 1)) h.ob (gv_op (gl_now h.rd (gv_var rfl)) gv_int ro_I0) (fun _ _ _ => gv_var rfl) (fun _ _ _ => gv_str) kq_str (by show 10 < 16000000; decide) fun u B2 H2 x2 hu m2 => ?_
  cases hu
  have h2 := h.setNow x2 m2
  let d1 : Wd := { t.d with now := t.d.now + 1 }
  have I1 : Inv d1 := I.now _
  have x02 := x2.mono (G := (· ∈ ownL t.l t.A)) fun z hz => by rw [hz]; simp [ownL]
  obtain ⟨kvs, hm, hF⟩ := h2.hfal
  refine qx_forDE (ι := LAd) (xs := t.d.fal.map (·.1)) (gv_cb (ga_cons (gl_falls h2.rd (gv_var rfl)) ga_nil) (rc_listDk hm hF.keys)) (fun _ => [some (.v (.ref t.l)), none])
    (fun k A' B1 H1 => LNew B H B1 H1 t.l t.A A' (((t.d.fal.map (·.1)).take k).foldl tickOne d1)) t.A (by walk_at "le") (fun B1 H1 x => ⟨x02.trans x.f, h2.ext x, fun a ha => .inl ha⟩) ?_ ?_
  · intro Bs k r A' B3 H3 hk s1 s2 N3
    have h3 := N3.2.1
    have hlt := (List.getElem?_eq_some_iff.mp hk).1
    have hnot : r ∉ (t.d.fal.map (·.1)).take k := fun z => by
      have h1 := I.fnd
      rw [← List.take_append_drop k (t.d.fal.map (·.1)), List.nodup_append] at h1
      refine h1.2.2 r z r ?_ rfl
      rw [List.drop_eq_getElem_cons hlt]
      have := (List.getElem?_eq_some_iff.mp hk).2
      rw [this]
      simp
    have htake : ((t.d.fal.map (·.1)).take (k + 1)).foldl tickOne d1 = tickOne (((t.d.fal.map (·.1)).take k).foldl tickOne d1) r := by
      rw [List.take_add_one, hk, List.foldl_append]
      rfl
    obtain ⟨ea, en, et⟩ := tick_at ((t.d.fal.map (·.1)).take k) d1 r hnot
    have I3 := I1.tickF ((t.d.fal.map (·.1)).take k)
    rw [htake]
    generalize ((t.d.fal.map (·.1)).take k).foldl tickOne d1 = d3 at h3 ea en et I3 N3 ⊢
    obtain ⟨v, hv⟩ : ∃ v, kAt d1.fal r = some v := by
      cases z : kAt d1.fal r with
      | some v => exact ⟨v, rfl⟩
      | none => exact absurd (List.mem_of_getElem? hk) (kAt_none z)
    rw [hv] at ea
    obtain ⟨kvs3, hm3, hF3⟩ := h3.hfal
    obtain ⟨u, hu, du⟩ := (hF3.val r).2 v ea
    have e1 : tickOne d3 r = if v.1 ≤ d3.now then { d3 with fal := kDrop d3.fal r, lks := freeL d3.lks r } else d3 := by unfold tickOne; rw [ea]
    rw [e1]
    refine qx_when (b := decide (v.1 ≤ d3.now)) (gt_test (gv_op (gv_op (gv_dget (g := .d (lfD d3 (r, v))) (gl_falls h3.rd (gv_var rfl)) (gv_var rfl) kq_int (.inl hm3.2) hu du) gv_int (ro_ixT (ds := [.int v.1, .list (v.2.map enc), .bool (bord d3 (sigOf d3 r))]) rfl)) (gl_now h3.rd (gv_var rfl)) ro_B0)) (fun hb B4 H4 x4 => ?_) fun hb B4 H4 x4 => ?_
    · have hb : v.1 ≤ d3.now := of_decide_eq_true hb
      rw [if_pos hb]
      have h4 := h3.ext x4
      obtain ⟨kvs4, hm4, hF4⟩ := h4.hfal
      obtain ⟨u4, hu4, du4⟩ := (hF4.val r).2 v ea
      refine qx_dpop (κ := AI r) (k := .inl r) hm4 (gl_falls h4.rd (gv_var rfl)) (fun _ _ _ => gv_var rfl) kq_int hu4 fun B5 H5 x5 m5 => ?_
      have h5 := h4.setFal x5 m5 ((hF4.drop r).mono x5.bb)
      have N5 : LNew B H B5 H5 t.l t.A A' { d3 with fal := kDrop d3.fal r } := N3.trans ⟨(x4.f.trans x5).mono fun z hz => (by rw [hz]; simp [ownL]), h5, fun a ha => .inl ha⟩
      refine qx_dropG (gw_Lfree (t := ⟨t.l, A', { d3 with fal := kDrop d3.fal r }⟩) h5 (by show d3.lks.length ≤ 100; rw [I3.ll]; have := I3.st.np; omega) (gv_var rfl) (gv_var rfl)) fun u2 B6 H6 s6 ⟨A6, N6⟩ => ?_
      exact sx_go (sx_lx A6 (s2.trans (x4.bb.trans (x5.bb.trans s6))) (by walk_at "le") (N5.trans N6))
    · rw [if_neg (by simpa using hb)]
      exact sx_lx A' (s2.trans x4.bb) (by walk_at "le") (N3.ext x4)
  · intro A' B3 H3 s1 N3
    rw [List.take_length] at N3
    exact qx_ret gv_str fun u B4 H4 x4 hu => q u A' B4 H4 (N3.ext x4) hu
def spLthrow : Sp := spLw (T := LArg × Int) (fun t => [.v (.ref t.1.l), AI t.2]) (·.1) (fun t => there t.1.d.ps.length t.2 = true) (fun t => AS (wdE (throwE t.1.d t.2))) fun t => toD t.1.d (throwE t.1.d t.2)
theorem ok_Lthrow (T : Txt K mg C) (F : Fun K "_law_throw" "_law_throw" s__law_throw f fd) (c__law_held : Cal P w K mg base CX0 2 "_law_held" spLheld) : FnOk P w K mg base CX0 3 f fd ["_law_world", "_law_at"] spLthrow := by
  refine fn_Lw F sc__law_throw (fun _ => rfl) fun cdv A outer s H Q E hr => ⟨_, pss_cons (ps_if (pt_cmpR op_eq (pe_ix (ix_tupK (K := K) rfl) (pe_ix (ix_listK (K := K) rfl) (pe_dget (hu_of hr) (pv 0) (pe_str) (fun _ _ => rfl)) (pv 1) (fun _ _ => rfl)) (pe_int) (fun _ _ => rfl)) (pe_str) (nomark _)) (pss_cons (ps_ret (pe_str))
  (pss_nil)) (pss_nil))
  (pss_cons (ps_if (pt_val (pe_cal c__law_held hr (by first | decide | omega) rfl passN (pa_cons (pv 0) (pa_cons (pv 1) (pa_nil))))) (pss_cons (ps_ret (pe_str))
  (pss_nil)) (pss_nil))
  (pss_cons (ps_asg (pe_dget (hu_of hr) (pe_disp (pps_cons (pe_str) (pe_str) (pps_cons (pe_str) (pe_str) (pps_nil))) (by rfl) (by rfl) (fun z => by cases z) (by decide)) (pe_ix (ix_listK (K := K) rfl) (pe_dget (hu_of hr) (pv 0) (pe_str) (fun _ _ => rfl)) (pv 1) (fun _ _ => rfl)) (fun _ _ => rfl)) (pg_sub (pe_dget (hu_of hr) (pv 0) (pe_str) (fun _ _ => rfl)) (pv 1) set_list))
  (pss_cons (ps_ret (pe_str))
  (pss_nil)))), fun ⟨t, i⟩ B e h I hth q => ?_⟩
  have h : LAt B H t.l t.A t.d := h
  have I : Inv t.d := I
  have hth : there t.d.ps.length i = true := hth
  have q : ∀ u A' B2 H2, LNew B H B2 H2 t.l t.A A' (toD t.d (throwE t.d i)) → Is B2 u (AS (wdE (throwE t.d i))) → Q u H2 := q
  unfold throwE at q
  rw [hth, Bool.true_and] at q
  obtain ⟨m, pc, hm, hpc, hpat⟩ := there_at (xs := t.d.ps) (i := i) hth
  obtain ⟨m', li, hm', hli, hlat⟩ := there_at (xs := t.d.pts) (i := i) (by rw [I.lp]; exact hth)
  have e1 : lieN t.d i = li := by unfold lieN; rw [hm', Int.toNat_natCast, hli]; rfl
  have hpo := I.po m pc hpc
  rw [← hm, e1] at hpo
  rw [e1] at q
  refine qx_when (b := decide (li = .no)) ?_ (fun hb B3 H3 x3 => ?_) fun hb B3 H3 x3 => ?_
  · refine gt_is (b := decide (pc.word = "plain")) (gt_test (gv_op (gv_op (gv_op (gl_pieces h.rd (gv_var rfl)) (gv_var rfl) (ro_ixL hpat)) gv_int (ro_ixT (ds := .str pc.word :: pc.js.map PyData.int) (d := .str pc.word) (by cases pc <;> rfl))) gv_str ro_eqS)) ?_
    cases pc with
    | plain a c => rw [word_pl, decide_eq_true (hpo.mpr rfl)]
    | points a b c => rw [word_pt, decide_eq_false fun z => by have := hpo.mp z; cases this]
  · have hb : li = .no := of_decide_eq_true hb
    rw [if_neg (by rw [hb]; simp)] at q
    exact qx_ret gv_str fun u B5 H5 x5 hu => q u t.A B5 H5 (lnew_ext h (x3.trans x5)) hu
  have hb : li ≠ .no := of_decide_eq_false hb
  rw [if_pos (by simpa using hb)] at q
  have h3 := h.ext x3
  refine qx_when (b := heldN t.d i) (gt_B (gv_Lheld h3.rd I hth (gv_var rfl) (gv_var rfl))) (fun hb2 B4 H4 x4 => ?_) fun hb2 B4 H4 x4 => ?_
  · rw [if_pos hb2] at q
    exact qx_ret gv_str fun u B5 H5 x5 hu => q u t.A B5 H5 (lnew_ext h ((x3.trans x4).trans x5)) hu
  rw [if_neg (by rw [hb2]; simp)] at q
  have h4 := h3.ext x4
  have hlt := (List.getElem?_eq_some_iff.mp hli).1
  refine qx_set (d := enc li.other) (k := i) (j := m') h4.hpts ?_ (fun _ _ x => gl_points (h4.ext x).rd (gv_var rfl)) (fun _ _ _ => gv_var rfl) (by unfold ixN; rw [hm', if_pos (by omega), if_pos (by rw [List.length_map]; omega)]; rfl) fun B5 H5 x5 m5 => ?_
  · have hd : Gd (tDisp [(tC (.str "straight"), tC (.str "branch")), (tC (.str "branch"), tC (.str "straight"))]) (Γ0 N__law_throw [.v (.ref t.l), AI i]) B4 H4 [.inr "straight", .inr "branch"] [AS "branch", AS "straight"] := gd_disp (gp_cons gv_str kq_str gv_str (gp_cons gv_str kq_str gv_str gp_nil)) (by decide +kernel) rfl (by decide)
    cases li with
    | no => exact absurd rfl hb
    | st => exact gv_dgetD (n := 0) (κ := AS "straight") (k := .inr "straight") hd (gv_op (gl_points h4.rd (gv_var rfl)) (gv_var rfl) (ro_ixO h4.hpts hlat)) kq_str (by decide +kernel) (by decide) rfl
    | br => exact gv_dgetD (n := 1) (κ := AS "branch") (k := .inr "branch") hd (gv_op (gl_points h4.rd (gv_var rfl)) (gv_var rfl) (ro_ixO h4.hpts hlat)) kq_str (by decide +kernel) (by decide) rfl
  · rw [← List.map_set] at m5
    have h5 := h4.setPts x5 m5
    have x05 := (x3.trans x4).f.trans (x5.mono (G := (· ∈ ownL t.l t.A)) fun z hz => by rw [hz]; simp [ownL])
    refine qx_ret gv_str fun u B6 H6 x6 hu => q u t.A B6 H6 ⟨x05.trans x6.f, ?_, fun a ha => .inl ha⟩ hu
    have e7 : toD t.d (Except.ok (throwOk t.d i)) = { t.d with pts := t.d.pts.set m' li.other } := by
      show throwOk t.d i = _
      unfold throwOk
      rw [e1, hm', Int.toNat_natCast]
    rw [e7]
    exact h5.ext x6
end
end SB
namespace SB
open PySem PySem.Spec PyProof.Rows L2
open Enc (enc)
local macro_rules | `(tactic| walk_at "le") => `(tactic| first | exact le_nil | (refine le_keep ?_; walk_at "le") | (refine le_drop ?_; walk_at "le"))
local macro_rules | `(tactic| walk_at "sd") => `(tactic| first | assumption | (show (_ : Int) < _ ∧ _ < (1073741824 : Int); exact ⟨by omega, by omega⟩) | (show (-(2 ^ 64) < (_ : Int) ∧ _ < (2 ^ 64 : Int)) ∨ _; first | exact .inl ⟨by omega, by omega⟩ | exact .inr ⟨by omega, by omega⟩) | rfl | decide | (simp; done) | omega | skip)
local macro_rules | `(tactic| walk_at "gc") => `(tactic| fail)
local macro_rules | `(tactic| walk_at "gv") => `(tactic| first
  | exact gv_int | exact gv_str | exact gv_bl | exact gv_non | exact gv_var rfl
  | ((with_reducible refine' gv_op ?_ ?_ ?_) <;> walk_at "gv")
  | ((with_reducible refine' ga_cons ?_ ?_) <;> walk_at "gv") | exact ga_nil
  | ((with_reducible refine' gv_cb ?_ ?_) <;> walk_at "gv")
  | ((with_reducible refine' gt_test ?_) <;> walk_at "gv") | ((with_reducible refine' gt_B ?_) <;> walk_at "gv") | ((with_reducible refine' gt_not ?_) <;> walk_at "gv")
  | ((with_reducible refine' gt_and ?k1 ?k2); (case' k1 => walk_at "gv"); (case' k2 => intro hb; walk_at "gv"))
  | ((with_reducible refine' gt_or ?k1 ?k2); (case' k1 => walk_at "gv"); (case' k2 => intro hb; walk_at "gv"))
  | ((with_reducible refine' gv_andV ?k1 ?k2); (case' k1 => walk_at "gv"); (case' k2 => intro hb; walk_at "gv"))
  | ((with_reducible refine' gv_orV ?k1 ?k2); (case' k1 => walk_at "gv"); (case' k2 => intro hb; walk_at "gv"))
  | ((with_reducible refine' gv_notV ?_) <;> walk_at "gv")
  | ((with_reducible refine' gv_slL ?_ ?_ ?_) <;> walk_at "gv") | ((with_reducible refine' gv_slT ?_ ?_ ?_ ?_) <;> walk_at "gv")
  | exact go_none | ((with_reducible refine' go_some ?_) <;> walk_at "gv")
  | exact gd_nil | ((with_reducible refine' gd_cons ?_ ?_) <;> walk_at "gv") | ((with_reducible refine' gv_lst ?_ ?_) <;> walk_at "gv") | ((with_reducible refine' gv_tup ?_ ?_) <;> walk_at "gv")
  | ((with_reducible refine' gv_chain ?_ ?_ ?_ ?_ ?_) <;> walk_at "gv") | ((with_reducible refine' gt_truL ?_) <;> walk_at "gv") | ((with_reducible refine' gv_countI ?_ ?_) <;> walk_at "gv")
  | ((with_reducible refine' gv_lenSetI ?_ ?_) <;> walk_at "gv") | ((with_reducible refine' gv_lenSetU ?_ ?_) <;> walk_at "gv") | ((with_reducible refine' gv_lenSetT ?_ ?_) <;> walk_at "gv")
  | exact gt_yes
  | walk_at "gc"
  | exact ro_I0 | exact ro_B0 | (refine ro_I ?_; walk_at "sd")
  | exact ro_eqI | exact ro_neI | exact ro_eqS | exact ro_neS
  | (refine ro_eq ?_; walk_at "sd") | (refine ro_ne ?_; walk_at "sd")
  | exact ro_isN | exact ro_notN
  | exact ro_inI | exact ro_notInI | exact ro_inTI
  | (refine' ro_ixL ?k1; (case' k1 => walk_at "sd")) | (refine' ro_ixT ?k1; (case' k1 => walk_at "sd"))
  | (refine ro_cat ?_; walk_at "sd")
  | exact rc_lenM | exact rc_len | exact rc_lenT | exact rc_list | exact rc_listT | exact rc_tuple | exact rc_any | exact rc_all | exact rc_max2 | exact rc_min2 | exact rc_intB
  | (show (_ : Nat) ≤ _; first | decide | (simp; done) | omega)
  | (show (_ : Nat) < _; first | decide | (simp; done) | omega)
  | (show ¬ (_ ∧ _); exact fun h => absurd (show (1 : Nat) = 0 from h.1) (by decide))
  | skip)
local macro_rules | `(tactic| walk_at "ge") => `(tactic| (refine' gt_is ?k1 ?k2; (case' k1 => walk_at "gv"); (case' k2 => first | rfl | (simp; done) | skip)))
local macro_rules | `(tactic| walk_at "gw") => `(tactic| (refine' gv_is ?k1 ?k2; (case' k1 => walk_at "gv"); (case' k2 => first | rfl | (simp; done) | skip)))
local macro_rules | `(tactic| walk_at "gj") => `(tactic| first | exact gi_nil | (refine' gi_cons ?g1 ?g2; (case' g1 => walk_at "gv"); (case' g2 => walk_at "gj")))
local macro_rules | `(tactic| walk_at "gi") => `(tactic| (refine' gv_lst ?k1 ?k2; (case' k1 => walk_at "gj"); (case' k2 => (simp; try omega))))
local macro_rules | `(tactic| walk_at "gc") => `(tactic| first | ((with_reducible refine' gv_joints ?_) <;> walk_at "gv") | ((with_reducible refine' gv_beyond ?_ ?_ ?_ ?_) <;> walk_at "gv") | ((with_reducible refine' gv_outs ?_ ?_) <;> walk_at "gv") | ((with_reducible refine' gv_ends ?_ ?_ ?_ ?_ ?_) <;> walk_at "gv"))
/-! ### a new world -/
section
variable {C : Adr} {P : Program} {w : World} {K : PySem.W.Frag} {mg : Str → Option Value} {base : Heap} {fd : FuncData} {f : Addr}
abbrev s__law_new : Stmt := top 38
abbrev N__law_new : List Str := ["_law_pieces_here", "_law_signals_here", "_law_wait", "_law_points", "_law_world", "_law_piece"]
theorem sc__law_new : FnScope N__law_new ["_law_pieces_here", "_law_signals_here", "_law_wait"] (defScope s__law_new) := ⟨rfl, rfl, rfl, by decide +kernel, rfl, by decide +kernel, by decide +kernel⟩
def spLnew : Sp := fun vs H Q _ => ∃ (ps : List Pc) (sg : List Sig) (wait : Int) (B : Hp), Same B H ∧ IsAll B vs [.d (.list (ps.map enc)), .d (.list (sg.map enc)), AI wait] ∧ goodYard ps sg = true ∧
  ∀ l A B2 H2, Ext B H B2 H2 → LAt B2 H2 l A (wNew ps sg wait) → (∀ a ∈ ownL l A, H a = none) → Q (.ref l) H2
theorem isAll_six {B : Hp} {us : List V} {g1 g2 g3 g4 g5 g6 : AV} (h : IsAll B us [g1, g2, g3, g4, g5, g6]) : ∃ v1 v2 v3 v4 v5 v6, us = [v1, v2, v3, v4, v5, v6] ∧ Is B v1 g1 ∧ Is B v2 g2 ∧ Is B v3 g3 ∧ Is B v4 g4 ∧ Is B v5 g5 ∧ Is B v6 g6 := by
  cases h with
  | cons h1 t =>
  cases t with
  | cons h2 t =>
  cases t with
  | cons h3 t =>
  cases t with
  | cons h4 t =>
  cases t with
  | cons h5 t =>
  cases t with
  | cons h6 t =>
  cases t
  exact ⟨_, _, _, _, _, _, rfl, h1, h2, h3, h4, h5, h6⟩
theorem md_more {B H : Hp} {l : Addr} {ks : List Key} {vs : List V} {k : Key} {v : V} (m : Md B H l (putK (ks.zip vs) k v)) (hn : k ∉ ks) (h : vs.length = ks.length) : Md B H l ((ks ++ [k]).zip (vs ++ [v])) := by
  rw [zk_more hn h] at m
  exact m
theorem ok_Lnew (T : Txt K mg C) (F : Fun K "_law_new" "_law_new" s__law_new f fd) (c__law_routes : Cal P w K mg base CX0 21 "_law_routes" spLroutes) : FnOk P w K mg base CX0 22 f fd ["_law_pieces_here", "_law_signals_here", "_law_wait"] spLnew := by
  refine F.ok sc__law_new (fun vs H Q E h => ?_) (fun cdv A outer s H vs Q E hr h => ?_)
  · obtain ⟨_, _, _, B, _, i, _⟩ := h
    exact i.length
  obtain ⟨ps, sg, wait, B, e, i, hg, q⟩ := h
  refine ⟨_, pss_cons (ps_setLc (i := 3) (own := [("_law_piece", 5)]) (g := gName 5) (tt := tYes) (by rfl) sc__law_new.nd rfl rfl (sw_true rfl rfl rfl (by decide +kernel)) (pi_listK (K := K) rfl (pv 0)) (blkOk_by (own := [("_law_piece", 5)]) (N := N__law_new) (sc := defScope s__law_new) (by decide +kernel)) (fun _ _ _ _ _ => pg_name (i := 5) sc__law_new.nd rfl (Or.inl rfl)) (fun _ _ _ _ _ => pts_nil) (fun _ _ _ _ _ => pe_ifExp (pt_cmpR op_eq (pe_ix (ix_tupK (K := K) rfl) (pv 5) (pe_int) (fun _ _ => rfl)) (pe_str) (nomark _)) (pe_str) (pe_non)))
  (pss_cons (ps_set (i := 4) sc__law_new.nd rfl (by first | exact Or.inl rfl | exact Or.inr rfl) (pe_disp (pps_cons (pe_str) (pv 0) (pps_cons (pe_str) (pv 1) (pps_cons (pe_str) (pv 2) (pps_cons (pe_str) (pv 3) (pps_cons (pe_str) (pe_lst (pa_nil)) (pps_cons (pe_str) (pe_int) (pps_nil))))))) (by rfl) (by rfl) (fun z => by cases z) (by decide)))
  (pss_cons (ps_dput (hu_of hr) (pv 4) (pe_str) (pe_cal c__law_routes hr (by first | decide | omega) rfl passN (pa_cons (pv 0) (pa_cons (pv 1) (pa_nil)))) rfl)
  (pss_cons (ps_dput (hu_of hr) (pv 4) (pe_str) (pe_op op_rep (pe_lst (pa_cons (pe_non) (pa_nil))) (pe_callB (call_lenK (K := K) rfl) (by rfl) T.n_len (by decide +kernel) (pa_cons (pv 0) (pa_nil)))) rfl)
  (pss_cons (ps_dput (hu_of hr) (pv 4) (pe_str) (pe_dnewK) rfl)
  (pss_cons (ps_dput (hu_of hr) (pv 4) (pe_str) (pe_dnewK) rfl)
  (pss_cons (ps_ret (pv 4))
  (pss_nil))))))), ?_⟩
  refine Sx.run (Γ := Γ0 N__law_new [.d (.list (ps.map enc)), .d (.list (sg.map enc)), AI wait]) (B := B) ?_ e (fr_start i (by rw [i.length]; show 3 ≤ 6; decide))
  have hl := good_len (good_both hg).1
  have hrl := routes_len (good_sg (good_both hg).2).1 (ps := ps)
  refine qx_asgM (ds := (ps.map lieOf).map enc) (gm_lcM (xs := ps) (j := 5) (vs := [5]) lieOf (gv_var rfl) (by omega) (by decide) (by decide) fun p hp B1 H1 x => ?_) fun pp B2 H2 hpp x2 m2 => ?_
  · refine gv_is (gv_ite (b := decide (p.word = "points")) (x := AS "straight") (y := AN) (gt_test (gv_op (gv_op (gv_var rfl) gv_int (ro_ixT (ds := .str p.word :: p.js.map PyData.int) (d := .str p.word) (by cases p <;> rfl))) gv_str ro_eqS)) (fun _ => gv_str) fun _ => gv_non) ?_
    cases p with
    | plain a c => rw [word_pl', if_neg Bool.false_ne_true]; rfl
    | points a b c => rw [word_pt', if_pos rfl]; rfl
  refine qx_asgD (ks := [.inr "pieces", .inr "signals", .inr "wait", .inr "points", .inr "green", .inr "now"]) (gs := [.d (.list (ps.map enc)), .d (.list (sg.map enc)), AI wait, .v (.ref pp), .d (.list []), AI 0]) (gd_disp (gp_cons gv_str kq_str (gv_var rfl) (gp_cons gv_str kq_str (gv_var rfl) (gp_cons gv_str kq_str (gv_var rfl) (gp_cons gv_str kq_str (gv_var rfl) (gp_cons gv_str kq_str (gv_lst (ds := []) ga_nil (by decide)) (gp_cons gv_str kq_str gv_int gp_nil)))))) (by decide +kernel) rfl (by decide)) fun l us B3 H3 hl0 x3 hus m3 => ?_
  obtain ⟨v1, v2, v3, v4, v5, v6, rfl, i1, i2, i3, i4, i5, i6⟩ := isAll_six hus
  have i4 : v4 = .ref pp := i4
  subst i4
  cases i3
  cases i6
  have x03 := x2.trans x3
  have hl00 : H l = none := x2.hh.free hl0
  have nlp : l ≠ pp := fun z => m2.ne (z ▸ hl0)
  have m23 := m2.ext x3
  refine qx_dput (κ := AS "routes") (k := .inr "routes") (g := .d (.list ((routesN ps sg).map enc))) m3 (gv_Lroutes (gv_var rfl) (gv_var rfl) hg) (fun _ _ _ => gv_var rfl) (fun _ _ _ => gv_str) kq_str (by show 6 < 16000000; decide) fun v7 B4 H4 x4 i7 m4 => ?_
  have m4 := md_more m4 (by decide +kernel) rfl
  have mp4 := m23.extF x4 (Ne.symm nlp)
  have x04 := x03.thenF x4 fun z hz => by rw [hz]; exact hl00
  refine qx_dputM (κ := AS "locks") (k := .inr "locks") (ds := (List.replicate ps.length (none : Option Int)).map enc) m4 ?_ (fun _ _ _ => gv_var rfl) (fun _ _ _ => gv_str) kq_str (by show 7 < 16000000; decide) fun lk B5 H5 x5 hlk ml5 m5 => ?_
  · have := gm_rep (Γ := ((Γ0 N__law_new [.d (.list (ps.map enc)), .d (.list (sg.map enc)), AI wait]).set 3 (some (.v (.ref pp)))).set 4 (some (.v (.ref l)))) (B := B4) (H := H4) (ds := [PyData.none]) (k := (ps.length : Int)) (gv_lst (ds := [.none]) (ga_cons gv_non ga_nil) (by decide)) (gv_cb (ga_cons (gv_var (i := 0) rfl) ga_nil) (rc_lenM (K := K))) (by omega) (by omega) (by show 1 * _ ≤ _; omega)
    have e1 : (List.replicate ((ps.length : Int)).toNat [PyData.none]).flatten = (List.replicate ps.length (none : Option Int)).map enc := by
      rw [Int.toNat_natCast, List.map_replicate]
      generalize ps.length = n
      induction n with
      | zero => rfl
      | succ n ih => rw [List.replicate_succ, List.flatten_cons, ih, List.replicate_succ]; rfl
    rw [e1] at this
    exact this
  have m5 := md_more m5 (by decide +kernel) rfl
  have nlkp : lk ≠ pp := fun z => mp4.ne (z ▸ hlk)
  have nlkl : lk ≠ l := fun z => m4.ne (z ▸ hlk)
  have hlk0 : H lk = none := x04.hh.free hlk
  have mp5 := mp4.extF x5 (Ne.symm nlp)
  have x05 := x04.thenF x5 fun z hz => by rw [hz]; exact hl00
  refine qx_dputD (κ := AS "falls") (k := .inr "falls") m5 (fun _ _ _ => gv_var rfl) (fun _ _ _ => gv_str) kq_str (by show 8 < 16000000; decide) fun fl B6 H6 x6 hfl mf6 m6 => ?_
  have m6 := md_more m6 (by decide +kernel) rfl
  have nfp : fl ≠ pp := fun z => mp5.ne (z ▸ hfl)
  have nfk : fl ≠ lk := fun z => ml5.ne (z ▸ hfl)
  have nfl : fl ≠ l := fun z => m5.ne (z ▸ hfl)
  have hfl0 : H fl = none := x05.hh.free hfl
  have mp6 := mp5.extF x6 (Ne.symm nlp)
  have ml6 := ml5.extF x6 nlkl
  have x06 := x05.thenF x6 fun z hz => by rw [hz]; exact hl00
  refine qx_dputD (κ := AS "trains") (k := .inr "trains") m6 (fun _ _ _ => gv_var rfl) (fun _ _ _ => gv_str) kq_str (by show 9 < 16000000; decide) fun tn B7 H7 x7 htn mt7 m7 => ?_
  have m7 := md_more m7 (by decide +kernel) rfl
  have ntp : tn ≠ pp := fun z => mp6.ne (z ▸ htn)
  have ntk : tn ≠ lk := fun z => ml6.ne (z ▸ htn)
  have ntf : tn ≠ fl := fun z => mf6.ne (z ▸ htn)
  have ntl : tn ≠ l := fun z => m6.ne (z ▸ htn)
  have htn0 : H tn = none := x06.hh.free htn
  have mp7 := mp6.extF x7 (Ne.symm nlp)
  have ml7 := ml6.extF x7 nlkl
  have mf7 := mf6.extF x7 nfl
  have x07 := x06.thenF x7 fun z hz => by rw [hz]; exact hl00
  have b37 := x4.bb.trans (x5.bb.trans (x6.bb.trans x7.bb))
  have hpp0 : H pp = none := hpp
  refine qx_ret (gv_var (g := .v (.ref l)) rfl) fun u B8 H8 x8 hu => ?_
  have hu : u = .ref l := hu
  subst hu
  refine q l ⟨v1, v2, v7, v5, pp, lk, fl, tn⟩ B8 H8 (x07.trans x8) (LAt.ext (B := B7) (H := H7) ⟨m7, i1.mono b37, i2.mono b37, i7.mono (x5.bb.trans (x6.bb.trans x7.bb)), i5.mono b37, mp7, ml7, ⟨[], mf7, .nil⟩, ⟨[], mt7, .nil⟩, ?_⟩ x8) fun a ha => ?_
  · simp [ownL, nlp, Ne.symm nlkl, Ne.symm nfl, Ne.symm ntl, Ne.symm nlkp, Ne.symm nfp, Ne.symm ntp, Ne.symm nfk, Ne.symm ntk, Ne.symm ntf]
  · simp [ownL] at ha
    rcases ha with z | z | z | z | z <;> subst z
    · exact hl00
    · exact hpp0
    · exact hlk0
    · exact hfl0
    · exact htn0
end
end SB
namespace SB
open PySem PySem.Spec PyProof.Rows L2
open Enc (enc)
local macro_rules | `(tactic| walk_at "le") => `(tactic| first | exact le_nil | (refine le_keep ?_; walk_at "le") | (refine le_drop ?_; walk_at "le"))
local macro_rules | `(tactic| walk_at "sd") => `(tactic| first | assumption | (show (_ : Int) < _ ∧ _ < (1073741824 : Int); exact ⟨by omega, by omega⟩) | (show (-(2 ^ 64) < (_ : Int) ∧ _ < (2 ^ 64 : Int)) ∨ _; first | exact .inl ⟨by omega, by omega⟩ | exact .inr ⟨by omega, by omega⟩) | rfl | decide | (simp; done) | omega | skip)
local macro_rules | `(tactic| walk_at "gc") => `(tactic| fail)
local macro_rules | `(tactic| walk_at "gv") => `(tactic| first
  | exact gv_int | exact gv_str | exact gv_bl | exact gv_non | exact gv_var rfl
  | ((with_reducible refine' gv_op ?_ ?_ ?_) <;> walk_at "gv")
  | ((with_reducible refine' ga_cons ?_ ?_) <;> walk_at "gv") | exact ga_nil
  | ((with_reducible refine' gv_cb ?_ ?_) <;> walk_at "gv")
  | ((with_reducible refine' gt_test ?_) <;> walk_at "gv") | ((with_reducible refine' gt_B ?_) <;> walk_at "gv") | ((with_reducible refine' gt_not ?_) <;> walk_at "gv")
  | ((with_reducible refine' gt_and ?k1 ?k2); (case' k1 => walk_at "gv"); (case' k2 => intro hb; walk_at "gv"))
  | ((with_reducible refine' gt_or ?k1 ?k2); (case' k1 => walk_at "gv"); (case' k2 => intro hb; walk_at "gv"))
  | ((with_reducible refine' gv_andV ?k1 ?k2); (case' k1 => walk_at "gv"); (case' k2 => intro hb; walk_at "gv"))
  | ((with_reducible refine' gv_orV ?k1 ?k2); (case' k1 => walk_at "gv"); (case' k2 => intro hb; walk_at "gv"))
  | ((with_reducible refine' gv_notV ?_) <;> walk_at "gv")
  | ((with_reducible refine' gv_slL ?_ ?_ ?_) <;> walk_at "gv") | ((with_reducible refine' gv_slT ?_ ?_ ?_ ?_) <;> walk_at "gv")
  | exact go_none | ((with_reducible refine' go_some ?_) <;> walk_at "gv")
  | exact gd_nil | ((with_reducible refine' gd_cons ?_ ?_) <;> walk_at "gv") | ((with_reducible refine' gv_lst ?_ ?_) <;> walk_at "gv") | ((with_reducible refine' gv_tup ?_ ?_) <;> walk_at "gv")
  | ((with_reducible refine' gv_chain ?_ ?_ ?_ ?_ ?_) <;> walk_at "gv") | ((with_reducible refine' gt_truL ?_) <;> walk_at "gv") | ((with_reducible refine' gv_countI ?_ ?_) <;> walk_at "gv")
  | ((with_reducible refine' gv_lenSetI ?_ ?_) <;> walk_at "gv") | ((with_reducible refine' gv_lenSetU ?_ ?_) <;> walk_at "gv") | ((with_reducible refine' gv_lenSetT ?_ ?_) <;> walk_at "gv")
  | exact gt_yes
  | walk_at "gc"
  | exact ro_I0 | exact ro_B0 | (refine ro_I ?_; walk_at "sd")
  | exact ro_eqI | exact ro_neI | exact ro_eqS | exact ro_neS
  | (refine ro_eq ?_; walk_at "sd") | (refine ro_ne ?_; walk_at "sd")
  | exact ro_isN | exact ro_notN
  | exact ro_inI | exact ro_notInI | exact ro_inTI
  | (refine' ro_ixL ?k1; (case' k1 => walk_at "sd")) | (refine' ro_ixT ?k1; (case' k1 => walk_at "sd"))
  | (refine ro_cat ?_; walk_at "sd")
  | exact rc_lenM | exact rc_len | exact rc_lenT | exact rc_list | exact rc_listT | exact rc_tuple | exact rc_any | exact rc_all | exact rc_max2 | exact rc_min2 | exact rc_intB
  | (show (_ : Nat) ≤ _; first | decide | (simp; done) | omega)
  | (show (_ : Nat) < _; first | decide | (simp; done) | omega)
  | (show ¬ (_ ∧ _); exact fun h => absurd (show (1 : Nat) = 0 from h.1) (by decide))
  | skip)
local macro_rules | `(tactic| walk_at "ge") => `(tactic| (refine' gt_is ?k1 ?k2; (case' k1 => walk_at "gv"); (case' k2 => first | rfl | (simp; done) | skip)))
local macro_rules | `(tactic| walk_at "gw") => `(tactic| (refine' gv_is ?k1 ?k2; (case' k1 => walk_at "gv"); (case' k2 => first | rfl | (simp; done) | skip)))
local macro_rules | `(tactic| walk_at "gj") => `(tactic| first | exact gi_nil | (refine' gi_cons ?g1 ?g2; (case' g1 => walk_at "gv"); (case' g2 => walk_at "gj")))
local macro_rules | `(tactic| walk_at "gi") => `(tactic| (refine' gv_lst ?k1 ?k2; (case' k1 => walk_at "gj"); (case' k2 => (simp; try omega))))
local macro_rules | `(tactic| walk_at "gc") => `(tactic| first | ((with_reducible refine' gv_joints ?_) <;> walk_at "gv") | ((with_reducible refine' gv_beyond ?_ ?_ ?_ ?_) <;> walk_at "gv") | ((with_reducible refine' gv_outs ?_ ?_) <;> walk_at "gv") | ((with_reducible refine' gv_ends ?_ ?_ ?_ ?_ ?_) <;> walk_at "gv"))
/-! ### the yard and the world tell the same -/
section
variable {C : Adr} {P : Program} {w : World} {K : PySem.W.Frag} {mg : Str → Option Value} {base : Heap} {fd : FuncData} {f : Addr} {CT : Addr}
abbrev s__law_is : Stmt := top 47
abbrev N__law_is : List Str := ["_law_found", "_law_due_here"]
theorem sc__law_is : FnScope N__law_is ["_law_found", "_law_due_here"] (defScope s__law_is) := ⟨rfl, rfl, rfl, by decide +kernel, rfl, by decide +kernel, by decide +kernel⟩
abbrev s__law_same : Stmt := top 48
abbrev N__law_same : List Str := ["_law_yard", "_law_world", "_law_at", "_law_signals_here", "_law_signal", "_law_name", "_law_route", "_law_step"]
theorem sc__law_same : FnScope N__law_same ["_law_yard", "_law_world"] (defScope s__law_same) := ⟨rfl, rfl, rfl, by decide +kernel, rfl, by decide +kernel, by decide +kernel⟩
theorem flat_ty {d : PyData} (h : flatD d = true) : ∃ t b, tyD d = some t ∧ kitB t "bool" = some b := by
  cases d with
  | none => exact ⟨"NoneType", false, rfl, by decide +kernel⟩
  | bool x => exact ⟨"bool", true, rfl, by decide +kernel⟩
  | int i => exact ⟨"int", false, rfl, by decide +kernel⟩
  | str s => exact ⟨"str", false, rfl, by decide +kernel⟩
  | _ => cases h
theorem flat_eqv {d : PyData} (h : flatD d = true) : PyData.eqv d d = true := by
  cases d with
  | none => simp [PyData.eqv]
  | bool x => simp [PyData.eqv]
  | int i => simp [PyData.eqv]
  | str s => simp [PyData.eqv]
  | _ => cases h
theorem flat_scD {d : PyData} (h : flatD d = true) : scD d d = true := by
  cases d with
  | none => rfl
  | bool x => rfl
  | int i => rfl
  | str s => rfl
  | _ => cases h
def spIs : Sp := spP (T := PyData) (fun d => [.d d, .d d]) (fun d _ _ => flatD d = true) fun _ => AB true
theorem ok_is (T : Txt K mg C) (F : Fun K "_law_is" "_law_is" s__law_is f fd) : FnOk P w K mg base CX0 1 f fd ["_law_found", "_law_due_here"] spIs := by
  refine fn_P F sc__law_is (fun _ => rfl) fun cdv A outer s H Q E hr => ⟨_, pss_cons (ps_ret (pe_and (pe_cmpR op_eq (pe_callB (call_isiQ (K := K) rfl) (by rfl) T.n_isinstance (by decide +kernel) (pa_cons (pv 0) (pa_cons (pe_bltn (v := .ty "bool") (u := .type "bool") (by rfl) T.n_bool (by decide +kernel) rfl) (pa_nil)))) (pe_callB (call_isiQ (K := K) rfl) (by rfl) T.n_isinstance (by decide +kernel) (pa_cons (pv 1) (pa_cons (pe_bltn (v := .ty "bool") (u := .type "bool") (by rfl) T.n_bool (by decide +kernel) rfl) (pa_nil)))) (nomark _)) (pe_one (pe_cmpR op_eq (pv 0) (pv 1) (nomark _)))))
  (pss_nil), fun d B e hf q => ?_⟩
  have hf : flatD d = true := hf
  obtain ⟨t, b, e1, e2⟩ := flat_ty hf
  have hb : ∀ {Γ : List (Option AV)} {i : Nat}, Γ[i]? = some (some (.d d)) → Gv (tCB (rIsi K) (tCons (tVar i) (tCons (tC (.ty "bool")) tNil))) Γ B H (AB b) := fun hg => gv_cb (ga_cons (gv_var hg) (ga_cons gv_cls ga_nil)) (rc_isD e1 e2)
  exact qx_ret (gv_is (gv_andV (b := true) (c := true) (gv_is (gv_op (hb rfl) (hb rfl) (ro_eq (d := .bool b) (e := .bool b) rfl)) (by cases b <;> rfl)) fun _ => gv_is (gv_op (gv_var rfl) (gv_var rfl) (ro_eq (flat_scD hf))) (by rw [flat_eqv hf])) rfl) q
theorem gv_is_ {Γ : List (Option AV)} {B H : Hp} {ta tb : TE} {E : XK} {d : PyData} (hf : flatD d = true) (ha : Gv ta Γ B H (.d d)) (hb : Gv tb Γ B H (.d d)) : Gv (tCall spIs [] E (tCons ta (tCons tb tNil))) Γ B H (AB true) := gv_call d (ga_cons ha (ga_cons hb ga_nil)) fun _ _ _ => hf
structure PArg where
  y : Addr
  A : YAd
  ta : List (Addr × Addr)
  l : Addr
  L : LAd
  d : Wd
/-- the yard and the world, the same to be told of both -/
structure PairAt (K : PySem.W.Frag) (C : Adr) (CT : Addr) (t : PArg) (B H : Hp) : Prop where
  hy : YP K C CT ⟨t.y, t.A, t.ta, t.d⟩ B H
  hl : LAt B H t.l t.L t.d
  I : Inv t.d
  dj : ∀ a ∈ own t.y t.A t.ta, a ∉ ownL t.l t.L
theorem PairAt.ext {t : PArg} {B H B' H' : Hp} (h : PairAt K C CT t B H) (x : Ext B H B' H') : PairAt K C CT t B' H' := ⟨h.hy.ext x, h.hl.ext x, h.I, h.dj⟩
theorem gv_where {Γ : List (Option AV)} {B H : Hp} {t : YArg} {ta tb : TE} {E : XK} {n : Int} {tr : Trn} (h : YP K C CT t B H) (ft : Fit t.d) (ht : trainOf t.d n = some tr) (ha : Gv ta Γ B H (.v (.ref t.y))) (hb : Gv tb Γ B H (AI n)) :
    Gv (tMeth C.Yard "where" (spWhere K C CT) [] E ta (tCons tb tNil)) Γ B H (.d (.list ((tr.steps.map Stp.p).map enc))) := fun B1 H1 σ e f Q q =>
  ha B1 H1 σ e f _ fun u B2 H2 e2 hu => by
    have hu : u = .ref t.y := hu
    subst hu
    refine ⟨t.y, _, _, rfl, (e.trans e2).hh _ _ h.1.ob, ym (by decide +kernel), ga_cons hb ga_nil B2 H2 σ (e.trans e2) (f.mono e2.bb) _ fun us B3 H3 e3 hus => ?_⟩
    refine ⟨t, n, B3, e3.bh, by rw [List.append_nil]; exact .cons rfl hus, h.ext ((e.trans e2).trans e3), ft, fun tr2 h2 p B4 H4 x4 hp m => ?_, fun h2 => by rw [ht] at h2; cases h2⟩
    rw [ht] at h2
    cases h2
    obtain ⟨B5, x5, _, hq⟩ := m.give x4 hp
    exact q _ B5 H4 ((e2.trans e3).trans x5) hq
def spSame (K : PySem.W.Frag) (C : Adr) (CT : Addr) : Sp := spP (T := PArg) (fun t => [.v (.ref t.y), .v (.ref t.l)]) (PairAt K C CT) fun _ => AB true
theorem flat_oi (o : Option Int) : flatD (enc o) = true := by cases o <;> rfl
theorem ok_same (T : Txt K mg C) (F : Fun K "_law_same" "_law_same" s__law_same f fd) (c__law_is : Cal P w K mg base CX0 1 "_law_is" spIs) (c__law_train_in : Cal P w K mg base CX0 1 "_law_train_in" spLtrainIn)
    (c_Yard_time : Met P w K mg base CX0 1 C.Yard "time" (spTime K C CT)) (c_Yard_lock_of : Met P w K mg base (L2.CX P w) 2 C.Yard "lock_of" (spLockOf K C CT)) (c_Yard_train_in : Met P w K mg base (L2.CX P w) 2 C.Yard "train_in" (spTrainIn K C CT)) (c_Yard_lies : Met P w K mg base (L2.CX P w) 2 C.Yard "lies" (spLies K C CT))
    (c_Yard_is_green : Met P w K mg base (L2.CX P w) 1 C.Yard "is_green" (spIsGreen K C CT)) (c_Yard_where : Met P w K mg base (L2.CX P w) 1 C.Yard "where" (spWhere K C CT)) : FnOk P w K mg base CX0 3 f fd ["_law_yard", "_law_world"] (spSame K C CT) := by
  refine fn_P F sc__law_same (fun _ => rfl) fun cdv A outer s H Q E hr => ⟨_, pss_cons (ps_if (pt_not (pt_val (pe_cal c__law_is hr (by first | decide | omega) rfl passN (pa_cons (pe_met0 c_Yard_time T.cl_Yard hr (by first | decide | omega) passN (pv 0)) (pa_cons (pe_dget (hu_of hr) (pv 1) (pe_str) (fun _ _ => rfl)) (pa_nil)))))) (pss_cons (ps_ret (pe_bl))
  (pss_nil)) (pss_nil))
  (pss_cons (ps_for PassesOwn.never rfl (pi_range1 (by rfl) T.n_range (pa_cons (pe_callB (call_lenK (K := K) rfl) (by rfl) T.n_len (by decide +kernel) (pa_cons (pe_dget (hu_of hr) (pv 1) (pe_str) (fun _ _ => rfl)) (pa_nil))) (pa_nil))) (pg_name (i := 2) sc__law_same.nd rfl (by first | exact Or.inl rfl | exact Or.inr rfl)) (pss_cons (ps_if (pt_not (pt_val (pe_cal c__law_is hr (by first | decide | omega) rfl passN (pa_cons (pe_met c_Yard_lock_of T.cl_Yard hr (by first | decide | omega) passF (pv 0) (pa_cons (pv 2) (pa_nil))) (pa_cons (pe_ix (ix_listK (K := K) rfl) (pe_dget (hu_of hr) (pv 1) (pe_str) (fun _ _ => rfl)) (pv 2) (fun _ _ => rfl)) (pa_nil)))))) (pss_cons (ps_ret (pe_bl))
  (pss_nil)) (pss_nil))
  (pss_cons (ps_if (pt_not (pt_val (pe_cal c__law_is hr (by first | decide | omega) rfl passN (pa_cons (pe_met c_Yard_train_in T.cl_Yard hr (by first | decide | omega) passF (pv 0) (pa_cons (pv 2) (pa_nil))) (pa_cons (pe_cal c__law_train_in hr (by first | decide | omega) rfl passN (pa_cons (pv 1) (pa_cons (pv 2) (pa_nil)))) (pa_nil)))))) (pss_cons (ps_ret (pe_bl))
  (pss_nil)) (pss_nil))
  (pss_cons (ps_if (PW.pt (pw_and (pt_cmpR op_eq (pe_ix (ix_tupK (K := K) rfl) (pe_ix (ix_listK (K := K) rfl) (pe_dget (hu_of hr) (pv 1) (pe_str) (fun _ _ => rfl)) (pv 2) (fun _ _ => rfl)) (pe_int) (fun _ _ => rfl)) (pe_str) (nomark _)) (pw_and1 (pt_cmpR op_ne (pe_met c_Yard_lies T.cl_Yard hr (by first | decide | omega) passF (pv 0) (pa_cons (pv 2) (pa_nil))) (pe_ix (ix_listK (K := K) rfl) (pe_dget (hu_of hr) (pv 1) (pe_str) (fun _ _ => rfl)) (pv 2) (fun _ _ => rfl)) (nomark _))))) (pss_cons (ps_ret (pe_bl))
  (pss_nil)) (pss_nil))
  (pss_nil)))))
  (pss_cons (ps_setLc (i := 3) (own := [("_law_route", 6)]) (g := gName 6) (tt := tYes) (by rfl) sc__law_same.nd rfl rfl (sw_true rfl rfl rfl (by decide +kernel)) (pi_listK (K := K) rfl (pe_dget (hu_of hr) (pv 1) (pe_str) (fun _ _ => rfl))) (blkOk_by (own := [("_law_route", 6)]) (N := N__law_same) (sc := defScope s__law_same) (by decide +kernel)) (fun _ _ _ _ _ => pg_name (i := 6) sc__law_same.nd rfl (Or.inl rfl)) (fun _ _ _ _ _ => pts_nil) (fun _ _ _ _ _ => pe_ix (ix_tupK (K := K) rfl) (pe_ix (ix_listK (K := K) rfl) (pe_dget (hu_of hr) (pv 1) (pe_str) (fun _ _ => rfl)) (pv 6) (fun _ _ => rfl)) (pe_int) (fun _ _ => rfl)))
  (pss_cons (ps_for PassesOwn.never rfl (pi_range1 (by rfl) T.n_range (pa_cons (pe_callB (call_lenK (K := K) rfl) (by rfl) T.n_len (by decide +kernel) (pa_cons (pe_dget (hu_of hr) (pv 1) (pe_str) (fun _ _ => rfl)) (pa_nil))) (pa_nil))) (pg_name (i := 4) sc__law_same.nd rfl (by first | exact Or.inl rfl | exact Or.inr rfl)) (pss_cons (ps_if (pt_not (pt_val (pe_cal c__law_is hr (by first | decide | omega) rfl passN (pa_cons (pe_met c_Yard_is_green T.cl_Yard hr (by first | decide | omega) passF (pv 0) (pa_cons (pv 4) (pa_nil))) (pa_cons (pe_cmpR (op_inK (K := K) rfl) (pv 4) (pv 3) (by rfl)) (pa_nil)))))) (pss_cons (ps_ret (pe_bl))
  (pss_nil)) (pss_nil))
  (pss_nil)))
  (pss_cons (ps_lock (ps_for PassesOwn.never rfl (pi_keys (pe_dget (hu_of hr) (pv 1) (pe_str) (fun _ _ => rfl))) (pg_name (i := 5) sc__law_same.nd rfl (by first | exact Or.inl rfl | exact Or.inr rfl)) (pss_cons (ps_if (pt_cmpR (op_neDK (K := K) rfl hr.units) (pe_met c_Yard_where T.cl_Yard hr (by first | decide | omega) passF (pv 0) (pa_cons (pv 5) (pa_nil))) (pe_lc (own := [("_law_step", 7)]) (g := gName 7) (tt := tYes) (by rfl) sc__law_same.nd (pi_listK (K := K) rfl (pe_ix (ix_listK (K := K) rfl) (pe_dget (hu_of hr) (pe_dget (hu_of hr) (pv 1) (pe_str) (fun _ _ => rfl)) (pv 5) (fun _ _ => rfl)) (pe_int) (fun _ _ => rfl))) (blkOk_by (own := [("_law_step", 7)]) (N := N__law_same) (sc := defScope s__law_same) (by decide +kernel)) (fun _ _ _ _ _ => pg_name (i := 7) sc__law_same.nd rfl (Or.inl rfl)) (fun _ _ _ _ _ => pts_nil) (fun _ _ _ _ _ => pe_ix (ix_tupK (K := K) rfl) (pv 7) (pe_int) (fun _ _ => rfl))) (nomark _)) (pss_cons (ps_ret (pe_bl))
  (pss_nil)) (pss_nil))
  (pss_nil))))
  (pss_cons (ps_ret (pe_bl))
  (pss_nil)))))), fun t B e h q => ?_⟩
  have h : PairAt K C CT t B H := h
  have I := h.I
  have ft := I.fit
  have q : ∀ u B2 H2, Ext B H B2 H2 → Is B2 u (AB true) → Q u H2 := q
  let ty : YArg := ⟨t.y, t.A, t.ta, t.d⟩
  refine qx_when (b := !true) (gt_not (gt_B (gv_is_ (d := .int t.d.now) rfl (gv_met ty (gv_var rfl) h.hy.1.ob (ym (by decide +kernel)) ga_nil rfl fun _ _ x => h.hy.ext x) (gl_now h.hl.rd (gv_var rfl))))) (fun hb => by cases hb) fun _ B2 H2 x2 => ?_
  have h2 := h.ext x2
  have np := ft.np
  refine qx_forR (n := ((t.d.ps.length : Nat) : Int)) (ga_cons (gv_cb (ga_cons (gl_pieces h2.hl.rd (gv_var rfl)) ga_nil) rc_lenM) ga_nil) (by omega) (by omega) (fun _ => [some (.v (.ref t.y)), some (.v (.ref t.l)), none, none, none, none, none, none]) (fun k B1 H1 => Ext B H B1 H1) (by walk_at "le") (fun B1 H1 x => x2.trans x) ?_ ?_
  · intro Bs k B3 H3 hk s1 s2 x3
    have h3 := h.ext x3
    have hk' : k < t.d.ps.length := by omega
    have hth : there t.d.ps.length (k : Int) = true := by unfold there; simp; omega
    obtain ⟨m, o, hm, ho, hat⟩ := there_at (xs := t.d.lks) (i := (k : Int)) (by rw [I.ll]; exact hth)
    have e1 : lockN t.d (k : Int) = o := by unfold lockN; rw [hm, Int.toNat_natCast, ho]; rfl
    refine qx_when (b := !true) (gt_not (gt_B (gv_is_ (d := enc o) (flat_oi o) (gv_metR (ty, (k : Int)) (gv_var rfl) h3.hy.1.ob (ym (by decide +kernel)) (ga_cons (gv_var rfl) ga_nil) rfl (fun _ _ x => ⟨h3.hy.ext x, ft⟩) (by show (if there t.d.ps.length (k : Int) = true then Except.ok (AV.d (enc (lockN t.d (k : Int)))) else _) = _; rw [if_pos hth, e1])) (gv_op (gl_locks h3.hl.rd (gv_var rfl)) (gv_var rfl) (ro_ixO h3.hl.hlks hat))))) (fun hb => by cases hb) fun _ B4 H4 x4 => ?_
    have h4 := h3.ext x4
    refine qx_when (b := !true) (gt_not (gt_B (gv_is_ (d := enc (trainIn t.d (k : Int))) (flat_oi _) (gv_metR (ty, (k : Int)) (gv_var rfl) h4.hy.1.ob (ym (by decide +kernel)) (ga_cons (gv_var rfl) ga_nil) rfl (fun _ _ x => ⟨h4.hy.ext x, ft⟩) (by show (if there t.d.ps.length (k : Int) = true then Except.ok (AV.d (enc (trainIn t.d (k : Int)))) else _) = _; rw [if_pos hth])) (gv_LtrainIn (t := ⟨t.l, t.L, t.d⟩) h4.hl.rd I (gv_var rfl) (gv_var rfl))))) (fun hb => by cases hb) fun _ B5 H5 x5 => ?_
    have h5 := h4.ext x5
    obtain ⟨m1, pc, hm1, hpc, hpat⟩ := there_at (xs := t.d.ps) (i := (k : Int)) hth
    obtain ⟨m2, li, hm2, hli, hlat⟩ := there_at (xs := t.d.pts) (i := (k : Int)) (by rw [I.lp]; exact hth)
    have e2 : lieN t.d (k : Int) = li := by unfold lieN; rw [hm2, Int.toNat_natCast, hli]; rfl
    have hpo := I.po m1 pc hpc
    rw [← hm1, e2] at hpo
    refine qx_when (b := decide (pc.word = "points") && false) (gt_and (gt_test (gv_op (gv_op (gv_op (gl_pieces h5.hl.rd (gv_var rfl)) (gv_var rfl) (ro_ixL hpat)) gv_int (ro_ixT (ds := .str pc.word :: pc.js.map PyData.int) (d := .str pc.word) (by cases pc <;> rfl))) gv_str ro_eqS)) fun hw => ?_) (fun hb => by simp at hb) fun _ B6 H6 x6 => ?_
    · have hno : li ≠ .no := fun z => by
        have := hpo.mp z
        cases pc with
        | plain a c => rw [word_pl'] at hw; cases hw
        | points a b c => cases this
      refine gt_is (gt_test (gv_op (gv_metR (z := .d (enc li)) (ty, (k : Int)) (gv_var rfl) h5.hy.1.ob (ym (by decide +kernel)) (ga_cons (gv_var rfl) ga_nil) rfl (fun _ _ x => ⟨h5.hy.ext x, ft⟩) (by show (if (there t.d.ps.length (k : Int) && !decide (lieN t.d (k : Int) = .no)) = true then Except.ok (AV.d (enc (lieN t.d (k : Int)))) else _) = _; rw [e2, hth, decide_eq_false hno]; rfl)) (gv_op (gl_points h5.hl.rd (gv_var rfl)) (gv_var rfl) (ro_ixO h5.hl.hpts hlat)) (ro_ne (by cases li <;> rfl)))) ?_
      cases li <;> simp [enc, encLie, PyData.eqv]
    · exact sx_lp (s2.trans (x4.bb.trans (x5.bb.trans x6.bb))) (by walk_at "le") (x3.trans (x4.trans (x5.trans x6)))
  intro B3 H3 s3 x3
  have h3 := h.ext x3
  have hgl := I.grn_len
  have hgs : ∀ r ∈ t.d.grn, ∃ way, atI (t.d.rts.map enc) r = some (enc (sigOf t.d r, way)) := fun r hr => by
    obtain ⟨k, ⟨sn, way⟩, hk, ho, hat⟩ := there_at (xs := t.d.rts) (i := r) (I.act r (.inl hr)).1
    have e1 : sigOf t.d r = sn := by unfold sigOf; rw [hk, Int.toNat_natCast, ho]; rfl
    exact ⟨way, by rw [e1]; exact hat⟩
  refine qx_asg (g := .d (.list ((t.d.grn.map (sigOf t.d)).map enc))) ?_ fun B4 H4 x4 => ?_
  · refine gv_lcM (sigOf t.d) (gl_green h3.hl.rd (gv_var rfl)) (by omega) (by decide) (by decide) fun r hr B5 H5 x5 => ?_
    obtain ⟨way, hat⟩ := hgs r hr
    exact gv_op (gv_op (gl_routes (h3.ext x5).hl.rd (gv_var rfl)) (gv_var rfl) (ro_ixL hat)) gv_int (ro_ixT (ds := [.int (sigOf t.d r), enc way]) rfl)
  have h4 := h3.ext x4
  have ns := ft.ns
  refine qx_forR (n := ((t.d.sg.length : Nat) : Int)) (ga_cons (gv_cb (ga_cons (gl_signals h4.hl.rd (gv_var rfl)) ga_nil) rc_lenM) ga_nil) (by omega) (by omega) (fun _ => [some (.v (.ref t.y)), some (.v (.ref t.l)), none, some (.d (.list ((t.d.grn.map (sigOf t.d)).map enc))), none, none, none, none]) (fun k B1 H1 => Ext B H B1 H1) (by walk_at "le") (fun B1 H1 x => (x3.trans x4).trans x) ?_ ?_
  · intro Bs k B5 H5 hk s1 s2 x5
    have h5 := h.ext x5
    have hth : there t.d.sg.length (k : Int) = true := by unfold there; simp; omega
    have egr : greenN t.d (k : Int) = decide ((k : Int) ∈ t.d.grn.map (sigOf t.d)) := by
      unfold greenN
      rw [Bool.eq_iff_iff]
      simp
    refine qx_when (b := !true) (gt_not (gt_B (gv_is_ (d := .bool (greenN t.d (k : Int))) rfl (gv_metR (ty, (k : Int)) (gv_var rfl) h5.hy.1.ob (ym (by decide +kernel)) (ga_cons (gv_var rfl) ga_nil) rfl (fun _ _ x => ⟨h5.hy.ext x, ft⟩) (by show (if there t.d.sg.length (k : Int) = true then Except.ok (AB (greenN t.d (k : Int))) else _) = _; rw [if_pos hth])) (gv_is (gv_op (gv_var rfl) (gv_var rfl) ro_inI) (by rw [egr]))))) (fun hb => by cases hb) fun _ B6 H6 x6 => ?_
    exact sx_lp (s2.trans x6.bb) (by walk_at "le") (x5.trans x6)
  intro B5 H5 s5 x5
  have h5 := h.ext x5
  obtain ⟨kvs, hm, hK, hlk⟩ := h5.hl.lockT
  have yl : ∀ od, YP K C CT ty B5 (upd H5 t.L.trn (.frz od (.dK kvs))) := fun od => by
    refine ⟨h5.hy.1.extF (ExtF.wr (o := .frz od (.dK kvs)) x5.bh hm.1 hm.ne) fun a ha z => ?_, h5.hy.2⟩
    exact h.dj a ha (by rw [z]; simp [ownL])
  refine qx_forL (ι := Unit) (q := t.L.trn) (p := t.L.trn) (ks := t.d.trs.map (·.1)) hm.2 True.intro hm.1 hK.keys (fun od => gl_trains (hlk od).tr (gv_var rfl))
    (fun _ => [some (.v (.ref t.y)), some (.v (.ref t.l)), none, some (.d (.list ((t.d.grn.map (sigOf t.d)).map enc))), none, none, none, none])
    (fun od n _ B1 H1 => Ext B5 (upd H5 t.L.trn (.frz od (.dK kvs))) B1 H1) () (by walk_at "le") (fun od B1 H1 x => x) (fun od n _ B1 H1 x => ⟨⟨od, x.hh _ _ upd_same⟩, x.hh _ _ upd_same, x.off hm.1 (by rw [upd_same]; simp)⟩) (fun od => ⟨od, fun n _ B1 H1 x => x.hh _ _ upd_same⟩) ?_ ?_
  · intro od Bs n nm _ B6 H6 hn s1 s2 x6
    obtain ⟨tr, ht1, ht2⟩ := trn_at (d := t.d) (List.mem_of_getElem? hn)
    have hr6 := (hlk od).ext x6
    have hy6 := (yl od).ext x6
    have hsz := I.path_len' ht2
    refine qx_when (b := !decide (tr.steps.map Stp.p = tr.steps.map Stp.p)) (gt_test (gv_op (x := .d (enc (tr.steps.map Stp.p))) (gv_where (t := ty) hy6 ft ht1 (gv_var rfl) (gv_var rfl)) (gv_lcM Stp.p (gv_tsteps (gl_train hr6.tr (gv_var rfl) (gv_var rfl) ht1)) (by omega) (by decide) (by decide) fun st _ B7 H7 x7 => gv_sp (gv_var rfl)) (ro_neE (by decide)))) (fun hb => by simp at hb) fun _ B7 H7 x7 => ?_
    exact sx_lx () (s2.trans x7.bb) (by walk_at "le") (x6.trans x7)
  · intro od _ B6 H6 s6 x6
    exact qx_ret gv_bl fun u B7 H7 x7 hu => q u B7 H7 ((x5.trans (x6.unlock hm.1 hm.2)).trans x7) hu
end
end SB
namespace SB
open PySem PySem.Spec PyProof.Rows L2
open Enc (enc)
local macro_rules | `(tactic| walk_at "le") => `(tactic| first | exact le_nil | (refine le_keep ?_; walk_at "le") | (refine le_drop ?_; walk_at "le"))
local macro_rules | `(tactic| walk_at "sd") => `(tactic| first | assumption | (show (_ : Int) < _ ∧ _ < (1073741824 : Int); exact ⟨by omega, by omega⟩) | (show (-(2 ^ 64) < (_ : Int) ∧ _ < (2 ^ 64 : Int)) ∨ _; first | exact .inl ⟨by omega, by omega⟩ | exact .inr ⟨by omega, by omega⟩) | rfl | decide | (simp; done) | omega | skip)
local macro_rules | `(tactic| walk_at "gc") => `(tactic| fail)
local macro_rules | `(tactic| walk_at "gv") => `(tactic| first
  | exact gv_int | exact gv_str | exact gv_bl | exact gv_non | exact gv_var rfl
  | ((with_reducible refine' gv_op ?_ ?_ ?_) <;> walk_at "gv")
  | ((with_reducible refine' ga_cons ?_ ?_) <;> walk_at "gv") | exact ga_nil
  | ((with_reducible refine' gv_cb ?_ ?_) <;> walk_at "gv")
  | ((with_reducible refine' gt_test ?_) <;> walk_at "gv") | ((with_reducible refine' gt_B ?_) <;> walk_at "gv") | ((with_reducible refine' gt_not ?_) <;> walk_at "gv")
  | ((with_reducible refine' gt_and ?k1 ?k2); (case' k1 => walk_at "gv"); (case' k2 => intro hb; walk_at "gv"))
  | ((with_reducible refine' gt_or ?k1 ?k2); (case' k1 => walk_at "gv"); (case' k2 => intro hb; walk_at "gv"))
  | ((with_reducible refine' gv_andV ?k1 ?k2); (case' k1 => walk_at "gv"); (case' k2 => intro hb; walk_at "gv"))
  | ((with_reducible refine' gv_orV ?k1 ?k2); (case' k1 => walk_at "gv"); (case' k2 => intro hb; walk_at "gv"))
  | ((with_reducible refine' gv_notV ?_) <;> walk_at "gv")
  | ((with_reducible refine' gv_slL ?_ ?_ ?_) <;> walk_at "gv") | ((with_reducible refine' gv_slT ?_ ?_ ?_ ?_) <;> walk_at "gv")
  | exact go_none | ((with_reducible refine' go_some ?_) <;> walk_at "gv")
  | exact gd_nil | ((with_reducible refine' gd_cons ?_ ?_) <;> walk_at "gv") | ((with_reducible refine' gv_lst ?_ ?_) <;> walk_at "gv") | ((with_reducible refine' gv_tup ?_ ?_) <;> walk_at "gv")
  | ((with_reducible refine' gv_chain ?_ ?_ ?_ ?_ ?_) <;> walk_at "gv") | ((with_reducible refine' gt_truL ?_) <;> walk_at "gv") | ((with_reducible refine' gv_countI ?_ ?_) <;> walk_at "gv")
  | ((with_reducible refine' gv_lenSetI ?_ ?_) <;> walk_at "gv") | ((with_reducible refine' gv_lenSetU ?_ ?_) <;> walk_at "gv") | ((with_reducible refine' gv_lenSetT ?_ ?_) <;> walk_at "gv")
  | exact gt_yes
  | walk_at "gc"
  | exact ro_I0 | exact ro_B0 | (refine ro_I ?_; walk_at "sd")
  | exact ro_eqI | exact ro_neI | exact ro_eqS | exact ro_neS
  | (refine ro_eq ?_; walk_at "sd") | (refine ro_ne ?_; walk_at "sd")
  | exact ro_isN | exact ro_notN
  | exact ro_inI | exact ro_notInI | exact ro_inTI
  | (refine' ro_ixL ?k1; (case' k1 => walk_at "sd")) | (refine' ro_ixT ?k1; (case' k1 => walk_at "sd"))
  | (refine ro_cat ?_; walk_at "sd")
  | exact rc_lenM | exact rc_len | exact rc_lenT | exact rc_list | exact rc_listT | exact rc_tuple | exact rc_any | exact rc_all | exact rc_max2 | exact rc_min2 | exact rc_intB
  | (show (_ : Nat) ≤ _; first | decide | (simp; done) | omega)
  | (show (_ : Nat) < _; first | decide | (simp; done) | omega)
  | (show ¬ (_ ∧ _); exact fun h => absurd (show (1 : Nat) = 0 from h.1) (by decide))
  | skip)
local macro_rules | `(tactic| walk_at "ge") => `(tactic| (refine' gt_is ?k1 ?k2; (case' k1 => walk_at "gv"); (case' k2 => first | rfl | (simp; done) | skip)))
local macro_rules | `(tactic| walk_at "gw") => `(tactic| (refine' gv_is ?k1 ?k2; (case' k1 => walk_at "gv"); (case' k2 => first | rfl | (simp; done) | skip)))
local macro_rules | `(tactic| walk_at "gj") => `(tactic| first | exact gi_nil | (refine' gi_cons ?g1 ?g2; (case' g1 => walk_at "gv"); (case' g2 => walk_at "gj")))
local macro_rules | `(tactic| walk_at "gi") => `(tactic| (refine' gv_lst ?k1 ?k2; (case' k1 => walk_at "gj"); (case' k2 => (simp; try omega))))
local macro_rules | `(tactic| walk_at "gc") => `(tactic| first | ((with_reducible refine' gv_joints ?_) <;> walk_at "gv") | ((with_reducible refine' gv_beyond ?_ ?_ ?_ ?_) <;> walk_at "gv") | ((with_reducible refine' gv_outs ?_ ?_) <;> walk_at "gv") | ((with_reducible refine' gv_ends ?_ ?_ ?_ ?_ ?_) <;> walk_at "gv"))
/-! ### deeds in the body of a try -/
section
variable {C : Adr} {P : Program} {w : World} {K : PySem.W.Frag} {mg : Str → Option Value} {base : Heap} {fd : FuncData} {f : Addr} {CT : Addr} {Γ : List (Option AV)} {B H : Hp} {ta : TE} {tr : TA} {tz : TS} {D : Ends} {T : Type} {args : T → List AV} {arg : T → YArg} {pre : T → Prop} {fw : T → Except Addr Wd} {E : XK} {W : WX} {i : Nat}
def YGo (C : Adr) (CT : Addr) (B H B2 H2 : Hp) (y : Addr) (A : YAd) (ta ta' : List (Addr × Addr)) (d' : Wd) : Prop := ExtF (· ∈ own y A ta) B H B2 H2 ∧ YAt C CT B2 H2 y A ta' d' ∧ ∀ a ∈ own y A ta', a ∈ own y A ta ∨ H a = none
theorem YGo.lead {B0 H0 B H B2 H2 : Hp} {y : Addr} {A : YAd} {ta ta' : List (Addr × Addr)} {d' : Wd} (x : Ext B0 H0 B H) (n : YGo C CT B H B2 H2 y A ta ta' d') : YGo C CT B0 H0 B2 H2 y A ta ta' d' := ⟨x.f.trans n.1, n.2.1, fun a ha => (n.2.2 a ha).imp id fun z => x.hh.free z⟩
theorem YGo.ext {B H B1 H1 B2 H2 : Hp} {y : Addr} {A : YAd} {ta ta' : List (Addr × Addr)} {d' : Wd} (n : YGo C CT B H B1 H1 y A ta ta' d') (x : Ext B1 H1 B2 H2) : YGo C CT B H B2 H2 y A ta ta' d' := ⟨n.1.trans x.f, n.2.1.ext x, n.2.2⟩
theorem YGo.same {B H B2 H2 : Hp} {y : Addr} {A : YAd} {ta : List (Addr × Addr)} {d : Wd} (h : YAt C CT B H y A ta d) (x : Ext B H B2 H2) : YGo C CT B H B2 H2 y A ta ta d := ⟨x.f, h.ext x, fun _ h => .inl h⟩
theorem qx_asgSW (t : T) (ht : Ga tr Γ B H (args t)) (h : YP K C CT (arg t) B H) (ft : Fit (arg t).d) (hp : pre t)
    (k : ∀ d', fw t = .ok d' → ∀ ta' B2 H2, Same B B2 → YGo C CT B H B2 H2 (arg t).y (arg t).A (arg t).ta ta' d' → Sx tz D (Γ.set i (some AN)) B2 H2)
    (ke : ∀ c, fw t = .error c → ∀ B2 H2 σ, Ext B H B2 H2 → Fr B2 σ Γ → W (.ref c) none σ H2) :
    Sx (tSeq (tAsg (tCallS (spW K C CT args arg pre fw) (WE W) tr) (gName i)) tz) D Γ B H := fun e σ f =>
  ht B H σ (Ext.refl e) f _ fun us B2 H2 x hu =>
    ⟨t, B2, x.bh, hu, h.ext x, ft, hp, fun d2 hd2 ta' B4 H4 x4 h4 n4 => k d2 hd2 ta' B4 H4 (x.bb.trans x4.bb) ⟨x.f.trans x4, h4, fun y hy => (n4 y hy).imp id fun q => x.hh.free q⟩ x4.bh _ ((f.mono (x.bb.trans x4.bb)).set i .non), fun c hc B4 H4 x4 => ke c hc B4 H4 σ (x.trans x4) (f.mono (x.bb.trans x4.bb))⟩
theorem qx_dropSW (t : T) (ht : Ga tr Γ B H (args t)) (h : YP K C CT (arg t) B H) (ft : Fit (arg t).d) (hp : pre t)
    (k : ∀ d', fw t = .ok d' → ∀ ta' B2 H2, Same B B2 → YGo C CT B H B2 H2 (arg t).y (arg t).A (arg t).ta ta' d' → Sx tz D Γ B2 H2)
    (ke : ∀ c, fw t = .error c → ∀ B2 H2 σ, Ext B H B2 H2 → Fr B2 σ Γ → W (.ref c) none σ H2) :
    Sx (tSeq (tDrop (tCallS (spW K C CT args arg pre fw) (WE W) tr)) tz) D Γ B H := fun e σ f =>
  ht B H σ (Ext.refl e) f _ fun us B2 H2 x hu =>
    ⟨t, B2, x.bh, hu, h.ext x, ft, hp, fun d2 hd2 ta' B4 H4 x4 h4 n4 => k d2 hd2 ta' B4 H4 (x.bb.trans x4.bb) ⟨x.f.trans x4, h4, fun y hy => (n4 y hy).imp id fun q => x.hh.free q⟩ x4.bh _ (f.mono (x.bb.trans x4.bb)), fun c hc B4 H4 x4 => ke c hc B4 H4 σ (x.trans x4) (f.mono (x.bb.trans x4.bb))⟩
theorem gw_callW {d' : Wd} (t : T) (ht : Ga tr Γ B H (args t)) (h : YP K C CT (arg t) B H) (ft : Fit (arg t).d) (hp : pre t) (hf : fw t = .ok d') :
    Gw (tCall (spW K C CT args arg pre fw) [] E tr) Γ B H fun u B2 H2 => u = .non ∧ ∃ ta', YGo C CT B H B2 H2 (arg t).y (arg t).A (arg t).ta ta' d' := fun e σ f Q q =>
  ht B H σ (Ext.refl e) f _ fun us B2 H2 x hu =>
    ⟨t, B2, x.bh, by rw [List.append_nil]; exact hu, h.ext x, ft, hp, fun d2 hd2 ta' B4 H4 x4 h4 n4 => by
      rw [hf] at hd2
      cases hd2
      exact q _ B4 H4 (x.bb.trans x4.bb) x4.bh ⟨rfl, ta', x.f.trans x4, h4, fun y hy => (n4 y hy).imp id fun q => x.hh.free q⟩, fun c hc => by rw [hf] at hc; cases hc⟩
theorem qx_asgMS {m : Str} {gs : List AV} {fs : List (Str × V)} {dx a CY : Addr} {pre : T → Hp → Hp → Prop} {res : T → Except Addr AV} (t0 : T) (ha : Gv ta Γ B H (.v (.ref a))) (hy : H a = some (.ins CY dx fs)) (hm : fs.lookup m = none) (ht : Ga tr Γ B H gs)
    (he : args t0 = .v (.ref a) :: gs) (hp : ∀ B1 H1, Ext B H B1 H1 → pre t0 B1 H1) (k : ∀ g B2 H2, res t0 = .ok g → Ext B H B2 H2 → Sx tz D (Γ.set i (some g)) B2 H2) (ke : ∀ c B2 H2 σ, res t0 = .error c → Ext B H B2 H2 → Fr B2 σ Γ → W (.ref c) none σ H2) :
    Sx (tSeq (tAsg (tMetS CY m (spR args pre res) (WE W) ta tr) (gName i)) tz) D Γ B H := fun e σ f =>
  ha B H σ (Ext.refl e) f _ fun u B2 H2 e2 hu => by
    have hu : u = .ref a := hu
    subst hu
    refine ⟨a, dx, fs, rfl, e2.hh _ _ hy, hm, ht B2 H2 σ e2 (f.mono e2.bb) _ fun us B3 H3 e3 hus => ?_⟩
    have x := e2.trans e3
    exact ⟨t0, B3, x.bh, by rw [he]; exact .cons rfl hus, hp B3 H3 x, fun u B4 H4 g hg e4 h4 => k g B4 H4 hg (x.trans e4) e4.bh _ ((f.mono (x.bb.trans e4.bb)).set i h4), fun B4 H4 c hc e4 => ke c B4 H4 σ hc (x.trans e4) (f.mono (x.bb.trans e4.bb))⟩
/-- try: .. except c as n: kept = n -/
theorem qx_tryK {cv : Value} {j : Nat} {tb : WX → TS} (h : ∀ W : WX, (∀ c σ B3 H3 Γ3, PySem.W.exmOne K (.ref c) cv = some true → Same B3 H3 → Fr B3 σ Γ3 → i < Γ3.length → (∀ a B6 H6, H3 a = none → Ext B3 (upd H3 a (ExR c a)) B6 H6 → Sx tz D (((Γ3.set i (some (.v (.ref a)))).set j (some (.v (.ref a)))).set i none) B6 H6) → W (.ref c) none σ H3) →
    Sx (tb W) { D with nx := tz D } Γ B H) : Sx (tSeq (tTryK K cv i (fun _ _ => tSeq (tAsg (tVar i) (gName j)) tNext) tb) tz) D Γ B H := by
  refine qx_try (h _ fun c σ B3 H3 Γ3 hit e fr hl k => ?_)
  refine wkeep hit e (fun a ha => ?_) fr
  refine qx_asg (gv_var (by rw [List.getElem?_set_self hl])) fun B6 H6 x6 => ?_
  exact sx_out (k a B6 H6 ha x6) (by rw [List.length_set, List.length_set]; exact hl)
theorem qx_tryKJ {cv : Value} {j : Nat} {tb : WX → TS} {ι : Type} (G : ι → List (Option AV)) (R : ι → Hp → Hp → Prop) (h : ∀ W : WX, (∀ c σ B3 H3 Γ3, PySem.W.exmOne K (.ref c) cv = some true → Same B3 H3 → Fr B3 σ Γ3 → i < Γ3.length → (∀ a B6 H6, H3 a = none → Ext B3 (upd H3 a (ExR c a)) B6 H6 → Sx tz D (((Γ3.set i (some (.v (.ref a)))).set j (some (.v (.ref a)))).set i none) B6 H6) → W (.ref c) none σ H3) →
    (∀ x B2 H2, R x B2 H2 → Sx tz D (G x) B2 H2) → Sx (tb W) { D with nx := tz D } Γ B H) (k : ∀ x B2 H2, R x B2 H2 → Sx tz D (G x) B2 H2) : Sx (tSeq (tTryK K cv i (fun _ _ => tSeq (tAsg (tVar i) (gName j)) tNext) tb) tz) D Γ B H := qx_tryK fun W hW => h W hW k
/-- what is known of a class that is raised -/
structure ErrAt (K : PySem.W.Frag) (C : Adr) (e : Er) : Prop where
  ex : ExcC K (erA C e)
  hit : PySem.W.exmOne K (.ref (erA C e)) (.ref C.BoxError) = some true
  bad : PySem.W.kitOne K (.ref (erA C e)) (.ref C.BadYard) = some false
  non : PySem.W.kitOne K (.ref (erA C e)) (.ref C.NotThere) = some (decide (e = .none))
  hel : PySem.W.kitOne K (.ref (erA C e)) (.ref C.Held) = some (decide (e = .held))
  red : PySem.W.kitOne K (.ref (erA C e)) (.ref C.Red) = some (decide (e = .red))
  val : PySem.W.kitOne K (.ref (erA C e)) (.type "ValueError") = some true
theorem kit_self {K : PySem.W.Frag} {t : Value} : PySem.W.kitOne K t t = some true := by
  unfold PySem.W.kitOne
  rw [if_pos (by simp)]
theorem kit_ref {K : PySem.W.Frag} {D C : Addr} {b : Bool} (hd : PySem.W.hasDictIn K C = true) (t : PySem.W.typeIn K (.ref C) = some (.type "type")) (s0 : PySem.W.subIn K (.ref D) (.ref D) = some true) (s : PySem.W.subIn K (.ref D) (.ref C) = some b) : PySem.W.kitOne K (.ref D) (.ref C) = some b := by
  unfold PySem.W.kitOne
  by_cases e : (Value.ref D == Value.ref C) = true
  · have e2 : D = C := Value.ref.inj (beq_iff_eq.mp e)
    subst e2
    rw [if_pos e]
    exact s0.symm.trans s
  · rw [if_neg e]
    obtain ⟨cd, hc, _⟩ := PySem.W.any_some hd
    show (if ((PySem.W.clsIn K C).isSome && PySem.W.typeIn K (.ref C) == some (.type "type")) = true then PySem.W.subIn K (.ref D) (.ref C) else none) = some b
    rw [hc, t]
    exact s
theorem kit_val {K : PySem.W.Frag} {D : Addr} {x : String} {b : Bool} (m : PySem.W.kitMeta x = true) (s : PySem.W.subIn K (.ref D) (.type x) = some b) : PySem.W.kitOne K (.ref D) (.type x) = some b := by
  unfold PySem.W.kitOne
  rw [if_neg (by intro h; cases beq_iff_eq.mp h)]
  show (if PySem.W.kitMeta x = true then PySem.W.subIn K (.ref D) (.type x) else none) = some b
  rw [if_pos m]
  exact s
theorem kit_off {K : PySem.W.Frag} {t c : Value} {cs : List Value} (h : PySem.W.kitOne K t c = some false) (hr : PySem.W.kitAny K t cs = some false) : PySem.W.kitAny K t (c :: cs) = some false := kitAny_cons h (fun _ => hr) fun z => by cases z
end
end SB
namespace SB
open PySem PySem.Spec PyProof.Rows L2
open Enc (enc)
local macro_rules | `(tactic| walk_at "le") => `(tactic| first | exact le_nil | (refine le_keep ?_; walk_at "le") | (refine le_drop ?_; walk_at "le"))
local macro_rules | `(tactic| walk_at "sd") => `(tactic| first | assumption | (show (_ : Int) < _ ∧ _ < (1073741824 : Int); exact ⟨by omega, by omega⟩) | (show (-(2 ^ 64) < (_ : Int) ∧ _ < (2 ^ 64 : Int)) ∨ _; first | exact .inl ⟨by omega, by omega⟩ | exact .inr ⟨by omega, by omega⟩) | rfl | decide | (simp; done) | omega | skip)
local macro_rules | `(tactic| walk_at "gc") => `(tactic| fail)
local macro_rules | `(tactic| walk_at "gv") => `(tactic| first
  | exact gv_int | exact gv_str | exact gv_bl | exact gv_non | exact gv_var rfl
  | ((with_reducible refine' gv_op ?_ ?_ ?_) <;> walk_at "gv")
  | ((with_reducible refine' ga_cons ?_ ?_) <;> walk_at "gv") | exact ga_nil
  | ((with_reducible refine' gv_cb ?_ ?_) <;> walk_at "gv")
  | ((with_reducible refine' gt_test ?_) <;> walk_at "gv") | ((with_reducible refine' gt_B ?_) <;> walk_at "gv") | ((with_reducible refine' gt_not ?_) <;> walk_at "gv")
  | ((with_reducible refine' gt_and ?k1 ?k2); (case' k1 => walk_at "gv"); (case' k2 => intro hb; walk_at "gv"))
  | ((with_reducible refine' gt_or ?k1 ?k2); (case' k1 => walk_at "gv"); (case' k2 => intro hb; walk_at "gv"))
  | ((with_reducible refine' gv_andV ?k1 ?k2); (case' k1 => walk_at "gv"); (case' k2 => intro hb; walk_at "gv"))
  | ((with_reducible refine' gv_orV ?k1 ?k2); (case' k1 => walk_at "gv"); (case' k2 => intro hb; walk_at "gv"))
  | ((with_reducible refine' gv_notV ?_) <;> walk_at "gv")
  | ((with_reducible refine' gv_slL ?_ ?_ ?_) <;> walk_at "gv") | ((with_reducible refine' gv_slT ?_ ?_ ?_ ?_) <;> walk_at "gv")
  | exact go_none | ((with_reducible refine' go_some ?_) <;> walk_at "gv")
  | exact gd_nil | ((with_reducible refine' gd_cons ?_ ?_) <;> walk_at "gv") | ((with_reducible refine' gv_lst ?_ ?_) <;> walk_at "gv") | ((with_reducible refine' gv_tup ?_ ?_) <;> walk_at "gv")
  | ((with_reducible refine' gv_chain ?_ ?_ ?_ ?_ ?_) <;> walk_at "gv") | ((with_reducible refine' gt_truL ?_) <;> walk_at "gv") | ((with_reducible refine' gv_countI ?_ ?_) <;> walk_at "gv")
  | ((with_reducible refine' gv_lenSetI ?_ ?_) <;> walk_at "gv") | ((with_reducible refine' gv_lenSetU ?_ ?_) <;> walk_at "gv") | ((with_reducible refine' gv_lenSetT ?_ ?_) <;> walk_at "gv")
  | exact gt_yes
  | walk_at "gc"
  | exact ro_I0 | exact ro_B0 | (refine ro_I ?_; walk_at "sd")
  | exact ro_eqI | exact ro_neI | exact ro_eqS | exact ro_neS
  | (refine ro_eq ?_; walk_at "sd") | (refine ro_ne ?_; walk_at "sd")
  | exact ro_isN | exact ro_notN
  | exact ro_inI | exact ro_notInI | exact ro_inTI
  | (refine' ro_ixL ?k1; (case' k1 => walk_at "sd")) | (refine' ro_ixT ?k1; (case' k1 => walk_at "sd"))
  | (refine ro_cat ?_; walk_at "sd")
  | exact rc_lenM | exact rc_len | exact rc_lenT | exact rc_list | exact rc_listT | exact rc_tuple | exact rc_any | exact rc_all | exact rc_max2 | exact rc_min2 | exact rc_intB
  | (show (_ : Nat) ≤ _; first | decide | (simp; done) | omega)
  | (show (_ : Nat) < _; first | decide | (simp; done) | omega)
  | (show ¬ (_ ∧ _); exact fun h => absurd (show (1 : Nat) = 0 from h.1) (by decide))
  | skip)
local macro_rules | `(tactic| walk_at "ge") => `(tactic| (refine' gt_is ?k1 ?k2; (case' k1 => walk_at "gv"); (case' k2 => first | rfl | (simp; done) | skip)))
local macro_rules | `(tactic| walk_at "gw") => `(tactic| (refine' gv_is ?k1 ?k2; (case' k1 => walk_at "gv"); (case' k2 => first | rfl | (simp; done) | skip)))
local macro_rules | `(tactic| walk_at "gj") => `(tactic| first | exact gi_nil | (refine' gi_cons ?g1 ?g2; (case' g1 => walk_at "gv"); (case' g2 => walk_at "gj")))
local macro_rules | `(tactic| walk_at "gi") => `(tactic| (refine' gv_lst ?k1 ?k2; (case' k1 => walk_at "gj"); (case' k2 => (simp; try omega))))
local macro_rules | `(tactic| walk_at "gc") => `(tactic| first | ((with_reducible refine' gv_joints ?_) <;> walk_at "gv") | ((with_reducible refine' gv_beyond ?_ ?_ ?_ ?_) <;> walk_at "gv") | ((with_reducible refine' gv_outs ?_ ?_) <;> walk_at "gv") | ((with_reducible refine' gv_ends ?_ ?_ ?_ ?_ ?_) <;> walk_at "gv"))
/-! ### the box is asked -/
section
variable {C : Adr} {P : Program} {w : World} {K : PySem.W.Frag} {mg : Str → Option Value} {base : Heap} {fd : FuncData} {f : Addr} {CT : Addr}
abbrev s__law_asked : Stmt := top 49
abbrev N__law_asked : List Str := ["_law_yard", "_law_way", "_law_number", "_law_kept", "_law_found", "e", "_law_kinds"]
theorem sc__law_asked : FnScope N__law_asked ["_law_yard", "_law_way", "_law_number"] (defScope s__law_asked) := ⟨rfl, rfl, rfl, by decide +kernel, rfl, by decide +kernel, by decide +kernel⟩
abbrev s__law_due : Stmt := top 50
abbrev N__law_due : List Str := ["_law_world", "_law_way", "_law_number", "_law_many"]
theorem sc__law_due : FnScope N__law_due ["_law_world", "_law_way", "_law_number"] (defScope s__law_due) := ⟨rfl, rfl, rfl, by decide +kernel, rfl, by decide +kernel, by decide +kernel⟩
def seeE (b : Bool) (d : Wd) : Except Er Wd := if b = true then .ok d else .error .none
def askE (d : Wd) (way n : Int) : Except Er Wd := if way = 0 then setE d n else if way = 1 then cancelE d n else if way = 2 then throwE d n else if way = 3 then .ok (tickD d) else if way = 4 then seeE (there d.ps.length n && !decide (lieN d n = .no)) d else
  if way = 5 then seeE (there d.ps.length n) d else if way = 6 then seeE (there d.ps.length n) d else seeE (there d.sg.length n) d
theorem seeE_red {b : Bool} {d : Wd} : seeE b d ≠ .error .red := by unfold seeE; split <;> simp
theorem askE_red {d : Wd} {way n : Int} : askE d way n ≠ .error .red := by
  unfold askE
  split
  · unfold setE; split
    · split <;> simp
    · simp
  split
  · unfold cancelE; split <;> simp
  split
  · unfold throwE; split
    · split <;> simp
    · simp
  split
  · simp
  split
  · exact seeE_red
  split
  · exact seeE_red
  split
  · exact seeE_red
  · exact seeE_red
theorem seeE_ok {b : Bool} {d d' : Wd} (h : seeE b d = .ok d') : b = true ∧ d' = d := by
  unfold seeE at h
  split at h
  · cases h; exact ⟨by assumption, rfl⟩
  · cases h
def spAsk10 (K : PySem.W.Frag) (C : Adr) (CT : Addr) : Sp := fun vs H Q _ => ∃ (t : YArg) (way n : Int) (B : Hp), Same B H ∧ IsAll B vs [.v (.ref t.y), AI way, AI n] ∧ YP K C CT t B H ∧ Inv t.d ∧ 0 ≤ way ∧
  ∀ u ta' B2 H2, YGo C CT B H B2 H2 t.y t.A t.ta ta' (toD t.d (askE t.d way n)) → Is B2 u (AS (wdE (askE t.d way n))) → Q u H2
theorem ok_asked10 (T : Txt K mg C) (R : ∀ e, e ≠ .red → ErrAt K C e) (F : Fun K "_law_asked" "_law_asked" s__law_asked f fd) (c_set_route : Cal P w K mg base (L2.CX P w) 4 "set_route" (spSet K C CT)) (c_cancel : Cal P w K mg base (L2.CX P w) 4 "cancel" (spCancel K C CT)) (c_throw : Cal P w K mg base (L2.CX P w) 4 "throw" (spThrow K C CT))
    (c_tick : Cal P w K mg base CX0 2 "tick" (spTick K C CT)) (c_Yard_lies : Met P w K mg base (L2.CX P w) 2 C.Yard "lies" (spLies K C CT)) (c_Yard_lock_of : Met P w K mg base (L2.CX P w) 2 C.Yard "lock_of" (spLockOf K C CT)) (c_Yard_train_in : Met P w K mg base (L2.CX P w) 2 C.Yard "train_in" (spTrainIn K C CT))
    (c_Yard_is_green : Met P w K mg base (L2.CX P w) 1 C.Yard "is_green" (spIsGreen K C CT)) : FnOk P w K mg base CX0 5 f fd ["_law_yard", "_law_way", "_law_number"] (spAsk10 K C CT) := by
  refine F.ok sc__law_asked (fun vs H Q E h => ?_) (fun cdv A outer s H vs Q E hr h => ?_)
  · obtain ⟨t, way, n, B, _, i, _⟩ := h
    exact i.length
  obtain ⟨t, way, n, B, e, ia, h, I, hw0, q⟩ := h
  have ft := I.fit
  refine ⟨_, pss_cons (ps_set (i := 3) sc__law_asked.nd rfl (by first | exact Or.inl rfl | exact Or.inr rfl) (pe_non))
  (pss_cons (ps_set (i := 4) sc__law_asked.nd rfl (by first | exact Or.inl rfl | exact Or.inr rfl) (pe_non))
  (pss_cons (ps_try_keep (i := 5) rfl rfl rfl sc__law_asked.nd rfl rfl ⟨rfl, by decide, .inl T.e_BoxError.g⟩ (fun W pn xe tk _ => pss_cons (ps_if (pt_cmpR op_eq (pv 1) (pe_int) (nomark _)) (pss_cons (ps_set (i := 4) sc__law_asked.nd rfl (by first | exact Or.inl rfl | exact Or.inr rfl) (pe_calS c_set_route hr (by first | decide | omega) rfl (fun σ => passAt tk σ) (by exact (pa_cons (pv 0) (pa_cons (pv 2) (pa_nil))))))
  (pss_nil)) (pss_cons (ps_if (pt_cmpR op_eq (pv 1) (pe_int) (nomark _)) (pss_cons (ps_set (i := 4) sc__law_asked.nd rfl (by first | exact Or.inl rfl | exact Or.inr rfl) (pe_calS c_cancel hr (by first | decide | omega) rfl (fun σ => passAt tk σ) (by exact (pa_cons (pv 0) (pa_cons (pv 2) (pa_nil))))))
  (pss_nil)) (pss_cons (ps_if (pt_cmpR op_eq (pv 1) (pe_int) (nomark _)) (pss_cons (ps_set (i := 4) sc__law_asked.nd rfl (by first | exact Or.inl rfl | exact Or.inr rfl) (pe_calS c_throw hr (by first | decide | omega) rfl (fun σ => passAt tk σ) (by exact (pa_cons (pv 0) (pa_cons (pv 2) (pa_nil))))))
  (pss_nil)) (pss_cons (ps_if (pt_cmpR op_eq (pv 1) (pe_int) (nomark _)) (pss_cons (ps_set (i := 4) sc__law_asked.nd rfl (by first | exact Or.inl rfl | exact Or.inr rfl) (pe_cal c_tick hr (by first | decide | omega) rfl passN (pa_cons (pv 0) (pa_nil))))
  (pss_nil)) (pss_cons (ps_if (pt_cmpR op_eq (pv 1) (pe_int) (nomark _)) (pss_cons (ps_set (i := 4) sc__law_asked.nd rfl (by first | exact Or.inl rfl | exact Or.inr rfl) (pe_metS c_Yard_lies T.cl_Yard hr (by first | decide | omega) (fun σ => passAt tk σ) (pv 0) (pa_cons (pv 2) (pa_nil))))
  (pss_nil)) (pss_cons (ps_if (pt_cmpR op_eq (pv 1) (pe_int) (nomark _)) (pss_cons (ps_set (i := 4) sc__law_asked.nd rfl (by first | exact Or.inl rfl | exact Or.inr rfl) (pe_metS c_Yard_lock_of T.cl_Yard hr (by first | decide | omega) (fun σ => passAt tk σ) (pv 0) (pa_cons (pv 2) (pa_nil))))
  (pss_nil)) (pss_cons (ps_if (pt_cmpR op_eq (pv 1) (pe_int) (nomark _)) (pss_cons (ps_set (i := 4) sc__law_asked.nd rfl (by first | exact Or.inl rfl | exact Or.inr rfl) (pe_metS c_Yard_train_in T.cl_Yard hr (by first | decide | omega) (fun σ => passAt tk σ) (pv 0) (pa_cons (pv 2) (pa_nil))))
  (pss_nil)) (pss_cons (ps_set (i := 4) sc__law_asked.nd rfl (by first | exact Or.inl rfl | exact Or.inr rfl) (pe_metS c_Yard_is_green T.cl_Yard hr (by first | decide | omega) (fun σ => passAt tk σ) (pv 0) (pa_cons (pv 2) (pa_nil))))
  (pss_nil)))
  (pss_nil)))
  (pss_nil)))
  (pss_nil)))
  (pss_nil)))
  (pss_nil)))
  (pss_nil)))
  (pss_nil)) (fun a C1 q => pss_cons (ps_set (i := 3) sc__law_asked.nd rfl (by first | exact Or.inl rfl | exact Or.inr rfl) (pv 5))
  (pss_nil)))
  (pss_cons (ps_if (pt_cmpR op_isN (pv 3) (pe_non) (nomark _)) (pss_cons (ps_ret (pe_ifExp (PW.pt (pw_or (pt_cmpR op_gt (pv 1) (pe_int) (nomark _)) (pw_or1 (pt_cmpR op_isN (pv 4) (pe_non) (nomark _))))) (pe_str) (pe_str)))
  (pss_nil)) (pss_nil))
  (pss_cons (ps_set (i := 6) sc__law_asked.nd rfl (by first | exact Or.inl rfl | exact Or.inr rfl) (pe_lst (pa_cons (pe_callB (call_isRK (K := K) rfl) (by rfl) T.n_isinstance (by decide +kernel) (pa_cons (pv 3) (pa_cons (pe_glob (v := .ref C.NotThere) rfl T.e_NotThere.g rfl) (pa_nil)))) (pa_cons (pe_callB (call_isRK (K := K) rfl) (by rfl) T.n_isinstance (by decide +kernel) (pa_cons (pv 3) (pa_cons (pe_glob (v := .ref C.Held) rfl T.e_Held.g rfl) (pa_nil)))) (pa_cons (pe_callB (call_isRTK (K := K) rfl) (by rfl) T.n_isinstance (by decide +kernel) (pa_cons (pv 3) (pa_cons (pe_tup (pa_cons (pe_glob (v := .ref C.BadYard) rfl T.e_BadYard.g rfl) (pa_cons (pe_glob (v := .ref C.Red) rfl T.e_Red.g rfl) (pa_nil)))) (pa_nil)))) (pa_nil))))))
  (pss_cons (ps_if (PW.pt (pw_or (pt_cmpR op_ne (pe_bmK (K := K) rfl PySem.F.plainAttrs_list PySem.F.slot_list_count PySem.F.type_list_count (mt_lcountBK (K := K) rfl hr.u65) (pv 6) (pa_cons (pe_bl) (pa_nil))) (pe_int) (nomark _)) (pw_or1 (pt_not (pt_val (pe_callB (call_isRK (K := K) rfl) (by rfl) T.n_isinstance (by decide +kernel) (pa_cons (pv 3) (pa_cons (pe_bltn (v := .ty "ValueError") (u := .type "ValueError") (by rfl) T.n_ValueError (by decide +kernel) rfl) (pa_nil))))))))) (pss_cons (ps_ret (pe_str))
  (pss_nil)) (pss_nil))
  (pss_cons (ps_ret (pe_ix (ix_listK (K := K) rfl) (pe_lst (pa_cons (pe_str) (pa_cons (pe_str) (pa_cons (pe_str) (pa_nil))))) (pe_bmK (K := K) rfl PySem.F.plainAttrs_list PySem.F.slot_list_index PySem.F.type_list_index (mt_indexDK (K := K) rfl hr.u65) (pv 6) (pa_cons (pe_bl) (pa_nil))) (fun _ _ => rfl)))
  (pss_nil))))))), ?_⟩
  refine Sx.run (Γ := Γ0 N__law_asked [.v (.ref t.y), AI way, AI n]) (B := B) ?_ e (fr_start ia (by rw [ia.length]; show 3 ≤ 7; decide))
  refine qx_asg (g := AN) gv_non fun B2 H2 x2 => ?_
  refine qx_asg (g := AN) gv_non fun B3 H3 x3 => ?_
  have x03 := x2.trans x3
  have h3 := h.ext x03
  let G : Option (Er × Addr) → List (Option AV) := fun o => [some (.v (.ref t.y)), some (AI way), some (AI n), some (o.elim AN fun p => .v (.ref p.2)), if way ≤ 3 then some AN else none, none, none]
  let R2 : Option (Er × Addr) × List (Addr × Addr) → Hp → Hp → Prop := fun x B4 H4 => (x.1 = none → ∃ d', askE t.d way n = .ok d' ∧ YGo C CT B H B4 H4 t.y t.A t.ta x.2 d') ∧ ∀ p, x.1 = some p → askE t.d way n = .error p.1 ∧ Ext B H B4 H4 ∧ H4 p.2 = some (ExR (erA C p.1) p.2)
  have hle : ∀ g : AV, (way ≤ 3 → g = AN) → Le (G none) [some (.v (.ref t.y)), some (AI way), some (AI n), some AN, some g, none, none] := fun g hg => by
    show Le [_, _, _, _, (if way ≤ 3 then some AN else none), _, _] _
    by_cases hw : way ≤ 3
    · rw [if_pos hw, hg hw]; walk_at "le"
    · rw [if_neg hw]; walk_at "le"
  have hle2 : ∀ p : Er × Addr, Le (G (some p)) [some (.v (.ref t.y)), some (AI way), some (AI n), some (.v (.ref p.2)), some AN, none, none] := fun p => by
    show Le [_, _, _, _, (if way ≤ 3 then some AN else none), _, _] _
    by_cases hw : way ≤ 3
    · rw [if_pos hw]; walk_at "le"
    · rw [if_neg hw]; walk_at "le"
  refine qx_tryKJ (ι := Option (Er × Addr) × List (Addr × Addr)) (fun x => G x.1) R2 (fun W hW rest => ?_) ?_
  rotate_left
  · intro ⟨o, ta'⟩ B4 H4 hR
    cases o with
    | none =>
      obtain ⟨d', h1, h2⟩ := hR.1 rfl
      rw [h1] at q
      refine qx_yes (b := true) (gt_is (gt_test (gv_op (gv_var rfl) gv_non ro_isN)) rfl) rfl fun B5 H5 x5 => ?_
      refine qx_ret (g := AS "ok") (gv_if (b := decide (3 < way) || decide (way ≤ 3)) (gt_or (gt_test (gv_op (gv_var rfl) gv_int ro_B0)) fun hb => ?_) (fun _ => gv_str) fun hb => ?_) fun u B6 H6 x6 hu => q u ta' B6 H6 ((h2.ext x5).ext x6) hu
      · have hw : way ≤ 3 := by simpa using hb
        refine gt_is (gt_test (gv_op (gv_var (g := AN) ?_) gv_non ro_isN)) (by rw [decide_eq_true hw]; rfl)
        show (G none)[4]? = _
        show some (if way ≤ 3 then some AN else none) = _
        rw [if_pos hw]
      · simp at hb
        omega
    | some p =>
      obtain ⟨h1, x4, ha⟩ := hR.2 p rfl
      obtain ⟨er, a⟩ := p
      have h1 : askE t.d way n = .error er := h1
      have ha : H4 a = some (ExR (erA C er) a) := ha
      have hne : er ≠ .red := fun z => askE_red (by rw [h1, z])
      have RE := R er hne
      rw [h1] at q
      have q : ∀ u ta' B2 H2, YGo C CT B H B2 H2 t.y t.A t.ta ta' t.d → Is B2 u (AS (wdE (.error er))) → Q u H2 := q
      refine qx_no (b := false) (gt_is (gt_test (gv_op (gv_var rfl) gv_non ro_isNV)) rfl) rfl fun B5 H5 x5 => sx_go ?_
      have ha5 := x5.hh _ _ ha
      have hbr : decide (er = .red) = false := decide_eq_false hne
      refine qx_asg (g := .d (.list ([decide (er = .none), decide (er = .held), false].map enc))) (gv_lst (ds := [.bool (decide (er = .none)), .bool (decide (er = .held)), .bool false]) (ga_cons (gv_cb (ga_cons (gv_var rfl) (ga_cons gv_cls ga_nil)) (rc_isR ha5 RE.ex (.own _) RE.non)) (ga_cons (gv_cb (ga_cons (gv_var rfl) (ga_cons gv_cls ga_nil)) (rc_isR ha5 RE.ex (.own _) RE.hel)) (ga_cons ?_ ga_nil))) (by show 3 ≤ 16000000; decide)) fun B6 H6 x6 => ?_
      · refine gv_isRT (cs := [.ref C.BadYard, .ref C.Red]) (gv_var rfl) ha5 RE.ex (ga_cons gv_cls (ga_cons gv_cls ga_nil)) (by show 2 ≤ 16000000; decide) (.cons (.own _) (.cons (.own _) .nil)) (kit_off RE.bad (kit_off (by rw [RE.red, hbr]) kitAny_nil))
      have ha6 := x6.hh _ _ ha5
      refine qx_no (b := false) (gt_is (gt_or (gt_test (gv_op (gv_countB (gv_var rfl) gv_bl) gv_int ro_neI)) fun _ => gt_not (gt_B (gv_cb (ga_cons (gv_var rfl) (ga_cons gv_cls ga_nil)) (rc_isR ha6 RE.ex (.ty _) RE.val)))) (by cases er <;> first | rfl | exact absurd rfl hne)) rfl fun B7 H7 x7 => sx_go ?_
      refine qx_ret (g := AS (wdE (.error er))) (gv_op (x := .d (.list [.str "none", .str "held", .str "wrong"])) (y := AI ((if er = .none then 0 else 1 : Nat) : Int)) (gv_lst (ds := [.str "none", .str "held", .str "wrong"]) (ga_cons gv_str (ga_cons gv_str (ga_cons gv_str ga_nil))) (by show 3 ≤ 16000000; decide)) (gv_indexD (d := .bool true) (z := .bool true) (gv_var rfl) gv_bl ?_ ?_ ?_ rfl ?_) (ro_ixL ?_)) fun u B8 H8 x8 hu => q u t.ta B8 H8 (YGo.same h.1 ((((x4.trans x5).trans x6).trans x7).trans x8)) hu
      · exact shaped_list (α := Bool) (by decide) _
      · simp [SeqAt.shaped, PyData.canLay0, PyData.depth]
      · cases er <;> first | rfl | exact absurd rfl hne
      · intro m z' hm hz
        cases er with
        | none => exact absurd hm (Nat.not_lt_zero _)
        | held =>
          have hm : m < 1 := hm
          have : m = 0 := by omega
          subst this
          cases hz
          rfl
        | red => exact absurd rfl hne
      · cases er <;> first | rfl | exact absurd rfl hne
  have er : ∀ {er : Er} {B4 H4 : Hp} {σ : L2.St}, askE t.d way n = .error er → Ext B3 H3 B4 H4 → Fr B4 σ [some (.v (.ref t.y)), some (AI way), some (AI n), some AN, some AN, none, none] → W (.ref (erA C er)) none σ H4 := fun {er B4 H4 σ} h1 x4 fr => by
    refine hW (erA C er) σ B4 H4 _ (R er fun z => askE_red (by rw [h1, z])).hit x4.bh fr (by show 5 < 7; decide) fun a B6 H6 ha x6 => ?_
    have x5 : Ext B4 H4 B4 (upd H4 a (ExR (erA C er) a)) := Ext.out x4.bh ha
    exact (rest (some (er, a), []) B6 H6 ⟨fun z => (by cases z), fun p hp => (by cases hp; exact ⟨h1, ((x03.trans x4).trans x5).trans x6, x6.hh _ _ upd_same⟩)⟩).le (hle2 (er, a))
  have ok : ∀ {g : AV} {d' : Wd} {ta' : List (Addr × Addr)} {B4 H4 : Hp}, askE t.d way n = .ok d' → (way ≤ 3 → g = AN) → YGo C CT B3 H3 B4 H4 t.y t.A t.ta ta' d' → Sx _ _ [some (.v (.ref t.y)), some (AI way), some (AI n), some AN, some g, none, none] B4 H4 := fun {g d' ta' B4 H4} h1 hg h4 =>
    (rest (none, ta') B4 H4 ⟨fun _ => ⟨d', h1, YGo.lead x03 h4⟩, fun p hp => nomatch hp⟩).le (hle g hg)
  refine qx_if (b := decide (way = 0)) (gt_test (gv_op (gv_var rfl) gv_int ro_eqI)) (fun hb B4 H4 x4 => ?_) fun hb0 B4 H4 x4 => ?_
  · have ea : askE t.d way n = setE t.d n := by unfold askE; rw [if_pos (of_decide_eq_true hb)]
    refine qx_asgSW (t, n) (ga_cons (gv_var rfl) (ga_cons (gv_var rfl) ga_nil)) (h3.ext x4) ft I.wayOk (fun d' hd ta' B5 H5 s5 N => ?_) fun c hc B5 H5 σ x5 fr => ?_
    · have hd := liftE_ok ((setF_E C t.d n).symm.trans hd)
      exact sx_go (sx_go (ok (ea.trans hd) (fun _ => rfl) (YGo.lead x4 N)))
    · obtain ⟨e1, h1, h2⟩ := liftE_er ((setF_E C t.d n).symm.trans hc)
      subst h2
      exact er (ea.trans h1) (x4.trans x5) fr
  have h4 := h3.ext x4
  have n0 : way ≠ 0 := of_decide_eq_false hb0
  refine qx_if (b := decide (way = 1)) (gt_test (gv_op (gv_var rfl) gv_int ro_eqI)) (fun hb B5 H5 x5 => ?_) fun hb1 B5 H5 x5 => ?_
  · have ea : askE t.d way n = cancelE t.d n := by unfold askE; rw [if_neg n0, if_pos (of_decide_eq_true hb)]
    refine qx_asgSW (t, n) (ga_cons (gv_var rfl) (ga_cons (gv_var rfl) ga_nil)) (h4.ext x5) ft I (fun d' hd ta' B6 H6 s6 N => ?_) fun c hc B6 H6 σ x6 fr => ?_
    · repeat refine sx_go ?_
      exact ok (ea.trans (liftE_ok hd)) (fun _ => rfl) (YGo.lead (x4.trans x5) N)
    · obtain ⟨e1, h1, h2⟩ := liftE_er hc
      subst h2
      exact er (ea.trans h1) ((x4.trans x5).trans x6) fr
  have h5 := h4.ext x5
  have x45 := x4.trans x5
  have n1 : way ≠ 1 := of_decide_eq_false hb1
  refine qx_if (b := decide (way = 2)) (gt_test (gv_op (gv_var rfl) gv_int ro_eqI)) (fun hb B6 H6 x6 => ?_) fun hb2 B6 H6 x6 => ?_
  · have ea : askE t.d way n = throwE t.d n := by unfold askE; rw [if_neg n0, if_neg n1, if_pos (of_decide_eq_true hb)]
    refine qx_asgSW (t, n) (ga_cons (gv_var rfl) (ga_cons (gv_var rfl) ga_nil)) (h5.ext x6) ft trivial (fun d' hd ta' B7 H7 s7 N => ?_) fun c hc B7 H7 σ x7 fr => ?_
    · have hd := liftE_ok ((throwF_E C t.d n).symm.trans hd)
      repeat refine sx_go ?_
      exact ok (ea.trans hd) (fun _ => rfl) (YGo.lead (x45.trans x6) N)
    · obtain ⟨e1, h1, h2⟩ := liftE_er ((throwF_E C t.d n).symm.trans hc)
      subst h2
      exact er (ea.trans h1) ((x45.trans x6).trans x7) fr
  have h6 := h5.ext x6
  have x46 := x45.trans x6
  have n2 : way ≠ 2 := of_decide_eq_false hb2
  refine qx_if (b := decide (way = 3)) (gt_test (gv_op (gv_var rfl) gv_int ro_eqI)) (fun hb B7 H7 x7 => ?_) fun hb3 B7 H7 x7 => ?_
  · have ea : askE t.d way n = .ok (tickD t.d) := by unfold askE; rw [if_neg n0, if_neg n1, if_neg n2, if_pos (of_decide_eq_true hb)]
    refine qx_asgG (gw_callW t (ga_cons (gv_var rfl) ga_nil) (h6.ext x7) ft I rfl) fun u B8 H8 s8 ⟨hu, ta', N⟩ => ⟨AN, by rw [hu]; exact .non, ?_⟩
    repeat refine sx_go ?_
    exact ok ea (fun _ => rfl) (YGo.lead (x46.trans x7) N)
  have h7 := h6.ext x7
  have x47 := x46.trans x7
  have n3 : way ≠ 3 := of_decide_eq_false hb3
  refine qx_if (b := decide (way = 4)) (gt_test (gv_op (gv_var rfl) gv_int ro_eqI)) (fun hb B8 H8 x8 => ?_) fun hb4 B8 H8 x8 => ?_
  · have hw := of_decide_eq_true hb
    have ea : askE t.d way n = seeE (there t.d.ps.length n && !decide (lieN t.d n = .no)) t.d := by unfold askE; rw [if_neg n0, if_neg n1, if_neg n2, if_neg n3, if_pos hw]
    have h8 := h7.ext x8
    refine qx_asgMS (t, n) (gv_var rfl) h8.1.ob (ym (by decide +kernel)) (ga_cons (gv_var rfl) ga_nil) rfl (fun _ _ x => ⟨h8.ext x, ft⟩) (fun g B9 H9 hg x9 => ?_) fun c B9 H9 σ hc x9 fr => ?_
    · have hg : (if (there t.d.ps.length n && !decide (lieN t.d n = .no)) = true then Except.ok (AV.d (enc (lieN t.d n))) else Except.error C.NotThere) = Except.ok g := hg
      cases hz : (there t.d.ps.length n && !decide (lieN t.d n = .no)) with
      | false => rw [hz] at hg; cases hg
      | true =>
        rw [hz] at ea
        repeat refine sx_go ?_
        exact ok ea (fun z => absurd z (by omega)) (YGo.same h3.1 ((x47.trans x8).trans x9))
    · have hc : (if (there t.d.ps.length n && !decide (lieN t.d n = .no)) = true then Except.ok (AV.d (enc (lieN t.d n))) else Except.error C.NotThere) = Except.error c := hc
      cases hz : (there t.d.ps.length n && !decide (lieN t.d n = .no)) with
      | true => rw [hz, if_pos rfl] at hc; cases hc
      | false =>
        rw [hz] at ea hc
        cases hc
        exact er (er := .none) ea ((x47.trans x8).trans x9) fr
  have h8 := h7.ext x8
  have x48 := x47.trans x8
  have n4 : way ≠ 4 := of_decide_eq_false hb4
  refine qx_if (b := decide (way = 5)) (gt_test (gv_op (gv_var rfl) gv_int ro_eqI)) (fun hb B9 H9 x9 => ?_) fun hb5 B9 H9 x9 => ?_
  · have hw := of_decide_eq_true hb
    have ea : askE t.d way n = seeE (there t.d.ps.length n) t.d := by unfold askE; rw [if_neg n0, if_neg n1, if_neg n2, if_neg n3, if_neg n4, if_pos hw]
    have h9 := h8.ext x9
    refine qx_asgMS (t, n) (gv_var rfl) h9.1.ob (ym (by decide +kernel)) (ga_cons (gv_var rfl) ga_nil) rfl (fun _ _ x => ⟨h9.ext x, ft⟩) (fun g B10 H10 hg x10 => ?_) fun c B10 H10 σ hc x10 fr => ?_
    · have hg : (if there t.d.ps.length n = true then Except.ok (AV.d (enc (lockN t.d n))) else Except.error C.NotThere) = Except.ok g := hg
      cases hz : there t.d.ps.length n with
      | false => rw [hz] at hg; cases hg
      | true =>
        rw [hz] at ea
        repeat refine sx_go ?_
        exact ok ea (fun z => absurd z (by omega)) (YGo.same h3.1 ((x48.trans x9).trans x10))
    · have hc : (if there t.d.ps.length n = true then Except.ok (AV.d (enc (lockN t.d n))) else Except.error C.NotThere) = Except.error c := hc
      cases hz : there t.d.ps.length n with
      | true => rw [hz, if_pos rfl] at hc; cases hc
      | false =>
        rw [hz] at ea hc
        cases hc
        exact er (er := .none) ea ((x48.trans x9).trans x10) fr
  have h9 := h8.ext x9
  have x49 := x48.trans x9
  have n5 : way ≠ 5 := of_decide_eq_false hb5
  refine qx_if (b := decide (way = 6)) (gt_test (gv_op (gv_var rfl) gv_int ro_eqI)) (fun hb B10 H10 x10 => ?_) fun hb6 B10 H10 x10 => ?_
  · have hw := of_decide_eq_true hb
    have ea : askE t.d way n = seeE (there t.d.ps.length n) t.d := by unfold askE; rw [if_neg n0, if_neg n1, if_neg n2, if_neg n3, if_neg n4, if_neg n5, if_pos hw]
    have h10 := h9.ext x10
    refine qx_asgMS (t, n) (gv_var rfl) h10.1.ob (ym (by decide +kernel)) (ga_cons (gv_var rfl) ga_nil) rfl (fun _ _ x => ⟨h10.ext x, ft⟩) (fun g B11 H11 hg x11 => ?_) fun c B11 H11 σ hc x11 fr => ?_
    · have hg : (if there t.d.ps.length n = true then Except.ok (AV.d (enc (trainIn t.d n))) else Except.error C.NotThere) = Except.ok g := hg
      cases hz : there t.d.ps.length n with
      | false => rw [hz] at hg; cases hg
      | true =>
        rw [hz] at ea
        repeat refine sx_go ?_
        exact ok ea (fun z => absurd z (by omega)) (YGo.same h3.1 ((x49.trans x10).trans x11))
    · have hc : (if there t.d.ps.length n = true then Except.ok (AV.d (enc (trainIn t.d n))) else Except.error C.NotThere) = Except.error c := hc
      cases hz : there t.d.ps.length n with
      | true => rw [hz, if_pos rfl] at hc; cases hc
      | false =>
        rw [hz] at ea hc
        cases hc
        exact er (er := .none) ea ((x49.trans x10).trans x11) fr
  have h10 := h9.ext x10
  have x410 := x49.trans x10
  have n6 : way ≠ 6 := of_decide_eq_false hb6
  have ea : askE t.d way n = seeE (there t.d.sg.length n) t.d := by unfold askE; rw [if_neg n0, if_neg n1, if_neg n2, if_neg n3, if_neg n4, if_neg n5, if_neg n6]
  have hw : way ≤ 3 → False := fun z => by omega
  refine qx_asgMS (t, n) (gv_var rfl) h10.1.ob (ym (by decide +kernel)) (ga_cons (gv_var rfl) ga_nil) rfl (fun _ _ x => ⟨h10.ext x, ft⟩) (fun g B11 H11 hg x11 => ?_) fun c B11 H11 σ hc x11 fr => ?_
  · have hg : (if there t.d.sg.length n = true then Except.ok (AB (greenN t.d n)) else Except.error C.NotThere) = Except.ok g := hg
    cases hz : there t.d.sg.length n with
    | false => rw [hz] at hg; cases hg
    | true =>
      rw [hz] at ea
      repeat refine sx_go ?_
      exact ok ea (fun z => (hw z).elim) (YGo.same h3.1 (x410.trans x11))
  · have hc : (if there t.d.sg.length n = true then Except.ok (AB (greenN t.d n)) else Except.error C.NotThere) = Except.error c := hc
    cases hz : there t.d.sg.length n with
    | true => rw [hz, if_pos rfl] at hc; cases hc
    | false =>
      rw [hz] at ea hc
      cases hc
      exact er (er := .none) ea (x410.trans x11) fr
end
end SB
namespace SB
open PySem PySem.Spec PyProof.Rows L2
open Enc (enc)
local macro_rules | `(tactic| walk_at "le") => `(tactic| first | exact le_nil | (refine le_keep ?_; walk_at "le") | (refine le_drop ?_; walk_at "le"))
local macro_rules | `(tactic| walk_at "sd") => `(tactic| first | assumption | (show (_ : Int) < _ ∧ _ < (1073741824 : Int); exact ⟨by omega, by omega⟩) | (show (-(2 ^ 64) < (_ : Int) ∧ _ < (2 ^ 64 : Int)) ∨ _; first | exact .inl ⟨by omega, by omega⟩ | exact .inr ⟨by omega, by omega⟩) | rfl | decide | (simp; done) | omega | skip)
local macro_rules | `(tactic| walk_at "gc") => `(tactic| fail)
local macro_rules | `(tactic| walk_at "gv") => `(tactic| first
  | exact gv_int | exact gv_str | exact gv_bl | exact gv_non | exact gv_var rfl
  | ((with_reducible refine' gv_op ?_ ?_ ?_) <;> walk_at "gv")
  | ((with_reducible refine' ga_cons ?_ ?_) <;> walk_at "gv") | exact ga_nil
  | ((with_reducible refine' gv_cb ?_ ?_) <;> walk_at "gv")
  | ((with_reducible refine' gt_test ?_) <;> walk_at "gv") | ((with_reducible refine' gt_B ?_) <;> walk_at "gv") | ((with_reducible refine' gt_not ?_) <;> walk_at "gv")
  | ((with_reducible refine' gt_and ?k1 ?k2); (case' k1 => walk_at "gv"); (case' k2 => intro hb; walk_at "gv"))
  | ((with_reducible refine' gt_or ?k1 ?k2); (case' k1 => walk_at "gv"); (case' k2 => intro hb; walk_at "gv"))
  | ((with_reducible refine' gv_andV ?k1 ?k2); (case' k1 => walk_at "gv"); (case' k2 => intro hb; walk_at "gv"))
  | ((with_reducible refine' gv_orV ?k1 ?k2); (case' k1 => walk_at "gv"); (case' k2 => intro hb; walk_at "gv"))
  | ((with_reducible refine' gv_notV ?_) <;> walk_at "gv")
  | ((with_reducible refine' gv_slL ?_ ?_ ?_) <;> walk_at "gv") | ((with_reducible refine' gv_slT ?_ ?_ ?_ ?_) <;> walk_at "gv")
  | exact go_none | ((with_reducible refine' go_some ?_) <;> walk_at "gv")
  | exact gd_nil | ((with_reducible refine' gd_cons ?_ ?_) <;> walk_at "gv") | ((with_reducible refine' gv_lst ?_ ?_) <;> walk_at "gv") | ((with_reducible refine' gv_tup ?_ ?_) <;> walk_at "gv")
  | ((with_reducible refine' gv_chain ?_ ?_ ?_ ?_ ?_) <;> walk_at "gv") | ((with_reducible refine' gt_truL ?_) <;> walk_at "gv") | ((with_reducible refine' gv_countI ?_ ?_) <;> walk_at "gv")
  | ((with_reducible refine' gv_lenSetI ?_ ?_) <;> walk_at "gv") | ((with_reducible refine' gv_lenSetU ?_ ?_) <;> walk_at "gv") | ((with_reducible refine' gv_lenSetT ?_ ?_) <;> walk_at "gv")
  | exact gt_yes
  | walk_at "gc"
  | exact ro_I0 | exact ro_B0 | (refine ro_I ?_; walk_at "sd")
  | exact ro_eqI | exact ro_neI | exact ro_eqS | exact ro_neS
  | (refine ro_eq ?_; walk_at "sd") | (refine ro_ne ?_; walk_at "sd")
  | exact ro_isN | exact ro_notN
  | exact ro_inI | exact ro_notInI | exact ro_inTI
  | (refine' ro_ixL ?k1; (case' k1 => walk_at "sd")) | (refine' ro_ixT ?k1; (case' k1 => walk_at "sd"))
  | (refine ro_cat ?_; walk_at "sd")
  | exact rc_lenM | exact rc_len | exact rc_lenT | exact rc_list | exact rc_listT | exact rc_tuple | exact rc_any | exact rc_all | exact rc_max2 | exact rc_min2 | exact rc_intB
  | (show (_ : Nat) ≤ _; first | decide | (simp; done) | omega)
  | (show (_ : Nat) < _; first | decide | (simp; done) | omega)
  | (show ¬ (_ ∧ _); exact fun h => absurd (show (1 : Nat) = 0 from h.1) (by decide))
  | skip)
local macro_rules | `(tactic| walk_at "ge") => `(tactic| (refine' gt_is ?k1 ?k2; (case' k1 => walk_at "gv"); (case' k2 => first | rfl | (simp; done) | skip)))
local macro_rules | `(tactic| walk_at "gw") => `(tactic| (refine' gv_is ?k1 ?k2; (case' k1 => walk_at "gv"); (case' k2 => first | rfl | (simp; done) | skip)))
local macro_rules | `(tactic| walk_at "gj") => `(tactic| first | exact gi_nil | (refine' gi_cons ?g1 ?g2; (case' g1 => walk_at "gv"); (case' g2 => walk_at "gj")))
local macro_rules | `(tactic| walk_at "gi") => `(tactic| (refine' gv_lst ?k1 ?k2; (case' k1 => walk_at "gj"); (case' k2 => (simp; try omega))))
local macro_rules | `(tactic| walk_at "gc") => `(tactic| first | ((with_reducible refine' gv_joints ?_) <;> walk_at "gv") | ((with_reducible refine' gv_beyond ?_ ?_ ?_ ?_) <;> walk_at "gv") | ((with_reducible refine' gv_outs ?_ ?_) <;> walk_at "gv") | ((with_reducible refine' gv_ends ?_ ?_ ?_ ?_ ?_) <;> walk_at "gv"))
/-! ### what is due; the law -/
section
variable {C : Adr} {P : Program} {w : World} {K : PySem.W.Frag} {mg : Str → Option Value} {base : Heap} {fd : FuncData} {f : Addr} {CT : Addr}
abbrev s_law : Stmt := top 51
abbrev N_law : List Str := ["_law_script", "_law_pieces_here", "_law_signals_here", "_law_wait", "_law_yard", "_law_world", "_law_k", "_law_number", "_law_way", "_law_many", "_law_at"]
theorem sc_law : FnScope N_law ["_law_script"] (defScope s_law) := ⟨rfl, rfl, rfl, by decide +kernel, rfl, by decide +kernel, by decide +kernel⟩
def spDue10 : Sp := spLw (T := LArg × Int × Int) (fun t => [.v (.ref t.1.l), AI t.2.1, AI t.2.2]) (·.1) (fun t => 0 ≤ t.2.1 ∧ t.2.1 ≤ 7) (fun t => AS (wdE (askE t.1.d t.2.1 t.2.2))) fun t => toD t.1.d (askE t.1.d t.2.1 t.2.2)
def manyN (d : Wd) (way : Int) : Nat := if way ∈ [2, 4, 5, 6] then d.ps.length else if way = 7 then d.sg.length else d.rts.length
theorem ok_due10 (T : Txt K mg C) (F : Fun K "_law_due" "_law_due" s__law_due f fd) (c__law_set : Cal P w K mg base CX0 3 "_law_set" spLset) (c__law_cancel : Cal P w K mg base CX0 2 "_law_cancel" spLcancel) (c__law_throw : Cal P w K mg base CX0 3 "_law_throw" spLthrow) (c__law_tick : Cal P w K mg base CX0 2 "_law_tick" spLtick) :
    FnOk P w K mg base CX0 4 f fd ["_law_world", "_law_way", "_law_number"] spDue10 := by
  refine fn_Lw F sc__law_due (fun _ => rfl) fun cdv A outer s H Q E hr => ⟨_, pss_cons (ps_set (i := 3) sc__law_due.nd rfl (by first | exact Or.inl rfl | exact Or.inr rfl) (pe_callB (call_lenK (K := K) rfl) (by rfl) T.n_len (by decide +kernel) (pa_cons (pe_dget (hu_of hr) (pv 0) (pe_str) (fun _ _ => rfl)) (pa_nil))))
  (pss_cons (ps_if (pt_cmpR (op_inK (K := K) rfl) (pv 1) (pe_tup (pa_cons (pe_int) (pa_cons (pe_int) (pa_cons (pe_int) (pa_cons (pe_int) (pa_nil)))))) (by rfl)) (pss_cons (ps_set (i := 3) sc__law_due.nd rfl (by first | exact Or.inl rfl | exact Or.inr rfl) (pe_callB (call_lenK (K := K) rfl) (by rfl) T.n_len (by decide +kernel) (pa_cons (pe_dget (hu_of hr) (pv 0) (pe_str) (fun _ _ => rfl)) (pa_nil))))
  (pss_nil)) (pss_nil))
  (pss_cons (ps_if (pt_cmpR op_eq (pv 1) (pe_int) (nomark _)) (pss_cons (ps_set (i := 3) sc__law_due.nd rfl (by first | exact Or.inl rfl | exact Or.inr rfl) (pe_callB (call_lenK (K := K) rfl) (by rfl) T.n_len (by decide +kernel) (pa_cons (pe_dget (hu_of hr) (pv 0) (pe_str) (fun _ _ => rfl)) (pa_nil))))
  (pss_nil)) (pss_nil))
  (pss_cons (ps_if (PW.pt (pw_and (pt_cmpR op_ne (pv 1) (pe_int) (nomark _)) (pw_and1 (pt_not (pt_chain op_le op_lt (pe_int) (pv 2) (pv 3)))))) (pss_cons (ps_ret (pe_str))
  (pss_nil)) (pss_nil))
  (pss_cons (ps_if (pt_cmpR op_eq (pv 1) (pe_int) (nomark _)) (pss_cons (ps_ret (pe_cal c__law_set hr (by first | decide | omega) rfl passN (pa_cons (pv 0) (pa_cons (pv 2) (pa_nil)))))
  (pss_nil)) (pss_nil))
  (pss_cons (ps_if (pt_cmpR op_eq (pv 1) (pe_int) (nomark _)) (pss_cons (ps_ret (pe_cal c__law_cancel hr (by first | decide | omega) rfl passN (pa_cons (pv 0) (pa_cons (pv 2) (pa_nil)))))
  (pss_nil)) (pss_nil))
  (pss_cons (ps_if (pt_cmpR op_eq (pv 1) (pe_int) (nomark _)) (pss_cons (ps_ret (pe_cal c__law_throw hr (by first | decide | omega) rfl passN (pa_cons (pv 0) (pa_cons (pv 2) (pa_nil)))))
  (pss_nil)) (pss_nil))
  (pss_cons (ps_if (pt_cmpR op_eq (pv 1) (pe_int) (nomark _)) (pss_cons (ps_ret (pe_cal c__law_tick hr (by first | decide | omega) rfl passN (pa_cons (pv 0) (pa_nil))))
  (pss_nil)) (pss_nil))
  (pss_cons (ps_ret (pe_ifExp (PW.pt (pw_and (pt_cmpR op_eq (pv 1) (pe_int) (nomark _)) (pw_and1 (pt_cmpR op_eq (pe_ix (ix_tupK (K := K) rfl) (pe_ix (ix_listK (K := K) rfl) (pe_dget (hu_of hr) (pv 0) (pe_str) (fun _ _ => rfl)) (pv 2) (fun _ _ => rfl)) (pe_int) (fun _ _ => rfl)) (pe_str) (nomark _))))) (pe_str) (pe_str)))
  (pss_nil))))))))), fun ⟨t, way, n⟩ B e h I hw q => ?_⟩
  have h : LAt B H t.l t.A t.d := h
  have I : Inv t.d := I
  have hw0 : 0 ≤ way := hw.1
  have hw7 : way ≤ 7 := hw.2
  have q : ∀ u A' B2 H2, LNew B H B2 H2 t.l t.A A' (toD t.d (askE t.d way n)) → Is B2 u (AS (wdE (askE t.d way n))) → Q u H2 := q
  refine qx_asg (g := AI ((t.d.rts.length : Nat) : Int)) (gv_cb (ga_cons (gl_routes h.rd (gv_var rfl)) ga_nil) rc_lenM) fun B2 H2 x2 => ?_
  refine qx_ifJ (b := decide (way ∈ [2, 4, 5, 6])) (ι := Unit) (fun _ => [some (.v (.ref t.l)), some (AI way), some (AI n), some (AI ((if way ∈ [2, 4, 5, 6] then t.d.ps.length else t.d.rts.length : Nat) : Int))]) (fun _ B3 H3 => Ext B H B3 H3) (gt_test (gv_op (gv_var rfl) (gv_tup (ds := [2, 4, 5, 6].map PyData.int) (ga_cons gv_int (ga_cons gv_int (ga_cons gv_int (ga_cons gv_int ga_nil)))) (by show 4 ≤ 16000000; decide)) ro_inTI)) (fun rest hb B3 H3 x3 => ?_) (fun rest hb B3 H3 x3 => ?_) ?_
  · refine qx_asg (g := AI ((t.d.ps.length : Nat) : Int)) (gv_cb (ga_cons (gl_pieces (h.ext (x2.trans x3)).rd (gv_var rfl)) ga_nil) rc_lenM) fun B4 H4 x4 => ?_
    exact sx_go ((rest () B4 H4 ((x2.trans x3).trans x4)).le (by rw [if_pos (of_decide_eq_true hb)]; walk_at "le"))
  · exact sx_go ((rest () B3 H3 (x2.trans x3)).le (by rw [if_neg (of_decide_eq_false hb)]; walk_at "le"))
  intro _ B3 H3 x3
  have h3 := h.ext x3
  refine qx_ifJ (b := decide (way = 7)) (ι := Unit) (fun _ => [some (.v (.ref t.l)), some (AI way), some (AI n), some (AI ((manyN t.d way : Nat) : Int))]) (fun _ B3 H3 => Ext B H B3 H3) (gt_test (gv_op (gv_var rfl) gv_int ro_eqI)) (fun rest hb B4 H4 x4 => ?_) (fun rest hb B4 H4 x4 => ?_) ?_
  · refine qx_asg (g := AI ((t.d.sg.length : Nat) : Int)) (gv_cb (ga_cons (gl_signals (h.ext (x3.trans x4)).rd (gv_var rfl)) ga_nil) rc_lenM) fun B5 H5 x5 => ?_
    have hb : way = 7 := of_decide_eq_true hb
    exact sx_go ((rest () B5 H5 ((x3.trans x4).trans x5)).le (by unfold manyN; rw [if_neg (by rw [hb]; decide), if_pos hb]; walk_at "le"))
  · have hb : way ≠ 7 := of_decide_eq_false hb
    exact sx_go ((rest () B4 H4 (x3.trans x4)).le (by unfold manyN; rw [if_neg hb]; walk_at "le"))
  intro _ B4 H4 x4
  have h4 := h.ext x4
  have ea : ∀ (z : Bool), (way ≠ 3 → z = there (manyN t.d way) n) → (way = 3 → z = true) → z = false → askE t.d way n = .error .none := fun z h1 h2 hz => by
    by_cases w3 : way = 3
    · rw [h2 w3] at hz; cases hz
    have h1 := (h1 w3).symm.trans hz
    unfold manyN at h1
    unfold askE
    by_cases w0 : way = 0
    · subst w0; rw [if_pos rfl]; unfold setE; rw [if_neg (by rw [show there t.d.rts.length n = false from h1]; simp)]
    by_cases w1 : way = 1
    · subst w1; rw [if_neg w0, if_pos rfl]; unfold cancelE; rw [show there t.d.rts.length n = false from h1]; rfl
    by_cases w2 : way = 2
    · subst w2; rw [if_neg w0, if_neg w1, if_pos rfl]; unfold throwE; rw [show there t.d.ps.length n = false from h1]; rfl
    by_cases w4 : way = 4
    · subst w4; rw [if_neg w0, if_neg w1, if_neg w2, if_neg w3, if_pos rfl]; unfold seeE; rw [show there t.d.ps.length n = false from h1]; rfl
    by_cases w5 : way = 5
    · subst w5; rw [if_neg w0, if_neg w1, if_neg w2, if_neg w3, if_neg w4, if_pos rfl]; unfold seeE; rw [show there t.d.ps.length n = false from h1]; rfl
    by_cases w6 : way = 6
    · subst w6; rw [if_neg w0, if_neg w1, if_neg w2, if_neg w3, if_neg w4, if_neg w5, if_pos rfl]; unfold seeE; rw [show there t.d.ps.length n = false from h1]; rfl
    have w7 : way = 7 := by omega
    subst w7; rw [if_neg w0, if_neg w1, if_neg w2, if_neg w3, if_neg w4, if_neg w5, if_neg w6]; unfold seeE; rw [show there t.d.sg.length n = false from h1]; rfl
  refine qx_when (b := !decide (way = 3) && !there (manyN t.d way) n) (gt_and (gt_test (gv_op (gv_var rfl) gv_int ro_neI)) fun _ => gt_not (gt_B (gv_chain gv_int (gv_var rfl) (gv_var rfl) ro_B0 ro_B0))) (fun hb B5 H5 x5 => ?_) fun hb B5 H5 x5 => ?_
  · have hz : (decide (way = 3) || there (manyN t.d way) n) = false := by simpa using hb
    have e1 := ea (decide (way = 3) || there (manyN t.d way) n) (fun w3 => by rw [decide_eq_false w3]; rfl) (fun w3 => by rw [decide_eq_true w3]; rfl) hz
    rw [e1] at q
    exact qx_ret gv_str fun u B6 H6 x6 hu => q u t.A B6 H6 (lnew_ext h ((x4.trans x5).trans x6)) hu
  have hz : way = 3 ∨ there (manyN t.d way) n = true := by
    by_cases w3 : way = 3
    · exact .inl w3
    · rw [decide_eq_false w3] at hb; exact .inr (by simpa using hb)
  have h5 := h4.ext x5
  have x05 := x4.trans x5
  refine qx_when (b := decide (way = 0)) (gt_test (gv_op (gv_var rfl) gv_int ro_eqI)) (fun hb2 B6 H6 x6 => ?_) fun hb0 B6 H6 x6 => ?_
  · have w0 : way = 0 := of_decide_eq_true hb2
    have hth : there t.d.rts.length n = true := by rcases hz with z | z; omega; unfold manyN at z; rw [w0] at z; exact z
    have e1 : askE t.d way n = setE t.d n := by unfold askE; rw [if_pos w0]
    rw [e1] at q
    refine qx_retGw (gw_callL (t, n) (ga_cons (gv_var rfl) (ga_cons (gv_var rfl) ga_nil)) (h5.ext x6) I hth) fun u B7 H7 s7 s8 ⟨A', N, hu⟩ => q u A' B7 H7 ⟨(x05.trans x6).f.trans N.1, N.2.1, fun a ha => (N.2.2 a ha).imp id fun z => (x05.trans x6).hh.free z⟩ hu
  have h6 := h5.ext x6
  have x06 := x05.trans x6
  have w0 : way ≠ 0 := of_decide_eq_false hb0
  refine qx_when (b := decide (way = 1)) (gt_test (gv_op (gv_var rfl) gv_int ro_eqI)) (fun hb2 B7 H7 x7 => ?_) fun hb1 B7 H7 x7 => ?_
  · have w1 : way = 1 := of_decide_eq_true hb2
    have hth : there t.d.rts.length n = true := by rcases hz with z | z; omega; unfold manyN at z; rw [w1] at z; exact z
    have e1 : askE t.d way n = cancelE t.d n := by unfold askE; rw [if_neg w0, if_pos w1]
    rw [e1] at q
    refine qx_retGw (gw_callL (t, n) (ga_cons (gv_var rfl) (ga_cons (gv_var rfl) ga_nil)) (h6.ext x7) I hth) fun u B8 H8 s7 s8 ⟨A', N, hu⟩ => q u A' B8 H8 ⟨(x06.trans x7).f.trans N.1, N.2.1, fun a ha => (N.2.2 a ha).imp id fun z => (x06.trans x7).hh.free z⟩ hu
  have h7 := h6.ext x7
  have x07 := x06.trans x7
  have w1 : way ≠ 1 := of_decide_eq_false hb1
  refine qx_when (b := decide (way = 2)) (gt_test (gv_op (gv_var rfl) gv_int ro_eqI)) (fun hb2 B8 H8 x8 => ?_) fun hb2 B8 H8 x8 => ?_
  · have w2 : way = 2 := of_decide_eq_true hb2
    have hth : there t.d.ps.length n = true := by rcases hz with z | z; omega; unfold manyN at z; rw [w2] at z; exact z
    have e1 : askE t.d way n = throwE t.d n := by unfold askE; rw [if_neg w0, if_neg w1, if_pos w2]
    rw [e1] at q
    refine qx_retGw (gw_callL (t, n) (ga_cons (gv_var rfl) (ga_cons (gv_var rfl) ga_nil)) (h7.ext x8) I hth) fun u B9 H9 s7 s8 ⟨A', N, hu⟩ => q u A' B9 H9 ⟨(x07.trans x8).f.trans N.1, N.2.1, fun a ha => (N.2.2 a ha).imp id fun z => (x07.trans x8).hh.free z⟩ hu
  have h8 := h7.ext x8
  have x08 := x07.trans x8
  have w2 : way ≠ 2 := of_decide_eq_false hb2
  refine qx_when (b := decide (way = 3)) (gt_test (gv_op (gv_var rfl) gv_int ro_eqI)) (fun hb3 B9 H9 x9 => ?_) fun hb3 B9 H9 x9 => ?_
  · have w3 : way = 3 := of_decide_eq_true hb3
    have e1 : askE t.d way n = .ok (tickD t.d) := by unfold askE; rw [if_neg w0, if_neg w1, if_neg w2, if_pos w3]
    rw [e1] at q
    refine qx_retGw (gw_callL t (ga_cons (gv_var rfl) ga_nil) (h8.ext x9) I trivial) fun u B10 H10 s7 s8 ⟨A', N, hu⟩ => q u A' B10 H10 ⟨(x08.trans x9).f.trans N.1, N.2.1, fun a ha => (N.2.2 a ha).imp id fun z => (x08.trans x9).hh.free z⟩ hu
  have h9 := h8.ext x9
  have x09 := x08.trans x9
  have w3 : way ≠ 3 := of_decide_eq_false hb3
  have hth : there (manyN t.d way) n = true := hz.resolve_left w3
  by_cases w4 : way = 4
  · have hth : there t.d.ps.length n = true := by unfold manyN at hth; rw [w4] at hth; exact hth
    obtain ⟨m, pc, hm, hpc, hpat⟩ := there_at (xs := t.d.ps) (i := n) hth
    have hpo := I.po m pc hpc
    rw [← hm] at hpo
    have e1 : askE t.d way n = if pc.word = "plain" then .error .none else .ok t.d := by
      unfold askE
      rw [if_neg w0, if_neg w1, if_neg w2, if_neg w3, if_pos w4]
      unfold seeE
      rw [hth, Bool.true_and]
      cases pc with
      | plain a c => rw [if_neg (by simpa using hpo.mpr rfl), if_pos (by simpa using word_pl a c)]
      | points a b c => rw [if_pos (by simp; exact fun z => by have := hpo.mp z; cases this), if_neg (by simpa using word_pt a b c)]
    refine qx_ret (g := if (decide (way = 4) && decide (pc.word = "plain")) = true then AS "none" else AS "ok") (gv_ite (gt_and (gt_test (gv_op (gv_var rfl) gv_int ro_eqI)) fun _ => gt_test (gv_op (gv_op (gv_op (gl_pieces h9.rd (gv_var rfl)) (gv_var rfl) (ro_ixL hpat)) gv_int (ro_ixT (ds := .str pc.word :: pc.js.map PyData.int) (d := .str pc.word) (by cases pc <;> rfl))) gv_str ro_eqS)) (fun _ => gv_str) fun _ => gv_str) fun u B10 H10 x10 hu => ?_
    rw [e1] at q
    rw [decide_eq_true w4, Bool.true_and] at hu
    by_cases hw : pc.word = "plain"
    · rw [decide_eq_true hw, if_pos rfl] at hu
      rw [if_pos hw] at q
      exact q u t.A B10 H10 (lnew_ext h (x09.trans x10)) hu
    · rw [decide_eq_false hw, if_neg Bool.false_ne_true] at hu
      rw [if_neg hw] at q
      exact q u t.A B10 H10 (lnew_ext h (x09.trans x10)) hu
  · have e1 : askE t.d way n = .ok t.d := by
      unfold manyN at hth
      unfold askE
      rw [if_neg w0, if_neg w1, if_neg w2, if_neg w3, if_neg w4]
      unfold seeE
      by_cases w5 : way = 5
      · rw [if_pos w5]; rw [w5] at hth; rw [if_pos (show there t.d.ps.length n = true from hth)]
      by_cases w6 : way = 6
      · rw [if_neg w5, if_pos w6]; rw [w6] at hth; rw [if_pos (show there t.d.ps.length n = true from hth)]
      have w7 : way = 7 := by omega
      rw [if_neg w5, if_neg w6]; rw [w7] at hth; rw [if_pos (show there t.d.sg.length n = true from hth)]
    rw [e1] at q
    refine qx_ret (g := AS "ok") (gv_if (b := decide (way = 4) && false) (gt_and (gt_test (gv_op (gv_var rfl) gv_int ro_eqI)) fun hb => absurd (of_decide_eq_true hb) w4) (fun hb => by simp at hb) fun _ => gv_str) fun u B10 H10 x10 hu => q u t.A B10 H10 (lnew_ext h (x09.trans x10)) hu
end
end SB
namespace SB
open PySem PySem.Spec PyProof.Rows L2
open Enc (enc)
local macro_rules | `(tactic| walk_at "le") => `(tactic| first | exact le_nil | (refine le_keep ?_; walk_at "le") | (refine le_drop ?_; walk_at "le"))
local macro_rules | `(tactic| walk_at "sd") => `(tactic| first | assumption | (show (_ : Int) < _ ∧ _ < (1073741824 : Int); exact ⟨by omega, by omega⟩) | (show (-(2 ^ 64) < (_ : Int) ∧ _ < (2 ^ 64 : Int)) ∨ _; first | exact .inl ⟨by omega, by omega⟩ | exact .inr ⟨by omega, by omega⟩) | rfl | decide | (simp; done) | omega | skip)
local macro_rules | `(tactic| walk_at "gc") => `(tactic| fail)
local macro_rules | `(tactic| walk_at "gv") => `(tactic| first
  | exact gv_int | exact gv_str | exact gv_bl | exact gv_non | exact gv_var rfl
  | ((with_reducible refine' gv_op ?_ ?_ ?_) <;> walk_at "gv")
  | ((with_reducible refine' ga_cons ?_ ?_) <;> walk_at "gv") | exact ga_nil
  | ((with_reducible refine' gv_cb ?_ ?_) <;> walk_at "gv")
  | ((with_reducible refine' gt_test ?_) <;> walk_at "gv") | ((with_reducible refine' gt_B ?_) <;> walk_at "gv") | ((with_reducible refine' gt_not ?_) <;> walk_at "gv")
  | ((with_reducible refine' gt_and ?k1 ?k2); (case' k1 => walk_at "gv"); (case' k2 => intro hb; walk_at "gv"))
  | ((with_reducible refine' gt_or ?k1 ?k2); (case' k1 => walk_at "gv"); (case' k2 => intro hb; walk_at "gv"))
  | ((with_reducible refine' gv_andV ?k1 ?k2); (case' k1 => walk_at "gv"); (case' k2 => intro hb; walk_at "gv"))
  | ((with_reducible refine' gv_orV ?k1 ?k2); (case' k1 => walk_at "gv"); (case' k2 => intro hb; walk_at "gv"))
  | ((with_reducible refine' gv_notV ?_) <;> walk_at "gv")
  | ((with_reducible refine' gv_slL ?_ ?_ ?_) <;> walk_at "gv") | ((with_reducible refine' gv_slT ?_ ?_ ?_ ?_) <;> walk_at "gv")
  | exact go_none | ((with_reducible refine' go_some ?_) <;> walk_at "gv")
  | exact gd_nil | ((with_reducible refine' gd_cons ?_ ?_) <;> walk_at "gv") | ((with_reducible refine' gv_lst ?_ ?_) <;> walk_at "gv") | ((with_reducible refine' gv_tup ?_ ?_) <;> walk_at "gv")
  | ((with_reducible refine' gv_chain ?_ ?_ ?_ ?_ ?_) <;> walk_at "gv") | ((with_reducible refine' gt_truL ?_) <;> walk_at "gv") | ((with_reducible refine' gv_countI ?_ ?_) <;> walk_at "gv")
  | ((with_reducible refine' gv_lenSetI ?_ ?_) <;> walk_at "gv") | ((with_reducible refine' gv_lenSetU ?_ ?_) <;> walk_at "gv") | ((with_reducible refine' gv_lenSetT ?_ ?_) <;> walk_at "gv")
  | exact gt_yes
  | walk_at "gc"
  | exact ro_I0 | exact ro_B0 | (refine ro_I ?_; walk_at "sd")
  | exact ro_eqI | exact ro_neI | exact ro_eqS | exact ro_neS
  | (refine ro_eq ?_; walk_at "sd") | (refine ro_ne ?_; walk_at "sd")
  | exact ro_isN | exact ro_notN
  | exact ro_inI | exact ro_notInI | exact ro_inTI
  | (refine' ro_ixL ?k1; (case' k1 => walk_at "sd")) | (refine' ro_ixT ?k1; (case' k1 => walk_at "sd"))
  | (refine ro_cat ?_; walk_at "sd")
  | exact rc_lenM | exact rc_len | exact rc_lenT | exact rc_list | exact rc_listT | exact rc_tuple | exact rc_any | exact rc_all | exact rc_max2 | exact rc_min2 | exact rc_intB
  | (show (_ : Nat) ≤ _; first | decide | (simp; done) | omega)
  | (show (_ : Nat) < _; first | decide | (simp; done) | omega)
  | (show ¬ (_ ∧ _); exact fun h => absurd (show (1 : Nat) = 0 from h.1) (by decide))
  | skip)
local macro_rules | `(tactic| walk_at "ge") => `(tactic| (refine' gt_is ?k1 ?k2; (case' k1 => walk_at "gv"); (case' k2 => first | rfl | (simp; done) | skip)))
local macro_rules | `(tactic| walk_at "gw") => `(tactic| (refine' gv_is ?k1 ?k2; (case' k1 => walk_at "gv"); (case' k2 => first | rfl | (simp; done) | skip)))
local macro_rules | `(tactic| walk_at "gj") => `(tactic| first | exact gi_nil | (refine' gi_cons ?g1 ?g2; (case' g1 => walk_at "gv"); (case' g2 => walk_at "gj")))
local macro_rules | `(tactic| walk_at "gi") => `(tactic| (refine' gv_lst ?k1 ?k2; (case' k1 => walk_at "gj"); (case' k2 => (simp; try omega))))
/-! ### a yard is made -/
section
variable {C : Adr} {P : Program} {w : World} {K : PySem.W.Frag} {mg : Str → Option Value} {base : Heap} {fd : FuncData} {f : Addr}
theorem qx_asgYard {tr : TA} {tz : TS} {D : Ends} {Γ : List (Option AV)} {B H : Hp} {ps : List Pc} {sg : List Sig} {wait : Int} {i : Nat} (h : Ga tr Γ B H [.d (.list (ps.map enc)), .d (.list (sg.map enc)), AI wait]) (hl : ps.length ≤ 100) (hs : sg.length ≤ 60) (hg : goodYard ps sg = true)
    (k : ∀ y A B2 H2, H y = none → Ext B H B2 H2 → (∀ p ∈ [A.pts, A.lks, A.grn, A.fal, A.trn], H p = none) → YNew C B2 H2 y A ps sg wait → Sx tz D (Γ.set i (some (.v (.ref y)))) B2 H2) :
    Sx (tSeq (tAsg (tMake C.Yard (spYard C) [] xNo tr) (gName i)) tz) D Γ B H := fun e σ f =>
  h B H σ (Ext.refl e) f _ fun us B2 H2 e2 hu => fun y dx hy hdx hne => by
    have x1 : Ext B2 H2 B2 (upd H2 dx (.own y)) := Ext.out e2.bh hdx
    have hy1 : upd H2 dx (.own y) y = none := by rw [upd_ne (fun z => hne z.symm)]; exact hy
    have x2 : Ext B2 (upd H2 dx (.own y)) B2 (upd (upd H2 dx (.own y)) y (.ins C.Yard dx [])) := Ext.out x1.bh hy1
    have x := e2.trans (x1.trans x2)
    have hy0 := e2.hh.free hy
    refine ⟨y, dx, ps, sg, wait, B2, x2.bh, .cons rfl (by rw [List.append_nil]; exact hu), upd_same, e2.bh.free hy, hl, hs, fun _ A B3 H3 _ x3 hn Y => ?_, fun hg2 => by rw [hg] at hg2; cases hg2⟩
    have x4 := x.thenF x3 (fun p hp => by rw [hp]; exact hy0)
    exact ⟨rfl, k y A B3 H3 hy0 x4 (fun p hp => x.hh.free (hn p hp)) Y x4.bh _ ((f.mono x4.bb).set i rfl)⟩
end
end SB
namespace SB
open PySem PySem.Spec PyProof.Rows L2
open Enc (enc)
local macro_rules | `(tactic| walk_at "le") => `(tactic| first | exact le_nil | (refine le_keep ?_; walk_at "le") | (refine le_drop ?_; walk_at "le"))
local macro_rules | `(tactic| walk_at "sd") => `(tactic| first | assumption | (show (_ : Int) < _ ∧ _ < (1073741824 : Int); exact ⟨by omega, by omega⟩) | (show (-(2 ^ 64) < (_ : Int) ∧ _ < (2 ^ 64 : Int)) ∨ _; first | exact .inl ⟨by omega, by omega⟩ | exact .inr ⟨by omega, by omega⟩) | rfl | decide | (simp; done) | omega | skip)
local macro_rules | `(tactic| walk_at "gc") => `(tactic| fail)
local macro_rules | `(tactic| walk_at "gv") => `(tactic| first
  | exact gv_int | exact gv_str | exact gv_bl | exact gv_non | exact gv_var rfl
  | ((with_reducible refine' gv_op ?_ ?_ ?_) <;> walk_at "gv")
  | ((with_reducible refine' ga_cons ?_ ?_) <;> walk_at "gv") | exact ga_nil
  | ((with_reducible refine' gv_cb ?_ ?_) <;> walk_at "gv")
  | ((with_reducible refine' gt_test ?_) <;> walk_at "gv") | ((with_reducible refine' gt_B ?_) <;> walk_at "gv") | ((with_reducible refine' gt_not ?_) <;> walk_at "gv")
  | ((with_reducible refine' gt_and ?k1 ?k2); (case' k1 => walk_at "gv"); (case' k2 => intro hb; walk_at "gv"))
  | ((with_reducible refine' gt_or ?k1 ?k2); (case' k1 => walk_at "gv"); (case' k2 => intro hb; walk_at "gv"))
  | ((with_reducible refine' gv_andV ?k1 ?k2); (case' k1 => walk_at "gv"); (case' k2 => intro hb; walk_at "gv"))
  | ((with_reducible refine' gv_orV ?k1 ?k2); (case' k1 => walk_at "gv"); (case' k2 => intro hb; walk_at "gv"))
  | ((with_reducible refine' gv_notV ?_) <;> walk_at "gv")
  | ((with_reducible refine' gv_slL ?_ ?_ ?_) <;> walk_at "gv") | ((with_reducible refine' gv_slT ?_ ?_ ?_ ?_) <;> walk_at "gv")
  | exact go_none | ((with_reducible refine' go_some ?_) <;> walk_at "gv")
  | exact gd_nil | ((with_reducible refine' gd_cons ?_ ?_) <;> walk_at "gv") | ((with_reducible refine' gv_lst ?_ ?_) <;> walk_at "gv") | ((with_reducible refine' gv_tup ?_ ?_) <;> walk_at "gv")
  | ((with_reducible refine' gv_chain ?_ ?_ ?_ ?_ ?_) <;> walk_at "gv") | ((with_reducible refine' gt_truL ?_) <;> walk_at "gv") | ((with_reducible refine' gv_countI ?_ ?_) <;> walk_at "gv")
  | ((with_reducible refine' gv_lenSetI ?_ ?_) <;> walk_at "gv") | ((with_reducible refine' gv_lenSetU ?_ ?_) <;> walk_at "gv") | ((with_reducible refine' gv_lenSetT ?_ ?_) <;> walk_at "gv")
  | exact gt_yes
  | walk_at "gc"
  | exact ro_I0 | exact ro_B0 | (refine ro_I ?_; walk_at "sd")
  | exact ro_eqI | exact ro_neI | exact ro_eqS | exact ro_neS
  | (refine ro_eq ?_; walk_at "sd") | (refine ro_ne ?_; walk_at "sd")
  | exact ro_isN | exact ro_notN
  | exact ro_inI | exact ro_notInI | exact ro_inTI
  | (refine' ro_ixL ?k1; (case' k1 => walk_at "sd")) | (refine' ro_ixT ?k1; (case' k1 => walk_at "sd"))
  | (refine ro_cat ?_; walk_at "sd")
  | exact rc_lenM | exact rc_len | exact rc_lenT | exact rc_list | exact rc_listT | exact rc_tuple | exact rc_any | exact rc_all | exact rc_max2 | exact rc_min2 | exact rc_intB
  | (show (_ : Nat) ≤ _; first | decide | (simp; done) | omega)
  | (show (_ : Nat) < _; first | decide | (simp; done) | omega)
  | (show ¬ (_ ∧ _); exact fun h => absurd (show (1 : Nat) = 0 from h.1) (by decide))
  | skip)
local macro_rules | `(tactic| walk_at "ge") => `(tactic| (refine' gt_is ?k1 ?k2; (case' k1 => walk_at "gv"); (case' k2 => first | rfl | (simp; done) | skip)))
local macro_rules | `(tactic| walk_at "gw") => `(tactic| (refine' gv_is ?k1 ?k2; (case' k1 => walk_at "gv"); (case' k2 => first | rfl | (simp; done) | skip)))
local macro_rules | `(tactic| walk_at "gj") => `(tactic| first | exact gi_nil | (refine' gi_cons ?g1 ?g2; (case' g1 => walk_at "gv"); (case' g2 => walk_at "gj")))
local macro_rules | `(tactic| walk_at "gi") => `(tactic| (refine' gv_lst ?k1 ?k2; (case' k1 => walk_at "gj"); (case' k2 => (simp; try omega))))
/-! ### the yard and the world, side by side -/
section
variable {C : Adr} {K : PySem.W.Frag} {mg : Str → Option Value} {CT : Addr}
structure Two (C : Adr) (CT : Addr) (B H : Hp) (y : Addr) (A : YAd) (ta : List (Addr × Addr)) (d : Wd) (l : Addr) (L : LAd) (e : Wd) : Prop where
  hy : YAt C CT B H y A ta d
  hl : LAt B H l L e
  dj : ∀ a ∈ own y A ta, a ∉ ownL l L
theorem YAt.own_some {B H : Hp} {y : Addr} {A : YAd} {ta : List (Addr × Addr)} {d : Wd} (h : YAt C CT B H y A ta d) : ∀ a ∈ own y A ta, H a ≠ none := by
  intro a ha
  obtain ⟨kvs, h1, h2⟩ := h.hfal
  unfold own at ha
  simp only [List.mem_cons] at ha
  rcases ha with z | z | z | z | z | z | z
  · subst z; rw [h.ob]; simp
  · subst z; exact h.hpts.ne
  · subst z; exact h.hlks.ne
  · subst z; exact h.hgrn.ne
  · subst z; exact h1.ne
  · subst z; exact h.htrn.ne
  · obtain ⟨p, hp, e⟩ := List.mem_map.mp z
    obtain ⟨i, hi⟩ := List.getElem?_of_mem hp
    have hl : i < d.trs.length := by rw [← h.len]; exact (List.getElem?_eq_some_iff.mp hi).1
    obtain ⟨⟨v1, v2, ho, _⟩, _⟩ := h.tr i (d.trs[i]).1 (d.trs[i]).2 p.1 p.2 (List.getElem?_eq_getElem hl) hi
    rw [← e, ho]
    simp
theorem Two.yard {B H B2 H2 : Hp} {y : Addr} {A : YAd} {ta ta' : List (Addr × Addr)} {d d' : Wd} {l : Addr} {L : LAd} {e : Wd} (h : Two C CT B H y A ta d l L e) (N : YGo C CT B H B2 H2 y A ta ta' d') : Two C CT B2 H2 y A ta' d' l L e :=
  ⟨N.2.1, h.hl.extF N.1 fun a ha hb => h.dj a hb ha, fun a ha hb => by
    rcases N.2.2 a ha with z | z
    · exact h.dj a z hb
    · exact h.hl.own_some a hb z⟩
theorem Two.world {B H B2 H2 : Hp} {y : Addr} {A : YAd} {ta : List (Addr × Addr)} {d : Wd} {l : Addr} {L L' : LAd} {e e' : Wd} (h : Two C CT B H y A ta d l L e) (N : LNew B H B2 H2 l L L' e') : Two C CT B2 H2 y A ta d l L' e' :=
  ⟨h.hy.extF N.1 fun a ha hb => h.dj a ha hb, N.2.1, fun a ha hb => by
    rcases N.2.2 a hb with z | z
    · exact h.dj a ha z
    · exact h.hy.own_some a ha z⟩
theorem Two.ext {B H B2 H2 : Hp} {y : Addr} {A : YAd} {ta : List (Addr × Addr)} {d : Wd} {l : Addr} {L : LAd} {e : Wd} (h : Two C CT B H y A ta d l L e) (x : Ext B H B2 H2) : Two C CT B2 H2 y A ta d l L e := ⟨h.hy.ext x, h.hl.ext x, h.dj⟩
/-- both were made behind a heap H0 -/
def Fresh (H0 : Hp) (y : Addr) (A : YAd) (ta : List (Addr × Addr)) (l : Addr) (L : LAd) : Prop := (∀ a ∈ own y A ta, H0 a = none) ∧ ∀ a ∈ ownL l L, H0 a = none
theorem fresh_yard {B0 H0 B H B2 H2 : Hp} {y : Addr} {A : YAd} {ta ta' : List (Addr × Addr)} {d' : Wd} {l : Addr} {L : LAd} (x : Ext B0 H0 B H) (f : Fresh H0 y A ta l L) (N : YGo C CT B H B2 H2 y A ta ta' d') : Ext B0 H0 B2 H2 ∧ Fresh H0 y A ta' l L :=
  ⟨x.thenF N.1 fun a ha => f.1 a ha, fun a ha => by
    rcases N.2.2 a ha with z | z
    · exact f.1 a z
    · exact x.hh.free z, f.2⟩
theorem fresh_world {B0 H0 B H B2 H2 : Hp} {y : Addr} {A : YAd} {ta : List (Addr × Addr)} {l : Addr} {L L' : LAd} {e' : Wd} (x : Ext B0 H0 B H) (f : Fresh H0 y A ta l L) (N : LNew B H B2 H2 l L L' e') : Ext B0 H0 B2 H2 ∧ Fresh H0 y A ta l L' :=
  ⟨x.thenF N.1 fun a ha => f.2 a ha, f.1, fun a ha => by
    rcases N.2.2 a ha with z | z
    · exact f.2 a z
    · exact x.hh.free z⟩
end
end SB
namespace SB
open PySem PySem.Spec PyProof.Rows L2
open Enc (enc)
local macro_rules | `(tactic| walk_at "le") => `(tactic| first | exact le_nil | (refine le_keep ?_; walk_at "le") | (refine le_drop ?_; walk_at "le"))
local macro_rules | `(tactic| walk_at "sd") => `(tactic| first | assumption | (show (_ : Int) < _ ∧ _ < (1073741824 : Int); exact ⟨by omega, by omega⟩) | (show (-(2 ^ 64) < (_ : Int) ∧ _ < (2 ^ 64 : Int)) ∨ _; first | exact .inl ⟨by omega, by omega⟩ | exact .inr ⟨by omega, by omega⟩) | rfl | decide | (simp; done) | omega | skip)
local macro_rules | `(tactic| walk_at "gc") => `(tactic| fail)
local macro_rules | `(tactic| walk_at "gv") => `(tactic| first
  | exact gv_int | exact gv_str | exact gv_bl | exact gv_non | exact gv_var rfl
  | ((with_reducible refine' gv_op ?_ ?_ ?_) <;> walk_at "gv")
  | ((with_reducible refine' ga_cons ?_ ?_) <;> walk_at "gv") | exact ga_nil
  | ((with_reducible refine' gv_cb ?_ ?_) <;> walk_at "gv")
  | ((with_reducible refine' gt_test ?_) <;> walk_at "gv") | ((with_reducible refine' gt_B ?_) <;> walk_at "gv") | ((with_reducible refine' gt_not ?_) <;> walk_at "gv")
  | ((with_reducible refine' gt_and ?k1 ?k2); (case' k1 => walk_at "gv"); (case' k2 => intro hb; walk_at "gv"))
  | ((with_reducible refine' gt_or ?k1 ?k2); (case' k1 => walk_at "gv"); (case' k2 => intro hb; walk_at "gv"))
  | ((with_reducible refine' gv_andV ?k1 ?k2); (case' k1 => walk_at "gv"); (case' k2 => intro hb; walk_at "gv"))
  | ((with_reducible refine' gv_orV ?k1 ?k2); (case' k1 => walk_at "gv"); (case' k2 => intro hb; walk_at "gv"))
  | ((with_reducible refine' gv_notV ?_) <;> walk_at "gv")
  | ((with_reducible refine' gv_slL ?_ ?_ ?_) <;> walk_at "gv") | ((with_reducible refine' gv_slT ?_ ?_ ?_ ?_) <;> walk_at "gv")
  | exact go_none | ((with_reducible refine' go_some ?_) <;> walk_at "gv")
  | exact gd_nil | ((with_reducible refine' gd_cons ?_ ?_) <;> walk_at "gv") | ((with_reducible refine' gv_lst ?_ ?_) <;> walk_at "gv") | ((with_reducible refine' gv_tup ?_ ?_) <;> walk_at "gv")
  | ((with_reducible refine' gv_chain ?_ ?_ ?_ ?_ ?_) <;> walk_at "gv") | ((with_reducible refine' gt_truL ?_) <;> walk_at "gv") | ((with_reducible refine' gv_countI ?_ ?_) <;> walk_at "gv")
  | ((with_reducible refine' gv_lenSetI ?_ ?_) <;> walk_at "gv") | ((with_reducible refine' gv_lenSetU ?_ ?_) <;> walk_at "gv") | ((with_reducible refine' gv_lenSetT ?_ ?_) <;> walk_at "gv")
  | exact gt_yes
  | walk_at "gc"
  | exact ro_I0 | exact ro_B0 | (refine ro_I ?_; walk_at "sd")
  | exact ro_eqI | exact ro_neI | exact ro_eqS | exact ro_neS
  | (refine ro_eq ?_; walk_at "sd") | (refine ro_ne ?_; walk_at "sd")
  | exact ro_isN | exact ro_notN
  | exact ro_inI | exact ro_notInI | exact ro_inTI
  | (refine' ro_ixL ?k1; (case' k1 => walk_at "sd")) | (refine' ro_ixT ?k1; (case' k1 => walk_at "sd"))
  | (refine ro_cat ?_; walk_at "sd")
  | exact rc_lenM | exact rc_len | exact rc_lenT | exact rc_list | exact rc_listT | exact rc_tuple | exact rc_any | exact rc_all | exact rc_max2 | exact rc_min2 | exact rc_intB
  | (show (_ : Nat) ≤ _; first | decide | (simp; done) | omega)
  | (show (_ : Nat) < _; first | decide | (simp; done) | omega)
  | (show ¬ (_ ∧ _); exact fun h => absurd (show (1 : Nat) = 0 from h.1) (by decide))
  | skip)
local macro_rules | `(tactic| walk_at "ge") => `(tactic| (refine' gt_is ?k1 ?k2; (case' k1 => walk_at "gv"); (case' k2 => first | rfl | (simp; done) | skip)))
local macro_rules | `(tactic| walk_at "gw") => `(tactic| (refine' gv_is ?k1 ?k2; (case' k1 => walk_at "gv"); (case' k2 => first | rfl | (simp; done) | skip)))
local macro_rules | `(tactic| walk_at "gj") => `(tactic| first | exact gi_nil | (refine' gi_cons ?g1 ?g2; (case' g1 => walk_at "gv"); (case' g2 => walk_at "gj")))
local macro_rules | `(tactic| walk_at "gi") => `(tactic| (refine' gv_lst ?k1 ?k2; (case' k1 => walk_at "gj"); (case' k2 => (simp; try omega))))
local macro_rules | `(tactic| walk_at "gc") => `(tactic| first | ((with_reducible refine' gv_joints ?_) <;> walk_at "gv") | ((with_reducible refine' gv_beyond ?_ ?_ ?_ ?_) <;> walk_at "gv") | ((with_reducible refine' gv_outs ?_ ?_) <;> walk_at "gv") | ((with_reducible refine' gv_ends ?_ ?_ ?_ ?_ ?_) <;> walk_at "gv"))
/-! ### the law k10 -/
section
variable {C : Adr} {P : Program} {w : World} {K : PySem.W.Frag} {mg : Str → Option Value} {base : Heap} {fd : FuncData} {f : Addr} {CT : Addr}
def spLaw (K : PySem.W.Frag) : Sp := fun vs H Q _ => ∃ (a : Addr) (ns : List Int), vs = [.ref a] ∧ SqL K H a (ns.map V.int) ∧ ns.length ≤ 63 ∧ ∀ H', Q (.bl true) H'
theorem gv_neg {Γ : List (Option AV)} {B H : Hp} {ta : TE} {i : Int} (h : Gv ta Γ B H (AI i)) : Gv (tUn (rU fun i => .int (-i)) ta) Γ B H (AI (-i)) := fun B1 H1 σ e f Q q => h B1 H1 σ e f _ fun u B2 H2 e2 hu => by
  cases hu
  exact ⟨i, rfl, q _ B2 H2 e2 (.int _)⟩
theorem gw_ask10 {Γ : List (Option AV)} {B H : Hp} {tr : TA} {E : XK} {t : YArg} {way n : Int} (ht : Ga tr Γ B H [.v (.ref t.y), AI way, AI n]) (h : YP K C CT t B H) (I : Inv t.d) (hw : 0 ≤ way) :
    Gw (tCall (spAsk10 K C CT) [] E tr) Γ B H fun u B2 H2 => ∃ ta', YGo C CT B H B2 H2 t.y t.A t.ta ta' (toD t.d (askE t.d way n)) ∧ Is B2 u (AS (wdE (askE t.d way n))) := fun e σ f Q q =>
  ht B H σ (Ext.refl e) f _ fun us B2 H2 x hu => ⟨t, way, n, B2, x.bh, by rw [List.append_nil]; exact hu, h.ext x, I, hw, fun u ta' B3 H3 N hr => q u B3 H3 (x.bb.trans N.1.bb) N.1.bh ⟨ta', YGo.lead x N, hr⟩⟩
theorem gw_due10 {Γ : List (Option AV)} {B H : Hp} {tr : TA} {E : XK} {l : Addr} {L : LAd} {d : Wd} {way n : Int} (ht : Ga tr Γ B H [.v (.ref l), AI way, AI n]) (h : LAt B H l L d) (I : Inv d) (hw : 0 ≤ way ∧ way ≤ 7) :
    Gw (tCall spDue10 [] E tr) Γ B H fun u B2 H2 => ∃ L', LNew B H B2 H2 l L L' (toD d (askE d way n)) ∧ Is B2 u (AS (wdE (askE d way n))) := gw_callL (args := fun t : LArg × Int × Int => [.v (.ref t.1.l), AI t.2.1, AI t.2.2]) (arg := (·.1)) (pre := fun t => 0 ≤ t.2.1 ∧ t.2.1 ≤ 7) (res := fun t => AS (wdE (askE t.1.d t.2.1 t.2.2))) (nx := fun t => toD t.1.d (askE t.1.d t.2.1 t.2.2)) ((⟨l, L, d⟩ : LArg), way, n) ht h I hw
theorem seeE_d {b : Bool} {d : Wd} : toD d (seeE b d) = d := by unfold seeE; split <;> rfl
theorem askE_keep {d : Wd} (I : Inv d) {way n : Int} : Inv (toD d (askE d way n)) ∧ (toD d (askE d way n)).trs = d.trs := by
  have key : ∀ x : Except Er Wd, (∀ d', x = .ok d' → Inv d' ∧ d'.trs = d.trs) → Inv (toD d x) ∧ (toD d x).trs = d.trs := fun x h => by
    cases x with
    | ok d' => exact h d' rfl
    | error e => exact ⟨I, rfl⟩
  unfold askE
  split
  · exact key _ fun d' h => by obtain ⟨h1, h2, e⟩ := setE_ok h; subst e; exact ⟨I.set h1 h2, rfl⟩
  split
  · exact key _ fun d' h => by
      obtain ⟨h1, h2, e⟩ := cancelE_ok h
      subst e
      refine ⟨I.cancel h2, ?_⟩
      unfold cancelOk
      split <;> rfl
  split
  · exact key _ fun d' h => by obtain ⟨h1, h2, h3, e⟩ := throwE_ok h; subst e; exact ⟨I.throw h1 h2 h3, rfl⟩
  split
  · refine key _ fun d' h => ?_
    cases h
    refine ⟨I.tick, ?_⟩
    unfold tickD
    generalize d.fal.map (·.1) = l
    have : ∀ (l : List Int) (e : Wd), (l.foldl tickOne e).trs = e.trs := by
      intro l
      induction l with
      | nil => intro e; rfl
      | cons a l ih => intro e; exact (ih _).trans tickOne_trs
    exact this _ _
  split
  · rw [seeE_d]; exact ⟨I, rfl⟩
  split
  · rw [seeE_d]; exact ⟨I, rfl⟩
  split
  · rw [seeE_d]; exact ⟨I, rfl⟩
  · rw [seeE_d]; exact ⟨I, rfl⟩
theorem qx_lawNew {Γ : List (Option AV)} {B H : Hp} {tr : TA} {tz : TS} {D : Ends} {E : XK} {i : Nat} {ps : List Pc} {sg : List Sig} {wait : Int} (h : Ga tr Γ B H [.d (.list (ps.map enc)), .d (.list (sg.map enc)), AI wait]) (hg : goodYard ps sg = true)
    (k : ∀ l A B2 H2, Ext B H B2 H2 → LAt B2 H2 l A (wNew ps sg wait) → (∀ a ∈ ownL l A, H a = none) → Sx tz D (Γ.set i (some (.v (.ref l)))) B2 H2) : Sx (tSeq (tAsg (tCall spLnew [] E tr) (gName i)) tz) D Γ B H := fun e σ f =>
  h B H σ (Ext.refl e) f _ fun us B2 H2 x hu => ⟨ps, sg, wait, B2, x.bh, by rw [List.append_nil]; exact hu, hg, fun l A B3 H3 x3 hl hf => k l A B3 H3 (x.trans x3) hl (fun a ha => x.hh.free (hf a ha)) (x.trans x3).bh _ ((f.mono (x.trans x3).bb).set i rfl)⟩
theorem ok_law (T : Txt K mg C) (F : Fun K "law" "law" s_law f fd) (c__law_pieces : Cal P w K mg base CX0 3 "_law_pieces" (spPieces K)) (c__law_signals : Cal P w K mg base CX0 3 "_law_signals" (spSignals K)) (c__law_mix : Cal P w K mg base CX0 2 "_law_mix" (spMix K)) (c_Yard : Mak P w K mg base (L2.CX P w) 22 "Yard" C.Yard (spYard C))
    (c__law_new : Cal P w K mg base CX0 22 "_law_new" spLnew) (c__law_asked : Cal P w K mg base CX0 5 "_law_asked" (spAsk10 K C CT)) (c__law_due : Cal P w K mg base CX0 4 "_law_due" spDue10) (c__law_same : Cal P w K mg base CX0 3 "_law_same" (spSame K C CT)) :
    FnOk P w K mg base CX0 25 f fd ["_law_script"] (spLaw K) := by
  refine F.ok sc_law (fun vs H Q E h => ?_) (fun cdv A outer s H vs Q E hr h => ?_)
  · obtain ⟨a, ns, rfl, _⟩ := h
    rfl
  obtain ⟨a, ns, rfl, hS, hlen, q⟩ := h
  refine ⟨_, pss_cons (ps_set (i := 1) sc_law.nd rfl (by first | exact Or.inl rfl | exact Or.inr rfl) (pe_cal c__law_pieces hr (by first | decide | omega) rfl passN (pa_cons (pv 0) (pa_cons (pe_int) (pa_nil)))))
  (pss_cons (ps_set (i := 2) sc_law.nd rfl (by first | exact Or.inl rfl | exact Or.inr rfl) (pe_cal c__law_signals hr (by first | decide | omega) rfl passN (pa_cons (pv 0) (pa_cons (pe_int) (pa_cons (pv 1) (pa_nil))))))
  (pss_cons (ps_set (i := 3) sc_law.nd rfl (by first | exact Or.inl rfl | exact Or.inr rfl) (pe_op op_mod (pe_cal c__law_mix hr (by first | decide | omega) rfl passN (pa_cons (pv 0) (pa_cons (pe_int) (pa_nil)))) (pe_int)))
  (pss_cons (ps_set (i := 4) sc_law.nd rfl (by first | exact Or.inl rfl | exact Or.inr rfl) (pe_mak c_Yard hr (by first | decide | omega) rfl passF (pa_cons (pe_callTy (call_listK (K := K) rfl) (by rfl) T.n_list (by decide +kernel) (pa_cons (pv 1) (pa_nil))) (pa_cons (pe_callTy (call_listK (K := K) rfl) (by rfl) T.n_list (by decide +kernel) (pa_cons (pv 2) (pa_nil))) (pa_cons (pv 3) (pa_nil))))))
  (pss_cons (ps_set (i := 5) sc_law.nd rfl (by first | exact Or.inl rfl | exact Or.inr rfl) (pe_cal c__law_new hr (by first | decide | omega) rfl passN (pa_cons (pv 1) (pa_cons (pv 2) (pa_cons (pv 3) (pa_nil))))))
  (pss_cons (ps_for PassesOwn.never rfl (pi_range1 (by rfl) T.n_range (pa_cons (pe_op op_mod (pe_cal c__law_mix hr (by first | decide | omega) rfl passN (pa_cons (pv 0) (pa_cons (pe_int) (pa_nil)))) (pe_int)) (pa_nil))) (pg_name (i := 6) sc_law.nd rfl (by first | exact Or.inl rfl | exact Or.inr rfl)) (pss_cons (ps_set (i := 7) sc_law.nd rfl (by first | exact Or.inl rfl | exact Or.inr rfl) (pe_cal c__law_mix hr (by first | decide | omega) rfl passN (pa_cons (pv 0) (pa_cons (pe_op op_add (pe_int) (pe_op op_mul (pe_int) (pv 6))) (pa_nil)))))
  (pss_cons (ps_set (i := 8) sc_law.nd rfl (by first | exact Or.inl rfl | exact Or.inr rfl) (pe_ix (ix_listK (K := K) rfl) (pe_lst (pa_cons (pe_int) (pa_cons (pe_int) (pa_cons (pe_int) (pa_cons (pe_int) (pa_cons (pe_int) (pa_cons (pe_int) (pa_cons (pe_int) (pa_cons (pe_int) (pa_cons (pe_int) (pa_cons (pe_int) (pa_cons (pe_int) (pa_cons (pe_int) (pa_nil)))))))))))))) (pe_op op_mod (pv 7) (pe_int)) (fun _ _ => rfl)))
  (pss_cons (ps_set (i := 9) sc_law.nd rfl (by first | exact Or.inl rfl | exact Or.inr rfl) (pe_ix (ix_listK (K := K) rfl) (pe_lst (pa_cons (pe_callB (call_lenK (K := K) rfl) (by rfl) T.n_len (by decide +kernel) (pa_cons (pe_dget (hu_of hr) (pv 5) (pe_str) (fun _ _ => rfl)) (pa_nil))) (pa_cons (pe_callB (call_lenK (K := K) rfl) (by rfl) T.n_len (by decide +kernel) (pa_cons (pv 1) (pa_nil))) (pa_cons (pe_callB (call_lenK (K := K) rfl) (by rfl) T.n_len (by decide +kernel) (pa_cons (pv 2) (pa_nil))) (pa_nil))))) (pe_op op_mod (pe_cal c__law_mix hr (by first | decide | omega) rfl passN (pa_cons (pv 0) (pa_cons (pe_op op_add (pe_int) (pe_op op_mul (pe_int) (pv 6))) (pa_nil)))) (pe_int)) (fun _ _ => rfl)))
  (pss_cons (ps_set (i := 10) sc_law.nd rfl (by first | exact Or.inl rfl | exact Or.inr rfl) (pe_op op_mod (pe_op op_fdiv (pv 7) (pe_int)) (pe_callB (call_max2 rfl) (by rfl) T.n_max (by decide +kernel) (pa_cons (pe_int) (pa_cons (pv 9) (pa_nil))))))
  (pss_cons (ps_if (PW.pt (pw_and (pt_cmpR op_eq (pv 8) (pe_int) (nomark _)) (pw_and (pt_truthK (K := K) rfl (pe_dget (hu_of hr) (pv 5) (pe_str) (fun _ _ => rfl)) (by intro _; rfl)) (pw_and1 (pt_cmpR op_gt (pe_op op_mod (pe_op op_fdiv (pv 7) (pe_int)) (pe_int)) (pe_int) (nomark _)))))) (pss_cons (ps_set (i := 10) sc_law.nd rfl (by first | exact Or.inl rfl | exact Or.inr rfl) (pe_ix (ix_listK (K := K) rfl) (pe_dget (hu_of hr) (pv 5) (pe_str) (fun _ _ => rfl)) (pe_op op_mod (pe_op op_fdiv (pv 7) (pe_int)) (pe_callB (call_lenK (K := K) rfl) (by rfl) T.n_len (by decide +kernel) (pa_cons (pe_dget (hu_of hr) (pv 5) (pe_str) (fun _ _ => rfl)) (pa_nil)))) (fun _ _ => rfl)))
  (pss_nil)) (pss_nil))
  (pss_cons (ps_if (pt_cmpR op_eq (pe_op op_mod (pe_op op_fdiv (pv 7) (pe_int)) (pe_int)) (pe_int) (nomark _)) (pss_cons (ps_set (i := 10) sc_law.nd rfl (by first | exact Or.inl rfl | exact Or.inr rfl) (pe_ix (ix_listK (K := K) rfl) (pe_lst (pa_cons (pe_un un_neg (pe_int)) (pa_cons (pe_callB (call_lenK (K := K) rfl) (by rfl) T.n_len (by decide +kernel) (pa_cons (pv 1) (pa_nil))) (pa_cons (pe_callB (call_lenK (K := K) rfl) (by rfl) T.n_len (by decide +kernel) (pa_cons (pe_dget (hu_of hr) (pv 5) (pe_str) (fun _ _ => rfl)) (pa_nil))) (pa_cons (pe_int) (pa_nil)))))) (pe_op op_mod (pe_op op_fdiv (pv 7) (pe_int)) (pe_int)) (fun _ _ => rfl)))
  (pss_nil)) (pss_nil))
  (pss_cons (ps_if (PW.pt (pw_or (pt_cmpR op_ne (pe_cal c__law_asked hr (by first | decide | omega) rfl passN (pa_cons (pv 4) (pa_cons (pv 8) (pa_cons (pv 10) (pa_nil))))) (pe_cal c__law_due hr (by first | decide | omega) rfl passN (pa_cons (pv 5) (pa_cons (pv 8) (pa_cons (pv 10) (pa_nil))))) (nomark _)) (pw_or1 (pt_not (pt_val (pe_cal c__law_same hr (by first | decide | omega) rfl passN (pa_cons (pv 4) (pa_cons (pv 5) (pa_nil))))))))) (pss_cons (ps_ret (pe_bl))
  (pss_nil)) (pss_nil))
  (pss_nil)))))))))
  (pss_cons (ps_ret (pe_bl))
  (pss_nil))))))), ?_⟩
  refine Sx.run (Γ := Γ0 N_law [.v (.ref a)]) (B := H) ?_ (Same.refl _) (fr_start (.cons rfl .nil) (by show 1 ≤ 11; decide))
  refine qx_asgE (a, ns, 0) (ga_cons (gv_var rfl) (ga_cons gv_int ga_nil)) (fun _ _ x => x.hh.seq hS) fun g B2 H2 hg x2 => ?_
  obtain ⟨ps, hgj, rfl⟩ := hg
  have hgp := hgj.ok
  have hnd := hgj.2.2.1
  have hl8 := hgj.2.1
  have hS2 := x2.hh.seq hS
  refine qx_asgE (a, ns, 40, ps) (ga_cons (gv_var rfl) (ga_cons gv_int (ga_cons (gv_var rfl) ga_nil))) (fun _ _ x => ⟨x.hh.seq hS2, hl8, hnd⟩) fun g B3 H3 hg x3 => ?_
  obtain ⟨sg, hsj, rfl⟩ := hg
  have hsj : goodSJ ps sg := hsj
  have hgs := hsj.ok
  have hs16 := hsj.1
  have hgy : goodYard ps sg = true := by unfold goodYard; rw [hgp, hgs]; rfl
  have hS3 := x3.hh.seq hS2
  refine qx_asg (g := AI (mixN ns 39 % 4)) (gv_op (gv_mix (gv_var rfl) gv_int hS3) gv_int (ro_I (by decide))) fun B4 H4 x4 => ?_
  generalize mixN ns 39 % 4 = wait
  refine qx_asgYard (ga_cons (gv_cb (ga_cons (gv_var rfl) ga_nil) rc_list) (ga_cons (gv_cb (ga_cons (gv_var rfl) ga_nil) rc_list) (ga_cons (gv_var rfl) ga_nil))) (by omega) (by omega) hgy fun y A B5 H5 hy x5 hn Y => ?_
  have x04 := (x2.trans x3).trans x4
  have x05 := x04.trans x5
  have hy5 := Y.at (CT := CT)
  refine qx_lawNew (ga_cons (gv_var rfl) (ga_cons (gv_var rfl) (ga_cons (gv_var rfl) ga_nil))) hgy fun l L B6 H6 x6 hl6 hlf => ?_
  have x06 := x05.trans x6
  have T6 : Two C CT B6 H6 y A [] (wNew ps sg wait) l L (wNew ps sg wait) := ⟨hy5.ext x6, hl6, fun b hb hb2 => hy5.own_some b hb (hlf b hb2)⟩
  have F6 : Fresh H y A [] l L := ⟨fun b hb => by
    unfold own at hb
    simp only [List.mem_cons, List.map_nil, List.not_mem_nil, or_false] at hb
    rcases hb with z | z | z | z | z | z
    · exact x04.hh.free (z ▸ hy)
    all_goals exact x04.hh.free (hn b (by rw [z]; simp)), fun b hb => x05.hh.free (hlf b hb)⟩
  have I0 : Inv (wNew ps sg wait) := Inv.new hgy wait
  have t0 : (wNew ps sg wait).trs = [] := rfl
  generalize wNew ps sg wait = d0 at T6 I0 t0
  refine qx_forRE (ι := List (Addr × Addr) × LAd × Wd) (n := mixN ns 38 % 21) (ga_cons (gv_op (gv_mix (gv_var rfl) gv_int (x06.hh.seq hS)) gv_int (ro_I (by decide))) ga_nil) (by omega) (by omega)
    (fun _ => [some (.v (.ref a)), some (.d (.list (ps.map enc))), some (.d (.list (sg.map enc))), some (AI wait), some (.v (.ref y)), some (.v (.ref l)), none, none, none, none, none])
    (fun k x B1 H1 => Ext H H B1 H1 ∧ Two C CT B1 H1 y A x.1 x.2.2 l x.2.1 x.2.2 ∧ Fresh H y A x.1 l x.2.1 ∧ Inv x.2.2 ∧ x.2.2.trs = []) ([], L, d0) (by walk_at "le") (fun B1 H1 x => ⟨x06.trans x, T6.ext x, F6, I0, t0⟩) ?_ ?_
  · intro Bs k ⟨ta, L, d⟩ B7 H7 hk s1 s2 ⟨x7, T7, F7, I, t7⟩
    have T7 : Two C CT B7 H7 y A ta d l L d := T7
    have F7 : Fresh H y A ta l L := F7
    have I : Inv d := I
    have t7 : d.trs = [] := t7
    refine qx_asg (g := AI (mixN ns (60 + 2 * (k : Int)))) (gv_mix (gv_var rfl) (gv_op gv_int (gv_op gv_int (gv_var rfl) (ro_I (by walk_at "sd"))) ro_I0) (x7.hh.seq hS)) fun B8 H8 x8 => ?_
    generalize mixN ns (60 + 2 * (k : Int)) = m1
    obtain ⟨way, hway, eway⟩ := menu [0, 0, 0, 1, 1, 2, 2, 3, 4, 5, 6, 7] m1 (by decide)
    have hw : 0 ≤ way ∧ way ≤ 7 := by
      simp only [List.mem_cons, List.not_mem_nil, or_false] at hway
      omega
    refine qx_asg (g := AI way) (gv_op (x := .d (.list (([0, 0, 0, 1, 1, 2, 2, 3, 4, 5, 6, 7] : List Int).map PyData.int))) ?_ (gv_op (gv_var rfl) gv_int (ro_I (by decide))) (ro_ixL eway)) fun B9 H9 x9 => ?_
    · walk_at "gi"
    have x79 := x8.trans x9
    have T9 := T7.ext x79
    obtain ⟨many, _, emany⟩ := menu [((d.rts.length : Nat) : Int), ((ps.length : Nat) : Int), ((sg.length : Nat) : Int)] (mixN ns (61 + 2 * (k : Int))) (by simp)
    refine qx_asg (g := AI many) (gv_op (x := .d (.list (([((d.rts.length : Nat) : Int), ((ps.length : Nat) : Int), ((sg.length : Nat) : Int)] : List Int).map PyData.int))) (gv_lst (ga_cons (gv_cb (ga_cons (gl_routes T9.hl.rd (gv_var rfl)) ga_nil) rc_lenM) (ga_cons (gv_cb (ga_cons (gv_var rfl) ga_nil) rc_lenM) (ga_cons (gv_cb (ga_cons (gv_var rfl) ga_nil) rc_lenM) ga_nil))) (by show 3 ≤ 16000000; decide)) (gv_op (gv_mix (gv_var rfl) (gv_op gv_int (gv_op gv_int (gv_var rfl) (ro_I (by walk_at "sd"))) ro_I0) ((x7.trans x79).hh.seq hS)) gv_int (ro_I (by decide))) (ro_ixL emany)) fun B10 H10 x10 => ?_
    have hmax : 0 < (if many > 1 then many else 1) := by split <;> omega
    refine qx_asg (g := AI (m1 / 12 % (if many > 1 then many else 1))) (gv_op (gv_op (gv_var rfl) gv_int (ro_I (by walk_at "sd"))) (gv_cb (ga_cons gv_int (ga_cons (gv_var rfl) ga_nil)) rc_max2) (ro_I hmax)) fun B11 H11 x11 => ?_
    generalize m1 / 12 % (if many > 1 then many else 1) = at0
    have x711 := (x79.trans x10).trans x11
    have T11 := T7.ext x711
    have hgl := I.grn_len
    let G : Int → List (Option AV) := fun z => [some (.v (.ref a)), some (.d (.list (ps.map enc))), some (.d (.list (sg.map enc))), some (AI wait), some (.v (.ref y)), some (.v (.ref l)), none, some (AI m1), some (AI way), none, some (AI z)]
    refine qx_ifJ (b := decide (way = 1) && (!d.grn.isEmpty && decide (0 < m1 / 12 % 3))) (ι := Int) G (fun _ B3 H3 => Ext B7 H7 B3 H3) (gt_and (gt_test (gv_op (gv_var rfl) gv_int ro_eqI)) fun _ => gt_and (gt_is (gt_truL (gl_green T11.hl.rd (gv_var rfl))) (by rw [List.isEmpty_map])) fun _ => gt_test (gv_op (gv_op (gv_op (gv_var rfl) gv_int (ro_I (by walk_at "sd"))) gv_int (ro_I (by decide))) gv_int ro_B0)) (fun rest hb B12 H12 x12 => ?_) (fun rest _ B12 H12 x12 => ?_) ?_
    · have hg0 : 0 < d.grn.length := by
        simp only [Bool.and_eq_true, Bool.not_eq_true'] at hb
        cases hgn : d.grn with
        | nil => rw [hgn] at hb; simp at hb
        | cons a b => simp
      obtain ⟨gr, _, egr⟩ := menu d.grn (m1 / 36) hg0
      have T12 := T11.ext x12
      refine qx_asg (g := AI gr) (gv_op (gl_green T12.hl.rd (gv_var rfl)) (gv_op (gv_op (gv_var rfl) gv_int (ro_I (by walk_at "sd"))) (gv_cb (ga_cons (gl_green T12.hl.rd (gv_var rfl)) ga_nil) rc_lenM) (ro_I (by show (0 : Int) < _; omega))) (ro_ixL egr)) fun B13 H13 x13 => ?_
      exact sx_go ((rest gr B13 H13 (x711.trans (x12.trans x13))).le (by walk_at "le"))
    · exact sx_go ((rest at0 B12 H12 (x711.trans x12)).le (by walk_at "le"))
    intro at1 B12 H12 x12
    have x12 : Ext B7 H7 B12 H12 := x12
    have T12 := T7.ext x12
    refine qx_ifJ (b := decide (m1 / 12 % 12 = 0)) (ι := Int) G (fun _ B3 H3 => Ext B7 H7 B3 H3) (gt_test (gv_op (gv_op (gv_op (gv_var rfl) gv_int (ro_I (by walk_at "sd"))) gv_int (ro_I (by decide))) gv_int ro_eqI)) (fun rest hb B13 H13 x13 => ?_) (fun rest _ B13 H13 x13 => ?_) ?_
    · obtain ⟨nv, _, env⟩ := menu [-1, ((ps.length : Nat) : Int), ((d.rts.length : Nat) : Int), 999999999999999] (m1 / 144) (by simp)
      have T13 := T12.ext x13
      refine qx_asg (g := AI nv) (gv_op (x := .d (.list (([-1, ((ps.length : Nat) : Int), ((d.rts.length : Nat) : Int), 999999999999999] : List Int).map PyData.int))) (gv_lst (ga_cons (gv_neg gv_int) (ga_cons (gv_cb (ga_cons (gv_var rfl) ga_nil) rc_lenM) (ga_cons (gv_cb (ga_cons (gl_routes T13.hl.rd (gv_var rfl)) ga_nil) rc_lenM) (ga_cons gv_int ga_nil)))) (by show 4 ≤ 16000000; decide)) (gv_op (gv_op (gv_var rfl) gv_int (ro_I (by walk_at "sd"))) gv_int (ro_I (by decide))) (ro_ixL env)) fun B14 H14 x14 => ?_
      exact sx_go ((rest nv B14 H14 (x12.trans (x13.trans x14))).le (by walk_at "le"))
    · exact sx_go ((rest at1 B13 H13 (x12.trans x13)).le (by walk_at "le"))
    intro at2 B13 H13 x13
    have x13 : Ext B7 H7 B13 H13 := x13
    have T13 := T7.ext x13
    have x013 := x7.trans x13
    obtain ⟨I', t'⟩ := askE_keep I (way := way) (n := at2)
    have hyp : YP K C CT ⟨y, A, ta, d⟩ B13 H13 := ⟨T13.hy, .inl t7⟩
    refine qx_ifG (R := fun b B2 H2 => b = false ∧ Same B13 B2 ∧ ∃ ta' L', Ext H H B2 H2 ∧ Two C CT B2 H2 y A ta' (toD d (askE d way at2)) l L' (toD d (askE d way at2)) ∧ Fresh H y A ta' l L') (gtw_or (R := fun b B2 H2 => b = false ∧ Same B13 B2 ∧ ∃ ta' L', Ext H H B2 H2 ∧ Two C CT B2 H2 y A ta' (toD d (askE d way at2)) l L' (toD d (askE d way at2)) ∧ Fresh H y A ta' l L') (gtw_test (gw_op (S := fun _ B14 H14 u B2 H2 => ∃ L', LNew B14 H14 B2 H2 l L L' (toD d (askE d way at2)) ∧ Is B2 u (AS (wdE (askE d way at2)))) (T := fun u B2 H2 => u = .bl false ∧ Same B13 B2 ∧ ∃ ta' L', Ext H H B2 H2 ∧ Two C CT B2 H2 y A ta' (toD d (askE d way at2)) l L' (toD d (askE d way at2)) ∧ Fresh H y A ta' l L') (gw_ask10 (t := ⟨y, A, ta, d⟩) (ga_cons (gv_var rfl) (ga_cons (gv_var rfl) (ga_cons (gv_var rfl) ga_nil))) hyp I hw.1) (fun u B14 H14 s14 ⟨ta', N1, hu⟩ => gw_due10 (L := L) (d := d) (ga_cons (gv_var rfl) (ga_cons (gv_var rfl) (ga_cons (gv_var rfl) ga_nil))) (T13.yard N1).hl I hw) fun u B14 H14 w B15 H15 ⟨ta', N1, hu⟩ s15 s16 ⟨L', N2, hw2⟩ Q2 q2 => ?_) fun u B14 H14 ⟨hu, r⟩ => ⟨false, hu, rfl, r⟩) fun b B14 H14 s14 ⟨hb, s15, ta', L', x14, T14, F14⟩ => ?_) (fun B14 H14 _ ⟨hb, _⟩ => by cases hb) fun B14 H14 s14 ⟨_, s15, ta', L', x14, T14, F14⟩ => ?_
    · cases hu
      cases hw2
      have N2 : LNew B14 H14 B15 H15 l L L' (toD d (askE d way at2)) := N2
      have N1 : YGo C CT B13 H13 B14 H14 y A ta ta' (toD d (askE d way at2)) := N1
      have T14 := (T13.yard N1).world N2
      obtain ⟨y1, y2⟩ := fresh_yard x013 F7 N1
      obtain ⟨z1, z2⟩ := fresh_world y1 y2 N2
      refine ro_ne (d := .str (wdE (askE d way at2))) (e := .str (wdE (askE d way at2))) rfl B15 H15 _ _ (Ext.refl N2.1.bh) (.str _) (.str _) Q2 fun v B16 H16 x16 hv => ?_
      refine q2 v B16 H16 x16.bb x16.bh ⟨?_, (N1.1.bb.trans N2.1.bb).trans x16.bb, ta', L', z1.trans x16, T14.ext x16, z2⟩
      cases hv
      simp [PyData.eqv]
    · subst hb
      rw [if_neg Bool.false_ne_true]
      have hP : PairAt K C CT ⟨y, A, ta', l, L', toD d (askE d way at2)⟩ B14 H14 := ⟨⟨T14.hy, .inl (t'.trans t7)⟩, T14.hl, I', T14.dj⟩
      have := gt_not (gt_B (gv_call (E := E0) (args := fun t : PArg => [.v (.ref t.y), .v (.ref t.l)]) (pre := PairAt K C CT) (res := fun _ => AB true) ⟨y, A, ta', l, L', toD d (askE d way at2)⟩ (ga_cons (gv_var (i := 4) (Γ := G at2) (g := .v (.ref y)) rfl) (ga_cons (gv_var (i := 5) (g := .v (.ref l)) rfl) ga_nil)) fun _ _ x => hP.ext x))
      exact fun e σ f Q2 q2 => this.gtw e σ f Q2 fun b B15 H15 s16 s17 ⟨hb, x15⟩ => q2 b B15 H15 s16 s17 ⟨hb, s15.trans s16, ta', L', x14.trans x15, T14.ext x15, F14⟩
    · refine sx_go (sx_lx (ta', L', toD d (askE d way at2)) (s2.trans (x13.bb.trans s15)) (by walk_at "le") ⟨x14, T14, F14, I', t'.trans t7⟩)
  · intro ⟨ta, L, d⟩ B7 H7 s1 ⟨x7, T7, F7, I, t7⟩
    exact qx_ret gv_bl fun u B8 H8 x8 hu => by
      cases hu
      exact q H8
end
end SB
namespace SB
open PySem PySem.Spec PyProof.Rows L2
open Enc (enc)
local macro_rules | `(tactic| walk_at "le") => `(tactic| first | exact le_nil | (refine le_keep ?_; walk_at "le") | (refine le_drop ?_; walk_at "le"))
local macro_rules | `(tactic| walk_at "sd") => `(tactic| first | assumption | (show (_ : Int) < _ ∧ _ < (1073741824 : Int); exact ⟨by omega, by omega⟩) | (show (-(2 ^ 64) < (_ : Int) ∧ _ < (2 ^ 64 : Int)) ∨ _; first | exact .inl ⟨by omega, by omega⟩ | exact .inr ⟨by omega, by omega⟩) | rfl | decide | (simp; done) | omega | skip)
local macro_rules | `(tactic| walk_at "gc") => `(tactic| fail)
local macro_rules | `(tactic| walk_at "gv") => `(tactic| first
  | exact gv_int | exact gv_str | exact gv_bl | exact gv_non | exact gv_var rfl
  | ((with_reducible refine' gv_op ?_ ?_ ?_) <;> walk_at "gv")
  | ((with_reducible refine' ga_cons ?_ ?_) <;> walk_at "gv") | exact ga_nil
  | ((with_reducible refine' gv_cb ?_ ?_) <;> walk_at "gv")
  | ((with_reducible refine' gt_test ?_) <;> walk_at "gv") | ((with_reducible refine' gt_B ?_) <;> walk_at "gv") | ((with_reducible refine' gt_not ?_) <;> walk_at "gv")
  | ((with_reducible refine' gt_and ?k1 ?k2); (case' k1 => walk_at "gv"); (case' k2 => intro hb; walk_at "gv"))
  | ((with_reducible refine' gt_or ?k1 ?k2); (case' k1 => walk_at "gv"); (case' k2 => intro hb; walk_at "gv"))
  | ((with_reducible refine' gv_andV ?k1 ?k2); (case' k1 => walk_at "gv"); (case' k2 => intro hb; walk_at "gv"))
  | ((with_reducible refine' gv_orV ?k1 ?k2); (case' k1 => walk_at "gv"); (case' k2 => intro hb; walk_at "gv"))
  | ((with_reducible refine' gv_notV ?_) <;> walk_at "gv")
  | ((with_reducible refine' gv_slL ?_ ?_ ?_) <;> walk_at "gv") | ((with_reducible refine' gv_slT ?_ ?_ ?_ ?_) <;> walk_at "gv")
  | exact go_none | ((with_reducible refine' go_some ?_) <;> walk_at "gv")
  | exact gd_nil | ((with_reducible refine' gd_cons ?_ ?_) <;> walk_at "gv") | ((with_reducible refine' gv_lst ?_ ?_) <;> walk_at "gv") | ((with_reducible refine' gv_tup ?_ ?_) <;> walk_at "gv")
  | ((with_reducible refine' gv_chain ?_ ?_ ?_ ?_ ?_) <;> walk_at "gv") | ((with_reducible refine' gt_truL ?_) <;> walk_at "gv") | ((with_reducible refine' gv_countI ?_ ?_) <;> walk_at "gv")
  | ((with_reducible refine' gv_lenSetI ?_ ?_) <;> walk_at "gv") | ((with_reducible refine' gv_lenSetU ?_ ?_) <;> walk_at "gv") | ((with_reducible refine' gv_lenSetT ?_ ?_) <;> walk_at "gv")
  | exact gt_yes
  | walk_at "gc"
  | exact ro_I0 | exact ro_B0 | (refine ro_I ?_; walk_at "sd")
  | exact ro_eqI | exact ro_neI | exact ro_eqS | exact ro_neS
  | (refine ro_eq ?_; walk_at "sd") | (refine ro_ne ?_; walk_at "sd")
  | exact ro_isN | exact ro_notN
  | exact ro_inI | exact ro_notInI | exact ro_inTI
  | (refine' ro_ixL ?k1; (case' k1 => walk_at "sd")) | (refine' ro_ixT ?k1; (case' k1 => walk_at "sd"))
  | (refine ro_cat ?_; walk_at "sd")
  | exact rc_lenM | exact rc_len | exact rc_lenT | exact rc_list | exact rc_listT | exact rc_tuple | exact rc_any | exact rc_all | exact rc_max2 | exact rc_min2 | exact rc_intB
  | (show (_ : Nat) ≤ _; first | decide | (simp; done) | omega)
  | (show (_ : Nat) < _; first | decide | (simp; done) | omega)
  | (show ¬ (_ ∧ _); exact fun h => absurd (show (1 : Nat) = 0 from h.1) (by decide))
  | skip)
local macro_rules | `(tactic| walk_at "ge") => `(tactic| (refine' gt_is ?k1 ?k2; (case' k1 => walk_at "gv"); (case' k2 => first | rfl | (simp; done) | skip)))
local macro_rules | `(tactic| walk_at "gw") => `(tactic| (refine' gv_is ?k1 ?k2; (case' k1 => walk_at "gv"); (case' k2 => first | rfl | (simp; done) | skip)))
local macro_rules | `(tactic| walk_at "gj") => `(tactic| first | exact gi_nil | (refine' gi_cons ?g1 ?g2; (case' g1 => walk_at "gv"); (case' g2 => walk_at "gj")))
local macro_rules | `(tactic| walk_at "gi") => `(tactic| (refine' gv_lst ?k1 ?k2; (case' k1 => walk_at "gj"); (case' k2 => (simp; try omega))))
/-! ### what the top has written -/
theorem all_mk {P : Program} {w : World} {K : PySem.W.Frag} {h : Heap} {mg : Str → Option Value} {fa : Addr} (X : K.In h) (G : h.Ns mainGlobals mg) (hfa : mg "law" = some (.ref fa))
    {C_BoxError C_BadYard C_NotThere C_Held C_Red C_Yard f_joints f_beyond f_outs f_lie_for f_look_pieces f_look_signals f_ends_at f_ways_from f_routes f_Yard_init f_Yard_time f_Yard_need_piece f_Yard_lock_of f_Yard_train_in f_Yard_lies f_Yard_is_green f_Yard_where f_Yard_is_held f_Yard_free f_set_route f_need_route f_near f_cancel f_tick f_throw f__law_cell f__law_mix f__law_beyond f__law_pieces f__law_signals f__law_outs f__law_ways f__law_routes f__law_new f__law_train_in f__law_held f__law_free f__law_set f__law_near f__law_cancel f__law_tick f__law_throw f__law_is f__law_same f__law_asked f__law_due f_law : Addr} {od_joints an_joints od_beyond an_beyond od_outs an_outs od_lie_for an_lie_for od_look_pieces an_look_pieces od_look_signals an_look_signals od_ends_at an_ends_at od_ways_from an_ways_from od_routes an_routes od_Yard_init an_Yard_init od_Yard_time an_Yard_time od_Yard_need_piece an_Yard_need_piece od_Yard_lock_of an_Yard_lock_of od_Yard_train_in an_Yard_train_in od_Yard_lies an_Yard_lies od_Yard_is_green an_Yard_is_green od_Yard_where an_Yard_where od_Yard_is_held an_Yard_is_held od_Yard_free an_Yard_free od_set_route an_set_route od_need_route an_need_route od_near an_near od_cancel an_cancel od_tick an_tick od_throw an_throw od__law_cell an__law_cell od__law_mix an__law_mix od__law_beyond an__law_beyond od__law_pieces an__law_pieces od__law_signals an__law_signals od__law_outs an__law_outs od__law_ways an__law_ways od__law_routes an__law_routes od__law_new an__law_new od__law_train_in an__law_train_in od__law_held an__law_held od__law_free an__law_free od__law_set an__law_set od__law_near an__law_near od__law_cancel an__law_cancel od__law_tick an__law_tick od__law_throw an__law_throw od__law_is an__law_is od__law_same an__law_same od__law_asked an__law_asked od__law_due an__law_due od_law an_law : Option Addr} {sl_joints sl_beyond sl_outs sl_lie_for sl_look_pieces sl_look_signals sl_ends_at sl_ways_from sl_routes sl_Yard_init sl_Yard_time sl_Yard_need_piece sl_Yard_lock_of sl_Yard_train_in sl_Yard_lies sl_Yard_is_green sl_Yard_where sl_Yard_is_held sl_Yard_free sl_set_route sl_need_route sl_near sl_cancel sl_tick sl_throw sl__law_cell sl__law_mix sl__law_beyond sl__law_pieces sl__law_signals sl__law_outs sl__law_ways sl__law_routes sl__law_new sl__law_train_in sl__law_held sl__law_free sl__law_set sl__law_near sl__law_cancel sl__law_tick sl__law_throw sl__law_is sl__law_same sl__law_asked sl__law_due sl_law : Array (Option Value)} {oc_joints kV_joints dc_joints pm_joints cd_joints ct_joints oc_beyond kV_beyond dc_beyond pm_beyond cd_beyond ct_beyond oc_outs kV_outs dc_outs pm_outs cd_outs ct_outs oc_lie_for kV_lie_for dc_lie_for pm_lie_for cd_lie_for ct_lie_for oc_look_pieces kV_look_pieces dc_look_pieces pm_look_pieces cd_look_pieces ct_look_pieces oc_look_signals kV_look_signals dc_look_signals pm_look_signals cd_look_signals ct_look_signals oc_ends_at kV_ends_at dc_ends_at pm_ends_at cd_ends_at ct_ends_at oc_ways_from kV_ways_from dc_ways_from pm_ways_from cd_ways_from ct_ways_from oc_routes kV_routes dc_routes pm_routes cd_routes ct_routes oc_Yard_init kV_Yard_init dc_Yard_init pm_Yard_init cd_Yard_init ct_Yard_init oc_Yard_time kV_Yard_time dc_Yard_time pm_Yard_time cd_Yard_time ct_Yard_time oc_Yard_need_piece kV_Yard_need_piece dc_Yard_need_piece pm_Yard_need_piece cd_Yard_need_piece ct_Yard_need_piece oc_Yard_lock_of kV_Yard_lock_of dc_Yard_lock_of pm_Yard_lock_of cd_Yard_lock_of ct_Yard_lock_of oc_Yard_train_in kV_Yard_train_in dc_Yard_train_in pm_Yard_train_in cd_Yard_train_in ct_Yard_train_in oc_Yard_lies kV_Yard_lies dc_Yard_lies pm_Yard_lies cd_Yard_lies ct_Yard_lies oc_Yard_is_green kV_Yard_is_green dc_Yard_is_green pm_Yard_is_green cd_Yard_is_green ct_Yard_is_green oc_Yard_where kV_Yard_where dc_Yard_where pm_Yard_where cd_Yard_where ct_Yard_where oc_Yard_is_held kV_Yard_is_held dc_Yard_is_held pm_Yard_is_held cd_Yard_is_held ct_Yard_is_held oc_Yard_free kV_Yard_free dc_Yard_free pm_Yard_free cd_Yard_free ct_Yard_free oc_set_route kV_set_route dc_set_route pm_set_route cd_set_route ct_set_route oc_need_route kV_need_route dc_need_route pm_need_route cd_need_route ct_need_route oc_near kV_near dc_near pm_near cd_near ct_near oc_cancel kV_cancel dc_cancel pm_cancel cd_cancel ct_cancel oc_tick kV_tick dc_tick pm_tick cd_tick ct_tick oc_throw kV_throw dc_throw pm_throw cd_throw ct_throw oc__law_cell kV__law_cell dc__law_cell pm__law_cell cd__law_cell ct__law_cell oc__law_mix kV__law_mix dc__law_mix pm__law_mix cd__law_mix ct__law_mix oc__law_beyond kV__law_beyond dc__law_beyond pm__law_beyond cd__law_beyond ct__law_beyond oc__law_pieces kV__law_pieces dc__law_pieces pm__law_pieces cd__law_pieces ct__law_pieces oc__law_signals kV__law_signals dc__law_signals pm__law_signals cd__law_signals ct__law_signals oc__law_outs kV__law_outs dc__law_outs pm__law_outs cd__law_outs ct__law_outs oc__law_ways kV__law_ways dc__law_ways pm__law_ways cd__law_ways ct__law_ways oc__law_routes kV__law_routes dc__law_routes pm__law_routes cd__law_routes ct__law_routes oc__law_new kV__law_new dc__law_new pm__law_new cd__law_new ct__law_new oc__law_train_in kV__law_train_in dc__law_train_in pm__law_train_in cd__law_train_in ct__law_train_in oc__law_held kV__law_held dc__law_held pm__law_held cd__law_held ct__law_held oc__law_free kV__law_free dc__law_free pm__law_free cd__law_free ct__law_free oc__law_set kV__law_set dc__law_set pm__law_set cd__law_set ct__law_set oc__law_near kV__law_near dc__law_near pm__law_near cd__law_near ct__law_near oc__law_cancel kV__law_cancel dc__law_cancel pm__law_cancel cd__law_cancel ct__law_cancel oc__law_tick kV__law_tick dc__law_tick pm__law_tick cd__law_tick ct__law_tick oc__law_throw kV__law_throw dc__law_throw pm__law_throw cd__law_throw ct__law_throw oc__law_is kV__law_is dc__law_is pm__law_is cd__law_is ct__law_is oc__law_same kV__law_same dc__law_same pm__law_same cd__law_same ct__law_same oc__law_asked kV__law_asked dc__law_asked pm__law_asked cd__law_asked ct__law_asked oc__law_due kV__law_due dc__law_due pm__law_due cd__law_due ct__law_due oc_law kV_law dc_law pm_law cd_law ct_law : Value} {t_BRANCH : _} {t_JOINTS : _} {t_MOST : _} {t_STRAIGHT : _}
    (a_BoxError : PySem.W.nsIn K mainGlobals "BoxError" = some (some (.ref C_BoxError)))
    (a_BadYard : PySem.W.nsIn K mainGlobals "BadYard" = some (some (.ref C_BadYard)))
    (a_NotThere : PySem.W.nsIn K mainGlobals "NotThere" = some (some (.ref C_NotThere)))
    (a_Held : PySem.W.nsIn K mainGlobals "Held" = some (some (.ref C_Held)))
    (a_Red : PySem.W.nsIn K mainGlobals "Red" = some (some (.ref C_Red)))
    (a_Yard : PySem.W.nsIn K mainGlobals "Yard" = some (some (.ref C_Yard)))
    (x_BoxError : PySem.W.excIn K C_BoxError [.type "ValueError", .type "Exception", .type "BaseException", .type "object"] "ValueError.__new__" = true)
    (k_BoxError : PySem.W.keepIn K (.ref C_BoxError) = true)
    (b_BoxError : PySem.W.subIn K (.ref C_BoxError) (.type "BaseException") = some true)
    (t_BoxError : PySem.W.typeIn K (.ref C_BoxError) = some (.type "type"))
    (h_BoxError : PySem.W.hasDictIn K C_BoxError = true)
    (x_BadYard : PySem.W.excIn K C_BadYard [.type "ValueError", .type "Exception", .type "BaseException", .type "object"] "ValueError.__new__" = true)
    (k_BadYard : PySem.W.keepIn K (.ref C_BadYard) = true)
    (b_BadYard : PySem.W.subIn K (.ref C_BadYard) (.type "BaseException") = some true)
    (t_BadYard : PySem.W.typeIn K (.ref C_BadYard) = some (.type "type"))
    (h_BadYard : PySem.W.hasDictIn K C_BadYard = true)
    (x_NotThere : PySem.W.excIn K C_NotThere [.type "ValueError", .type "Exception", .type "BaseException", .type "object"] "ValueError.__new__" = true)
    (k_NotThere : PySem.W.keepIn K (.ref C_NotThere) = true)
    (b_NotThere : PySem.W.subIn K (.ref C_NotThere) (.type "BaseException") = some true)
    (t_NotThere : PySem.W.typeIn K (.ref C_NotThere) = some (.type "type"))
    (h_NotThere : PySem.W.hasDictIn K C_NotThere = true)
    (x_Held : PySem.W.excIn K C_Held [.type "ValueError", .type "Exception", .type "BaseException", .type "object"] "ValueError.__new__" = true)
    (k_Held : PySem.W.keepIn K (.ref C_Held) = true)
    (b_Held : PySem.W.subIn K (.ref C_Held) (.type "BaseException") = some true)
    (t_Held : PySem.W.typeIn K (.ref C_Held) = some (.type "type"))
    (h_Held : PySem.W.hasDictIn K C_Held = true)
    (x_Red : PySem.W.excIn K C_Red [.type "ValueError", .type "Exception", .type "BaseException", .type "object"] "ValueError.__new__" = true)
    (k_Red : PySem.W.keepIn K (.ref C_Red) = true)
    (b_Red : PySem.W.subIn K (.ref C_Red) (.type "BaseException") = some true)
    (t_Red : PySem.W.typeIn K (.ref C_Red) = some (.type "type"))
    (h_Red : PySem.W.hasDictIn K C_Red = true)
    (pg_Yard : PySem.W.plainGet K C_Yard Str.empty = true)
    (hd_Yard : PySem.W.hasDictIn K C_Yard = true)
    (po_Yard : PySem.W.plainOver K C_Yard = true)
    (sa_Yard : PySem.W.findIn K (.ref C_Yard) "__setattr__" = some (some (.builtin "object.__setattr__")))
    (mk_Yard : PySem.W.makesIn K C_Yard = true)
    (kc_Yard : PySem.W.keepIn K (.ref C_Yard) = true)
    (n_Yard_pieces : PySem.W.findIn K (.ref C_Yard) "pieces" = some none)
    (n_Yard_signals : PySem.W.findIn K (.ref C_Yard) "signals" = some none)
    (n_Yard_wait : PySem.W.findIn K (.ref C_Yard) "wait" = some none)
    (n_Yard_routes : PySem.W.findIn K (.ref C_Yard) "routes" = some none)
    (n_Yard_now : PySem.W.findIn K (.ref C_Yard) "now" = some none)
    (n_Yard_points : PySem.W.findIn K (.ref C_Yard) "points" = some none)
    (n_Yard_locks : PySem.W.findIn K (.ref C_Yard) "locks" = some none)
    (n_Yard_green : PySem.W.findIn K (.ref C_Yard) "green" = some none)
    (n_Yard_falling : PySem.W.findIn K (.ref C_Yard) "falling" = some none)
    (n_Yard_trains : PySem.W.findIn K (.ref C_Yard) "trains" = some none)
    (z_ValueError : PySem.W.nsIn K mainGlobals "ValueError" = some none)
    (z_any : PySem.W.nsIn K mainGlobals "any" = some none)
    (z_bool : PySem.W.nsIn K mainGlobals "bool" = some none)
    (z_int : PySem.W.nsIn K mainGlobals "int" = some none)
    (z_isinstance : PySem.W.nsIn K mainGlobals "isinstance" = some none)
    (z_len : PySem.W.nsIn K mainGlobals "len" = some none)
    (z_list : PySem.W.nsIn K mainGlobals "list" = some none)
    (z_max : PySem.W.nsIn K mainGlobals "max" = some none)
    (z_min : PySem.W.nsIn K mainGlobals "min" = some none)
    (z_range : PySem.W.nsIn K mainGlobals "range" = some none)
    (z_set : PySem.W.nsIn K mainGlobals "set" = some none)
    (z_tuple : PySem.W.nsIn K mainGlobals "tuple" = some none)
    (g_BRANCH : PySem.W.nsIn K mainGlobals "BRANCH" = some (some (.str "branch" t_BRANCH)))
    (g_JOINTS : PySem.W.nsIn K mainGlobals "JOINTS" = some (some (.int 999 t_JOINTS)))
    (g_MOST : PySem.W.nsIn K mainGlobals "MOST" = some (some (.int 16 t_MOST)))
    (g_STRAIGHT : PySem.W.nsIn K mainGlobals "STRAIGHT" = some (some (.str "straight" t_STRAIGHT)))
    (hg_NotThere : PySem.W.findIn K (.ref C_NotThere) "__getattribute__" = some (some (.builtin "BaseException.__getattribute__")))
    (hk_NotThere : PySem.W.findIn K (.ref C_NotThere) "__getattr__" = some none)
    (ha_NotThere : PySem.W.findIn K (.ref C_NotThere) "__class__" = some (some (.builtin "object.__class__")))
    (hm_NotThere : PySem.W.mroIn K C_NotThere (.type "object") = some true)
    (sv_NotThere : PySem.W.subIn K (.ref C_NotThere) (.type "ValueError") = some true)
    (s_NotThere_BoxError : PySem.W.subIn K (.ref C_NotThere) (.ref C_BoxError) = some true)
    (s_NotThere_BadYard : PySem.W.subIn K (.ref C_NotThere) (.ref C_BadYard) = some false)
    (s_NotThere_NotThere : PySem.W.subIn K (.ref C_NotThere) (.ref C_NotThere) = some true)
    (s_NotThere_Held : PySem.W.subIn K (.ref C_NotThere) (.ref C_Held) = some false)
    (s_NotThere_Red : PySem.W.subIn K (.ref C_NotThere) (.ref C_Red) = some false)
    (hg_Held : PySem.W.findIn K (.ref C_Held) "__getattribute__" = some (some (.builtin "BaseException.__getattribute__")))
    (hk_Held : PySem.W.findIn K (.ref C_Held) "__getattr__" = some none)
    (ha_Held : PySem.W.findIn K (.ref C_Held) "__class__" = some (some (.builtin "object.__class__")))
    (hm_Held : PySem.W.mroIn K C_Held (.type "object") = some true)
    (sv_Held : PySem.W.subIn K (.ref C_Held) (.type "ValueError") = some true)
    (s_Held_BoxError : PySem.W.subIn K (.ref C_Held) (.ref C_BoxError) = some true)
    (s_Held_BadYard : PySem.W.subIn K (.ref C_Held) (.ref C_BadYard) = some false)
    (s_Held_NotThere : PySem.W.subIn K (.ref C_Held) (.ref C_NotThere) = some false)
    (s_Held_Held : PySem.W.subIn K (.ref C_Held) (.ref C_Held) = some true)
    (s_Held_Red : PySem.W.subIn K (.ref C_Held) (.ref C_Red) = some false)
    (hn_o : PySem.W.specialIn K (.builtin "object.__class__") "__get__" = some (some (.builtin "getset_descriptor.__get__")))
    (ht_o : PySem.W.takesIn K (.builtin "object.__class__") = some true)
    (a_joints : PySem.W.nsIn K mainGlobals "joints" = some (some (.ref f_joints)))
    (l_joints : K.lookup f_joints = some ⟨oc_joints, od_joints, .func (PySem.W.fnOf "joints" "joints" (defArgs s_joints) (defBody s_joints) (defScope s_joints) .none kV_joints dc_joints pm_joints an_joints cd_joints ct_joints), sl_joints⟩)
    (c_joints : PySem.W.codeIn K cd_joints "joints" = true)
    (k_joints : PySem.W.keepIn K (.ref f_joints) = true)
    (a_beyond : PySem.W.nsIn K mainGlobals "beyond" = some (some (.ref f_beyond)))
    (l_beyond : K.lookup f_beyond = some ⟨oc_beyond, od_beyond, .func (PySem.W.fnOf "beyond" "beyond" (defArgs s_beyond) (defBody s_beyond) (defScope s_beyond) .none kV_beyond dc_beyond pm_beyond an_beyond cd_beyond ct_beyond), sl_beyond⟩)
    (c_beyond : PySem.W.codeIn K cd_beyond "beyond" = true)
    (k_beyond : PySem.W.keepIn K (.ref f_beyond) = true)
    (a_outs : PySem.W.nsIn K mainGlobals "outs" = some (some (.ref f_outs)))
    (l_outs : K.lookup f_outs = some ⟨oc_outs, od_outs, .func (PySem.W.fnOf "outs" "outs" (defArgs s_outs) (defBody s_outs) (defScope s_outs) .none kV_outs dc_outs pm_outs an_outs cd_outs ct_outs), sl_outs⟩)
    (c_outs : PySem.W.codeIn K cd_outs "outs" = true)
    (k_outs : PySem.W.keepIn K (.ref f_outs) = true)
    (a_lie_for : PySem.W.nsIn K mainGlobals "lie_for" = some (some (.ref f_lie_for)))
    (l_lie_for : K.lookup f_lie_for = some ⟨oc_lie_for, od_lie_for, .func (PySem.W.fnOf "lie_for" "lie_for" (defArgs s_lie_for) (defBody s_lie_for) (defScope s_lie_for) .none kV_lie_for dc_lie_for pm_lie_for an_lie_for cd_lie_for ct_lie_for), sl_lie_for⟩)
    (c_lie_for : PySem.W.codeIn K cd_lie_for "lie_for" = true)
    (k_lie_for : PySem.W.keepIn K (.ref f_lie_for) = true)
    (a_look_pieces : PySem.W.nsIn K mainGlobals "look_pieces" = some (some (.ref f_look_pieces)))
    (l_look_pieces : K.lookup f_look_pieces = some ⟨oc_look_pieces, od_look_pieces, .func (PySem.W.fnOf "look_pieces" "look_pieces" (defArgs s_look_pieces) (defBody s_look_pieces) (defScope s_look_pieces) .none kV_look_pieces dc_look_pieces pm_look_pieces an_look_pieces cd_look_pieces ct_look_pieces), sl_look_pieces⟩)
    (c_look_pieces : PySem.W.codeIn K cd_look_pieces "look_pieces" = true)
    (k_look_pieces : PySem.W.keepIn K (.ref f_look_pieces) = true)
    (a_look_signals : PySem.W.nsIn K mainGlobals "look_signals" = some (some (.ref f_look_signals)))
    (l_look_signals : K.lookup f_look_signals = some ⟨oc_look_signals, od_look_signals, .func (PySem.W.fnOf "look_signals" "look_signals" (defArgs s_look_signals) (defBody s_look_signals) (defScope s_look_signals) .none kV_look_signals dc_look_signals pm_look_signals an_look_signals cd_look_signals ct_look_signals), sl_look_signals⟩)
    (c_look_signals : PySem.W.codeIn K cd_look_signals "look_signals" = true)
    (k_look_signals : PySem.W.keepIn K (.ref f_look_signals) = true)
    (a_ends_at : PySem.W.nsIn K mainGlobals "ends_at" = some (some (.ref f_ends_at)))
    (l_ends_at : K.lookup f_ends_at = some ⟨oc_ends_at, od_ends_at, .func (PySem.W.fnOf "ends_at" "ends_at" (defArgs s_ends_at) (defBody s_ends_at) (defScope s_ends_at) .none kV_ends_at dc_ends_at pm_ends_at an_ends_at cd_ends_at ct_ends_at), sl_ends_at⟩)
    (c_ends_at : PySem.W.codeIn K cd_ends_at "ends_at" = true)
    (k_ends_at : PySem.W.keepIn K (.ref f_ends_at) = true)
    (a_ways_from : PySem.W.nsIn K mainGlobals "ways_from" = some (some (.ref f_ways_from)))
    (l_ways_from : K.lookup f_ways_from = some ⟨oc_ways_from, od_ways_from, .func (PySem.W.fnOf "ways_from" "ways_from" (defArgs s_ways_from) (defBody s_ways_from) (defScope s_ways_from) .none kV_ways_from dc_ways_from pm_ways_from an_ways_from cd_ways_from ct_ways_from), sl_ways_from⟩)
    (c_ways_from : PySem.W.codeIn K cd_ways_from "ways_from" = true)
    (k_ways_from : PySem.W.keepIn K (.ref f_ways_from) = true)
    (a_routes : PySem.W.nsIn K mainGlobals "routes" = some (some (.ref f_routes)))
    (l_routes : K.lookup f_routes = some ⟨oc_routes, od_routes, .func (PySem.W.fnOf "routes" "routes" (defArgs s_routes) (defBody s_routes) (defScope s_routes) .none kV_routes dc_routes pm_routes an_routes cd_routes ct_routes), sl_routes⟩)
    (c_routes : PySem.W.codeIn K cd_routes "routes" = true)
    (k_routes : PySem.W.keepIn K (.ref f_routes) = true)
    (a_Yard_init : PySem.W.findIn K (.ref C_Yard) "__init__" = some (some (.ref f_Yard_init)))
    (i_Yard_init : PySem.W.isFn K (.ref f_Yard_init) = true)
    (l_Yard_init : K.lookup f_Yard_init = some ⟨oc_Yard_init, od_Yard_init, .func (PySem.W.fnOf "__init__" "Yard.__init__" (defArgs s_Yard_init) (defBody s_Yard_init) (defScope s_Yard_init) .none kV_Yard_init dc_Yard_init pm_Yard_init an_Yard_init cd_Yard_init ct_Yard_init), sl_Yard_init⟩)
    (c_Yard_init : PySem.W.codeIn K cd_Yard_init "Yard.__init__" = true)
    (k_Yard_init : PySem.W.keepIn K (.ref f_Yard_init) = true)
    (a_Yard_time : PySem.W.findIn K (.ref C_Yard) "time" = some (some (.ref f_Yard_time)))
    (i_Yard_time : PySem.W.isFn K (.ref f_Yard_time) = true)
    (l_Yard_time : K.lookup f_Yard_time = some ⟨oc_Yard_time, od_Yard_time, .func (PySem.W.fnOf "time" "Yard.time" (defArgs s_Yard_time) (defBody s_Yard_time) (defScope s_Yard_time) .none kV_Yard_time dc_Yard_time pm_Yard_time an_Yard_time cd_Yard_time ct_Yard_time), sl_Yard_time⟩)
    (c_Yard_time : PySem.W.codeIn K cd_Yard_time "Yard.time" = true)
    (k_Yard_time : PySem.W.keepIn K (.ref f_Yard_time) = true)
    (a_Yard_need_piece : PySem.W.findIn K (.ref C_Yard) "need_piece" = some (some (.ref f_Yard_need_piece)))
    (i_Yard_need_piece : PySem.W.isFn K (.ref f_Yard_need_piece) = true)
    (l_Yard_need_piece : K.lookup f_Yard_need_piece = some ⟨oc_Yard_need_piece, od_Yard_need_piece, .func (PySem.W.fnOf "need_piece" "Yard.need_piece" (defArgs s_Yard_need_piece) (defBody s_Yard_need_piece) (defScope s_Yard_need_piece) .none kV_Yard_need_piece dc_Yard_need_piece pm_Yard_need_piece an_Yard_need_piece cd_Yard_need_piece ct_Yard_need_piece), sl_Yard_need_piece⟩)
    (c_Yard_need_piece : PySem.W.codeIn K cd_Yard_need_piece "Yard.need_piece" = true)
    (k_Yard_need_piece : PySem.W.keepIn K (.ref f_Yard_need_piece) = true)
    (a_Yard_lock_of : PySem.W.findIn K (.ref C_Yard) "lock_of" = some (some (.ref f_Yard_lock_of)))
    (i_Yard_lock_of : PySem.W.isFn K (.ref f_Yard_lock_of) = true)
    (l_Yard_lock_of : K.lookup f_Yard_lock_of = some ⟨oc_Yard_lock_of, od_Yard_lock_of, .func (PySem.W.fnOf "lock_of" "Yard.lock_of" (defArgs s_Yard_lock_of) (defBody s_Yard_lock_of) (defScope s_Yard_lock_of) .none kV_Yard_lock_of dc_Yard_lock_of pm_Yard_lock_of an_Yard_lock_of cd_Yard_lock_of ct_Yard_lock_of), sl_Yard_lock_of⟩)
    (c_Yard_lock_of : PySem.W.codeIn K cd_Yard_lock_of "Yard.lock_of" = true)
    (k_Yard_lock_of : PySem.W.keepIn K (.ref f_Yard_lock_of) = true)
    (a_Yard_train_in : PySem.W.findIn K (.ref C_Yard) "train_in" = some (some (.ref f_Yard_train_in)))
    (i_Yard_train_in : PySem.W.isFn K (.ref f_Yard_train_in) = true)
    (l_Yard_train_in : K.lookup f_Yard_train_in = some ⟨oc_Yard_train_in, od_Yard_train_in, .func (PySem.W.fnOf "train_in" "Yard.train_in" (defArgs s_Yard_train_in) (defBody s_Yard_train_in) (defScope s_Yard_train_in) .none kV_Yard_train_in dc_Yard_train_in pm_Yard_train_in an_Yard_train_in cd_Yard_train_in ct_Yard_train_in), sl_Yard_train_in⟩)
    (c_Yard_train_in : PySem.W.codeIn K cd_Yard_train_in "Yard.train_in" = true)
    (k_Yard_train_in : PySem.W.keepIn K (.ref f_Yard_train_in) = true)
    (a_Yard_lies : PySem.W.findIn K (.ref C_Yard) "lies" = some (some (.ref f_Yard_lies)))
    (i_Yard_lies : PySem.W.isFn K (.ref f_Yard_lies) = true)
    (l_Yard_lies : K.lookup f_Yard_lies = some ⟨oc_Yard_lies, od_Yard_lies, .func (PySem.W.fnOf "lies" "Yard.lies" (defArgs s_Yard_lies) (defBody s_Yard_lies) (defScope s_Yard_lies) .none kV_Yard_lies dc_Yard_lies pm_Yard_lies an_Yard_lies cd_Yard_lies ct_Yard_lies), sl_Yard_lies⟩)
    (c_Yard_lies : PySem.W.codeIn K cd_Yard_lies "Yard.lies" = true)
    (k_Yard_lies : PySem.W.keepIn K (.ref f_Yard_lies) = true)
    (a_Yard_is_green : PySem.W.findIn K (.ref C_Yard) "is_green" = some (some (.ref f_Yard_is_green)))
    (i_Yard_is_green : PySem.W.isFn K (.ref f_Yard_is_green) = true)
    (l_Yard_is_green : K.lookup f_Yard_is_green = some ⟨oc_Yard_is_green, od_Yard_is_green, .func (PySem.W.fnOf "is_green" "Yard.is_green" (defArgs s_Yard_is_green) (defBody s_Yard_is_green) (defScope s_Yard_is_green) .none kV_Yard_is_green dc_Yard_is_green pm_Yard_is_green an_Yard_is_green cd_Yard_is_green ct_Yard_is_green), sl_Yard_is_green⟩)
    (c_Yard_is_green : PySem.W.codeIn K cd_Yard_is_green "Yard.is_green" = true)
    (k_Yard_is_green : PySem.W.keepIn K (.ref f_Yard_is_green) = true)
    (a_Yard_where : PySem.W.findIn K (.ref C_Yard) "where" = some (some (.ref f_Yard_where)))
    (i_Yard_where : PySem.W.isFn K (.ref f_Yard_where) = true)
    (l_Yard_where : K.lookup f_Yard_where = some ⟨oc_Yard_where, od_Yard_where, .func (PySem.W.fnOf "where" "Yard.where" (defArgs s_Yard_where) (defBody s_Yard_where) (defScope s_Yard_where) .none kV_Yard_where dc_Yard_where pm_Yard_where an_Yard_where cd_Yard_where ct_Yard_where), sl_Yard_where⟩)
    (c_Yard_where : PySem.W.codeIn K cd_Yard_where "Yard.where" = true)
    (k_Yard_where : PySem.W.keepIn K (.ref f_Yard_where) = true)
    (a_Yard_is_held : PySem.W.findIn K (.ref C_Yard) "is_held" = some (some (.ref f_Yard_is_held)))
    (i_Yard_is_held : PySem.W.isFn K (.ref f_Yard_is_held) = true)
    (l_Yard_is_held : K.lookup f_Yard_is_held = some ⟨oc_Yard_is_held, od_Yard_is_held, .func (PySem.W.fnOf "is_held" "Yard.is_held" (defArgs s_Yard_is_held) (defBody s_Yard_is_held) (defScope s_Yard_is_held) .none kV_Yard_is_held dc_Yard_is_held pm_Yard_is_held an_Yard_is_held cd_Yard_is_held ct_Yard_is_held), sl_Yard_is_held⟩)
    (c_Yard_is_held : PySem.W.codeIn K cd_Yard_is_held "Yard.is_held" = true)
    (k_Yard_is_held : PySem.W.keepIn K (.ref f_Yard_is_held) = true)
    (a_Yard_free : PySem.W.findIn K (.ref C_Yard) "free" = some (some (.ref f_Yard_free)))
    (i_Yard_free : PySem.W.isFn K (.ref f_Yard_free) = true)
    (l_Yard_free : K.lookup f_Yard_free = some ⟨oc_Yard_free, od_Yard_free, .func (PySem.W.fnOf "free" "Yard.free" (defArgs s_Yard_free) (defBody s_Yard_free) (defScope s_Yard_free) .none kV_Yard_free dc_Yard_free pm_Yard_free an_Yard_free cd_Yard_free ct_Yard_free), sl_Yard_free⟩)
    (c_Yard_free : PySem.W.codeIn K cd_Yard_free "Yard.free" = true)
    (k_Yard_free : PySem.W.keepIn K (.ref f_Yard_free) = true)
    (a_set_route : PySem.W.nsIn K mainGlobals "set_route" = some (some (.ref f_set_route)))
    (l_set_route : K.lookup f_set_route = some ⟨oc_set_route, od_set_route, .func (PySem.W.fnOf "set_route" "set_route" (defArgs s_set_route) (defBody s_set_route) (defScope s_set_route) .none kV_set_route dc_set_route pm_set_route an_set_route cd_set_route ct_set_route), sl_set_route⟩)
    (c_set_route : PySem.W.codeIn K cd_set_route "set_route" = true)
    (k_set_route : PySem.W.keepIn K (.ref f_set_route) = true)
    (a_need_route : PySem.W.nsIn K mainGlobals "need_route" = some (some (.ref f_need_route)))
    (l_need_route : K.lookup f_need_route = some ⟨oc_need_route, od_need_route, .func (PySem.W.fnOf "need_route" "need_route" (defArgs s_need_route) (defBody s_need_route) (defScope s_need_route) .none kV_need_route dc_need_route pm_need_route an_need_route cd_need_route ct_need_route), sl_need_route⟩)
    (c_need_route : PySem.W.codeIn K cd_need_route "need_route" = true)
    (k_need_route : PySem.W.keepIn K (.ref f_need_route) = true)
    (a_near : PySem.W.nsIn K mainGlobals "near" = some (some (.ref f_near)))
    (l_near : K.lookup f_near = some ⟨oc_near, od_near, .func (PySem.W.fnOf "near" "near" (defArgs s_near) (defBody s_near) (defScope s_near) .none kV_near dc_near pm_near an_near cd_near ct_near), sl_near⟩)
    (c_near : PySem.W.codeIn K cd_near "near" = true)
    (k_near : PySem.W.keepIn K (.ref f_near) = true)
    (a_cancel : PySem.W.nsIn K mainGlobals "cancel" = some (some (.ref f_cancel)))
    (l_cancel : K.lookup f_cancel = some ⟨oc_cancel, od_cancel, .func (PySem.W.fnOf "cancel" "cancel" (defArgs s_cancel) (defBody s_cancel) (defScope s_cancel) .none kV_cancel dc_cancel pm_cancel an_cancel cd_cancel ct_cancel), sl_cancel⟩)
    (c_cancel : PySem.W.codeIn K cd_cancel "cancel" = true)
    (k_cancel : PySem.W.keepIn K (.ref f_cancel) = true)
    (a_tick : PySem.W.nsIn K mainGlobals "tick" = some (some (.ref f_tick)))
    (l_tick : K.lookup f_tick = some ⟨oc_tick, od_tick, .func (PySem.W.fnOf "tick" "tick" (defArgs s_tick) (defBody s_tick) (defScope s_tick) .none kV_tick dc_tick pm_tick an_tick cd_tick ct_tick), sl_tick⟩)
    (c_tick : PySem.W.codeIn K cd_tick "tick" = true)
    (k_tick : PySem.W.keepIn K (.ref f_tick) = true)
    (a_throw : PySem.W.nsIn K mainGlobals "throw" = some (some (.ref f_throw)))
    (l_throw : K.lookup f_throw = some ⟨oc_throw, od_throw, .func (PySem.W.fnOf "throw" "throw" (defArgs s_throw) (defBody s_throw) (defScope s_throw) .none kV_throw dc_throw pm_throw an_throw cd_throw ct_throw), sl_throw⟩)
    (c_throw : PySem.W.codeIn K cd_throw "throw" = true)
    (k_throw : PySem.W.keepIn K (.ref f_throw) = true)
    (a__law_cell : PySem.W.nsIn K mainGlobals "_law_cell" = some (some (.ref f__law_cell)))
    (l__law_cell : K.lookup f__law_cell = some ⟨oc__law_cell, od__law_cell, .func (PySem.W.fnOf "_law_cell" "_law_cell" (defArgs s__law_cell) (defBody s__law_cell) (defScope s__law_cell) .none kV__law_cell dc__law_cell pm__law_cell an__law_cell cd__law_cell ct__law_cell), sl__law_cell⟩)
    (c__law_cell : PySem.W.codeIn K cd__law_cell "_law_cell" = true)
    (k__law_cell : PySem.W.keepIn K (.ref f__law_cell) = true)
    (a__law_mix : PySem.W.nsIn K mainGlobals "_law_mix" = some (some (.ref f__law_mix)))
    (l__law_mix : K.lookup f__law_mix = some ⟨oc__law_mix, od__law_mix, .func (PySem.W.fnOf "_law_mix" "_law_mix" (defArgs s__law_mix) (defBody s__law_mix) (defScope s__law_mix) .none kV__law_mix dc__law_mix pm__law_mix an__law_mix cd__law_mix ct__law_mix), sl__law_mix⟩)
    (c__law_mix : PySem.W.codeIn K cd__law_mix "_law_mix" = true)
    (k__law_mix : PySem.W.keepIn K (.ref f__law_mix) = true)
    (a__law_beyond : PySem.W.nsIn K mainGlobals "_law_beyond" = some (some (.ref f__law_beyond)))
    (l__law_beyond : K.lookup f__law_beyond = some ⟨oc__law_beyond, od__law_beyond, .func (PySem.W.fnOf "_law_beyond" "_law_beyond" (defArgs s__law_beyond) (defBody s__law_beyond) (defScope s__law_beyond) .none kV__law_beyond dc__law_beyond pm__law_beyond an__law_beyond cd__law_beyond ct__law_beyond), sl__law_beyond⟩)
    (c__law_beyond : PySem.W.codeIn K cd__law_beyond "_law_beyond" = true)
    (k__law_beyond : PySem.W.keepIn K (.ref f__law_beyond) = true)
    (a__law_pieces : PySem.W.nsIn K mainGlobals "_law_pieces" = some (some (.ref f__law_pieces)))
    (l__law_pieces : K.lookup f__law_pieces = some ⟨oc__law_pieces, od__law_pieces, .func (PySem.W.fnOf "_law_pieces" "_law_pieces" (defArgs s__law_pieces) (defBody s__law_pieces) (defScope s__law_pieces) .none kV__law_pieces dc__law_pieces pm__law_pieces an__law_pieces cd__law_pieces ct__law_pieces), sl__law_pieces⟩)
    (c__law_pieces : PySem.W.codeIn K cd__law_pieces "_law_pieces" = true)
    (k__law_pieces : PySem.W.keepIn K (.ref f__law_pieces) = true)
    (a__law_signals : PySem.W.nsIn K mainGlobals "_law_signals" = some (some (.ref f__law_signals)))
    (l__law_signals : K.lookup f__law_signals = some ⟨oc__law_signals, od__law_signals, .func (PySem.W.fnOf "_law_signals" "_law_signals" (defArgs s__law_signals) (defBody s__law_signals) (defScope s__law_signals) .none kV__law_signals dc__law_signals pm__law_signals an__law_signals cd__law_signals ct__law_signals), sl__law_signals⟩)
    (c__law_signals : PySem.W.codeIn K cd__law_signals "_law_signals" = true)
    (k__law_signals : PySem.W.keepIn K (.ref f__law_signals) = true)
    (a__law_outs : PySem.W.nsIn K mainGlobals "_law_outs" = some (some (.ref f__law_outs)))
    (l__law_outs : K.lookup f__law_outs = some ⟨oc__law_outs, od__law_outs, .func (PySem.W.fnOf "_law_outs" "_law_outs" (defArgs s__law_outs) (defBody s__law_outs) (defScope s__law_outs) .none kV__law_outs dc__law_outs pm__law_outs an__law_outs cd__law_outs ct__law_outs), sl__law_outs⟩)
    (c__law_outs : PySem.W.codeIn K cd__law_outs "_law_outs" = true)
    (k__law_outs : PySem.W.keepIn K (.ref f__law_outs) = true)
    (a__law_ways : PySem.W.nsIn K mainGlobals "_law_ways" = some (some (.ref f__law_ways)))
    (l__law_ways : K.lookup f__law_ways = some ⟨oc__law_ways, od__law_ways, .func (PySem.W.fnOf "_law_ways" "_law_ways" (defArgs s__law_ways) (defBody s__law_ways) (defScope s__law_ways) .none kV__law_ways dc__law_ways pm__law_ways an__law_ways cd__law_ways ct__law_ways), sl__law_ways⟩)
    (c__law_ways : PySem.W.codeIn K cd__law_ways "_law_ways" = true)
    (k__law_ways : PySem.W.keepIn K (.ref f__law_ways) = true)
    (a__law_routes : PySem.W.nsIn K mainGlobals "_law_routes" = some (some (.ref f__law_routes)))
    (l__law_routes : K.lookup f__law_routes = some ⟨oc__law_routes, od__law_routes, .func (PySem.W.fnOf "_law_routes" "_law_routes" (defArgs s__law_routes) (defBody s__law_routes) (defScope s__law_routes) .none kV__law_routes dc__law_routes pm__law_routes an__law_routes cd__law_routes ct__law_routes), sl__law_routes⟩)
    (c__law_routes : PySem.W.codeIn K cd__law_routes "_law_routes" = true)
    (k__law_routes : PySem.W.keepIn K (.ref f__law_routes) = true)
    (a__law_new : PySem.W.nsIn K mainGlobals "_law_new" = some (some (.ref f__law_new)))
    (l__law_new : K.lookup f__law_new = some ⟨oc__law_new, od__law_new, .func (PySem.W.fnOf "_law_new" "_law_new" (defArgs s__law_new) (defBody s__law_new) (defScope s__law_new) .none kV__law_new dc__law_new pm__law_new an__law_new cd__law_new ct__law_new), sl__law_new⟩)
    (c__law_new : PySem.W.codeIn K cd__law_new "_law_new" = true)
    (k__law_new : PySem.W.keepIn K (.ref f__law_new) = true)
    (a__law_train_in : PySem.W.nsIn K mainGlobals "_law_train_in" = some (some (.ref f__law_train_in)))
    (l__law_train_in : K.lookup f__law_train_in = some ⟨oc__law_train_in, od__law_train_in, .func (PySem.W.fnOf "_law_train_in" "_law_train_in" (defArgs s__law_train_in) (defBody s__law_train_in) (defScope s__law_train_in) .none kV__law_train_in dc__law_train_in pm__law_train_in an__law_train_in cd__law_train_in ct__law_train_in), sl__law_train_in⟩)
    (c__law_train_in : PySem.W.codeIn K cd__law_train_in "_law_train_in" = true)
    (k__law_train_in : PySem.W.keepIn K (.ref f__law_train_in) = true)
    (a__law_held : PySem.W.nsIn K mainGlobals "_law_held" = some (some (.ref f__law_held)))
    (l__law_held : K.lookup f__law_held = some ⟨oc__law_held, od__law_held, .func (PySem.W.fnOf "_law_held" "_law_held" (defArgs s__law_held) (defBody s__law_held) (defScope s__law_held) .none kV__law_held dc__law_held pm__law_held an__law_held cd__law_held ct__law_held), sl__law_held⟩)
    (c__law_held : PySem.W.codeIn K cd__law_held "_law_held" = true)
    (k__law_held : PySem.W.keepIn K (.ref f__law_held) = true)
    (a__law_free : PySem.W.nsIn K mainGlobals "_law_free" = some (some (.ref f__law_free)))
    (l__law_free : K.lookup f__law_free = some ⟨oc__law_free, od__law_free, .func (PySem.W.fnOf "_law_free" "_law_free" (defArgs s__law_free) (defBody s__law_free) (defScope s__law_free) .none kV__law_free dc__law_free pm__law_free an__law_free cd__law_free ct__law_free), sl__law_free⟩)
    (c__law_free : PySem.W.codeIn K cd__law_free "_law_free" = true)
    (k__law_free : PySem.W.keepIn K (.ref f__law_free) = true)
    (a__law_set : PySem.W.nsIn K mainGlobals "_law_set" = some (some (.ref f__law_set)))
    (l__law_set : K.lookup f__law_set = some ⟨oc__law_set, od__law_set, .func (PySem.W.fnOf "_law_set" "_law_set" (defArgs s__law_set) (defBody s__law_set) (defScope s__law_set) .none kV__law_set dc__law_set pm__law_set an__law_set cd__law_set ct__law_set), sl__law_set⟩)
    (c__law_set : PySem.W.codeIn K cd__law_set "_law_set" = true)
    (k__law_set : PySem.W.keepIn K (.ref f__law_set) = true)
    (a__law_near : PySem.W.nsIn K mainGlobals "_law_near" = some (some (.ref f__law_near)))
    (l__law_near : K.lookup f__law_near = some ⟨oc__law_near, od__law_near, .func (PySem.W.fnOf "_law_near" "_law_near" (defArgs s__law_near) (defBody s__law_near) (defScope s__law_near) .none kV__law_near dc__law_near pm__law_near an__law_near cd__law_near ct__law_near), sl__law_near⟩)
    (c__law_near : PySem.W.codeIn K cd__law_near "_law_near" = true)
    (k__law_near : PySem.W.keepIn K (.ref f__law_near) = true)
    (a__law_cancel : PySem.W.nsIn K mainGlobals "_law_cancel" = some (some (.ref f__law_cancel)))
    (l__law_cancel : K.lookup f__law_cancel = some ⟨oc__law_cancel, od__law_cancel, .func (PySem.W.fnOf "_law_cancel" "_law_cancel" (defArgs s__law_cancel) (defBody s__law_cancel) (defScope s__law_cancel) .none kV__law_cancel dc__law_cancel pm__law_cancel an__law_cancel cd__law_cancel ct__law_cancel), sl__law_cancel⟩)
    (c__law_cancel : PySem.W.codeIn K cd__law_cancel "_law_cancel" = true)
    (k__law_cancel : PySem.W.keepIn K (.ref f__law_cancel) = true)
    (a__law_tick : PySem.W.nsIn K mainGlobals "_law_tick" = some (some (.ref f__law_tick)))
    (l__law_tick : K.lookup f__law_tick = some ⟨oc__law_tick, od__law_tick, .func (PySem.W.fnOf "_law_tick" "_law_tick" (defArgs s__law_tick) (defBody s__law_tick) (defScope s__law_tick) .none kV__law_tick dc__law_tick pm__law_tick an__law_tick cd__law_tick ct__law_tick), sl__law_tick⟩)
    (c__law_tick : PySem.W.codeIn K cd__law_tick "_law_tick" = true)
    (k__law_tick : PySem.W.keepIn K (.ref f__law_tick) = true)
    (a__law_throw : PySem.W.nsIn K mainGlobals "_law_throw" = some (some (.ref f__law_throw)))
    (l__law_throw : K.lookup f__law_throw = some ⟨oc__law_throw, od__law_throw, .func (PySem.W.fnOf "_law_throw" "_law_throw" (defArgs s__law_throw) (defBody s__law_throw) (defScope s__law_throw) .none kV__law_throw dc__law_throw pm__law_throw an__law_throw cd__law_throw ct__law_throw), sl__law_throw⟩)
    (c__law_throw : PySem.W.codeIn K cd__law_throw "_law_throw" = true)
    (k__law_throw : PySem.W.keepIn K (.ref f__law_throw) = true)
    (a__law_is : PySem.W.nsIn K mainGlobals "_law_is" = some (some (.ref f__law_is)))
    (l__law_is : K.lookup f__law_is = some ⟨oc__law_is, od__law_is, .func (PySem.W.fnOf "_law_is" "_law_is" (defArgs s__law_is) (defBody s__law_is) (defScope s__law_is) .none kV__law_is dc__law_is pm__law_is an__law_is cd__law_is ct__law_is), sl__law_is⟩)
    (c__law_is : PySem.W.codeIn K cd__law_is "_law_is" = true)
    (k__law_is : PySem.W.keepIn K (.ref f__law_is) = true)
    (a__law_same : PySem.W.nsIn K mainGlobals "_law_same" = some (some (.ref f__law_same)))
    (l__law_same : K.lookup f__law_same = some ⟨oc__law_same, od__law_same, .func (PySem.W.fnOf "_law_same" "_law_same" (defArgs s__law_same) (defBody s__law_same) (defScope s__law_same) .none kV__law_same dc__law_same pm__law_same an__law_same cd__law_same ct__law_same), sl__law_same⟩)
    (c__law_same : PySem.W.codeIn K cd__law_same "_law_same" = true)
    (k__law_same : PySem.W.keepIn K (.ref f__law_same) = true)
    (a__law_asked : PySem.W.nsIn K mainGlobals "_law_asked" = some (some (.ref f__law_asked)))
    (l__law_asked : K.lookup f__law_asked = some ⟨oc__law_asked, od__law_asked, .func (PySem.W.fnOf "_law_asked" "_law_asked" (defArgs s__law_asked) (defBody s__law_asked) (defScope s__law_asked) .none kV__law_asked dc__law_asked pm__law_asked an__law_asked cd__law_asked ct__law_asked), sl__law_asked⟩)
    (c__law_asked : PySem.W.codeIn K cd__law_asked "_law_asked" = true)
    (k__law_asked : PySem.W.keepIn K (.ref f__law_asked) = true)
    (a__law_due : PySem.W.nsIn K mainGlobals "_law_due" = some (some (.ref f__law_due)))
    (l__law_due : K.lookup f__law_due = some ⟨oc__law_due, od__law_due, .func (PySem.W.fnOf "_law_due" "_law_due" (defArgs s__law_due) (defBody s__law_due) (defScope s__law_due) .none kV__law_due dc__law_due pm__law_due an__law_due cd__law_due ct__law_due), sl__law_due⟩)
    (c__law_due : PySem.W.codeIn K cd__law_due "_law_due" = true)
    (k__law_due : PySem.W.keepIn K (.ref f__law_due) = true)
    (a_law : PySem.W.nsIn K mainGlobals "law" = some (some (.ref f_law)))
    (l_law : K.lookup f_law = some ⟨oc_law, od_law, .func (PySem.W.fnOf "law" "law" (defArgs s_law) (defBody s_law) (defScope s_law) .none kV_law dc_law pm_law an_law cd_law ct_law), sl_law⟩)
    (c_law : PySem.W.codeIn K cd_law "law" = true)
    (k_law : PySem.W.keepIn K (.ref f_law) = true) :
    ∃ fd : FuncData, (∀ (s : Shared) (v : Value), BindsTo s fd ⟨[v], []⟩ [("_law_script", v)]) ∧ ∀ base : Heap, K.In base → base.Ns mainGlobals mg → FnOk P w K mg base CX0 25 fa fd ["_law_script"] (spLaw K) := by
  have e := hfa.symm.trans (PySem.W.mg_of X G a_law)
  cases e
  have F_joints := fun_mk (st := s_joints) l_joints c_joints k_joints
  have b_joints := F_joints.binds (ps := ["piece"]) fun _ _ _ _ _ _ us hl => match us, hl with | [_], _ => rfl
  have F_beyond := fun_mk (st := s_beyond) l_beyond c_beyond k_beyond
  have b_beyond := F_beyond.binds (ps := ["pieces", "at", "joint"]) fun _ _ _ _ _ _ us hl => match us, hl with | [_, _, _], _ => rfl
  have F_outs := fun_mk (st := s_outs) l_outs c_outs k_outs
  have b_outs := F_outs.binds (ps := ["piece", "joint"]) fun _ _ _ _ _ _ us hl => match us, hl with | [_, _], _ => rfl
  have F_lie_for := fun_mk (st := s_lie_for) l_lie_for c_lie_for k_lie_for
  have b_lie_for := F_lie_for.binds (ps := ["piece", "way"]) fun _ _ _ _ _ _ us hl => match us, hl with | [_, _], _ => rfl
  have F_look_pieces := fun_mk (st := s_look_pieces) l_look_pieces c_look_pieces k_look_pieces
  have b_look_pieces := F_look_pieces.binds (ps := ["pieces"]) fun _ _ _ _ _ _ us hl => match us, hl with | [_], _ => rfl
  have F_look_signals := fun_mk (st := s_look_signals) l_look_signals c_look_signals k_look_signals
  have b_look_signals := F_look_signals.binds (ps := ["pieces", "signals"]) fun _ _ _ _ _ _ us hl => match us, hl with | [_, _], _ => rfl
  have F_ends_at := fun_mk (st := s_ends_at) l_ends_at c_ends_at k_ends_at
  have b_ends_at := F_ends_at.binds (ps := ["pieces", "signals", "at", "joint"]) fun _ _ _ _ _ _ us hl => match us, hl with | [_, _, _, _], _ => rfl
  have F_ways_from := fun_mk (st := s_ways_from) l_ways_from c_ways_from k_ways_from
  have b_ways_from := F_ways_from.binds (ps := ["pieces", "signals", "way", "joint", "at"]) fun _ _ _ _ _ _ us hl => match us, hl with | [_, _, _, _, _], _ => rfl
  have F_routes := fun_mk (st := s_routes) l_routes c_routes k_routes
  have b_routes := F_routes.binds (ps := ["pieces", "signals"]) fun _ _ _ _ _ _ us hl => match us, hl with | [_, _], _ => rfl
  have F_Yard_init := fun_mk (st := s_Yard_init) l_Yard_init c_Yard_init k_Yard_init
  have b_Yard_init := F_Yard_init.binds (ps := ["self", "pieces", "signals", "wait"]) fun _ _ _ _ _ _ us hl => match us, hl with | [_, _, _, _], _ => rfl
  have F_Yard_time := fun_mk (st := s_Yard_time) l_Yard_time c_Yard_time k_Yard_time
  have b_Yard_time := F_Yard_time.binds (ps := ["self"]) fun _ _ _ _ _ _ us hl => match us, hl with | [_], _ => rfl
  have F_Yard_need_piece := fun_mk (st := s_Yard_need_piece) l_Yard_need_piece c_Yard_need_piece k_Yard_need_piece
  have b_Yard_need_piece := F_Yard_need_piece.binds (ps := ["self", "at"]) fun _ _ _ _ _ _ us hl => match us, hl with | [_, _], _ => rfl
  have F_Yard_lock_of := fun_mk (st := s_Yard_lock_of) l_Yard_lock_of c_Yard_lock_of k_Yard_lock_of
  have b_Yard_lock_of := F_Yard_lock_of.binds (ps := ["self", "at"]) fun _ _ _ _ _ _ us hl => match us, hl with | [_, _], _ => rfl
  have F_Yard_train_in := fun_mk (st := s_Yard_train_in) l_Yard_train_in c_Yard_train_in k_Yard_train_in
  have b_Yard_train_in := F_Yard_train_in.binds (ps := ["self", "at"]) fun _ _ _ _ _ _ us hl => match us, hl with | [_, _], _ => rfl
  have F_Yard_lies := fun_mk (st := s_Yard_lies) l_Yard_lies c_Yard_lies k_Yard_lies
  have b_Yard_lies := F_Yard_lies.binds (ps := ["self", "at"]) fun _ _ _ _ _ _ us hl => match us, hl with | [_, _], _ => rfl
  have F_Yard_is_green := fun_mk (st := s_Yard_is_green) l_Yard_is_green c_Yard_is_green k_Yard_is_green
  have b_Yard_is_green := F_Yard_is_green.binds (ps := ["self", "signal"]) fun _ _ _ _ _ _ us hl => match us, hl with | [_, _], _ => rfl
  have F_Yard_where := fun_mk (st := s_Yard_where) l_Yard_where c_Yard_where k_Yard_where
  have b_Yard_where := F_Yard_where.binds (ps := ["self", "name"]) fun _ _ _ _ _ _ us hl => match us, hl with | [_, _], _ => rfl
  have F_Yard_is_held := fun_mk (st := s_Yard_is_held) l_Yard_is_held c_Yard_is_held k_Yard_is_held
  have b_Yard_is_held := F_Yard_is_held.binds (ps := ["self", "at"]) fun _ _ _ _ _ _ us hl => match us, hl with | [_, _], _ => rfl
  have F_Yard_free := fun_mk (st := s_Yard_free) l_Yard_free c_Yard_free k_Yard_free
  have b_Yard_free := F_Yard_free.binds (ps := ["self", "route"]) fun _ _ _ _ _ _ us hl => match us, hl with | [_, _], _ => rfl
  have F_set_route := fun_mk (st := s_set_route) l_set_route c_set_route k_set_route
  have b_set_route := F_set_route.binds (ps := ["yard", "route"]) fun _ _ _ _ _ _ us hl => match us, hl with | [_, _], _ => rfl
  have F_need_route := fun_mk (st := s_need_route) l_need_route c_need_route k_need_route
  have b_need_route := F_need_route.binds (ps := ["yard", "route"]) fun _ _ _ _ _ _ us hl => match us, hl with | [_, _], _ => rfl
  have F_near := fun_mk (st := s_near) l_near c_near k_near
  have b_near := F_near.binds (ps := ["yard", "signal"]) fun _ _ _ _ _ _ us hl => match us, hl with | [_, _], _ => rfl
  have F_cancel := fun_mk (st := s_cancel) l_cancel c_cancel k_cancel
  have b_cancel := F_cancel.binds (ps := ["yard", "route"]) fun _ _ _ _ _ _ us hl => match us, hl with | [_, _], _ => rfl
  have F_tick := fun_mk (st := s_tick) l_tick c_tick k_tick
  have b_tick := F_tick.binds (ps := ["yard"]) fun _ _ _ _ _ _ us hl => match us, hl with | [_], _ => rfl
  have F_throw := fun_mk (st := s_throw) l_throw c_throw k_throw
  have b_throw := F_throw.binds (ps := ["yard", "at"]) fun _ _ _ _ _ _ us hl => match us, hl with | [_, _], _ => rfl
  have F__law_cell := fun_mk (st := s__law_cell) l__law_cell c__law_cell k__law_cell
  have b__law_cell := F__law_cell.binds (ps := ["_law_script", "_law_k"]) fun _ _ _ _ _ _ us hl => match us, hl with | [_, _], _ => rfl
  have F__law_mix := fun_mk (st := s__law_mix) l__law_mix c__law_mix k__law_mix
  have b__law_mix := F__law_mix.binds (ps := ["_law_script", "_law_k"]) fun _ _ _ _ _ _ us hl => match us, hl with | [_, _], _ => rfl
  have F__law_beyond := fun_mk (st := s__law_beyond) l__law_beyond c__law_beyond k__law_beyond
  have b__law_beyond := F__law_beyond.binds (ps := ["_law_pieces_here", "_law_at", "_law_joint"]) fun _ _ _ _ _ _ us hl => match us, hl with | [_, _, _], _ => rfl
  have F__law_pieces := fun_mk (st := s__law_pieces) l__law_pieces c__law_pieces k__law_pieces
  have b__law_pieces := F__law_pieces.binds (ps := ["_law_script", "_law_base"]) fun _ _ _ _ _ _ us hl => match us, hl with | [_, _], _ => rfl
  have F__law_signals := fun_mk (st := s__law_signals) l__law_signals c__law_signals k__law_signals
  have b__law_signals := F__law_signals.binds (ps := ["_law_script", "_law_base", "_law_pieces_here"]) fun _ _ _ _ _ _ us hl => match us, hl with | [_, _, _], _ => rfl
  have F__law_outs := fun_mk (st := s__law_outs) l__law_outs c__law_outs k__law_outs
  have b__law_outs := F__law_outs.binds (ps := ["_law_piece", "_law_joint"]) fun _ _ _ _ _ _ us hl => match us, hl with | [_, _], _ => rfl
  have F__law_ways := fun_mk (st := s__law_ways) l__law_ways c__law_ways k__law_ways
  have b__law_ways := F__law_ways.binds (ps := ["_law_pieces_here", "_law_signals_here", "_law_way", "_law_at", "_law_joint"]) fun _ _ _ _ _ _ us hl => match us, hl with | [_, _, _, _, _], _ => rfl
  have F__law_routes := fun_mk (st := s__law_routes) l__law_routes c__law_routes k__law_routes
  have b__law_routes := F__law_routes.binds (ps := ["_law_pieces_here", "_law_signals_here"]) fun _ _ _ _ _ _ us hl => match us, hl with | [_, _], _ => rfl
  have F__law_new := fun_mk (st := s__law_new) l__law_new c__law_new k__law_new
  have b__law_new := F__law_new.binds (ps := ["_law_pieces_here", "_law_signals_here", "_law_wait"]) fun _ _ _ _ _ _ us hl => match us, hl with | [_, _, _], _ => rfl
  have F__law_train_in := fun_mk (st := s__law_train_in) l__law_train_in c__law_train_in k__law_train_in
  have b__law_train_in := F__law_train_in.binds (ps := ["_law_world", "_law_at"]) fun _ _ _ _ _ _ us hl => match us, hl with | [_, _], _ => rfl
  have F__law_held := fun_mk (st := s__law_held) l__law_held c__law_held k__law_held
  have b__law_held := F__law_held.binds (ps := ["_law_world", "_law_at"]) fun _ _ _ _ _ _ us hl => match us, hl with | [_, _], _ => rfl
  have F__law_free := fun_mk (st := s__law_free) l__law_free c__law_free k__law_free
  have b__law_free := F__law_free.binds (ps := ["_law_world", "_law_route"]) fun _ _ _ _ _ _ us hl => match us, hl with | [_, _], _ => rfl
  have F__law_set := fun_mk (st := s__law_set) l__law_set c__law_set k__law_set
  have b__law_set := F__law_set.binds (ps := ["_law_world", "_law_route"]) fun _ _ _ _ _ _ us hl => match us, hl with | [_, _], _ => rfl
  have F__law_near := fun_mk (st := s__law_near) l__law_near c__law_near k__law_near
  have b__law_near := F__law_near.binds (ps := ["_law_world", "_law_signal"]) fun _ _ _ _ _ _ us hl => match us, hl with | [_, _], _ => rfl
  have F__law_cancel := fun_mk (st := s__law_cancel) l__law_cancel c__law_cancel k__law_cancel
  have b__law_cancel := F__law_cancel.binds (ps := ["_law_world", "_law_route"]) fun _ _ _ _ _ _ us hl => match us, hl with | [_, _], _ => rfl
  have F__law_tick := fun_mk (st := s__law_tick) l__law_tick c__law_tick k__law_tick
  have b__law_tick := F__law_tick.binds (ps := ["_law_world"]) fun _ _ _ _ _ _ us hl => match us, hl with | [_], _ => rfl
  have F__law_throw := fun_mk (st := s__law_throw) l__law_throw c__law_throw k__law_throw
  have b__law_throw := F__law_throw.binds (ps := ["_law_world", "_law_at"]) fun _ _ _ _ _ _ us hl => match us, hl with | [_, _], _ => rfl
  have F__law_is := fun_mk (st := s__law_is) l__law_is c__law_is k__law_is
  have b__law_is := F__law_is.binds (ps := ["_law_found", "_law_due_here"]) fun _ _ _ _ _ _ us hl => match us, hl with | [_, _], _ => rfl
  have F__law_same := fun_mk (st := s__law_same) l__law_same c__law_same k__law_same
  have b__law_same := F__law_same.binds (ps := ["_law_yard", "_law_world"]) fun _ _ _ _ _ _ us hl => match us, hl with | [_, _], _ => rfl
  have F__law_asked := fun_mk (st := s__law_asked) l__law_asked c__law_asked k__law_asked
  have b__law_asked := F__law_asked.binds (ps := ["_law_yard", "_law_way", "_law_number"]) fun _ _ _ _ _ _ us hl => match us, hl with | [_, _, _], _ => rfl
  have F__law_due := fun_mk (st := s__law_due) l__law_due c__law_due k__law_due
  have b__law_due := F__law_due.binds (ps := ["_law_world", "_law_way", "_law_number"]) fun _ _ _ _ _ _ us hl => match us, hl with | [_, _, _], _ => rfl
  have F_law := fun_mk (st := s_law) l_law c_law k_law
  have b_law := F_law.binds (ps := ["_law_script"]) fun _ _ _ _ _ _ us hl => match us, hl with | [_], _ => rfl
  have T : Txt K mg ⟨C_BoxError, C_BadYard, C_NotThere, C_Held, C_Red, C_Yard⟩ := ⟨PySem.W.mg_none_of X G z_ValueError, PySem.W.mg_none_of X G z_any, PySem.W.mg_none_of X G z_bool, PySem.W.mg_none_of X G z_int, PySem.W.mg_none_of X G z_isinstance, PySem.W.mg_none_of X G z_len, PySem.W.mg_none_of X G z_list, PySem.W.mg_none_of X G z_max, PySem.W.mg_none_of X G z_min, PySem.W.mg_none_of X G z_range, PySem.W.mg_none_of X G z_set, PySem.W.mg_none_of X G z_tuple, ⟨_, PySem.W.mg_of X G g_BRANCH⟩, ⟨_, PySem.W.mg_of X G g_JOINTS⟩, ⟨_, PySem.W.mg_of X G g_MOST⟩, ⟨_, PySem.W.mg_of X G g_STRAIGHT⟩, ⟨PySem.W.mg_of X G a_BoxError, x_BoxError, k_BoxError, b_BoxError, t_BoxError⟩, ⟨PySem.W.mg_of X G a_BadYard, x_BadYard, k_BadYard, b_BadYard, t_BadYard⟩, ⟨PySem.W.mg_of X G a_NotThere, x_NotThere, k_NotThere, b_NotThere, t_NotThere⟩, ⟨PySem.W.mg_of X G a_Held, x_Held, k_Held, b_Held, t_Held⟩, ⟨PySem.W.mg_of X G a_Red, x_Red, k_Red, b_Red, t_Red⟩, ⟨pg_Yard, hd_Yard, po_Yard, sa_Yard⟩, PySem.W.mg_of X G a_Yard, n_Yard_pieces, n_Yard_signals, n_Yard_wait, n_Yard_routes, n_Yard_now, n_Yard_points, n_Yard_locks, n_Yard_green, n_Yard_falling, n_Yard_trains⟩
  have E_NotThere : ExcC K C_NotThere := ⟨hg_NotThere, hk_NotThere, b_NotThere, h_NotThere, ha_NotThere, hn_o, ht_o, hm_NotThere⟩
  have E_Held : ExcC K C_Held := ⟨hg_Held, hk_Held, b_Held, h_Held, ha_Held, hn_o, ht_o, hm_Held⟩
  refine ⟨PySem.W.fnOf "law" "law" (defArgs s_law) (defBody s_law) (defScope s_law) .none kV_law dc_law pm_law an_law cd_law ct_law, fun s v => .of_eq rfl, fun base _ _ => ?_⟩
  have G1 := SB.Fun.cal F_joints (PySem.W.mg_of X G a_joints) b_joints (ok_joints (P := P) (w := w) (base := base) T F_joints)
  have G2 := SB.Fun.cal F_beyond (PySem.W.mg_of X G a_beyond) b_beyond (ok_beyond (P := P) (w := w) (base := base) T F_beyond G1)
  have G3 := SB.Fun.cal F_outs (PySem.W.mg_of X G a_outs) b_outs (ok_outs (P := P) (w := w) (base := base) T F_outs G1)
  have G4 := SB.Fun.cal F_ends_at (PySem.W.mg_of X G a_ends_at) b_ends_at (ok_ends (P := P) (w := w) (base := base) T F_ends_at G2)
  have G5 := ok_ways (P := P) (w := w) (base := base) T F_ways_from b_ways_from (PySem.W.mg_of X G a_ways_from) G2 G3 G4 17
  have G6 := SB.Fun.cal F_look_pieces (PySem.W.mg_of X G a_look_pieces) b_look_pieces (ok_lookP (P := P) (w := w) (base := base) T F_look_pieces G1)
  have G7 := SB.Fun.cal F_look_signals (PySem.W.mg_of X G a_look_signals) b_look_signals (ok_lookS (P := P) (w := w) (base := base) T F_look_signals G1)
  have G8 := SB.Fun.cal F_routes (PySem.W.mg_of X G a_routes) b_routes (ok_routes (P := P) (w := w) (base := base) T F_routes G6 G7 G5)
  have G9 : Mak P w K mg base (L2.CX P w) 22 "Yard" C_Yard (spYard _) := ⟨f_Yard_init, _, _, ok_yard (P := P) (w := w) (base := base) T F_Yard_init G8, PySem.W.mg_of X G a_Yard, ⟨mk_Yard, a_Yard_init, i_Yard_init, kc_Yard⟩, b_Yard_init⟩
  have G10 := SB.Fun.cal F__law_cell (PySem.W.mg_of X G a__law_cell) b__law_cell (ok_cell (P := P) (w := w) (base := base) T F__law_cell)
  have G11 := SB.Fun.cal F__law_mix (PySem.W.mg_of X G a__law_mix) b__law_mix (ok_mix (P := P) (w := w) (base := base) T F__law_mix G10)
  have G14 := SB.Fun.cal F__law_beyond (PySem.W.mg_of X G a__law_beyond) b__law_beyond (ok_Lbeyond (P := P) (w := w) (base := base) T F__law_beyond)
  have G15 := SB.Fun.cal F__law_outs (PySem.W.mg_of X G a__law_outs) b__law_outs (ok_Louts (P := P) (w := w) (base := base) T F__law_outs)
  have G16 := SB.Fun.cal F__law_pieces (PySem.W.mg_of X G a__law_pieces) b__law_pieces (ok_pieces (P := P) (w := w) (base := base) T F__law_pieces G11)
  have G17 := SB.Fun.cal F__law_signals (PySem.W.mg_of X G a__law_signals) b__law_signals (ok_signals (P := P) (w := w) (base := base) T F__law_signals G11 G14)
  have G18 := ok_Lways (P := P) (w := w) (base := base) T F__law_ways b__law_ways (PySem.W.mg_of X G a__law_ways) G14 G15 17
  have G19 := SB.Fun.cal F__law_routes (PySem.W.mg_of X G a__law_routes) b__law_routes (ok_Lroutes (P := P) (w := w) (base := base) T F__law_routes G18)
  -- the yard
  have M1 : Met P w K mg base CX0 1 C_Yard "time" (spTime K _ C_Yard) := ⟨f_Yard_time, _, _, ok_time (P := P) (w := w) (base := base) T F_Yard_time, ⟨a_Yard_time, i_Yard_time, k_Yard_time⟩, b_Yard_time⟩
  have M2 : Met P w K mg base (L2.CX P w) 1 C_Yard "need_piece" (spNeed K _ C_Yard) := ⟨f_Yard_need_piece, _, _, ok_need (P := P) (w := w) (base := base) T F_Yard_need_piece, ⟨a_Yard_need_piece, i_Yard_need_piece, k_Yard_need_piece⟩, b_Yard_need_piece⟩
  have M3 : Met P w K mg base (L2.CX P w) 2 C_Yard "lock_of" (spLockOf K _ C_Yard) := ⟨f_Yard_lock_of, _, _, ok_lock_of (P := P) (w := w) (base := base) T F_Yard_lock_of M2, ⟨a_Yard_lock_of, i_Yard_lock_of, k_Yard_lock_of⟩, b_Yard_lock_of⟩
  have M4 : Met P w K mg base (L2.CX P w) 2 C_Yard "train_in" (spTrainIn K _ C_Yard) := ⟨f_Yard_train_in, _, _, ok_train_in (P := P) (w := w) (base := base) T F_Yard_train_in M2, ⟨a_Yard_train_in, i_Yard_train_in, k_Yard_train_in⟩, b_Yard_train_in⟩
  have M5 : Met P w K mg base (L2.CX P w) 2 C_Yard "lies" (spLies K _ C_Yard) := ⟨f_Yard_lies, _, _, ok_lies (P := P) (w := w) (base := base) T F_Yard_lies M2, ⟨a_Yard_lies, i_Yard_lies, k_Yard_lies⟩, b_Yard_lies⟩
  have M6 : Met P w K mg base (L2.CX P w) 1 C_Yard "is_green" (spIsGreen K _ C_Yard) := ⟨f_Yard_is_green, _, _, ok_is_green (P := P) (w := w) (base := base) T F_Yard_is_green, ⟨a_Yard_is_green, i_Yard_is_green, k_Yard_is_green⟩, b_Yard_is_green⟩
  have M7 : Met P w K mg base (L2.CX P w) 1 C_Yard "where" (spWhere K _ C_Yard) := ⟨f_Yard_where, _, _, ok_where (P := P) (w := w) (base := base) T F_Yard_where, ⟨a_Yard_where, i_Yard_where, k_Yard_where⟩, b_Yard_where⟩
  have M8 : Met P w K mg base (L2.CX P w) 3 C_Yard "is_held" (spIsHeld K _ C_Yard) := ⟨f_Yard_is_held, _, _, ok_is_held (P := P) (w := w) (base := base) T F_Yard_is_held M4, ⟨a_Yard_is_held, i_Yard_is_held, k_Yard_is_held⟩, b_Yard_is_held⟩
  have M9 : Met P w K mg base CX0 1 C_Yard "free" (spFree K _ C_Yard) := ⟨f_Yard_free, _, _, ok_free (P := P) (w := w) (base := base) T F_Yard_free, ⟨a_Yard_free, i_Yard_free, k_Yard_free⟩, b_Yard_free⟩
  have H1 := SB.Fun.cal F_lie_for (PySem.W.mg_of X G a_lie_for) b_lie_for (ok_lie_for (P := P) (w := w) (base := base) T F_lie_for)
  have H2 := SB.Fun.cal F_need_route (PySem.W.mg_of X G a_need_route) b_need_route (ok_needR (CT := C_Yard) (P := P) (w := w) (base := base) T F_need_route)
  have H3 := SB.Fun.cal F_near (PySem.W.mg_of X G a_near) b_near (ok_near (CT := C_Yard) (P := P) (w := w) (base := base) T F_near G2)
  have H4 := SB.Fun.cal F_set_route (PySem.W.mg_of X G a_set_route) b_set_route (ok_set_route (P := P) (w := w) (base := base) T F_set_route H2 H1 M8)
  have H5 := SB.Fun.cal F_cancel (PySem.W.mg_of X G a_cancel) b_cancel (ok_cancel (P := P) (w := w) (base := base) T F_cancel H2 H3 G2 M9)
  have H6 := SB.Fun.cal F_tick (PySem.W.mg_of X G a_tick) b_tick (ok_tick (P := P) (w := w) (base := base) T F_tick M9)
  have H7 := SB.Fun.cal F_throw (PySem.W.mg_of X G a_throw) b_throw (ok_throw (P := P) (w := w) (base := base) T F_throw M5 M8)
  -- the law's box
  have L1 := SB.Fun.cal F__law_train_in (PySem.W.mg_of X G a__law_train_in) b__law_train_in (ok_Ltrain_in (P := P) (w := w) (base := base) T F__law_train_in)
  have L2' := SB.Fun.cal F__law_held (PySem.W.mg_of X G a__law_held) b__law_held (ok_Lheld (P := P) (w := w) (base := base) T F__law_held L1)
  have L3 := SB.Fun.cal F__law_free (PySem.W.mg_of X G a__law_free) b__law_free (ok_Lfree (P := P) (w := w) (base := base) T F__law_free)
  have L4 := SB.Fun.cal F__law_set (PySem.W.mg_of X G a__law_set) b__law_set (ok_Lset (P := P) (w := w) (base := base) T F__law_set L2')
  have L5 := SB.Fun.cal F__law_near (PySem.W.mg_of X G a__law_near) b__law_near (ok_Lnear (P := P) (w := w) (base := base) T F__law_near)
  have L6 := SB.Fun.cal F__law_cancel (PySem.W.mg_of X G a__law_cancel) b__law_cancel (ok_Lcancel (P := P) (w := w) (base := base) T F__law_cancel L5 G14 L3)
  have L7 := SB.Fun.cal F__law_tick (PySem.W.mg_of X G a__law_tick) b__law_tick (ok_Ltick (P := P) (w := w) (base := base) T F__law_tick L3)
  have L8 := SB.Fun.cal F__law_throw (PySem.W.mg_of X G a__law_throw) b__law_throw (ok_Lthrow (P := P) (w := w) (base := base) T F__law_throw L2')
  have L9 := SB.Fun.cal F__law_new (PySem.W.mg_of X G a__law_new) b__law_new (ok_Lnew (P := P) (w := w) (base := base) T F__law_new G19)
  have L10 := SB.Fun.cal F__law_is (PySem.W.mg_of X G a__law_is) b__law_is (ok_is (P := P) (w := w) (base := base) T F__law_is)
  have L11 := SB.Fun.cal F__law_same (PySem.W.mg_of X G a__law_same) b__law_same (ok_same (CT := C_Yard) (P := P) (w := w) (base := base) T F__law_same L10 L1 M1 M3 M4 M5 M6 M7)
  have R : ∀ e, e ≠ Er.red → ErrAt K ⟨C_BoxError, C_BadYard, C_NotThere, C_Held, C_Red, C_Yard⟩ e := fun e he => by
    cases e with
    | red => exact absurd rfl he
    | none => exact ⟨E_NotThere, PySem.W.exm_ref b_BoxError h_BoxError t_BoxError s_NotThere_BoxError, kit_ref h_BadYard t_BadYard s_NotThere_NotThere s_NotThere_BadYard, kit_self, kit_ref h_Held t_Held s_NotThere_NotThere s_NotThere_Held, kit_ref h_Red t_Red s_NotThere_NotThere s_NotThere_Red, kit_val (by decide +kernel) sv_NotThere⟩
    | held => exact ⟨E_Held, PySem.W.exm_ref b_BoxError h_BoxError t_BoxError s_Held_BoxError, kit_ref h_BadYard t_BadYard s_Held_Held s_Held_BadYard, kit_ref h_NotThere t_NotThere s_Held_Held s_Held_NotThere, kit_self, kit_ref h_Red t_Red s_Held_Held s_Held_Red, kit_val (by decide +kernel) sv_Held⟩
  have L12 := SB.Fun.cal F__law_asked (PySem.W.mg_of X G a__law_asked) b__law_asked (ok_asked10 (P := P) (w := w) (base := base) T R F__law_asked H4 H5 H7 H6 M5 M3 M4 M6)
  have L13 := SB.Fun.cal F__law_due (PySem.W.mg_of X G a__law_due) b__law_due (ok_due10 (P := P) (w := w) (base := base) T F__law_due L4 L6 L8 L7)
  exact ok_law (P := P) (w := w) (base := base) T F_law G16 G17 G11 G9 L9 L12 L13 L11
theorem walk {l : PySem.W.OpenLaw} {q : Program} {loose : List Str} {XP : (Str → Option Value) → Heap → Prop} {YP : World → Heap → Prop} {d : DefRec} {K : Params → PySem.W.Frag} (hn : l.most = some 63) (hdf : d.params.defaults = [])
    (hY : ∀ (w : World) (h : Heap), YP w h → (K w.params).In h)
    (F : ∀ (w : World) (mg : Str → Option Value) (fa : Addr) (h : Heap), (K w.params).In h → h.Ns mainGlobals mg → mg d.name = some (.ref fa) →
      ∃ fd : FuncData, (∀ (s : Shared) (u : Value), BindsTo s fd ⟨[u], []⟩ [("_law_script", u)]) ∧ ∀ base : Heap, (K w.params).In base → base.Ns mainGlobals mg → FnOk l.prog w (K w.params) mg base CX0 25 fa fd ["_law_script"] (spLaw (K w.params))) :
    PySem.W.WalkO q loose XP YP l.row.toRowW d [] (fun f vs => PySem.call f vs) :=
  L2.walk_of (n := 63) (k := 25) (x := "_law_script") (CX := fun _ => CX0) (sp := fun w => spLaw (K w.params)) hn (by decide) hdf ⟨rfl, by decide, by decide⟩ hY F (fun _ _ a ns hl _ hS => ⟨a, ns, rfl, hS, hl, fun _ => rfl⟩) fun _ _ _ _ _ z => z
end SB
open PySem PySem.W PyProof.Rows
set_option maxRecDepth 100000 in
set_option maxHeartbeats 0 in
theorem PySem.Challenge.cw_signalbox_k10_box_holds : PySem.Challenge.rw_signalbox_k10_box.Holds := by
  w_on; o_law; k_head; (case hw => w_witness2)
  k_fill
  refine SB.walk (l := PySem.Challenge.rw_signalbox_k10_box) rfl rfl (fun w h Y => PySem.W.kIn_of Y) ?F
  case F =>
    intro w mg fa h KX G hmg
    refine' SB.all_mk KX G hmg ?a_BoxError ?a_BadYard ?a_NotThere ?a_Held ?a_Red ?a_Yard ?x_BoxError ?k_BoxError ?b_BoxError ?t_BoxError ?h_BoxError ?x_BadYard ?k_BadYard ?b_BadYard ?t_BadYard ?h_BadYard ?x_NotThere ?k_NotThere ?b_NotThere ?t_NotThere ?h_NotThere ?x_Held ?k_Held ?b_Held ?t_Held ?h_Held ?x_Red ?k_Red ?b_Red ?t_Red ?h_Red ?pg_Yard ?hd_Yard ?po_Yard ?sa_Yard ?mk_Yard ?kc_Yard ?n_Yard_pieces ?n_Yard_signals ?n_Yard_wait ?n_Yard_routes ?n_Yard_now ?n_Yard_points ?n_Yard_locks ?n_Yard_green ?n_Yard_falling ?n_Yard_trains ?z_ValueError ?z_any ?z_bool ?z_int ?z_isinstance ?z_len ?z_list ?z_max ?z_min ?z_range ?z_set ?z_tuple ?g_BRANCH ?g_JOINTS ?g_MOST ?g_STRAIGHT ?hg_NotThere ?hk_NotThere ?ha_NotThere ?hm_NotThere ?sv_NotThere ?s_NotThere_BoxError ?s_NotThere_BadYard ?s_NotThere_NotThere ?s_NotThere_Held ?s_NotThere_Red ?hg_Held ?hk_Held ?ha_Held ?hm_Held ?sv_Held ?s_Held_BoxError ?s_Held_BadYard ?s_Held_NotThere ?s_Held_Held ?s_Held_Red ?hn_o ?ht_o ?a_joints ?l_joints ?c_joints ?k_joints ?a_beyond ?l_beyond ?c_beyond ?k_beyond ?a_outs ?l_outs ?c_outs ?k_outs ?a_lie_for ?l_lie_for ?c_lie_for ?k_lie_for ?a_look_pieces ?l_look_pieces ?c_look_pieces ?k_look_pieces ?a_look_signals ?l_look_signals ?c_look_signals ?k_look_signals ?a_ends_at ?l_ends_at ?c_ends_at ?k_ends_at ?a_ways_from ?l_ways_from ?c_ways_from ?k_ways_from ?a_routes ?l_routes ?c_routes ?k_routes ?a_Yard_init ?i_Yard_init ?l_Yard_init ?c_Yard_init ?k_Yard_init ?a_Yard_time ?i_Yard_time ?l_Yard_time ?c_Yard_time ?k_Yard_time ?a_Yard_need_piece ?i_Yard_need_piece ?l_Yard_need_piece ?c_Yard_need_piece ?k_Yard_need_piece ?a_Yard_lock_of ?i_Yard_lock_of ?l_Yard_lock_of ?c_Yard_lock_of ?k_Yard_lock_of ?a_Yard_train_in ?i_Yard_train_in ?l_Yard_train_in ?c_Yard_train_in ?k_Yard_train_in ?a_Yard_lies ?i_Yard_lies ?l_Yard_lies ?c_Yard_lies ?k_Yard_lies ?a_Yard_is_green ?i_Yard_is_green ?l_Yard_is_green ?c_Yard_is_green ?k_Yard_is_green ?a_Yard_where ?i_Yard_where ?l_Yard_where ?c_Yard_where ?k_Yard_where ?a_Yard_is_held ?i_Yard_is_held ?l_Yard_is_held ?c_Yard_is_held ?k_Yard_is_held ?a_Yard_free ?i_Yard_free ?l_Yard_free ?c_Yard_free ?k_Yard_free ?a_set_route ?l_set_route ?c_set_route ?k_set_route ?a_need_route ?l_need_route ?c_need_route ?k_need_route ?a_near ?l_near ?c_near ?k_near ?a_cancel ?l_cancel ?c_cancel ?k_cancel ?a_tick ?l_tick ?c_tick ?k_tick ?a_throw ?l_throw ?c_throw ?k_throw ?a__law_cell ?l__law_cell ?c__law_cell ?k__law_cell ?a__law_mix ?l__law_mix ?c__law_mix ?k__law_mix ?a__law_beyond ?l__law_beyond ?c__law_beyond ?k__law_beyond ?a__law_pieces ?l__law_pieces ?c__law_pieces ?k__law_pieces ?a__law_signals ?l__law_signals ?c__law_signals ?k__law_signals ?a__law_outs ?l__law_outs ?c__law_outs ?k__law_outs ?a__law_ways ?l__law_ways ?c__law_ways ?k__law_ways ?a__law_routes ?l__law_routes ?c__law_routes ?k__law_routes ?a__law_new ?l__law_new ?c__law_new ?k__law_new ?a__law_train_in ?l__law_train_in ?c__law_train_in ?k__law_train_in ?a__law_held ?l__law_held ?c__law_held ?k__law_held ?a__law_free ?l__law_free ?c__law_free ?k__law_free ?a__law_set ?l__law_set ?c__law_set ?k__law_set ?a__law_near ?l__law_near ?c__law_near ?k__law_near ?a__law_cancel ?l__law_cancel ?c__law_cancel ?k__law_cancel ?a__law_tick ?l__law_tick ?c__law_tick ?k__law_tick ?a__law_throw ?l__law_throw ?c__law_throw ?k__law_throw ?a__law_is ?l__law_is ?c__law_is ?k__law_is ?a__law_same ?l__law_same ?c__law_same ?k__law_same ?a__law_asked ?l__law_asked ?c__law_asked ?k__law_asked ?a__law_due ?l__law_due ?c__law_due ?k__law_due ?a_law ?l_law ?c_law ?k_law
    (case a_BoxError => k_is)
    (case a_BadYard => k_is)
    (case a_NotThere => k_is)
    (case a_Held => k_is)
    (case a_Red => k_is)
    (case a_Yard => k_is)
    (case x_BoxError => k_exc)
    (case k_BoxError => k_is)
    (case b_BoxError => k_is)
    (case t_BoxError => k_is)
    (case h_BoxError => k_is)
    (case x_BadYard => k_exc)
    (case k_BadYard => k_is)
    (case b_BadYard => k_is)
    (case t_BadYard => k_is)
    (case h_BadYard => k_is)
    (case x_NotThere => k_exc)
    (case k_NotThere => k_is)
    (case b_NotThere => k_is)
    (case t_NotThere => k_is)
    (case h_NotThere => k_is)
    (case x_Held => k_exc)
    (case k_Held => k_is)
    (case b_Held => k_is)
    (case t_Held => k_is)
    (case h_Held => k_is)
    (case x_Red => k_exc)
    (case k_Red => k_is)
    (case b_Red => k_is)
    (case t_Red => k_is)
    (case h_Red => k_is)
    (case pg_Yard => k_is)
    (case hd_Yard => k_is)
    (case po_Yard => k_is)
    (case sa_Yard => k_is)
    (case mk_Yard => k_is)
    (case kc_Yard => k_is)
    (case n_Yard_pieces => k_is)
    (case n_Yard_signals => k_is)
    (case n_Yard_wait => k_is)
    (case n_Yard_routes => k_is)
    (case n_Yard_now => k_is)
    (case n_Yard_points => k_is)
    (case n_Yard_locks => k_is)
    (case n_Yard_green => k_is)
    (case n_Yard_falling => k_is)
    (case n_Yard_trains => k_is)
    (case z_ValueError => k_is)
    (case z_any => k_is)
    (case z_bool => k_is)
    (case z_int => k_is)
    (case z_isinstance => k_is)
    (case z_len => k_is)
    (case z_list => k_is)
    (case z_max => k_is)
    (case z_min => k_is)
    (case z_range => k_is)
    (case z_set => k_is)
    (case z_tuple => k_is)
    (case g_BRANCH => k_is)
    (case g_JOINTS => k_is)
    (case g_MOST => k_is)
    (case g_STRAIGHT => k_is)
    (case hg_NotThere => k_is)
    (case hk_NotThere => k_is)
    (case ha_NotThere => k_is)
    (case hm_NotThere => k_is)
    (case sv_NotThere => k_is)
    (case s_NotThere_BoxError => k_is)
    (case s_NotThere_BadYard => k_is)
    (case s_NotThere_NotThere => first | rfl | k_is)
    (case s_NotThere_Held => k_is)
    (case s_NotThere_Red => k_is)
    (case hg_Held => k_is)
    (case hk_Held => k_is)
    (case ha_Held => k_is)
    (case hm_Held => k_is)
    (case sv_Held => k_is)
    (case s_Held_BoxError => k_is)
    (case s_Held_BadYard => k_is)
    (case s_Held_NotThere => k_is)
    (case s_Held_Held => first | rfl | k_is)
    (case s_Held_Red => k_is)
    (case hn_o => k_is)
    (case ht_o => k_is)
    (case a_joints => k_is)
    (case l_joints => k_is)
    (case c_joints => k_is)
    (case k_joints => k_is)
    (case a_beyond => k_is)
    (case l_beyond => k_is)
    (case c_beyond => k_is)
    (case k_beyond => k_is)
    (case a_outs => k_is)
    (case l_outs => k_is)
    (case c_outs => k_is)
    (case k_outs => k_is)
    (case a_lie_for => k_is)
    (case l_lie_for => k_is)
    (case c_lie_for => k_is)
    (case k_lie_for => k_is)
    (case a_look_pieces => k_is)
    (case l_look_pieces => k_is)
    (case c_look_pieces => k_is)
    (case k_look_pieces => k_is)
    (case a_look_signals => k_is)
    (case l_look_signals => k_is)
    (case c_look_signals => k_is)
    (case k_look_signals => k_is)
    (case a_ends_at => k_is)
    (case l_ends_at => k_is)
    (case c_ends_at => k_is)
    (case k_ends_at => k_is)
    (case a_ways_from => k_is)
    (case l_ways_from => k_is)
    (case c_ways_from => k_is)
    (case k_ways_from => k_is)
    (case a_routes => k_is)
    (case l_routes => k_is)
    (case c_routes => k_is)
    (case k_routes => k_is)
    (case a_Yard_init => k_is)
    (case i_Yard_init => k_is)
    (case l_Yard_init => k_is)
    (case c_Yard_init => k_is)
    (case k_Yard_init => k_is)
    (case a_Yard_time => k_is)
    (case i_Yard_time => k_is)
    (case l_Yard_time => k_is)
    (case c_Yard_time => k_is)
    (case k_Yard_time => k_is)
    (case a_Yard_need_piece => k_is)
    (case i_Yard_need_piece => k_is)
    (case l_Yard_need_piece => k_is)
    (case c_Yard_need_piece => k_is)
    (case k_Yard_need_piece => k_is)
    (case a_Yard_lock_of => k_is)
    (case i_Yard_lock_of => k_is)
    (case l_Yard_lock_of => k_is)
    (case c_Yard_lock_of => k_is)
    (case k_Yard_lock_of => k_is)
    (case a_Yard_train_in => k_is)
    (case i_Yard_train_in => k_is)
    (case l_Yard_train_in => k_is)
    (case c_Yard_train_in => k_is)
    (case k_Yard_train_in => k_is)
    (case a_Yard_lies => k_is)
    (case i_Yard_lies => k_is)
    (case l_Yard_lies => k_is)
    (case c_Yard_lies => k_is)
    (case k_Yard_lies => k_is)
    (case a_Yard_is_green => k_is)
    (case i_Yard_is_green => k_is)
    (case l_Yard_is_green => k_is)
    (case c_Yard_is_green => k_is)
    (case k_Yard_is_green => k_is)
    (case a_Yard_where => k_is)
    (case i_Yard_where => k_is)
    (case l_Yard_where => k_is)
    (case c_Yard_where => k_is)
    (case k_Yard_where => k_is)
    (case a_Yard_is_held => k_is)
    (case i_Yard_is_held => k_is)
    (case l_Yard_is_held => k_is)
    (case c_Yard_is_held => k_is)
    (case k_Yard_is_held => k_is)
    (case a_Yard_free => k_is)
    (case i_Yard_free => k_is)
    (case l_Yard_free => k_is)
    (case c_Yard_free => k_is)
    (case k_Yard_free => k_is)
    (case a_set_route => k_is)
    (case l_set_route => k_is)
    (case c_set_route => k_is)
    (case k_set_route => k_is)
    (case a_need_route => k_is)
    (case l_need_route => k_is)
    (case c_need_route => k_is)
    (case k_need_route => k_is)
    (case a_near => k_is)
    (case l_near => k_is)
    (case c_near => k_is)
    (case k_near => k_is)
    (case a_cancel => k_is)
    (case l_cancel => k_is)
    (case c_cancel => k_is)
    (case k_cancel => k_is)
    (case a_tick => k_is)
    (case l_tick => k_is)
    (case c_tick => k_is)
    (case k_tick => k_is)
    (case a_throw => k_is)
    (case l_throw => k_is)
    (case c_throw => k_is)
    (case k_throw => k_is)
    (case a__law_cell => k_is)
    (case l__law_cell => k_is)
    (case c__law_cell => k_is)
    (case k__law_cell => k_is)
    (case a__law_mix => k_is)
    (case l__law_mix => k_is)
    (case c__law_mix => k_is)
    (case k__law_mix => k_is)
    (case a__law_beyond => k_is)
    (case l__law_beyond => k_is)
    (case c__law_beyond => k_is)
    (case k__law_beyond => k_is)
    (case a__law_pieces => k_is)
    (case l__law_pieces => k_is)
    (case c__law_pieces => k_is)
    (case k__law_pieces => k_is)
    (case a__law_signals => k_is)
    (case l__law_signals => k_is)
    (case c__law_signals => k_is)
    (case k__law_signals => k_is)
    (case a__law_outs => k_is)
    (case l__law_outs => k_is)
    (case c__law_outs => k_is)
    (case k__law_outs => k_is)
    (case a__law_ways => k_is)
    (case l__law_ways => k_is)
    (case c__law_ways => k_is)
    (case k__law_ways => k_is)
    (case a__law_routes => k_is)
    (case l__law_routes => k_is)
    (case c__law_routes => k_is)
    (case k__law_routes => k_is)
    (case a__law_new => k_is)
    (case l__law_new => k_is)
    (case c__law_new => k_is)
    (case k__law_new => k_is)
    (case a__law_train_in => k_is)
    (case l__law_train_in => k_is)
    (case c__law_train_in => k_is)
    (case k__law_train_in => k_is)
    (case a__law_held => k_is)
    (case l__law_held => k_is)
    (case c__law_held => k_is)
    (case k__law_held => k_is)
    (case a__law_free => k_is)
    (case l__law_free => k_is)
    (case c__law_free => k_is)
    (case k__law_free => k_is)
    (case a__law_set => k_is)
    (case l__law_set => k_is)
    (case c__law_set => k_is)
    (case k__law_set => k_is)
    (case a__law_near => k_is)
    (case l__law_near => k_is)
    (case c__law_near => k_is)
    (case k__law_near => k_is)
    (case a__law_cancel => k_is)
    (case l__law_cancel => k_is)
    (case c__law_cancel => k_is)
    (case k__law_cancel => k_is)
    (case a__law_tick => k_is)
    (case l__law_tick => k_is)
    (case c__law_tick => k_is)
    (case k__law_tick => k_is)
    (case a__law_throw => k_is)
    (case l__law_throw => k_is)
    (case c__law_throw => k_is)
    (case k__law_throw => k_is)
    (case a__law_is => k_is)
    (case l__law_is => k_is)
    (case c__law_is => k_is)
    (case k__law_is => k_is)
    (case a__law_same => k_is)
    (case l__law_same => k_is)
    (case c__law_same => k_is)
    (case k__law_same => k_is)
    (case a__law_asked => k_is)
    (case l__law_asked => k_is)
    (case c__law_asked => k_is)
    (case k__law_asked => k_is)
    (case a__law_due => k_is)
    (case l__law_due => k_is)
    (case c__law_due => k_is)
    (case k__law_due => k_is)
    (case a_law => k_is)
    (case l_law => k_is)
    (case c_law => k_is)
    (case k_law => k_is)
#print axioms PySem.Challenge.cw_signalbox_k10_box_holds
