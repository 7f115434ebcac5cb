import PyProof.Rows.All
import Wide.All
import OpenK.AllK
import Wide.FinOn
import HandS.ForMost
import HandS.ForExc
import HandS.Deep
import HandS.Conv
import HandS.TryOnly
import HandS.ExcOwn
import HandS.WordsExc
import HandS.SetFor
import HandS.TupSets
import HandS.Zip
import HandS.ExcIs
import HandS.IsInst
import PySem.Challenge.RW_signalbox_k02_whole_routes
set_option Elab.async false
set_option linter.all false
set_option maxRecDepth 100000
set_option maxHeartbeats 4000000
namespace SB
open PySem L2

/-! ### data in the known part of the heap -/
mutual
inductive Dq (B : Hp) : V → PyData → Prop
  | non : Dq B .non .none
  | bl (b : Bool) : Dq B (.bl b) (.bool b)
  | int (i : Int) : Dq B (.int i) (.int i)
  | str (x : Str) : Dq B (.str x) (.str x)
  | lst {a : Addr} {xs : List V} {ds : List PyData} : B a = some (.lst xs) → DqAll B xs ds → Dq B (.ref a) (.list ds)
  | tup {a : Addr} {xs : List V} {ds : List PyData} : B a = some (.tup xs) → DqAll B xs ds → Dq B (.ref a) (.tuple ds)
inductive DqAll (B : Hp) : List V → List PyData → Prop
  | nil : DqAll B [] []
  | cons {v : V} {vs : List V} {d : PyData} {ds : List PyData} : Dq B v d → DqAll B vs ds → DqAll B (v :: vs) (d :: ds)
end
mutual
theorem Dq.mono {B B' : Hp} (e : Same B B') : ∀ {v : V} {d : PyData}, Dq B v d → Dq B' v d
  | _, _, .non => .non
  | _, _, .bl b => .bl b
  | _, _, .int i => .int i
  | _, _, .str x => .str x
  | _, _, .lst h t => .lst (e _ _ h) (DqAll.mono e t)
  | _, _, .tup h t => .tup (e _ _ h) (DqAll.mono e t)
theorem DqAll.mono {B B' : Hp} (e : Same B B') : ∀ {v : List V} {d : List PyData}, DqAll B v d → DqAll B' v d
  | _, _, .nil => .nil
  | _, _, .cons h t => .cons (Dq.mono e h) (DqAll.mono e t)
end
mutual
theorem Dq.dp {K : PySem.W.Frag} {B : Hp} : ∀ {v : V} {d : PyData}, Dq B v d → Dp K B v d
  | _, _, .non => .non
  | _, _, .bl b => .bl b
  | _, _, .int i => .int i
  | _, _, .str x => .str x
  | _, _, .lst h t => .lst (SqL.of h) (DqAll.dp t)
  | _, _, .tup h t => .tup (SqT.of h) (DqAll.dp t)
theorem DqAll.dp {K : PySem.W.Frag} {B : Hp} : ∀ {v : List V} {d : List PyData}, DqAll B v d → DpAll K B v d
  | _, _, .nil => .nil
  | _, _, .cons h t => .cons (Dq.dp h) (DqAll.dp t)
end
theorem DqAll.length {B : Hp} : ∀ {vs : List V} {ds : List PyData}, DqAll B vs ds → vs.length = ds.length
  | _, _, .nil => rfl
  | _, _, .cons _ t => congrArg (· + 1) (DqAll.length t)
theorem DqAll.get {B : Hp} : ∀ {vs : List V} {ds : List PyData} {i : Nat} {d : PyData}, DqAll B vs ds → ds[i]? = some d → ∃ v, vs[i]? = some v ∧ Dq B v d
  | _, _, _, _, .nil, h => by simp at h
  | _, _, 0, _, .cons h _, e => by
    simp at e
    subst e
    exact ⟨_, rfl, h⟩
  | _, _, i + 1, d, .cons _ t, e => by
    obtain ⟨v, h1, h2⟩ := DqAll.get (i := i) (d := d) t (by simpa using e)
    exact ⟨v, by simpa using h1, h2⟩
theorem DqAll.getV {B : Hp} {vs : List V} {ds : List PyData} {i : Nat} {v : V} (t : DqAll B vs ds) (h : vs[i]? = some v) : ∃ d, ds[i]? = some d ∧ Dq B v d := by
  have hl := t.length
  have hi : i < ds.length := by rw [← hl]; exact (List.getElem?_eq_some_iff.mp h).1
  obtain ⟨w, h1, h2⟩ := t.get (List.getElem?_eq_getElem hi)
  rw [h] at h1
  cases h1
  exact ⟨_, List.getElem?_eq_getElem hi, h2⟩
theorem DqAll.append {B : Hp} : ∀ {vs ws : List V} {ds es : List PyData}, DqAll B vs ds → DqAll B ws es → DqAll B (vs ++ ws) (ds ++ es)
  | _, _, _, _, .nil, t => t
  | _, _, _, _, .cons h r, t => .cons h (DqAll.append r t)
theorem DqAll.one {B : Hp} {v : V} {d : PyData} (h : Dq B v d) : DqAll B [v] [d] := .cons h .nil
theorem DqAll.drop {B : Hp} : ∀ (n : Nat) {vs : List V} {ds : List PyData}, DqAll B vs ds → DqAll B (vs.drop n) (ds.drop n)
  | 0, _, _, h => h
  | _ + 1, _, _, .nil => .nil
  | n + 1, _, _, .cons _ t => DqAll.drop n t
theorem DqAll.take {B : Hp} : ∀ (n : Nat) {vs : List V} {ds : List PyData}, DqAll B vs ds → DqAll B (vs.take n) (ds.take n)
  | 0, _, _, _ => .nil
  | _ + 1, _, _, .nil => .nil
  | n + 1, _, _, .cons h t => .cons h (DqAll.take n t)
theorem DqAll.set {B : Hp} {v : V} {d : PyData} (h : Dq B v d) : ∀ (i : Nat) {vs : List V} {ds : List PyData}, DqAll B vs ds → DqAll B (vs.set i v) (ds.set i d)
  | _, _, _, .nil => .nil
  | 0, _, _, .cons _ t => .cons h t
  | i + 1, _, _, .cons q t => .cons q (DqAll.set h i t)
theorem DqAll.rev {B : Hp} : ∀ {vs : List V} {ds : List PyData}, DqAll B vs ds → DqAll B vs.reverse ds.reverse
  | _, _, .nil => .nil
  | _, _, .cons h t => by
    rw [List.reverse_cons, List.reverse_cons]
    exact (DqAll.rev t).append (.one h)
theorem DqAll.ints {B : Hp} : ∀ {vs : List V} {ns : List Int}, DqAll B vs (ns.map PyData.int) → vs = ns.map V.int
  | _, [], h => by cases h; rfl
  | _, n :: ns, h => by
    cases h with
    | cons h t => cases h; rw [DqAll.ints t]; rfl
theorem DqAll.ofInts {B : Hp} : ∀ (ns : List Int), DqAll B (ns.map V.int) (ns.map PyData.int)
  | [] => .nil
  | n :: ns => .cons (.int n) (DqAll.ofInts ns)
theorem DqAll.bools {B : Hp} : ∀ {vs : List V} {ns : List Bool}, DqAll B vs (ns.map PyData.bool) → vs = ns.map V.bl
  | _, [], h => by cases h; rfl
  | _, n :: ns, h => by
    cases h with
    | cons h t => cases h; rw [DqAll.bools t]; rfl

/-- an abstract value: data of the known part, or a value as it is -/
inductive AV where
  | d (x : PyData)
  | v (x : V)
def Is (B : Hp) (u : V) : AV → Prop
  | .d x => Dq B u x
  | .v x => u = x
theorem Is.mono {B B' : Hp} {u : V} (e : Same B B') : ∀ {g : AV}, Is B u g → Is B' u g
  | .d _, h => Dq.mono e h
  | .v _, h => h
abbrev AI (i : Int) : AV := .d (.int i)
abbrev AB (b : Bool) : AV := .d (.bool b)
abbrev AS (x : Str) : AV := .d (.str x)
abbrev AN : AV := .d .none

/-! ### the known part B within the heap H, and how both grow -/
structure Ext (B H B' H' : Hp) : Prop where
  bb : Same B B'
  bh : Same B' H'
  hh : Same H H'
  fr : ∀ a, B' a ≠ none → B a ≠ none ∨ H a = none
theorem Ext.refl {B H : Hp} (e : Same B H) : Ext B H B H := ⟨Same.refl _, e, Same.refl _, fun _ h => .inl h⟩
theorem Ext.trans {B H B1 H1 B2 H2 : Hp} (a : Ext B H B1 H1) (b : Ext B1 H1 B2 H2) : Ext B H B2 H2 :=
  ⟨a.bb.trans b.bb, b.bh, a.hh.trans b.hh, fun x h => by
    rcases b.fr x h with q | q
    · exact a.fr x q
    · exact .inr (a.hh.free q)⟩
theorem Ext.off {B H B' H' : Hp} (x : Ext B H B' H') {p : Addr} (hb : B p = none) (hh : H p ≠ none) : B' p = none := by
  cases h : B' p with
  | none => rfl
  | some o =>
    rcases x.fr p (by rw [h]; simp) with q | q
    · exact absurd hb q
    · exact absurd q hh
/-- a new object that the known part takes in -/
theorem Ext.new {B H : Hp} {p : Addr} {o : HO} (e : Same B H) (hp : H p = none) : Ext B H (upd B p o) (upd H p o) :=
  ⟨fun a u h => by rw [upd_ne (ne_of_none (e _ _ h) hp)]; exact h, fun a u h => by
    by_cases q : a = p
    · subst q
      rw [upd_same] at h ⊢
      exact h
    · rw [upd_ne q] at h ⊢
      exact e _ _ h, fun a u h => by rw [upd_ne (ne_of_none h hp)]; exact h, fun a h => by
    by_cases q : a = p
    · exact .inr (q ▸ hp)
    · rw [upd_ne q] at h
      exact .inl h⟩
/-- a new object that stays out of the known part -/
theorem Ext.out {B H : Hp} {p : Addr} {o : HO} (e : Same B H) (hp : H p = none) : Ext B H B (upd H p o) :=
  ⟨Same.refl _, fun a u h => by rw [upd_ne (ne_of_none (e _ _ h) hp)]; exact e _ _ h, fun a u h => by rw [upd_ne (ne_of_none h hp)]; exact h, fun a h => .inl h⟩
/-- an own object is changed -/
theorem Ext.mut {B0 H0 B H : Hp} {p : Addr} {o : HO} (x : Ext B0 H0 B H) (h0 : H0 p = Option.none) (hb : B p = Option.none) : Ext B0 H0 B (upd H p o) :=
  ⟨x.bb, fun a u h => by rw [upd_ne (ne_of_none h hb)]; exact x.bh _ _ h, fun a u h => by rw [upd_ne (ne_of_none h h0)]; exact x.hh _ _ h, x.fr⟩
/-- .. and taken in -/
theorem Ext.take {B0 H0 B H : Hp} {p : Addr} {o : HO} (x : Ext B0 H0 B H) (h0 : H0 p = Option.none) (hb : B p = Option.none) (hp : H p = some o) : Ext B0 H0 (upd B p o) H :=
  ⟨fun a u h => by rw [upd_ne (ne_of_none (x.bb _ _ h) hb)]; exact x.bb _ _ h, fun a u h => by
    by_cases q : a = p
    · subst q
      rw [upd_same] at h
      rw [hp]
      exact h
    · rw [upd_ne q] at h
      exact x.bh _ _ h, x.hh, fun a h => by
    by_cases q : a = p
    · exact .inr (q ▸ h0)
    · rw [upd_ne q] at h
      exact x.fr _ h⟩

/-- the frame: what its slots hold, as far as it is told -/
def Fr (B : Hp) (σ : L2.St) (Γ : List (Option AV)) : Prop := σ.length = Γ.length ∧ ∀ (i : Nat) (g : AV), Γ[i]? = some (some g) → ∃ u, σ[i]? = some (some u) ∧ Is B u g
theorem Fr.mono {B B' : Hp} {σ : L2.St} {Γ : List (Option AV)} (e : Same B B') (h : Fr B σ Γ) : Fr B' σ Γ := ⟨h.1, fun i g q => by
  obtain ⟨u, a, b⟩ := h.2 i g q
  exact ⟨u, a, b.mono e⟩⟩
theorem Fr.set {B : Hp} {σ : L2.St} {Γ : List (Option AV)} {u : V} {g : AV} (h : Fr B σ Γ) (i : Nat) (hu : Is B u g) : Fr B (σ.set i (some u)) (Γ.set i (some g)) := by
  refine ⟨by rw [List.length_set, List.length_set]; exact h.1, fun j k q => ?_⟩
  by_cases e : i = j
  · subst e
    by_cases hi : i < Γ.length
    · rw [List.getElem?_set_self hi] at q
      cases q
      exact ⟨u, List.getElem?_set_self (by rw [h.1]; exact hi), hu⟩
    · rw [List.getElem?_eq_none (by rw [List.length_set]; omega)] at q
      cases q
  · rw [List.getElem?_set_ne e] at q
    obtain ⟨w, a, b⟩ := h.2 j k q
    exact ⟨w, by rw [List.getElem?_set_ne e]; exact a, b⟩
/-- Δ tells no more than Γ -/
def Le (Δ Γ : List (Option AV)) : Prop := Δ.length = Γ.length ∧ ∀ (i : Nat) (g : AV), Δ[i]? = some (some g) → Γ[i]? = some (some g)
theorem Fr.le {B : Hp} {σ : L2.St} {Γ Δ : List (Option AV)} (h : Fr B σ Γ) (l : Le Δ Γ) : Fr B σ Δ := ⟨h.1.trans l.1.symm, fun i g q => h.2 i g (l.2 i g q)⟩
theorem Fr.wipe {B : Hp} {σ : L2.St} {Γ : List (Option AV)} (h : Fr B σ Γ) : ∀ (vs : List Nat), Fr B (wipe σ vs) (vs.foldr (fun i Δ => Δ.set i none) Γ)
  | [] => h
  | v :: vs => by
    have ih := Fr.wipe h vs
    refine ⟨by rw [wipe_length, List.foldr_cons, List.length_set, ← ih.1, wipe_length], fun i g q => ?_⟩
    rw [List.foldr_cons] at q
    by_cases e : v = i
    · subst e
      rw [List.getElem?_set] at q
      split at q
      · split at q <;> cases q
      · exact absurd rfl (by assumption)
    · rw [List.getElem?_set_ne e] at q
      obtain ⟨u, a, b⟩ := ih.2 i g q
      refine ⟨u, ?_, b⟩
      show ((L2.wipe σ vs).set v none)[i]? = _
      rw [List.getElem?_set_ne e]
      exact a

/-! ### what an expression gives -/
def Gv (te : TE) (Γ : List (Option AV)) (B H : Hp) (g : AV) : Prop :=
  ∀ B1 H1 σ, Ext B H B1 H1 → Fr B1 σ Γ → ∀ Q : VK, (∀ u B2 H2, Ext B1 H1 B2 H2 → Is B2 u g → Q u H2) → te σ H1 Q
def Gt (tt : TT) (Γ : List (Option AV)) (B H : Hp) (b : Bool) : Prop :=
  ∀ B1 H1 σ, Ext B H B1 H1 → Fr B1 σ Γ → ∀ Q : Bool → Hp → Prop, (∀ B2 H2, Ext B1 H1 B2 H2 → Q b H2) → tt σ H1 Q
inductive IsAll (B : Hp) : List V → List AV → Prop
  | nil : IsAll B [] []
  | cons {u : V} {us : List V} {g : AV} {gs : List AV} : Is B u g → IsAll B us gs → IsAll B (u :: us) (g :: gs)
theorem IsAll.mono {B B' : Hp} (e : Same B B') : ∀ {us : List V} {gs : List AV}, IsAll B us gs → IsAll B' us gs
  | _, _, .nil => .nil
  | _, _, .cons h t => .cons (h.mono e) (IsAll.mono e t)
theorem IsAll.length {B : Hp} : ∀ {us : List V} {gs : List AV}, IsAll B us gs → us.length = gs.length
  | _, _, .nil => rfl
  | _, _, .cons _ t => congrArg (· + 1) (IsAll.length t)
def Ga (ta : TA) (Γ : List (Option AV)) (B H : Hp) (gs : List AV) : Prop :=
  ∀ B1 H1 σ, Ext B H B1 H1 → Fr B1 σ Γ → ∀ Q : List V → Hp → Prop, (∀ us B2 H2, Ext B1 H1 B2 H2 → IsAll B2 us gs → Q us H2) → ta σ H1 Q
/-- a two-place operation, by values; a call -/
def Ro (r : R2) (B H : Hp) (x y z : AV) : Prop :=
  ∀ B1 H1 u w, Ext B H B1 H1 → Is B1 u x → Is B1 w y → ∀ Q : VK, (∀ q B2 H2, Ext B1 H1 B2 H2 → Is B2 q z → Q q H2) → r u w H1 Q
def Rc (r : List V → Hp → VK → Prop) (B H : Hp) (gs : List AV) (z : AV) : Prop :=
  ∀ B1 H1 us, Ext B H B1 H1 → IsAll B1 us gs → ∀ Q : VK, (∀ q B2 H2, Ext B1 H1 B2 H2 → Is B2 q z → Q q H2) → r us H1 Q

section
variable {K : PySem.W.Frag} {Γ : List (Option AV)} {B H B' H' : Hp} {g x y z : AV} {te ta tb tc : TE} {t u : TT} {b c : Bool}
theorem Gv.ext (e : Ext B H B' H') (h : Gv te Γ B H g) : Gv te Γ B' H' g := fun B1 H1 σ x f Q q => h B1 H1 σ (e.trans x) f Q q
theorem Gt.ext (e : Ext B H B' H') (h : Gt t Γ B H b) : Gt t Γ B' H' b := fun B1 H1 σ x f Q q => h B1 H1 σ (e.trans x) f Q q
theorem gv_is (h : Gv te Γ B H g) (e : g = x) : Gv te Γ B H x := e ▸ h
theorem gt_is (h : Gt t Γ B H b) (e : b = c) : Gt t Γ B H c := e ▸ h
theorem gv_var {i : Nat} (h : Γ[i]? = some (some g)) : Gv (tVar i) Γ B H g := fun B1 H1 σ e f Q q => by
  obtain ⟨u, a, b⟩ := f.2 i g h
  exact ⟨u, a, q u B1 H1 (Ext.refl e.bh) b⟩
theorem gv_int {i : Int} : Gv (tC (.int i)) Γ B H (AI i) := fun B1 H1 σ e _ Q q => q _ B1 H1 (Ext.refl e.bh) (.int i)
theorem gv_bl {i : Bool} : Gv (tC (.bl i)) Γ B H (AB i) := fun B1 H1 σ e _ Q q => q _ B1 H1 (Ext.refl e.bh) (.bl i)
theorem gv_str {i : Str} : Gv (tC (.str i)) Γ B H (AS i) := fun B1 H1 σ e _ Q q => q _ B1 H1 (Ext.refl e.bh) (.str i)
theorem gv_non : Gv (tC .non) Γ B H AN := fun B1 H1 σ e _ Q q => q _ B1 H1 (Ext.refl e.bh) .non
theorem gv_C {u : V} : Gv (tC u) Γ B H (.v u) := fun B1 H1 σ e _ Q q => q _ B1 H1 (Ext.refl e.bh) rfl
theorem gv_op {r : R2} (ha : Gv ta Γ B H x) (hb : Gv tb Γ B H y) (hr : Ro r B H x y z) : Gv (tOp r ta tb) Γ B H z := fun B1 H1 σ e f Q q =>
  ha B1 H1 σ e f _ fun u B2 H2 e2 hu => hb B2 H2 σ (e.trans e2) (f.mono e2.bb) _ fun w B3 H3 e3 hw =>
    hr B3 H3 u w ((e.trans e2).trans e3) (hu.mono e3.bb) hw Q fun k B4 H4 e4 hk => q k B4 H4 ((e2.trans e3).trans e4) hk
theorem ga_nil : Ga tNil Γ B H [] := fun B1 H1 σ e _ Q q => q _ B1 H1 (Ext.refl e.bh) .nil
theorem ga_cons {tr : TA} {gs : List AV} (h : Gv ta Γ B H x) (hr : Ga tr Γ B H gs) : Ga (tCons ta tr) Γ B H (x :: gs) := fun B1 H1 σ e f Q q =>
  h B1 H1 σ e f _ fun u B2 H2 e2 hu => hr B2 H2 σ (e.trans e2) (f.mono e2.bb) _ fun us B3 H3 e3 hus => q _ B3 H3 (e2.trans e3) (.cons (hu.mono e3.bb) hus)
theorem gv_cb {r : List V → Hp → VK → Prop} {tr : TA} {gs : List AV} (h : Ga tr Γ B H gs) (hr : Rc r B H gs z) : Gv (tCB r tr) Γ B H z := fun B1 H1 σ e f Q q =>
  h B1 H1 σ e f _ fun us B2 H2 e2 hu => hr B2 H2 us (e.trans e2) hu Q fun k B3 H3 e3 hk => q k B3 H3 (e2.trans e3) hk
/-! truths -/
theorem gt_test (h : Gv te Γ B H (AB b)) : Gt (tTest te) Γ B H b := fun B1 H1 σ e f Q q => h B1 H1 σ e f _ fun u B2 H2 e2 hu => by
  cases hu
  exact ⟨b, rfl, q B2 H2 e2⟩
theorem gt_B (h : Gv te Γ B H (AB b)) : Gt (tB te) Γ B H b := fun B1 H1 σ e f Q q => h B1 H1 σ e f _ fun u B2 H2 e2 hu => by
  cases hu
  exact ⟨b, rfl, q B2 H2 e2⟩
theorem gt_and (h1 : Gt t Γ B H b) (h2 : b = true → Gt u Γ B H c) : Gt (tAnd t u) Γ B H (b && c) := fun B1 H1 σ e f Q q => h1 B1 H1 σ e f _ fun B2 H2 e2 => by
  cases b with
  | true =>
    show u σ H2 Q
    exact h2 rfl B2 H2 σ (e.trans e2) (f.mono e2.bb) Q fun B3 H3 e3 => q B3 H3 (e2.trans e3)
  | false =>
    show Q false H2
    exact q B2 H2 e2
theorem gt_or (h1 : Gt t Γ B H b) (h2 : b = false → Gt u Γ B H c) : Gt (tOr t u) Γ B H (b || c) := fun B1 H1 σ e f Q q => h1 B1 H1 σ e f _ fun B2 H2 e2 => by
  cases b with
  | true =>
    show Q true H2
    exact q B2 H2 e2
  | false =>
    show u σ H2 Q
    exact h2 rfl B2 H2 σ (e.trans e2) (f.mono e2.bb) Q fun B3 H3 e3 => q B3 H3 (e2.trans e3)
theorem gt_not (h1 : Gt t Γ B H b) : Gt (tNot t) Γ B H (!b) := fun B1 H1 σ e f Q q => h1 B1 H1 σ e f _ fun B2 H2 e2 => q B2 H2 e2
theorem gv_andV (h1 : Gv ta Γ B H (AB b)) (h2 : b = true → Gv tb Γ B H (AB c)) : Gv (tAndV ta tb) Γ B H (AB (b && c)) := fun B1 H1 σ e f Q q => h1 B1 H1 σ e f _ fun u B2 H2 e2 hu => by
  cases hu
  refine ⟨b, rfl, ?_⟩
  cases b with
  | true =>
    show tb σ H2 Q
    exact h2 rfl B2 H2 σ (e.trans e2) (f.mono e2.bb) Q fun w B3 H3 e3 hw => q w B3 H3 (e2.trans e3) hw
  | false =>
    show Q (.bl false) H2
    exact q _ B2 H2 e2 (.bl false)
theorem gv_orV (h1 : Gv ta Γ B H (AB b)) (h2 : b = false → Gv tb Γ B H (AB c)) : Gv (tOrV ta tb) Γ B H (AB (b || c)) := fun B1 H1 σ e f Q q => h1 B1 H1 σ e f _ fun u B2 H2 e2 hu => by
  cases hu
  refine ⟨b, rfl, ?_⟩
  cases b with
  | true =>
    show Q (.bl true) H2
    exact q _ B2 H2 e2 (.bl true)
  | false =>
    show tb σ H2 Q
    exact h2 rfl B2 H2 σ (e.trans e2) (f.mono e2.bb) Q fun w B3 H3 e3 hw => q w B3 H3 (e2.trans e3) hw
theorem gv_notV (h1 : Gv ta Γ B H (AB b)) : Gv (tNotV ta) Γ B H (AB (!b)) := fun B1 H1 σ e f Q q => h1 B1 H1 σ e f _ fun u B2 H2 e2 hu => by
  cases hu
  exact ⟨b, rfl, q _ B2 H2 e2 (.bl _)⟩
theorem gv_if (h : Gt t Γ B H b) (h1 : b = true → Gv ta Γ B H g) (h2 : b = false → Gv tb Γ B H g) : Gv (tIf t ta tb) Γ B H g := fun B1 H1 σ e f Q q => h B1 H1 σ e f _ fun B2 H2 e2 => by
  cases b with
  | true =>
    show ta σ H2 Q
    exact h1 rfl B2 H2 σ (e.trans e2) (f.mono e2.bb) Q fun w B3 H3 e3 hw => q w B3 H3 (e2.trans e3) hw
  | false =>
    show tb σ H2 Q
    exact h2 rfl B2 H2 σ (e.trans e2) (f.mono e2.bb) Q fun w B3 H3 e3 hw => q w B3 H3 (e2.trans e3) hw
theorem gv_ite (h : Gt t Γ B H b) (h1 : b = true → Gv ta Γ B H x) (h2 : b = false → Gv tb Γ B H y) : Gv (tIf t ta tb) Γ B H (if b = true then x else y) := by
  cases b with
  | true => exact gv_if h (fun _ => h1 rfl) fun z => nomatch z
  | false => exact gv_if h (fun z => nomatch z) fun _ => h2 rfl
end
end SB
namespace SB
open PySem L2

/-! ### typed data -/
class Enc (α : Type) [DecidableEq α] where
  enc : α → PyData
  eqv : ∀ a b, PyData.eqv (enc a) (enc b) = decide (a = b)
  lay : ∀ a, (enc a).canLay0 = true
  dep : Nat
  dep_le : ∀ a, (enc a).depth ≤ dep
open Enc (enc)
theorem eqvAll_map {α : Type} [DecidableEq α] [Enc α] : ∀ xs ys : List α, PyData.eqvAll (xs.map enc) (ys.map enc) = decide (xs = ys)
  | [], [] => by simp [PyData.eqvAll]
  | [], y :: ys => by simp [PyData.eqvAll]
  | x :: xs, [] => by simp [PyData.eqvAll]
  | x :: xs, y :: ys => by
    simp only [List.map_cons, PyData.eqvAll]
    rw [Enc.eqv, eqvAll_map xs ys, ← Bool.decide_and]
    exact decide_eq_decide.mpr (by rw [List.cons.injEq])
theorem layAll_map {α : Type} [DecidableEq α] [Enc α] : ∀ xs : List α, PyData.canLayAll0 (xs.map enc) = true
  | [] => by simp [PyData.canLayAll0]
  | x :: xs => by simp [PyData.canLayAll0, Enc.lay x, layAll_map xs]
theorem depAll_map {α : Type} [DecidableEq α] [Enc α] : ∀ xs : List α, PyData.depthAll (xs.map enc) ≤ Enc.dep α
  | [] => by simp [PyData.depthAll]
  | x :: xs => by
    have h1 := Enc.dep_le x
    have h2 := depAll_map xs
    simp only [List.map_cons, PyData.depthAll]
    omega
instance : Enc Int where
  enc := .int
  eqv a b := by simp only [PyData.eqv]; rw [Bool.eq_iff_iff]; simp
  lay _ := by simp [PyData.canLay0]
  dep := 0
  dep_le _ := by simp [PyData.depth]
instance : Enc Bool where
  enc := .bool
  eqv a b := by simp only [PyData.eqv]; rw [Bool.eq_iff_iff]; simp
  lay _ := by simp [PyData.canLay0]
  dep := 0
  dep_le _ := by simp [PyData.depth]
def encL {α : Type} [DecidableEq α] [Enc α] (xs : List α) : PyData := .list (xs.map enc)
instance {α : Type} [DecidableEq α] [Enc α] : Enc (List α) where
  enc := encL
  eqv a b := by simp only [encL, PyData.eqv]; exact eqvAll_map a b
  lay a := by simp only [encL, PyData.canLay0]; exact layAll_map a
  dep := Enc.dep α + 1
  dep_le a := by
    simp only [encL, PyData.depth]
    have := depAll_map a
    omega
def encP {α β : Type} [DecidableEq α] [Enc α] [DecidableEq β] [Enc β] (p : α × β) : PyData := .tuple [enc p.1, enc p.2]
instance {α β : Type} [DecidableEq α] [Enc α] [DecidableEq β] [Enc β] : Enc (α × β) where
  enc := encP
  eqv a b := by
    simp only [encP, PyData.eqv, PyData.eqvAll]
    rw [Enc.eqv, Enc.eqv, Bool.and_true, ← Bool.decide_and]
    exact decide_eq_decide.mpr (by rw [Prod.ext_iff])
  lay a := by simp [encP, PyData.canLay0, PyData.canLayAll0, Enc.lay]
  dep := max (Enc.dep α) (Enc.dep β) + 1
  dep_le a := by
    simp only [encP, PyData.depth, PyData.depthAll]
    have h1 := Enc.dep_le a.1
    have h2 := Enc.dep_le a.2
    omega
/-- three ints in a tuple -/
structure Stp where
  p : Int
  i : Int
  o : Int
  deriving DecidableEq
def encStp (s : Stp) : PyData := .tuple [.int s.p, .int s.i, .int s.o]
instance : Enc Stp where
  enc := encStp
  eqv a b := by
    obtain ⟨a1, a2, a3⟩ := a
    obtain ⟨b1, b2, b3⟩ := b
    simp only [encStp, PyData.eqv, PyData.eqvAll, Bool.and_true]
    rw [Bool.eq_iff_iff]
    simp
  lay a := by simp [encStp, PyData.canLay0, PyData.canLayAll0]
  dep := 1
  dep_le a := by simp [encStp, PyData.depth, PyData.depthAll]
theorem shaped_enc {α : Type} [DecidableEq α] [Enc α] (h : Enc.dep α ≤ 64) (a : α) : SeqAt.shaped (enc a) = true := by
  unfold SeqAt.shaped
  rw [Enc.lay, decide_eq_true (Nat.le_trans (Enc.dep_le a) h)]
  rfl
theorem shaped_int (i : Int) : SeqAt.shaped (.int i) = true := by simp [SeqAt.shaped, PyData.canLay0, PyData.depth]
theorem shaped_tuple2 (i j : Int) : SeqAt.shaped (.tuple [.int i, .int j]) = true := by simp [SeqAt.shaped, PyData.canLay0, PyData.canLayAll0, PyData.depth, PyData.depthAll]
theorem shaped_list {α : Type} [DecidableEq α] [Enc α] (h : Enc.dep α ≤ 63) (xs : List α) : SeqAt.shaped (.list (xs.map enc)) = true := by
  exact shaped_enc (α := List α) (by show Enc.dep α + 1 ≤ 64; omega) xs
theorem any_enc {α : Type} [DecidableEq α] [Enc α] (a : α) : ∀ xs : List α, ((xs.map enc).any fun z => PyData.eqv z (enc a)) = decide (a ∈ xs)
  | [] => by simp
  | x :: xs => by
    rw [List.map_cons, List.any_cons, any_enc a xs, Enc.eqv]
    rw [Bool.eq_iff_iff]
    simp only [Bool.or_eq_true, decide_eq_true_eq, List.mem_cons]
    constructor
    · rintro (h | h)
      · exact .inl h.symm
      · exact .inr h
    · rintro (h | h)
      · exact .inl h.symm
      · exact .inr h

/-! ### sizes -/
theorem sz {n : Nat} (h : n ≤ 16000000) : n ≤ sizeLine := Nat.le_trans h (by decide)
theorem szl {n : Nat} (h : n < 16000000) : n < sizeLine := Nat.lt_of_lt_of_le h (by decide)

/-! ### operations by values -/
section
variable {K : PySem.W.Frag} {Γ : List (Option AV)} {B H B' H' : Hp} {g x y z : AV} {te ta tb tc : TE} {t u : TT} {b c : Bool} {i j : Int}
theorem ro_I0 {f : Int → Int → Int} : Ro (rI0 fun i j => .int (f i j)) B H (AI i) (AI j) (AI (f i j)) := fun B1 H1 u w e hu hw Q q => by
  cases hu
  cases hw
  exact ⟨i, j, rfl, rfl, q _ B1 H1 (Ext.refl e.bh) (.int _)⟩
theorem ro_B0 {f : Int → Int → Bool} : Ro (rI0 fun i j => .bl (f i j)) B H (AI i) (AI j) (AB (f i j)) := fun B1 H1 u w e hu hw Q q => by
  cases hu
  cases hw
  exact ⟨i, j, rfl, rfl, q _ B1 H1 (Ext.refl e.bh) (.bl _)⟩
theorem ro_I {C : Int → Int → Prop} {f : Int → Int → Int} (h : C i j) : Ro (rI C fun i j => .int (f i j)) B H (AI i) (AI j) (AI (f i j)) := fun B1 H1 u w e hu hw Q q => by
  cases hu
  cases hw
  exact ⟨i, j, rfl, rfl, h, q _ B1 H1 (Ext.refl e.bh) (.int _)⟩
/-- scalars that == tells as data does -/
def scD : PyData → PyData → Bool
  | .none, .none => true | .none, .int _ => true | .int _, .none => true | .none, .bool _ => true | .bool _, .none => true | .none, .str _ => true | .str _, .none => true
  | .int _, .int _ => true | .bool _, .bool _ => true | .str _, .str _ => true
  | .int _, .str _ => true | .str _, .int _ => true | .bool _, .str _ => true | .str _, .bool _ => true
  | _, _ => false
theorem scD_ok {d e : PyData} {u w : V} (hu : Dq B u d) (hw : Dq B w e) (h : scD d e = true) : scal u w = true ∧ decide (u = w) = PyData.eqv d e := by
  cases hu <;> cases hw <;> first
    | (cases h; done)
    | (refine ⟨rfl, ?_⟩; simp only [PyData.eqv]; rw [Bool.eq_iff_iff]; simp; done)
    | (refine ⟨rfl, ?_⟩; simp [PyData.eqv]; done)
theorem ro_eq {d e : PyData} (h : scD d e = true) : Ro rEq B H (.d d) (.d e) (AB (PyData.eqv d e)) := fun B1 H1 u w x hu hw Q q => by
  obtain ⟨h1, h2⟩ := scD_ok hu hw h
  exact ⟨h1, by rw [h2]; exact q _ B1 H1 (Ext.refl x.bh) (.bl _)⟩
theorem ro_ne {d e : PyData} (h : scD d e = true) : Ro rNe B H (.d d) (.d e) (AB (!PyData.eqv d e)) := fun B1 H1 u w x hu hw Q q => by
  obtain ⟨h1, h2⟩ := scD_ok hu hw h
  exact ⟨h1, by rw [h2]; exact q _ B1 H1 (Ext.refl x.bh) (.bl _)⟩
theorem ro_eqD {d e : PyData} (h1 : SeqAt.shaped d = true) (h2 : SeqAt.shaped e = true) : Ro (rEqD K) B H (.d d) (.d e) (AB (PyData.eqv d e)) := fun B1 H1 u w x hu hw Q q =>
  ⟨d, e, (hu.mono x.bh).dp, (hw.mono x.bh).dp, h1, h2, q _ B1 H1 (Ext.refl x.bh) (.bl _)⟩
theorem ro_neD {d e : PyData} (h1 : SeqAt.shaped d = true) (h2 : SeqAt.shaped e = true) : Ro (rNeD K) B H (.d d) (.d e) (AB (!PyData.eqv d e)) := fun B1 H1 u w x hu hw Q q =>
  ⟨d, e, (hu.mono x.bh).dp, (hw.mono x.bh).dp, h1, h2, q _ B1 H1 (Ext.refl x.bh) (.bl _)⟩
def isN : AV → Bool
  | .d .none => true
  | .v .non => true
  | _ => false
theorem isN_ok {u : V} (h : Is B u x) : decide (u = .non) = isN x := by
  cases x with
  | d d => cases h <;> rfl
  | v w =>
    have e : u = w := h
    subst e
    cases u <;> rfl
theorem ro_isN : Ro (fun x y H Q => y = .non ∧ Q (.bl (decide (x = .non))) H) B H x AN (AB (isN x)) := fun B1 H1 u w e hu hw Q q => by
  cases hw
  rw [isN_ok hu]
  exact ⟨rfl, q _ B1 H1 (Ext.refl e.bh) (.bl _)⟩
theorem ro_notN : Ro (fun x y H Q => y = .non ∧ Q (.bl (!decide (x = .non))) H) B H x AN (AB (!isN x)) := fun B1 H1 u w e hu hw Q q => by
  cases hw
  rw [isN_ok hu]
  exact ⟨rfl, q _ B1 H1 (Ext.refl e.bh) (.bl _)⟩
/-- an item of data -/
theorem atI_dq {us : List V} {ds : List PyData} {k : Int} {d : PyData} (h : DqAll B us ds) (a : atI ds k = some d) : ∃ u, atI us k = some u ∧ Dq B u d := by
  unfold atI at a ⊢
  rw [h.length]
  cases q : ixN ds.length k with
  | none => rw [q] at a; cases a
  | some n =>
    rw [q] at a
    exact h.get a
theorem ro_ixL {ds : List PyData} {k : Int} {d : PyData} (a : atI ds k = some d) : Ro (rIxL K) B H (.d (.list ds)) (AI k) (.d d) := fun B1 H1 u w e hu hw Q q => by
  cases hw
  cases hu with
  | lst h t =>
    obtain ⟨v, a1, a2⟩ := atI_dq t a
    exact ⟨_, _, k, v, rfl, rfl, SqL.of (e.bh _ _ h), a1, q v B1 H1 (Ext.refl e.bh) a2⟩
theorem ro_ixT {ds : List PyData} {k : Int} {d : PyData} (a : atI ds k = some d) : Ro (rIxT K) B H (.d (.tuple ds)) (AI k) (.d d) := fun B1 H1 u w e hu hw Q q => by
  cases hw
  cases hu with
  | tup h t =>
    obtain ⟨v, a1, a2⟩ := atI_dq t a
    exact ⟨_, _, k, v, rfl, rfl, SqT.of (e.bh _ _ h), a1, q v B1 H1 (Ext.refl e.bh) a2⟩
/-- x in xs, flat items -/
def flatD : PyData → Bool
  | .none => true | .bool _ => true | .int _ => true | .str _ => true
  | _ => false
theorem flatD_ok {u : V} {d : PyData} (h : Dq B u d) (f : flatD d = true) : flatV u = true := by
  cases h <;> first | rfl | cases f
theorem eqV_ok {u w : V} {d e : PyData} (h : Dq B u d) (h' : Dq B w e) (f : flatD d = true) (f' : flatD e = true) : eqV u w = PyData.eqv d e := by
  cases h <;> cases h' <;> first
    | (cases f; done)
    | (cases f'; done)
    | (simp only [PyData.eqv]; rfl)
    | (simp only [PyData.eqv, eqV]; rw [Bool.eq_iff_iff]; simp)
    | (unfold eqV; simp [PyData.eqv])
theorem flatAll_ok : ∀ {us : List V} {ds : List PyData}, DqAll B us ds → ds.all flatD = true → us.all flatV = true
  | _, _, .nil, _ => rfl
  | _, _, .cons h t, f => by
    rw [List.all_cons, Bool.and_eq_true] at f
    rw [List.all_cons, flatD_ok h f.1, flatAll_ok t f.2]
    rfl
theorem inV_ok {u : V} {d : PyData} (h : Dq B u d) (f : flatD d = true) : ∀ {us : List V} {ds : List PyData}, DqAll B us ds → ds.all flatD = true → inV u us = ds.any fun z => PyData.eqv z d
  | _, _, .nil, _ => rfl
  | _, _, .cons q t, g => by
    rw [List.all_cons, Bool.and_eq_true] at g
    have ih := inV_ok h f t g.2
    unfold inV at ih ⊢
    rw [List.any_cons, List.any_cons, ih, eqV_ok q h g.1 f]
theorem ro_in {d : PyData} {ds : List PyData} (f : flatD d = true) (g : ds.all flatD = true) : Ro (rIn K false) B H (.d d) (.d (.list ds)) (AB (ds.any fun z => PyData.eqv z d)) := fun B1 H1 u w e hu hw Q q => by
  cases hw with
  | lst h t =>
    refine ⟨_, _, rfl, .inl (SqL.of (e.bh _ _ h)), flatD_ok hu f, flatAll_ok t g, ?_⟩
    rw [if_neg Bool.false_ne_true, inV_ok hu f t g]
    exact q _ B1 H1 (Ext.refl e.bh) (.bl _)
theorem ro_notIn {d : PyData} {ds : List PyData} (f : flatD d = true) (g : ds.all flatD = true) : Ro (rIn K true) B H (.d d) (.d (.list ds)) (AB (!ds.any fun z => PyData.eqv z d)) := fun B1 H1 u w e hu hw Q q => by
  cases hw with
  | lst h t =>
    refine ⟨_, _, rfl, .inl (SqL.of (e.bh _ _ h)), flatD_ok hu f, flatAll_ok t g, ?_⟩
    rw [if_pos rfl, inV_ok hu f t g]
    exact q _ B1 H1 (Ext.refl e.bh) (.bl _)
theorem ro_inT {d : PyData} {ds : List PyData} (f : flatD d = true) (g : ds.all flatD = true) : Ro (rIn K false) B H (.d d) (.d (.tuple ds)) (AB (ds.any fun z => PyData.eqv z d)) := fun B1 H1 u w e hu hw Q q => by
  cases hw with
  | tup h t =>
    refine ⟨_, _, rfl, .inr (SqT.of (e.bh _ _ h)), flatD_ok hu f, flatAll_ok t g, ?_⟩
    rw [if_neg Bool.false_ne_true, inV_ok hu f t g]
    exact q _ B1 H1 (Ext.refl e.bh) (.bl _)
theorem ro_notInT {d : PyData} {ds : List PyData} (f : flatD d = true) (g : ds.all flatD = true) : Ro (rIn K true) B H (.d d) (.d (.tuple ds)) (AB (!ds.any fun z => PyData.eqv z d)) := fun B1 H1 u w e hu hw Q q => by
  cases hw with
  | tup h t =>
    refine ⟨_, _, rfl, .inr (SqT.of (e.bh _ _ h)), flatD_ok hu f, flatAll_ok t g, ?_⟩
    rw [if_pos rfl, inV_ok hu f t g]
    exact q _ B1 H1 (Ext.refl e.bh) (.bl _)
/-- ints in a list of ints -/
theorem flat_ints (ns : List Int) : (ns.map PyData.int).all flatD = true := by
  rw [List.all_map]
  exact List.all_eq_true.mpr fun _ _ => rfl
theorem any_ints (n : Int) (ns : List Int) : ((ns.map PyData.int).any fun z => PyData.eqv z (.int n)) = decide (n ∈ ns) := any_enc (α := Int) n ns
theorem ro_inI {n : Int} {ns : List Int} : Ro (rIn K false) B H (AI n) (.d (.list (ns.map PyData.int))) (AB (decide (n ∈ ns))) := by
  have h := ro_in (K := K) (B := B) (H := H) (d := .int n) (ds := ns.map PyData.int) rfl (flat_ints ns)
  rw [any_ints] at h
  exact h
theorem ro_notInI {n : Int} {ns : List Int} : Ro (rIn K true) B H (AI n) (.d (.list (ns.map PyData.int))) (AB (!decide (n ∈ ns))) := by
  have h := ro_notIn (K := K) (B := B) (H := H) (d := .int n) (ds := ns.map PyData.int) rfl (flat_ints ns)
  rw [any_ints] at h
  exact h
theorem ro_inTI {n : Int} {ns : List Int} : Ro (rIn K false) B H (AI n) (.d (.tuple (ns.map PyData.int))) (AB (decide (n ∈ ns))) := by
  have h := ro_inT (K := K) (B := B) (H := H) (d := .int n) (ds := ns.map PyData.int) rfl (flat_ints ns)
  rw [any_ints] at h
  exact h
/-- x in xs, any data -/
theorem ro_inD {d : PyData} {ds : List PyData} (h1 : SeqAt.shaped d = true) (h2 : SeqAt.shaped (.list ds) = true) : Ro (rInD K) B H (.d d) (.d (.list ds)) (AB (ds.any fun z => PyData.eqv z d)) := fun B1 H1 u w e hu hw Q q =>
  ⟨d, ds, (hu.mono e.bh).dp, (hw.mono e.bh).dp, h1, h2, q _ B1 H1 (Ext.refl e.bh) (.bl _)⟩
theorem ro_notInD {d : PyData} {ds : List PyData} (h1 : SeqAt.shaped d = true) (h2 : SeqAt.shaped (.list ds) = true) : Ro (rNotInD K) B H (.d d) (.d (.list ds)) (AB (!ds.any fun z => PyData.eqv z d)) := fun B1 H1 u w e hu hw Q q =>
  ⟨d, ds, (hu.mono e.bh).dp, (hw.mono e.bh).dp, h1, h2, q _ B1 H1 (Ext.refl e.bh) (.bl _)⟩
/-- new lists and tuples -/
theorem dq_newL {p : Addr} {us : List V} {ds : List PyData} (e : Same B H) (hp : H p = none) (h : DqAll B us ds) : Dq (upd B p (.lst us)) (.ref p) (.list ds) :=
  .lst upd_same (h.mono (Ext.new (o := .lst us) e hp).bb)
theorem dq_newT {p : Addr} {us : List V} {ds : List PyData} (e : Same B H) (hp : H p = none) (h : DqAll B us ds) : Dq (upd B p (.tup us)) (.ref p) (.tuple ds) :=
  .tup upd_same (h.mono (Ext.new (o := .tup us) e hp).bb)
theorem ro_cat {ds es : List PyData} (hz : ds.length + es.length ≤ 16000000) : Ro rCat B H (.d (.list ds)) (.d (.list es)) (.d (.list (ds ++ es))) := fun B1 H1 u w e hu hw Q q => by
  cases hu with
  | lst h t =>
    cases hw with
    | lst h' t' =>
      refine ⟨_, _, _, _, rfl, rfl, e.bh _ _ h, e.bh _ _ h', sz (by rw [t.length, t'.length]; exact hz), fun p hp => ?_⟩
      exact q _ _ _ (Ext.new e.bh hp) (dq_newL e.bh hp (t.append t'))
theorem ro_catT {ds es : List PyData} (hz : ds.length + es.length ≤ 16000000) (h1 : ds ≠ []) (h2 : es ≠ []) : Ro (rCatT K) B H (.d (.tuple ds)) (.d (.tuple es)) (.d (.tuple (ds ++ es))) := fun B1 H1 u w e hu hw Q q => by
  cases hu with
  | tup h t =>
    cases hw with
    | tup h' t' =>
      refine ⟨_, _, _, _, rfl, rfl, SqT.of (e.bh _ _ h), SqT.of (e.bh _ _ h'), ?_, sz (by rw [t.length, t'.length]; exact hz), ?_, fun _ p hp => ?_⟩
      · intro q
        subst q
        cases t
        exact h1 rfl
      · intro q
        subst q
        cases t'
        exact absurd rfl h2
      · exact q _ _ _ (Ext.new e.bh hp) (dq_newT e.bh hp (t.append t'))
theorem DqAll.rep {us : List V} {ds : List PyData} (h : DqAll B us ds) : ∀ n : Nat, DqAll B (List.replicate n us).flatten (List.replicate n ds).flatten
  | 0 => .nil
  | n + 1 => by
    rw [List.replicate_succ, List.replicate_succ, List.flatten_cons, List.flatten_cons]
    exact h.append (DqAll.rep h n)
theorem ro_rep {ds : List PyData} {k : Int} (h1 : -(2 ^ 63) ≤ k) (h2 : k < 2 ^ 63) (hz : ds.length * k.toNat ≤ 16000000) : Ro rRep B H (.d (.list ds)) (AI k) (.d (.list (List.replicate k.toNat ds).flatten)) := fun B1 H1 u w e hu hw Q q => by
  cases hw
  cases hu with
  | lst h t =>
    refine ⟨_, _, _, rfl, rfl, e.bh _ _ h, h1, h2, sz (by rw [t.length]; exact hz), fun p hp => ?_⟩
    exact q _ _ _ (Ext.new e.bh hp) (dq_newL e.bh hp (t.rep _))

/-! displays -/
def AV.data : AV → Option PyData
  | .d x => some x
  | _ => none
theorem dqAll_of : ∀ {us : List V} {ds : List PyData}, IsAll B us (ds.map AV.d) → DqAll B us ds
  | _, [], h => by cases h; exact .nil
  | _, d :: ds, h => by
    cases h with
    | cons h t => exact .cons h (dqAll_of t)
theorem gd_nil : Ga tNil Γ B H (([] : List PyData).map AV.d) := ga_nil
theorem gd_cons {tr : TA} {d : PyData} {ds : List PyData} (h : Gv ta Γ B H (.d d)) (hr : Ga tr Γ B H (ds.map AV.d)) : Ga (tCons ta tr) Γ B H ((d :: ds).map AV.d) := ga_cons h hr
theorem gv_lst {ta : TA} {ds : List PyData} (h : Ga ta Γ B H (ds.map AV.d)) (hz : ds.length ≤ 16000000) : Gv (tLst ta) Γ B H (.d (.list ds)) := fun B1 H1 σ e f Q q =>
  h B1 H1 σ e f _ fun us B2 H2 e2 hu => by
    have t := dqAll_of hu
    exact ⟨sz (by rw [t.length]; exact hz), fun p hp => q _ _ _ (e2.trans (Ext.new e2.bh hp)) (dq_newL e2.bh hp t)⟩
theorem gv_tup {ta : TA} {ds : List PyData} (h : Ga ta Γ B H (ds.map AV.d)) (hz : ds.length ≤ 16000000) : Gv (tTup ta) Γ B H (.d (.tuple ds)) := fun B1 H1 σ e f Q q =>
  h B1 H1 σ e f _ fun us B2 H2 e2 hu => by
    have t := dqAll_of hu
    exact ⟨sz (by rw [t.length]; exact hz), fun p hp => q _ _ _ (e2.trans (Ext.new e2.bh hp)) (dq_newT e2.bh hp t)⟩

/-! calls of built-ins -/
theorem rc_len {ds : List PyData} : Rc (fun xs H Q => ∃ p ys, xs = [.ref p] ∧ (SqL K H p ys ∨ SqT K H p ys) ∧ Q (.int ys.length) H) B H [.d (.list ds)] (AI ds.length) := fun B1 H1 us e hu Q q => by
  cases hu with
  | cons h t =>
    cases t
    cases h with
    | lst h t => exact ⟨_, _, rfl, .inl (SqL.of (e.bh _ _ h)), by rw [t.length]; exact q _ B1 H1 (Ext.refl e.bh) (.int _)⟩
theorem rc_lenT {ds : List PyData} : Rc (fun xs H Q => ∃ p ys, xs = [.ref p] ∧ (SqL K H p ys ∨ SqT K H p ys) ∧ Q (.int ys.length) H) B H [.d (.tuple ds)] (AI ds.length) := fun B1 H1 us e hu Q q => by
  cases hu with
  | cons h t =>
    cases t
    cases h with
    | tup h t => exact ⟨_, _, rfl, .inr (SqT.of (e.bh _ _ h)), by rw [t.length]; exact q _ B1 H1 (Ext.refl e.bh) (.int _)⟩
theorem rc_list {ds : List PyData} : Rc (fun xs H Q => ∃ p ys, xs = [.ref p] ∧ (SqL K H p ys ∨ SqT K H p ys) ∧ ∀ l, H l = none → Q (.ref l) (upd H l (.lst ys))) B H [.d (.list ds)] (.d (.list ds)) := fun B1 H1 us e hu Q q => by
  cases hu with
  | cons h t =>
    cases t
    cases h with
    | lst h t => exact ⟨_, _, rfl, .inl (SqL.of (e.bh _ _ h)), fun p hp => q _ _ _ (Ext.new e.bh hp) (dq_newL e.bh hp t)⟩
theorem rc_listT {ds : List PyData} : Rc (fun xs H Q => ∃ p ys, xs = [.ref p] ∧ (SqL K H p ys ∨ SqT K H p ys) ∧ ∀ l, H l = none → Q (.ref l) (upd H l (.lst ys))) B H [.d (.tuple ds)] (.d (.list ds)) := fun B1 H1 us e hu Q q => by
  cases hu with
  | cons h t =>
    cases t
    cases h with
    | tup h t => exact ⟨_, _, rfl, .inr (SqT.of (e.bh _ _ h)), fun p hp => q _ _ _ (Ext.new e.bh hp) (dq_newL e.bh hp t)⟩
theorem rc_tuple {ds : List PyData} : Rc (fun xs H Q => ∃ p ys, xs = [.ref p] ∧ ((SqL K H p ys ∧ ∀ l, H l = none → Q (.ref l) (upd H l (.tup ys))) ∨ (SqT K H p ys ∧ Q (.ref p) H))) B H [.d (.list ds)] (.d (.tuple ds)) := fun B1 H1 us e hu Q q => by
  cases hu with
  | cons h t =>
    cases t
    cases h with
    | lst h t => exact ⟨_, _, rfl, .inl ⟨SqL.of (e.bh _ _ h), fun p hp => q _ _ _ (Ext.new e.bh hp) (dq_newT e.bh hp t)⟩⟩
theorem rc_any {bs : List Bool} : Rc (rAny K) B H [.d (.list (bs.map PyData.bool))] (AB (bs.any id)) := fun B1 H1 us e hu Q q => by
  cases hu with
  | cons h t =>
    cases t
    cases h with
    | lst h t =>
      have := t.bools
      subst this
      exact ⟨_, bs, rfl, SqL.of (e.bh _ _ h), q _ B1 H1 (Ext.refl e.bh) (.bl _)⟩
theorem rc_all {bs : List Bool} : Rc (rAll K) B H [.d (.list (bs.map PyData.bool))] (AB (bs.all id)) := fun B1 H1 us e hu Q q => by
  cases hu with
  | cons h t =>
    cases t
    cases h with
    | lst h t =>
      have := t.bools
      subst this
      exact ⟨_, bs, rfl, SqL.of (e.bh _ _ h), q _ B1 H1 (Ext.refl e.bh) (.bl _)⟩
theorem rc_max2 : Rc (fun xs H Q => ∃ i j, xs = [.int i, .int j] ∧ Q (.int (if j > i then j else i)) H) B H [AI i, AI j] (AI (if j > i then j else i)) := fun B1 H1 us e hu Q q => by
  cases hu with
  | cons h t =>
    cases t with
    | cons h' t =>
      cases t
      cases h
      cases h'
      exact ⟨i, j, rfl, q _ B1 H1 (Ext.refl e.bh) (.int _)⟩
theorem rc_min2 : Rc (fun xs H Q => ∃ i j, xs = [.int i, .int j] ∧ Q (.int (if j < i then j else i)) H) B H [AI i, AI j] (AI (if j < i then j else i)) := fun B1 H1 us e hu Q q => by
  cases hu with
  | cons h t =>
    cases t with
    | cons h' t =>
      cases t
      cases h
      cases h'
      exact ⟨i, j, rfl, q _ B1 H1 (Ext.refl e.bh) (.int _)⟩
theorem rc_intB : Rc (fun xs H Q => (∃ i, xs = [.int i] ∧ Q (.int i) H) ∨ ∃ k, xs = [.bl k] ∧ Q (.int (if k then 1 else 0)) H) B H [AB b] (AI (if b then 1 else 0)) := fun B1 H1 us e hu Q q => by
  cases hu with
  | cons h t =>
    cases t
    cases h
    exact .inr ⟨b, rfl, q _ B1 H1 (Ext.refl e.bh) (.int _)⟩

/-! slices -/
def cutD (xs : List PyData) (lo hi : Option Int) : List PyData := (xs.drop (HT.sIx xs.length 0 lo)).take (HT.sIx xs.length xs.length hi - HT.sIx xs.length 0 lo)
theorem DqAll.cut {us : List V} {ds : List PyData} (h : DqAll B us ds) (lo hi : Option Int) : DqAll B (cutV us lo hi) (cutD ds lo hi) := by
  unfold cutV cutD
  rw [h.length]
  exact (h.drop _).take _
def Go (to : TO) (Γ : List (Option AV)) (B H : Hp) (o : Option Int) : Prop :=
  ∀ B1 H1 σ, Ext B H B1 H1 → Fr B1 σ Γ → ∀ Q : Option Int → Hp → Prop, (∀ B2 H2, Ext B1 H1 B2 H2 → Q o H2) → to σ H1 Q
theorem go_none : Go tNoPart Γ B H none := fun B1 H1 σ e _ Q q => q B1 H1 (Ext.refl e.bh)
theorem go_some (h : Gv te Γ B H (AI i)) : Go (tPart te) Γ B H (some i) := fun B1 H1 σ e f Q q => h B1 H1 σ e f _ fun u B2 H2 e2 hu => by
  cases hu
  exact ⟨i, rfl, q B2 H2 e2⟩
theorem gv_sl {r : V → Option Int → Option Int → Hp → VK → Prop} {tl th : TO} {lo hi : Option Int} (ha : Gv ta Γ B H x) (h1 : Go tl Γ B H lo) (h2 : Go th Γ B H hi)
    (hr : ∀ B1 H1 u, Ext B H B1 H1 → Is B1 u x → ∀ Q : VK, (∀ q B2 H2, Ext B1 H1 B2 H2 → Is B2 q z → Q q H2) → r u lo hi H1 Q) : Gv (tSl r ta tl th) Γ B H z := fun B1 H1 σ e f Q q =>
  ha B1 H1 σ e f _ fun u B2 H2 e2 hu => h1 B2 H2 σ (e.trans e2) (f.mono e2.bb) _ fun B3 H3 e3 => h2 B3 H3 σ ((e.trans e2).trans e3) ((f.mono e2.bb).mono e3.bb) _ fun B4 H4 e4 =>
    hr B4 H4 u (((e.trans e2).trans e3).trans e4) ((hu.mono e3.bb).mono e4.bb) Q fun k B5 H5 e5 hk => q k B5 H5 (((e2.trans e3).trans e4).trans e5) hk
theorem gv_slL {tl th : TO} {lo hi : Option Int} {ds : List PyData} (ha : Gv ta Γ B H (.d (.list ds))) (h1 : Go tl Γ B H lo) (h2 : Go th Γ B H hi) :
    Gv (tSl (rSlL K) ta tl th) Γ B H (.d (.list (cutD ds lo hi))) :=
  gv_sl ha h1 h2 fun B1 H1 u e hu Q q => by
    cases hu with
    | lst h t => exact ⟨_, _, rfl, SqL.of (e.bh _ _ h), fun p hp => q _ _ _ (Ext.new e.bh hp) (dq_newL e.bh hp (t.cut lo hi))⟩
theorem gv_slT {tl th : TO} {lo hi : Option Int} {ds : List PyData} (ha : Gv ta Γ B H (.d (.tuple ds))) (h1 : Go tl Γ B H lo) (h2 : Go th Γ B H hi)
    (hw : ¬ (HT.sIx ds.length 0 lo = 0 ∧ HT.sIx ds.length ds.length hi = ds.length)) : Gv (tSl (rSlT K) ta tl th) Γ B H (.d (.tuple (cutD ds lo hi))) :=
  gv_sl ha h1 h2 fun B1 H1 u e hu Q q => by
    cases hu with
    | tup h t => exact ⟨_, _, rfl, SqT.of (e.bh _ _ h), by rw [t.length]; exact hw, fun p hp => q _ _ _ (Ext.new e.bh hp) (dq_newT e.bh hp (t.cut lo hi))⟩
end
end SB
namespace SB
open PySem L2
open Enc (enc)

/-! ### a heap in which objects of F change -/
structure ExtF (F : Addr → Prop) (B H B' H' : Hp) : Prop where
  bb : Same B B'
  bh : Same B' H'
  hh : ∀ a o, H a = some o → ¬ F a → H' a = some o
  tr : ∀ a, H a ≠ none → H' a ≠ none
  fr : ∀ a, B' a ≠ none → B a ≠ none ∨ H a = none
theorem Ext.f {F : Addr → Prop} {B H B' H' : Hp} (x : Ext B H B' H') : ExtF F B H B' H' := ⟨x.bb, x.bh, fun a o h _ => x.hh a o h, fun a h => by
  cases q : H a with
  | none => exact absurd q h
  | some o => rw [x.hh a o q]; simp, x.fr⟩
theorem ExtF.trans {F : Addr → Prop} {B H B1 H1 B2 H2 : Hp} (a : ExtF F B H B1 H1) (b : ExtF F B1 H1 B2 H2) : ExtF F B H B2 H2 :=
  ⟨a.bb.trans b.bb, b.bh, fun x o h n => b.hh x o (a.hh x o h n) n, fun x h => b.tr x (a.tr x h), fun x h => by
    rcases b.fr x h with q | q
    · exact a.fr x q
    · cases e : H x with
      | none => exact .inr rfl
      | some o => exact absurd q (a.tr x (by rw [e]; simp))⟩
theorem ExtF.mono {F G : Addr → Prop} {B H B1 H1 : Hp} (a : ExtF F B H B1 H1) (h : ∀ x, F x → G x) : ExtF G B H B1 H1 :=
  ⟨a.bb, a.bh, fun x o e n => a.hh x o e fun q => n (h x q), a.tr, a.fr⟩
/-- what changed was not there at the entry -/
theorem Ext.thenF {F : Addr → Prop} {B0 H0 B H B1 H1 : Hp} (x : Ext B0 H0 B H) (a : ExtF F B H B1 H1) (h : ∀ p, F p → H0 p = none) : Ext B0 H0 B1 H1 :=
  ⟨x.bb.trans a.bb, a.bh, fun p o e => a.hh p o (x.hh p o e) fun q => (by
    rw [h p q] at e
    cases e), fun p q => by
    rcases a.fr p q with q | q
    · exact x.fr p q
    · exact .inr (x.hh.free q)⟩
/-- .. what changed is in F, or was not there at the entry -/
theorem ExtF.thenF {F G : Addr → Prop} {B0 H0 B H B1 H1 : Hp} (x : ExtF F B0 H0 B H) (a : ExtF G B H B1 H1) (h : ∀ p, G p → F p ∨ H0 p = none) : ExtF F B0 H0 B1 H1 :=
  ⟨x.bb.trans a.bb, a.bh, fun p o e n => a.hh p o (x.hh p o e n) fun q => (by
    rcases h p q with q | q
    · exact n q
    · rw [q] at e
      cases e), fun p q => a.tr p (x.tr p q), fun p q => by
    rcases a.fr p q with q | q
    · exact x.fr p q
    · cases e : H0 p with
      | none => exact .inr rfl
      | some o => exact absurd q (x.tr p (by rw [e]; simp))⟩
theorem ExtF.off {F : Addr → Prop} {B H B' H' : Hp} (x : ExtF F B H B' H') {p : Addr} (hb : B p = none) (hh : H p ≠ none) : B' p = none := by
  cases h : B' p with
  | none => rfl
  | some o =>
    rcases x.fr p (by rw [h]; simp) with q | q
    · exact absurd hb q
    · exact absurd q hh
theorem ExtF.free {F : Addr → Prop} {B H B' H' : Hp} (x : ExtF F B H B' H') {p : Addr} (h : H' p = none) : H p = none := by
  cases e : H p with
  | none => rfl
  | some o => exact absurd h (x.tr p (by rw [e]; simp))
/-- one object is written -/
theorem ExtF.wr {B H : Hp} {p : Addr} {o : HO} (e : Same B H) (hb : B p = none) (hp : H p ≠ none) : ExtF (· = p) B H B (upd H p o) :=
  ⟨Same.refl _, fun a u h => by rw [upd_ne (ne_of_none h hb)]; exact e _ _ h, fun a u h n => by rw [upd_ne n]; exact h, fun a h => by
    by_cases q : a = p
    · subst q; rw [upd_same]; simp
    · rw [upd_ne q]; exact h, fun a h => .inl h⟩

/-! ### own lists -/
def Ml (B H : Hp) (p : Addr) (ds : List PyData) : Prop := B p = none ∧ ∃ us, H p = some (.lst us) ∧ DqAll B us ds
theorem Ml.ne {B H : Hp} {p : Addr} {ds : List PyData} (m : Ml B H p ds) : H p ≠ none := by
  obtain ⟨_, us, h, _⟩ := m
  rw [h]; simp
theorem Ml.ext {B H B' H' : Hp} {p : Addr} {ds : List PyData} (m : Ml B H p ds) (x : Ext B H B' H') : Ml B' H' p ds := by
  obtain ⟨hb, us, h, t⟩ := id m
  exact ⟨x.off hb m.ne, us, x.hh _ _ h, t.mono x.bb⟩
theorem Ml.extF {F : Addr → Prop} {B H B' H' : Hp} {p : Addr} {ds : List PyData} (m : Ml B H p ds) (x : ExtF F B H B' H') (n : ¬ F p) : Ml B' H' p ds := by
  obtain ⟨hb, us, h, t⟩ := id m
  exact ⟨x.off hb m.ne, us, x.hh _ _ h n, t.mono x.bb⟩
/-- an own list becomes data -/
theorem Ml.give {B0 H0 B H : Hp} {p : Addr} {ds : List PyData} (m : Ml B H p ds) (x : Ext B0 H0 B H) (h0 : H0 p = none) : ∃ B', Ext B0 H0 B' H ∧ Same B B' ∧ Dq B' (.ref p) (.list ds) := by
  obtain ⟨hb, us, h, t⟩ := m
  have s : Same B (upd B p (.lst us)) := fun a u e => by rw [upd_ne (ne_of_none e hb)]; exact e
  exact ⟨upd B p (.lst us), x.take h0 hb h, s, .lst upd_same (t.mono s)⟩

/-! ### statements -/
def Sx (t : TS) (D : Ends) (Γ : List (Option AV)) (B H : Hp) : Prop := Same B H → ∀ σ, Fr B σ Γ → t D σ H
/-- what holds of a frame between statements -/
def Lp (Bs : Hp) (Γ : List (Option AV)) (P : Hp → Hp → Prop) : L2.St → Hp → Prop := fun σ H => ∃ B, Same Bs B ∧ Same B H ∧ P B H ∧ Fr B σ Γ
section
variable {K : PySem.W.Frag} {Γ Δ : List (Option AV)} {B H : Hp} {g x y z : AV} {te ta tb tc : TE} {t u : TT} {b c : Bool} {i j : Nat} {D : Ends} {tz tu tw : TS} {ds es : List PyData} {d : PyData}
theorem Sx.run {t : TS} {σ : L2.St} (h : Sx t D Γ B H) (e : Same B H) (f : Fr B σ Γ) : t D σ H := h e σ f
theorem sx_next (k : Same B H → ∀ σ, Fr B σ Γ → D.nx σ H) : Sx tNext D Γ B H := fun e σ f => k e σ f
theorem sx_go {tz : TS} (h : Sx tz D Γ B H) : Sx tNext { D with nx := tz D } Γ B H := h
theorem sx_lp {Bs : Hp} {P : Hp → Hp → Prop} {rt : VK} {bk ct : L2.St → Hp → Prop} (s : Same Bs B) (l : Le Δ Γ) (p : P B H) : Sx tNext { nx := Lp Bs Δ P, rt := rt, bk := bk, ct := ct } Γ B H := fun e σ f => ⟨B, s, e, p, f.le l⟩
theorem sx_cont {Bs : Hp} {P : Hp → Hp → Prop} {nx : L2.St → Hp → Prop} {rt : VK} {bk : L2.St → Hp → Prop} {tz : TS} (s : Same Bs B) (l : Le Δ Γ) (p : P B H) : Sx (tSeq tCont tz) { nx := nx, rt := rt, bk := bk, ct := Lp Bs Δ P } Γ B H := fun e σ f => ⟨B, s, e, p, f.le l⟩
theorem Sx.le {t : TS} (h : Sx t D Δ B H) (l : Le Δ Γ) : Sx t D Γ B H := fun e σ f => h e σ (f.le l)
theorem qx_ret (h : Gv te Γ B H g) (k : ∀ u B2 H2, Ext B H B2 H2 → Is B2 u g → D.rt u H2) : Sx (tSeq (tRet te) tz) D Γ B H := fun e σ f => h B H σ (Ext.refl e) f D.rt k
theorem qx_retN (k : Same B H → D.rt .non H) : Sx (tSeq tRetN tz) D Γ B H := fun e σ f => k e
theorem qx_asg (h : Gv te Γ B H g) (k : ∀ B2 H2, Ext B H B2 H2 → Sx tz D (Γ.set i (some g)) B2 H2) : Sx (tSeq (tAsg te (gName i)) tz) D Γ B H := fun e σ f =>
  h B H σ (Ext.refl e) f _ fun u B2 H2 x hu => k B2 H2 x x.bh _ ((f.mono x.bb).set i hu)
theorem qx_drop (h : Gv te Γ B H g) (k : ∀ B2 H2, Ext B H B2 H2 → Sx tz D Γ B2 H2) : Sx (tSeq (tDrop te) tz) D Γ B H := fun e σ f =>
  h B H σ (Ext.refl e) f _ fun u B2 H2 x hu => k B2 H2 x x.bh _ (f.mono x.bb)
theorem qx_if (h : Gt t Γ B H b) (h1 : b = true → ∀ B2 H2, Ext B H B2 H2 → Sx tu { D with nx := tz D } Γ B2 H2) (h2 : b = false → ∀ B2 H2, Ext B H B2 H2 → Sx tw { D with nx := tz D } Γ B2 H2) : Sx (tSeq (tIfS t tu tw) tz) D Γ B H := fun e σ f =>
  h B H σ (Ext.refl e) f _ fun B2 H2 x => by
    cases b with
    | true => exact h1 rfl B2 H2 x x.bh σ (f.mono x.bb)
    | false => exact h2 rfl B2 H2 x x.bh σ (f.mono x.bb)
/-- without else -/
theorem qx_when (h : Gt t Γ B H b) (h1 : b = true → ∀ B2 H2, Ext B H B2 H2 → Sx tu { D with nx := tz D } Γ B2 H2) (h2 : b = false → ∀ B2 H2, Ext B H B2 H2 → Sx tz D Γ B2 H2) : Sx (tSeq (tIfS t tu tNext) tz) D Γ B H :=
  qx_if h h1 fun hb B2 H2 x => sx_go (h2 hb B2 H2 x)
/-- the same where the answer is known -/
theorem qx_yes (h : Gt t Γ B H b) (hb : b = true) (h1 : ∀ B2 H2, Ext B H B2 H2 → Sx tu { D with nx := tz D } Γ B2 H2) : Sx (tSeq (tIfS t tu tw) tz) D Γ B H := qx_if h (fun _ => h1) fun q => by rw [hb] at q; cases q
theorem qx_no (h : Gt t Γ B H b) (hb : b = false) (h2 : ∀ B2 H2, Ext B H B2 H2 → Sx tw { D with nx := tz D } Γ B2 H2) : Sx (tSeq (tIfS t tu tw) tz) D Γ B H := qx_if h (fun q => by rw [hb] at q; cases q) fun _ => h2
/-- a new own list -/
theorem qx_newL {ta : TA} (h : Ga ta Γ B H (ds.map AV.d)) (hz : ds.length ≤ 16000000) (k : ∀ p B2 H2, H p = none → Ext B H B2 H2 → Ml B2 H2 p ds → Sx tz D (Γ.set i (some (.v (.ref p)))) B2 H2) : Sx (tSeq (tAsg (tLst ta) (gName i)) tz) D Γ B H := fun e σ f =>
  h B H σ (Ext.refl e) f _ fun us B2 H2 x hu => by
    have t := dqAll_of hu
    refine ⟨sz (by rw [t.length]; exact hz), fun p hp => ?_⟩
    have y : Ext B2 H2 B2 (upd H2 p (.lst us)) := Ext.out x.bh hp
    have hb : B2 p = none := x.bh.free hp
    exact k p _ _ (x.hh.free hp) (x.trans y) ⟨hb, us, upd_same, t⟩ y.bh _ ((f.mono x.bb).set i rfl)
/-- p.append(e), p an own list -/
theorem qx_app {p : Addr} (m : Ml B H p ds) (ha : Gv ta Γ B H (.v (.ref p))) (h : Gv te Γ B H (.d d)) (hz : ds.length < 16000000) (k : ∀ B2 H2, ExtF (· = p) B H B2 H2 → Ml B2 H2 p (ds ++ [d]) → Sx tz D Γ B2 H2) :
    Sx (tSeq (tDrop (tBM K "list" rAppend ta (tCons te tNil))) tz) D Γ B H := fun e σ f =>
  ha B H σ (Ext.refl e) f _ fun u B2 H2 x hu => by
    cases hu
    obtain ⟨_, us, hp, _⟩ := m.ext x
    refine ⟨Or.inl ⟨rfl, us, SqL.of hp⟩, ?_⟩
    refine h B2 H2 σ x (f.mono x.bb) _ fun w B3 H3 y hw => ?_
    obtain ⟨hb, vs, hp, t⟩ := (m.ext x).ext y
    have x3 := (x.trans y)
    refine ⟨p, vs, w, rfl, rfl, hp, szl (by rw [t.length]; exact hz), ?_⟩
    have wr : ExtF (· = p) B3 H3 B3 (upd H3 p (.lst (vs ++ [w]))) := ExtF.wr x3.bh hb (by rw [hp]; simp)
    exact k B3 _ (x3.f.trans wr) ⟨hb, _, upd_same, t.append (.one hw)⟩ wr.bh _ (f.mono x3.bb)
/-- p.extend(e) -/
theorem qx_extend {p : Addr} (m : Ml B H p ds) (ha : Gv ta Γ B H (.v (.ref p))) (h : Gv te Γ B H (.d (.list es))) (hz : ds.length + es.length ≤ 16000000) (k : ∀ B2 H2, ExtF (· = p) B H B2 H2 → Ml B2 H2 p (ds ++ es) → Sx tz D Γ B2 H2) :
    Sx (tSeq (tDrop (tBM K "list" rExtend ta (tCons te tNil))) tz) D Γ B H := fun e σ f =>
  ha B H σ (Ext.refl e) f _ fun u B2 H2 x hu => by
    cases hu
    obtain ⟨_, us, hp, _⟩ := m.ext x
    refine ⟨Or.inl ⟨rfl, us, SqL.of hp⟩, ?_⟩
    refine h B2 H2 σ x (f.mono x.bb) _ fun w B3 H3 y hw => ?_
    obtain ⟨hb, vs, hp, t⟩ := (m.ext x).ext y
    have x3 := (x.trans y)
    cases hw with
    | lst hq tq =>
      refine ⟨p, _, vs, _, rfl, rfl, hp, x3.bh _ _ hq, sz (by rw [t.length, tq.length]; exact hz), ?_⟩
      have wr : ∀ o, ExtF (· = p) B3 H3 B3 (upd H3 p o) := fun o => ExtF.wr x3.bh hb (by rw [hp]; simp)
      exact k B3 _ (x3.f.trans (wr _)) ⟨hb, _, upd_same, t.append tq⟩ (wr _).bh _ (f.mono x3.bb)
/-- the own list is handed back -/
theorem qx_retM {p : Addr} {B0 H0 : Hp} (x0 : Ext B0 H0 B H) (h0 : H0 p = none) (m : Ml B H p ds) (ha : Gv ta Γ B H (.v (.ref p))) (k : ∀ u B2 H2, Ext B0 H0 B2 H2 → Dq B2 u (.list ds) → D.rt u H2) : Sx (tSeq (tRet ta) tz) D Γ B H :=
  qx_ret ha fun u B2 H2 x hu => by
    cases hu
    obtain ⟨B3, x3, _, q⟩ := (m.ext x).give (x0.trans x) h0
    exact k _ B3 H2 x3 q
/-- a, b = e -/
theorem qx_asg2 {d1 d2 : PyData} (h : Gv te Γ B H (.d (.tuple [d1, d2]))) (k : ∀ B2 H2, Ext B H B2 H2 → Sx tz D ((Γ.set i (some (.d d1))).set j (some (.d d2))) B2 H2) : Sx (tSeq (tAsg te (gTup K 2 (gCons (gName i) (gCons (gName j) gNil)))) tz) D Γ B H := fun e σ f =>
  h B H σ (Ext.refl e) f _ fun u B2 H2 x hu => by
    cases hu with
    | tup hp t =>
      cases t with
      | cons h1 t =>
        cases t with
        | cons h2 t =>
          cases t
          exact ⟨_, _, rfl, SqT.of (x.bh _ _ hp), rfl, _, _, rfl, _, _, rfl, rfl, k B2 H2 x x.bh _ (((f.mono x.bb).set (g := .d d1) i h1).set (g := .d d2) j h2)⟩
/-! loops -/
theorem le_refl (Γ : List (Option AV)) : Le Γ Γ := ⟨rfl, fun _ _ h => h⟩
/-- the three walks, in one -/
theorem qx_forD {α : Type} [DecidableEq α] [Enc α] {xs : List α} {tl : TE} (h : Gv tl Γ B H (.d (.list (xs.map enc)))) (G : Nat → List (Option AV)) (P : Nat → Hp → Hp → Prop) (hl : Le (G 0) Γ) (h0 : ∀ B1 H1, Ext B H B1 H1 → P 0 B1 H1)
    (hs : ∀ Bs k a B1 H1, xs[k]? = some a → Same B Bs → Same Bs B1 → P k B1 H1 → Sx tu { D with nx := Lp Bs (G (k + 1)) (P (k + 1)), ct := Lp Bs (G (k + 1)) (P (k + 1)), bk := tz D } ((G k).set j (some (.d (enc a)))) B1 H1)
    (hd : ∀ B1 H1, Same B B1 → P xs.length B1 H1 → Sx tz D (G xs.length) B1 H1) : Sx (tSeq (tFor (iList K tl) (gName j) tu) tz) D Γ B H := fun e σ f =>
  h B H σ (Ext.refl e) f _ fun u Bs Hs x hu => by
    cases hu with
    | @lst a us _ hp t =>
      have hlen : us.length = xs.length := by rw [t.length, List.length_map]
      refine ⟨a, rfl, ⟨_, SqL.of (x.bh _ _ hp)⟩, for_list (K := K) (a := a) (xs := us) (D := { D with nx := tz D }) (fun k => Lp Bs (G k) (P k)) ⟨Bs, Same.refl _, x.bh, h0 Bs Hs x, (f.mono x.bb).le hl⟩ ?_ ?_ ?_⟩
      · rintro k σ' H' _ ⟨B', s1, s2, _, _⟩
        exact SqL.of (s2 _ _ (s1 _ _ hp))
      · rintro k v σ' H' hk ⟨B', s1, s2, p, f'⟩
        obtain ⟨d, hd1, hd2⟩ := t.getV hk
        rw [List.getElem?_map] at hd1
        cases q : xs[k]? with
        | none => rw [q] at hd1; cases hd1
        | some a' =>
          rw [q] at hd1
          cases hd1
          exact hs Bs k a' B' H' q x.bb s1 p s2 _ (f'.set (g := .d (enc a')) j (hd2.mono s1))
      · rintro σ' H' ⟨B', s1, s2, p, f'⟩
        rw [hlen] at p f'
        exact hd B' H' (x.bb.trans s1) p s2 σ' f'
theorem qx_forT {α : Type} [DecidableEq α] [Enc α] {xs : List α} {tl : TE} (h : Gv tl Γ B H (.d (.tuple (xs.map enc)))) (G : Nat → List (Option AV)) (P : Nat → Hp → Hp → Prop) (hl : Le (G 0) Γ) (h0 : ∀ B1 H1, Ext B H B1 H1 → P 0 B1 H1)
    (hs : ∀ Bs k a B1 H1, xs[k]? = some a → Same B Bs → Same Bs B1 → P k B1 H1 → Sx tu { D with nx := Lp Bs (G (k + 1)) (P (k + 1)), ct := Lp Bs (G (k + 1)) (P (k + 1)), bk := tz D } ((G k).set j (some (.d (enc a)))) B1 H1)
    (hd : ∀ B1 H1, Same B B1 → P xs.length B1 H1 → Sx tz D (G xs.length) B1 H1) : Sx (tSeq (tFor (iTup K tl) (gName j) tu) tz) D Γ B H := fun e σ f =>
  h B H σ (Ext.refl e) f _ fun u Bs Hs x hu => by
    cases hu with
    | @tup a us _ hp t =>
      have hlen : us.length = xs.length := by rw [t.length, List.length_map]
      refine ⟨a, rfl, ⟨_, SqT.of (x.bh _ _ hp)⟩, for_tup (K := K) (a := a) (xs := us) (D := { D with nx := tz D }) (fun k => Lp Bs (G k) (P k)) ⟨Bs, Same.refl _, x.bh, h0 Bs Hs x, (f.mono x.bb).le hl⟩ ?_ ?_ ?_⟩
      · rintro k σ' H' _ ⟨B', s1, s2, _, _⟩
        exact SqT.of (s2 _ _ (s1 _ _ hp))
      · rintro k v σ' H' hk ⟨B', s1, s2, p, f'⟩
        obtain ⟨d, hd1, hd2⟩ := t.getV hk
        rw [List.getElem?_map] at hd1
        cases q : xs[k]? with
        | none => rw [q] at hd1; cases hd1
        | some a' =>
          rw [q] at hd1
          cases hd1
          exact hs Bs k a' B' H' q x.bb s1 p s2 _ (f'.set (g := .d (enc a')) j (hd2.mono s1))
      · rintro σ' H' ⟨B', s1, s2, p, f'⟩
        rw [hlen] at p f'
        exact hd B' H' (x.bb.trans s1) p s2 σ' f'
theorem qx_forR {ta : TA} {n : Int} (h : Ga ta Γ B H [AI n]) (hn : n ≤ 1000000) (hn0 : -1000000 ≤ n) (G : Nat → List (Option AV)) (P : Nat → Hp → Hp → Prop) (hl : Le (G 0) Γ) (h0 : ∀ B1 H1, Ext B H B1 H1 → P 0 B1 H1)
    (hs : ∀ Bs (k : Nat) B1 H1, k < n.toNat → Same B Bs → Same Bs B1 → P k B1 H1 → Sx tu { D with nx := Lp Bs (G (k + 1)) (P (k + 1)), ct := Lp Bs (G (k + 1)) (P (k + 1)), bk := tz D } ((G k).set j (some (AI (k : Int)))) B1 H1)
    (hd : ∀ B1 H1, Same B B1 → P n.toNat B1 H1 → Sx tz D (G n.toNat) B1 H1) : Sx (tSeq (tFor (iRng1 ta) (gName j) tu) tz) D Γ B H := fun e σ f =>
  h B H σ (Ext.refl e) f _ fun us Bs Hs x hu => by
    cases hu with
    | cons hu t =>
      cases t
      cases hu
      refine ⟨n, rfl, by omega, by omega, for_range (lo := 0) (n := n.toNat) (D := { D with nx := tz D }) (fun k => Lp Bs (G k) (P k)) ⟨Bs, Same.refl _, x.bh, h0 Bs Hs x, (f.mono x.bb).le hl⟩ ?_ ?_⟩
      · rintro k σ' H' hk ⟨B', s1, s2, p, f'⟩
        have e0 : (0 : Int) + (k : Int) = (k : Int) := Int.zero_add _
        show gName j (V.int ((0 : Int) + (k : Int))) σ' H' _
        rw [e0]
        exact hs Bs k B' H' hk x.bb s1 p s2 _ (f'.set (g := AI (k : Int)) j (.int _))
      · rintro σ' H' ⟨B', s1, s2, p, f'⟩
        exact hd B' H' (x.bb.trans s1) p s2 σ' f'

/-- a new own list comes out -/
def Gm (te : TE) (Γ : List (Option AV)) (B H : Hp) (ds : List PyData) : Prop :=
  ∀ B1 H1 σ, Ext B H B1 H1 → Fr B1 σ Γ → ∀ Q : VK, (∀ p B2 H2, Ext B1 H1 B2 H2 → H1 p = none → Ml B2 H2 p ds → Q (.ref p) H2) → te σ H1 Q
theorem Gm.gv (h : Gm te Γ B H ds) : Gv te Γ B H (.d (.list ds)) := fun B1 H1 σ e f Q q => h B1 H1 σ e f Q fun p B2 H2 x hp m => by
  obtain ⟨B3, x3, _, hq⟩ := m.give x hp
  exact q _ B3 H2 x3 hq
theorem gm_lst {ta : TA} (h : Ga ta Γ B H (ds.map AV.d)) (hz : ds.length ≤ 16000000) : Gm (tLst ta) Γ B H ds := fun B1 H1 σ e f Q q =>
  h B1 H1 σ e f _ fun us B2 H2 x hu => by
    have t := dqAll_of hu
    exact ⟨sz (by rw [t.length]; exact hz), fun p hp => q p B2 _ (x.trans (Ext.out x.bh hp)) (x.hh.free hp) ⟨x.bh.free hp, us, upd_same, t⟩⟩
theorem gm_rep {k : Int} (ha : Gv ta Γ B H (.d (.list ds))) (hb : Gv tb Γ B H (AI k)) (h1 : -(2 ^ 63) ≤ k) (h2 : k < 2 ^ 63) (hz : ds.length * k.toNat ≤ 16000000) : Gm (tOp rRep ta tb) Γ B H (List.replicate k.toNat ds).flatten := fun B1 H1 σ e f Q q =>
  ha B1 H1 σ e f _ fun u B2 H2 e2 hu => hb B2 H2 σ (e.trans e2) (f.mono e2.bb) _ fun w B3 H3 e3 hw => by
    cases hw
    cases hu with
    | lst h t =>
      refine ⟨_, _, _, rfl, rfl, e3.bh _ _ (e3.bb _ _ h), h1, h2, sz (by rw [t.length]; exact hz), fun p hp => ?_⟩
      have e23 := e2.trans e3
      exact q p B3 _ (e23.trans (Ext.out e3.bh hp)) (e23.hh.free hp) ⟨e3.bh.free hp, _, upd_same, (t.mono e3.bb).rep _⟩
/-! comprehensions -/
def Ow (Γ : List (Option AV)) (vs : List Nat) : List (Option AV) := vs.foldr (fun i Δ => Δ.set i none) Γ
theorem wipe_set {σ : L2.St} {vs : List Nat} {j : Nat} {x : V} (h : j ∈ vs) (hd : vs.Nodup) : wipe ((wipe σ vs).set j (some x)) vs = wipe σ vs := by
  have key : ∀ (vs : List Nat) (τ : L2.St) (i : Nat), (wipe τ vs)[i]? = if i ∈ vs then (if i < τ.length then some none else none) else τ[i]? := by
    intro vs
    induction vs with
    | nil => intro τ i; simp [wipe]
    | cons v r ih =>
      intro τ i
      show ((wipe τ r).set v none)[i]? = _
      rw [List.getElem?_set, wipe_length]
      by_cases e : v = i
      · subst e
        rw [if_pos rfl, if_pos List.mem_cons_self]
      · rw [if_neg e, ih]
        by_cases q : i ∈ r
        · rw [if_pos q, if_pos (List.mem_cons_of_mem _ q)]
        · rw [if_neg q, if_neg (by intro z; rcases List.mem_cons.mp z with z | z; exact e z.symm; exact q z)]
  refine List.ext_getElem? fun i => ?_
  rw [key, key]
  by_cases q : i ∈ vs
  · rw [if_pos q, if_pos q, List.length_set, wipe_length]
  · rw [if_neg q, if_neg q, List.getElem?_set_ne (by rintro rfl; exact q h), key, if_neg q]
/-- the list made so far, in a comprehension: it stands at p, out of the base -/
def Cq (Bs : Hp) (p : Addr) (ds : List PyData) (B0 H0 : Hp) : Hp → Prop := fun H' => ∃ B', Same Bs B' ∧ Ext B0 H0 B' H' ∧ Ml B' H' p ds
theorem gm_lcL {α β : Type} [DecidableEq α] [Enc α] [DecidableEq β] [Enc β] {xs : List α} {tl : TE} {vs : List Nat} (h : Gv tl Γ B H (.d (.list (xs.map enc)))) (hz : xs.length < 16000000) (hv : j ∈ vs) (hnd : vs.Nodup) (p : α → Bool) (f : α → β)
    (ht : ∀ a ∈ xs, ∀ B1 H1, Ext B H B1 H1 → Gt t ((Ow Γ vs).set j (some (.d (enc a)))) B1 H1 (p a)) (he : ∀ a ∈ xs, p a = true → ∀ B1 H1, Ext B H B1 H1 → Gv te ((Ow Γ vs).set j (some (.d (enc a)))) B1 H1 (.d (enc (f a)))) :
    Gm (tLc (iList K tl) (gName j) t te vs) Γ B H (((xs.filter p).map f).map enc) := fun B0 H0 σ e fr Q q =>
  h B0 H0 σ e fr _ fun u Bs Hs x hu => by
    cases hu with
    | @lst a us _ hp tq =>
      have hlen : us.length = xs.length := by rw [tq.length, List.length_map]
      refine ⟨a, rfl, ⟨_, SqL.of (x.bh _ _ hp)⟩, fun Dl hD => ?_⟩
      have hbs : Bs Dl = none := x.bh.free hD
      refine lc_list (K := K) (xs := us) (fun k => Cq Bs Dl ((((xs.take k).filter p).map f).map enc) Bs Hs) ⟨Bs, Same.refl _, Ext.out x.bh hD, hbs, [], upd_same, .nil⟩ ?_ ?_ ?_
      · rintro k H' _ ⟨B', s1, x', _⟩
        exact SqL.of (x'.bh _ _ (s1 _ _ hp))
      · rintro k v H' hk ⟨B', s1, x', m⟩
        obtain ⟨d, hd1, hd2⟩ := tq.getV hk
        rw [List.getElem?_map] at hd1
        cases qk : xs[k]? with
        | none => rw [qk] at hd1; cases hd1
        | some a' =>
          rw [qk] at hd1
          cases hd1
          have hmem : a' ∈ xs := List.mem_of_getElem? qk
          have htake : xs.take (k + 1) = xs.take k ++ [a'] := by
            rw [List.take_add_one, qk]
            rfl
          have fr1 : Fr B' ((wipe σ vs).set j (some v)) ((Ow Γ vs).set j (some (.d (enc a')))) := ((fr.mono (x.bb.trans s1)).wipe vs).set (g := .d (enc a')) j (hd2.mono s1)
          have eB : Ext B0 H0 B' H' := x.trans x'
          refine ⟨wipe_set hv hnd, ht a' hmem B' H' (e.trans eB) B' H' _ (Ext.refl x'.bh) fr1 _ fun B2 H2 x2 => ?_⟩
          cases pa : p a' with
          | true =>
            rw [if_pos rfl]
            refine he a' hmem pa B2 H2 ((e.trans eB).trans x2) B2 H2 _ (Ext.refl x2.bh) (fr1.mono x2.bb) _ fun w B3 H3 x3 hw => ?_
            obtain ⟨hb, acc, ha, t3⟩ := (m.ext x2).ext x3
            have xx := (x'.trans x2).trans x3
            refine ⟨acc, ha, szl ?_, B3, s1.trans (x2.bb.trans x3.bb), xx.mut hD hb, hb, _, upd_same, ?_⟩
            · rw [t3.length, List.length_map, List.length_map]
              have h1 := List.length_filter_le p (xs.take k)
              have h2 := List.length_take_le k xs
              have h3 := (List.getElem?_eq_some_iff.mp qk).1
              have h4 : (xs.take k).length ≤ xs.length := by rw [List.length_take]; omega
              omega
            · have hh : ((xs.take (k + 1)).filter p).map f = ((xs.take k).filter p).map f ++ [f a'] := by
                rw [htake, List.filter_append, List.map_append]
                congr 1
                simp [List.filter_cons, pa]
              rw [hh, List.map_append]
              exact t3.append (.one hw)
          | false =>
            rw [if_neg (by simp)]
            refine ⟨B2, s1.trans x2.bb, x'.trans x2, ?_⟩
            have hh : ((xs.take (k + 1)).filter p).map f = ((xs.take k).filter p).map f := by
              rw [htake, List.filter_append, List.map_append]
              simp [List.filter_cons, pa]
            rw [hh]
            exact m.ext x2
      · rintro H' ⟨B', s1, x', m⟩
        rw [hlen, List.take_length] at m
        exact q Dl B' H' (x.trans x') (x.hh.free hD) m
theorem gv_lcL {α β : Type} [DecidableEq α] [Enc α] [DecidableEq β] [Enc β] {xs : List α} {tl : TE} {vs : List Nat} (h : Gv tl Γ B H (.d (.list (xs.map enc)))) (hz : xs.length < 16000000) (hv : j ∈ vs) (hnd : vs.Nodup) (p : α → Bool) (f : α → β)
    (ht : ∀ a ∈ xs, ∀ B1 H1, Ext B H B1 H1 → Gt t ((Ow Γ vs).set j (some (.d (enc a)))) B1 H1 (p a)) (he : ∀ a ∈ xs, p a = true → ∀ B1 H1, Ext B H B1 H1 → Gv te ((Ow Γ vs).set j (some (.d (enc a)))) B1 H1 (.d (enc (f a)))) :
    Gv (tLc (iList K tl) (gName j) t te vs) Γ B H (.d (.list (((xs.filter p).map f).map enc))) := (gm_lcL h hz hv hnd p f ht he).gv
theorem gm_lcT {α β : Type} [DecidableEq α] [Enc α] [DecidableEq β] [Enc β] {xs : List α} {tl : TE} {vs : List Nat} (h : Gv tl Γ B H (.d (.tuple (xs.map enc)))) (hz : xs.length < 16000000) (hv : j ∈ vs) (hnd : vs.Nodup) (p : α → Bool) (f : α → β)
    (ht : ∀ a ∈ xs, ∀ B1 H1, Ext B H B1 H1 → Gt t ((Ow Γ vs).set j (some (.d (enc a)))) B1 H1 (p a)) (he : ∀ a ∈ xs, p a = true → ∀ B1 H1, Ext B H B1 H1 → Gv te ((Ow Γ vs).set j (some (.d (enc a)))) B1 H1 (.d (enc (f a)))) :
    Gm (tLc (iTup K tl) (gName j) t te vs) Γ B H (((xs.filter p).map f).map enc) := fun B0 H0 σ e fr Q q =>
  h B0 H0 σ e fr _ fun u Bs Hs x hu => by
    cases hu with
    | @tup a us _ hp tq =>
      have hlen : us.length = xs.length := by rw [tq.length, List.length_map]
      refine ⟨a, rfl, ⟨_, SqT.of (x.bh _ _ hp)⟩, fun Dl hD => ?_⟩
      have hbs : Bs Dl = none := x.bh.free hD
      refine lc_tup (K := K) (xs := us) (fun k => Cq Bs Dl ((((xs.take k).filter p).map f).map enc) Bs Hs) ⟨Bs, Same.refl _, Ext.out x.bh hD, hbs, [], upd_same, .nil⟩ ?_ ?_ ?_
      · rintro k H' _ ⟨B', s1, x', _⟩
        exact SqT.of (x'.bh _ _ (s1 _ _ hp))
      · rintro k v H' hk ⟨B', s1, x', m⟩
        obtain ⟨d, hd1, hd2⟩ := tq.getV hk
        rw [List.getElem?_map] at hd1
        cases qk : xs[k]? with
        | none => rw [qk] at hd1; cases hd1
        | some a' =>
          rw [qk] at hd1
          cases hd1
          have hmem : a' ∈ xs := List.mem_of_getElem? qk
          have htake : xs.take (k + 1) = xs.take k ++ [a'] := by
            rw [List.take_add_one, qk]
            rfl
          have fr1 : Fr B' ((wipe σ vs).set j (some v)) ((Ow Γ vs).set j (some (.d (enc a')))) := ((fr.mono (x.bb.trans s1)).wipe vs).set (g := .d (enc a')) j (hd2.mono s1)
          have eB : Ext B0 H0 B' H' := x.trans x'
          refine ⟨wipe_set hv hnd, ht a' hmem B' H' (e.trans eB) B' H' _ (Ext.refl x'.bh) fr1 _ fun B2 H2 x2 => ?_⟩
          cases pa : p a' with
          | true =>
            rw [if_pos rfl]
            refine he a' hmem pa B2 H2 ((e.trans eB).trans x2) B2 H2 _ (Ext.refl x2.bh) (fr1.mono x2.bb) _ fun w B3 H3 x3 hw => ?_
            obtain ⟨hb, acc, ha, t3⟩ := (m.ext x2).ext x3
            have xx := (x'.trans x2).trans x3
            refine ⟨acc, ha, szl ?_, B3, s1.trans (x2.bb.trans x3.bb), xx.mut hD hb, hb, _, upd_same, ?_⟩
            · rw [t3.length, List.length_map, List.length_map]
              have h1 := List.length_filter_le p (xs.take k)
              have h4 : (xs.take k).length ≤ xs.length := by rw [List.length_take]; omega
              omega
            · have hh : ((xs.take (k + 1)).filter p).map f = ((xs.take k).filter p).map f ++ [f a'] := by
                rw [htake, List.filter_append, List.map_append]
                congr 1
                simp [List.filter_cons, pa]
              rw [hh, List.map_append]
              exact t3.append (.one hw)
          | false =>
            rw [if_neg (by simp)]
            refine ⟨B2, s1.trans x2.bb, x'.trans x2, ?_⟩
            have hh : ((xs.take (k + 1)).filter p).map f = ((xs.take k).filter p).map f := by
              rw [htake, List.filter_append, List.map_append]
              simp [List.filter_cons, pa]
            rw [hh]
            exact m.ext x2
      · rintro H' ⟨B', s1, x', m⟩
        rw [hlen, List.take_length] at m
        exact q Dl B' H' (x.trans x') (x.hh.free hD) m
theorem gv_lcT {α β : Type} [DecidableEq α] [Enc α] [DecidableEq β] [Enc β] {xs : List α} {tl : TE} {vs : List Nat} (h : Gv tl Γ B H (.d (.tuple (xs.map enc)))) (hz : xs.length < 16000000) (hv : j ∈ vs) (hnd : vs.Nodup) (p : α → Bool) (f : α → β)
    (ht : ∀ a ∈ xs, ∀ B1 H1, Ext B H B1 H1 → Gt t ((Ow Γ vs).set j (some (.d (enc a)))) B1 H1 (p a)) (he : ∀ a ∈ xs, p a = true → ∀ B1 H1, Ext B H B1 H1 → Gv te ((Ow Γ vs).set j (some (.d (enc a)))) B1 H1 (.d (enc (f a)))) :
    Gv (tLc (iTup K tl) (gName j) t te vs) Γ B H (.d (.list (((xs.filter p).map f).map enc))) := (gm_lcT h hz hv hnd p f ht he).gv
theorem gm_lcR {β : Type} [DecidableEq β] [Enc β] {ta : TA} {n : Int} {vs : List Nat} (h : Ga ta Γ B H [AI n]) (hn : n ≤ 1000000) (hn0 : -1000000 ≤ n) (hv : j ∈ vs) (hnd : vs.Nodup) (p : Nat → Bool) (f : Nat → β)
    (ht : ∀ k : Nat, k < n.toNat → ∀ B1 H1, Ext B H B1 H1 → Gt t ((Ow Γ vs).set j (some (AI (k : Int)))) B1 H1 (p k)) (he : ∀ k : Nat, k < n.toNat → p k = true → ∀ B1 H1, Ext B H B1 H1 → Gv te ((Ow Γ vs).set j (some (AI (k : Int)))) B1 H1 (.d (enc (f k)))) :
    Gm (tLc (iRng1 ta) (gName j) t te vs) Γ B H ((((List.range n.toNat).filter p).map f).map enc) := fun B0 H0 σ e fr Q q =>
  h B0 H0 σ e fr _ fun us Bs Hs x hu => by
    cases hu with
    | cons hu t0 =>
      cases t0
      cases hu
      refine ⟨n, rfl, by omega, by omega, fun Dl hD => ?_⟩
      have hbs : Bs Dl = none := x.bh.free hD
      refine lc_range (lo := 0) (n := n.toNat) (fun k => Cq Bs Dl ((((List.range k).filter p).map f).map enc) Bs Hs) ⟨Bs, Same.refl _, Ext.out x.bh hD, hbs, [], upd_same, .nil⟩ ?_ ?_
      · rintro k H' hk ⟨B', s1, x', m⟩
        have e0 : (0 : Int) + (k : Int) = (k : Int) := Int.zero_add _
        show gName j (V.int ((0 : Int) + (k : Int))) _ H' _
        rw [e0]
        have fr1 : Fr B' ((wipe σ vs).set j (some (.int (k : Int)))) ((Ow Γ vs).set j (some (AI (k : Int)))) := ((fr.mono (x.bb.trans s1)).wipe vs).set (g := AI (k : Int)) j (.int _)
        have eB : Ext B0 H0 B' H' := x.trans x'
        refine ⟨wipe_set hv hnd, ht k hk B' H' (e.trans eB) B' H' _ (Ext.refl x'.bh) fr1 _ fun B2 H2 x2 => ?_⟩
        cases pa : p k with
        | true =>
          rw [if_pos rfl]
          refine he k hk pa B2 H2 ((e.trans eB).trans x2) B2 H2 _ (Ext.refl x2.bh) (fr1.mono x2.bb) _ fun w B3 H3 x3 hw => ?_
          obtain ⟨hb, acc, ha, t3⟩ := (m.ext x2).ext x3
          have xx := (x'.trans x2).trans x3
          refine ⟨acc, ha, szl ?_, B3, s1.trans (x2.bb.trans x3.bb), xx.mut hD hb, hb, _, upd_same, ?_⟩
          · rw [t3.length, List.length_map, List.length_map]
            have h1 := List.length_filter_le p (List.range k)
            rw [List.length_range] at h1
            omega
          · have hh : ((List.range (k + 1)).filter p).map f = ((List.range k).filter p).map f ++ [f k] := by
              rw [List.range_succ, List.filter_append, List.map_append]
              congr 1
              simp [List.filter_cons, pa]
            rw [hh, List.map_append]
            exact t3.append (.one hw)
        | false =>
          rw [if_neg (by simp)]
          refine ⟨B2, s1.trans x2.bb, x'.trans x2, ?_⟩
          have hh : ((List.range (k + 1)).filter p).map f = ((List.range k).filter p).map f := by
            rw [List.range_succ, List.filter_append, List.map_append]
            simp [List.filter_cons, pa]
          rw [hh]
          exact m.ext x2
      · rintro H' ⟨B', s1, x', m⟩
        exact q Dl B' H' (x.trans x') (x.hh.free hD) m

theorem gv_lcR {β : Type} [DecidableEq β] [Enc β] {ta : TA} {n : Int} {vs : List Nat} (h : Ga ta Γ B H [AI n]) (hn : n ≤ 1000000) (hn0 : -1000000 ≤ n) (hv : j ∈ vs) (hnd : vs.Nodup) (p : Nat → Bool) (f : Nat → β)
    (ht : ∀ k : Nat, k < n.toNat → ∀ B1 H1, Ext B H B1 H1 → Gt t ((Ow Γ vs).set j (some (AI (k : Int)))) B1 H1 (p k)) (he : ∀ k : Nat, k < n.toNat → p k = true → ∀ B1 H1, Ext B H B1 H1 → Gv te ((Ow Γ vs).set j (some (AI (k : Int)))) B1 H1 (.d (enc (f k)))) :
    Gv (tLc (iRng1 ta) (gName j) t te vs) Γ B H (.d (.list ((((List.range n.toNat).filter p).map f).map enc))) := (gm_lcR h hn hn0 hv hnd p f ht he).gv
/-! the promises -/
/-- nothing is changed, the answer is data by the arguments -/
def spP {T : Type} (args : T → List AV) (pre : T → Hp → Hp → Prop) (res : T → AV) : Sp := fun vs H Q _ =>
  ∃ (a : T) (B : Hp), Same B H ∧ IsAll B vs (args a) ∧ pre a B H ∧ ∀ u B2 H2, Ext B H B2 H2 → Is B2 u (res a) → Q u H2
theorem gv_call {T : Type} {args : T → List AV} {pre : T → Hp → Hp → Prop} {res : T → AV} {E : XK} {tr : TA} (a : T) (h : Ga tr Γ B H (args a)) (hp : ∀ B1 H1, Ext B H B1 H1 → pre a B1 H1) : Gv (tCall (spP args pre res) [] E tr) Γ B H (res a) := fun B1 H1 σ e f Q q =>
  h B1 H1 σ e f _ fun us B2 H2 e2 hu => ⟨a, B2, e2.bh, by rw [List.append_nil]; exact hu, hp B2 H2 (e.trans e2), fun u B3 H3 e3 h3 => q u B3 H3 (e2.trans e3) h3⟩
/-- .. or it raises an error of a class -/
def spR {T : Type} (args : T → List AV) (pre : T → Hp → Hp → Prop) (res : T → Except Addr AV) : Sp := fun vs H Q E =>
  ∃ (a : T) (B : Hp), Same B H ∧ IsAll B vs (args a) ∧ pre a B H ∧ (∀ u B2 H2 g, res a = .ok g → Ext B H B2 H2 → Is B2 u g → Q u H2) ∧ (∀ B2 H2 C, res a = .error C → Ext B H B2 H2 → E (.ref C) none H2)
def Gx (E : XK) (te : TE) (Γ : List (Option AV)) (B H : Hp) (r : Except Addr AV) : Prop :=
  ∀ B1 H1 σ, Ext B H B1 H1 → Fr B1 σ Γ → ∀ Q : VK, (∀ u B2 H2 g, r = .ok g → Ext B1 H1 B2 H2 → Is B2 u g → Q u H2) → (∀ B2 H2 C, r = .error C → Ext B1 H1 B2 H2 → E (.ref C) none H2) → te σ H1 Q
theorem gx_call {T : Type} {args : T → List AV} {pre : T → Hp → Hp → Prop} {res : T → Except Addr AV} {E : XK} {tr : TA} (a : T) (h : Ga tr Γ B H (args a)) (hp : ∀ B1 H1, Ext B H B1 H1 → pre a B1 H1) : Gx E (tCall (spR args pre res) [] E tr) Γ B H (res a) := fun B1 H1 σ e f Q q qe =>
  h B1 H1 σ e f _ fun us B2 H2 e2 hu => ⟨a, B2, e2.bh, by rw [List.append_nil]; exact hu, hp B2 H2 (e.trans e2), fun u B3 H3 g hg e3 h3 => q u B3 H3 g hg (e2.trans e3) h3, fun B3 H3 C hC e3 => qe B3 H3 C hC (e2.trans e3)⟩
theorem qx_dropX {E : XK} {r : Except Addr AV} (h : Gx E te Γ B H r) (k : ∀ g B2 H2, r = .ok g → Ext B H B2 H2 → Sx tz D Γ B2 H2) (ke : ∀ C B2 H2, r = .error C → Ext B H B2 H2 → E (.ref C) none H2) : Sx (tSeq (tDrop te) tz) D Γ B H := fun e σ f =>
  h B H σ (Ext.refl e) f _ (fun u B2 H2 g hg x hu => k g B2 H2 hg x x.bh _ (f.mono x.bb)) fun B2 H2 C hC x => ke C B2 H2 hC x
theorem qx_asgX {E : XK} {r : Except Addr AV} (h : Gx E te Γ B H r) (k : ∀ g B2 H2, r = .ok g → Ext B H B2 H2 → Sx tz D (Γ.set i (some g)) B2 H2) (ke : ∀ C B2 H2, r = .error C → Ext B H B2 H2 → E (.ref C) none H2) : Sx (tSeq (tAsg te (gName i)) tz) D Γ B H := fun e σ f =>
  h B H σ (Ext.refl e) f _ (fun u B2 H2 g hg x hu => k g B2 H2 hg x x.bh _ ((f.mono x.bb).set i hu)) fun B2 H2 C hC x => ke C B2 H2 hC x
theorem qx_retX {E : XK} {r : Except Addr AV} (h : Gx E te Γ B H r) (k : ∀ u g B2 H2, r = .ok g → Ext B H B2 H2 → Is B2 u g → D.rt u H2) (ke : ∀ C B2 H2, r = .error C → Ext B H B2 H2 → E (.ref C) none H2) : Sx (tSeq (tRet te) tz) D Γ B H := fun e σ f =>
  h B H σ (Ext.refl e) f _ (fun u B2 H2 g hg x hu => k u g B2 H2 hg x hu) fun B2 H2 C hC x => ke C B2 H2 hC x
/-- a frame at its start -/
theorem fr_start {N : List Str} {us : List V} {gs : List AV} (h : IsAll B us gs) (hl : us.length ≤ N.length) : Fr B (L2.start N us) (gs.map some ++ List.replicate (N.length - gs.length) none) := by
  have hl2 := h.length
  refine ⟨by simp [L2.start, hl2], fun i g q => ?_⟩
  have key : ∀ {us : List V} {gs : List AV}, IsAll B us gs → ∀ (i : Nat) (g : AV), gs[i]? = some g → ∃ u, us[i]? = some u ∧ Is B u g := by
    intro us gs h
    induction h with
    | nil => intro i g q; simp at q
    | cons h _ ih =>
      intro i g q
      cases i with
      | zero => simp at q; subst q; exact ⟨_, rfl, h⟩
      | succ i => exact ih i g (by simpa using q)
  by_cases hi : i < gs.length
  · rw [List.getElem?_append_left (by simpa using hi), List.getElem?_map] at q
    cases e : gs[i]? with
    | none => rw [e] at q; cases q
    | some g' =>
      rw [e] at q
      cases q
      obtain ⟨u, h1, h2⟩ := key h i g e
      refine ⟨u, ?_, h2⟩
      unfold L2.start
      rw [List.getElem?_append_left (by simpa [hl2] using hi), List.getElem?_map, h1]
      rfl
  · rw [List.getElem?_append_right (by simpa using hi)] at q
    rw [List.getElem?_replicate] at q
    split at q <;> cases q
end
end SB
namespace SB
open PySem PySem.Spec PyProof.Rows L2
open Enc (enc)

/-! ### Le, slot by slot -/
theorem le_nil : Le [] [] := ⟨rfl, fun _ _ h => by simp at h⟩
theorem le_keep {o : Option AV} {Δ Γ : List (Option AV)} (h : Le Δ Γ) : Le (o :: Δ) (o :: Γ) := ⟨congrArg (· + 1) h.1, fun i g q => by
  cases i with
  | zero => exact q
  | succ i => exact h.2 i g (by simpa using q)⟩
theorem le_drop {o : Option AV} {Δ Γ : List (Option AV)} (h : Le Δ Γ) : Le (none :: Δ) (o :: Γ) := ⟨congrArg (· + 1) h.1, fun i g q => by
  cases i with
  | zero => simp at q
  | succ i => exact h.2 i g (by simpa using q)⟩
theorem Le.trans {A B C : List (Option AV)} (a : Le A B) (b : Le B C) : Le A C := ⟨a.1.trans b.1, fun i g h => b.2 i g (a.2 i g h)⟩

theorem _root_.L2.Room.u65 {k : Nat} {A : Around} (r : Room k A) : A.units + 65 < cLine := by have := r.un; omega
/-! ### defs that may be called by their names -/
/-- a def, under its name; CX0: nothing is raised -/
structure Cal (P : Program) (w : World) (K : PySem.W.Frag) (mg : Str → Option Value) (base : Heap) (CX : CXT) (k : Nat) (x : Str) (sp : Sp) : Prop where
  ex : ∃ (f : Addr) (fd : FuncData) (ps : List Str), FnOk P w K mg base CX k f fd ps sp ∧ mg x = some (.ref f) ∧ PySem.W.keepIn K (.ref f) = true ∧ Binds K fd ps []
theorem Cal.mono {P : Program} {w : World} {K : PySem.W.Frag} {mg : Str → Option Value} {base : Heap} {CX : CXT} {j k : Nat} {x : Str} {sp : Sp} (c : Cal P w K mg base CX j x sp) (h : j ≤ k) : Cal P w K mg base CX k x sp := by
  obtain ⟨f, fd, ps, F, a, b, d⟩ := c.ex
  exact ⟨f, fd, ps, F.mono h, a, b, d⟩
/-- a method of the class at C -/
structure Met (P : Program) (w : World) (K : PySem.W.Frag) (mg : Str → Option Value) (base : Heap) (CX : CXT) (k : Nat) (C : Addr) (m : Str) (sp : Sp) : Prop where
  ex : ∃ (f : Addr) (fd : FuncData) (ps : List Str), FnOk P w K mg base CX k f fd ps sp ∧ Meth K C m f ∧ Binds K fd ps []
/-- a class, by its name: its __init__ -/
structure Mak (P : Program) (w : World) (K : PySem.W.Frag) (mg : Str → Option Value) (base : Heap) (CX : CXT) (k : Nat) (x : Str) (C : Addr) (sp : Sp) : Prop where
  ex : ∃ (f : Addr) (fd : FuncData) (ps : List Str), FnOk P w K mg base CX k f fd ps sp ∧ mg x = some (.ref C) ∧ Mk K C f ∧ Binds K fd ps []
section
variable {X : Cx} {k j : Nat} {C : Addr} {x m : Str} {sp : Sp} {E : XK} {CX : CXT} {W : WX} {p pos apos : Pos} {e o : Expr} {es : List Expr} {ta : TE} {t : TA}
theorem pe_cal (c : Cal X.prog X.w X.K X.mg X.base CX k x sp) (hr : Room j X.A) (hk : k ≤ j) (hg : Gl X x) (hx : Passes CX X E) (ha : PA X (e :: es) t)
    (hdb : (x == ("__debug__" : Str)) = false := by decide) (he : starEach (e :: es) X.env = (false, eval e X.env) :: starEach es X.env := by rfl) (hpl : (backTo pos (starEach es X.env)).any (·.1) = false := by rfl) :
    PE X (.Call (.Name x p) (e :: es) [] pos) (tCall sp [] E t) := by
  obtain ⟨f, fd, ps, F, hm, kp, b⟩ := c.ex
  exact pe_call F (hr.mono hk) hg hm kp b .nil hx ha hdb he hpl
/-- .. in the body of a try, or where the exception is told by the slots -/
theorem pe_calS {E : L2.St → XK} (c : Cal X.prog X.w X.K X.mg X.base CX k x sp) (hr : Room j X.A) (hk : k ≤ j) (hg : Gl X x) (hx : ∀ σ, PassesAt CX X σ (E σ)) (ha : PA X (e :: es) t)
    (hdb : (x == ("__debug__" : Str)) = false := by decide) (he : starEach (e :: es) X.env = (false, eval e X.env) :: starEach es X.env := by rfl) (hpl : (backTo pos (starEach es X.env)).any (·.1) = false := by rfl) :
    PE X (.Call (.Name x p) (e :: es) [] pos) (tCallS sp E t) := by
  obtain ⟨f, fd, ps, F, hm, kp, b⟩ := c.ex
  exact pe_callS F (hr.mono hk) hg hm kp b hx ha hdb he hpl
theorem pe_met {pl : Sem Bool} (c : Met X.prog X.w X.K X.mg X.base CX k C m sp) (cl : Cls X.K C) (hr : Room j X.A) (hk : k ≤ j) (hx : Passes CX X E) (he : PE X o ta) (ha : PA X (e :: es) t)
    (hst : starEach (e :: es) X.env = (false, eval e X.env) :: starEach es X.env := by rfl) (hpl : (backTo pos (starEach es X.env)).any (·.1) = false := by rfl)
    (ht : eval (.Call (.Attribute o m apos) (e :: es) [] pos) X.env = (do
      let ov ← eval o X.env
      standAt apos.atName
      let (f, first) ← holding [ov] (getMethod ov m pl)
      callWith pos f first (backTo pos (starEach (e :: es) X.env)) (backToKw pos (keywordEach [] X.env))) := by rfl) :
    PE X (.Call (.Attribute o m apos) (e :: es) [] pos) (tMeth C m sp [] E ta t) := by
  obtain ⟨f, fd, ps, F, hm, b⟩ := c.ex
  exact pe_meth (pl := pl) he cl hm F (hr.mono hk) b .nil hx ha hst hpl ht
theorem pe_met0 {pl : Sem Bool} (c : Met X.prog X.w X.K X.mg X.base CX k C m sp) (cl : Cls X.K C) (hr : Room j X.A) (hk : k ≤ j) (hx : Passes CX X E) (he : PE X o ta)
    (ht : eval (.Call (.Attribute o m apos) [] [] pos) X.env = (do
      let ov ← eval o X.env
      standAt apos.atName
      let (f, first) ← holding [ov] (getMethod ov m pl)
      callWith pos f first (backTo pos (starEach [] X.env)) (backToKw pos (keywordEach [] X.env))) := by rfl) :
    PE X (.Call (.Attribute o m apos) [] [] pos) (tMeth C m sp [] E ta tNil) := by
  obtain ⟨f, fd, ps, F, hm, b⟩ := c.ex
  exact pe_meth0 (pl := pl) he cl hm F (hr.mono hk) b .nil hx ht
theorem pe_mak (c : Mak X.prog X.w X.K X.mg X.base CX k x C sp) (hr : Room j X.A) (hk : k + 1 ≤ j) (hg : Gl X x) (hx : Passes CX X E) (ha : PA X (e :: es) t)
    (hdb : (x == ("__debug__" : Str)) = false := by decide) (he : starEach (e :: es) X.env = (false, eval e X.env) :: starEach es X.env := by rfl) (hpl : (backTo pos (starEach es X.env)).any (·.1) = false := by rfl) :
    PE X (.Call (.Name x p) (e :: es) [] pos) (tMake C sp [] E t) := by
  obtain ⟨f, fd, ps, F, hm, M, b⟩ := c.ex
  exact pe_make M F (hr.mono hk) hg hm b .nil hx ha hdb he hpl
/-- nothing raised goes out of a def that raises nothing -/
theorem passN : Passes CX0 X E0 := fun _ _ _ _ _ _ _ h => h.elim
theorem passX (tk : Takes X (fun cls d _ H => E cls d H)) : Passes (L2.CX X.prog X.w) X E := fun pins σ H s e s' I c => passes_call tk (fun _ _ _ _ h => h) pins σ H s e s' I c
end

/-! ### a def by its body -/
abbrev Γ0 (N : List Str) (gs : List AV) : List (Option AV) := gs.map some ++ List.replicate (N.length - gs.length) none
section
variable {P : Program} {w : World} {K : PySem.W.Frag} {mg : Str → Option Value} {base : Heap} {x qual : Str} {st : Stmt} {f : Addr} {fd : FuncData} {N ps : List Str} {k : Nat} {T : Type}
theorem take_len {N ps : List Str} (h : N.take ps.length = ps) : ps.length ≤ N.length := by
  have := congrArg List.length h
  rw [List.length_take] at this
  omega
theorem fn_P {args : T → List AV} {pre : T → Hp → Hp → Prop} {res : T → AV} (F : Fun K x qual st f fd) (S : FnScope N ps (defScope st)) (hl : ∀ a, (args a).length = ps.length)
    (body : ∀ (cdv : Value) (A : Around) (outer : List Env) (s : Shared) (H : Hp) (Q : VK) (E : XK), Room k (A.deeper (envOfC qual (defScope st) s.heap.objs.size f cdv)) →
      ∃ t, PSs (cxOf CX0 P w K mg base N qual (defScope st) f cdv A outer s H E).nox (defBody st) t ∧ ∀ (a : T) (B : Hp), Same B H → pre a B H → (∀ u B2 H2, Ext B H B2 H2 → Is B2 u (res a) → Q u H2) → Sx t { nx := fun _ H' => Q .non H', rt := Q } (Γ0 N (args a)) B H) :
    FnOk P w K mg base CX0 (k + 1) f fd ps (spP args pre res) := by
  refine F.ok S (fun vs H Q E h => ?_) (fun cdv A outer s H vs Q E hr h => ?_)
  · obtain ⟨a, B, _, i, _⟩ := h
    rw [i.length, hl]
  · obtain ⟨a, B, e, i, p, q⟩ := h
    obtain ⟨t, h1, h2⟩ := body cdv A outer s H Q E hr
    refine ⟨t, h1, h2 a B e p q e _ (fr_start i ?_)⟩
    rw [i.length, hl]
    exact take_len S.pre
theorem fn_R {args : T → List AV} {pre : T → Hp → Hp → Prop} {res : T → Except Addr AV} (F : Fun K x qual st f fd) (S : FnScope N ps (defScope st)) (hl : ∀ a, (args a).length = ps.length)
    (body : ∀ (cdv : Value) (A : Around) (outer : List Env) (s : Shared) (H : Hp) (Q : VK) (E : XK), Room k (A.deeper (envOfC qual (defScope st) s.heap.objs.size f cdv)) →
      ∃ t, PSs (cxOf (L2.CX P w) P w K mg base N qual (defScope st) f cdv A outer s H E) (defBody st) t ∧ ∀ (a : T) (B : Hp), Same B H → pre a B H → (∀ u B2 H2 g, res a = .ok g → Ext B H B2 H2 → Is B2 u g → Q u H2) → (∀ B2 H2 C, res a = .error C → Ext B H B2 H2 → E (.ref C) none H2) →
        Sx t { nx := fun _ H' => Q .non H', rt := Q } (Γ0 N (args a)) B H) :
    FnOk P w K mg base (L2.CX P w) (k + 1) f fd ps (spR args pre res) := by
  refine F.okX S (fun vs H Q E h => ?_) (fun cdv A outer s H vs Q E hr h => ?_)
  · obtain ⟨a, B, _, i, _⟩ := h
    rw [i.length, hl]
  · obtain ⟨a, B, e, i, p, q, qe⟩ := h
    obtain ⟨t, h1, h2⟩ := body cdv A outer s H Q E hr
    refine ⟨t, h1, h2 a B e p q qe e _ (fr_start i ?_)⟩
    rw [i.length, hl]
    exact take_len S.pre
theorem Fun.cal {CX : CXT} {sp : Sp} (F : Fun K x x st f fd) (hm : mg x = some (.ref f)) (b : Binds K fd ps []) (G : FnOk P w K mg base CX k f fd ps sp) : Cal P w K mg base CX k x sp := ⟨f, fd, ps, G, hm, F.kp, b⟩
end
/-- raise, its reading -/
theorem qx_raise {E : XK} {cls : Value} {D : Ends} {Γ : List (Option AV)} {B H : Hp} {tz : TS} (h : Same B H → E cls none H) : Sx (tSeq (fun _ σ H => (fun (_ : L2.St) (H : Hp) (Q : XK) => Q cls none H) σ H fun cls d H' => (fun (cls : Value) (d : Option Addr) (_ : L2.St) (H : Hp) => E cls d H) cls d σ H') tz) D Γ B H := fun e σ f => h e
end SB
namespace SB
open PySem PySem.Spec PyProof.Rows L2
open Enc (enc)
/-! ### how many different items -/
def dd {α : Type} [DecidableEq α] : List α → List α
  | [] => []
  | x :: xs => if x ∈ xs then dd xs else x :: dd xs
theorem mem_dd {α : Type} [DecidableEq α] {a : α} : ∀ {xs : List α}, a ∈ dd xs ↔ a ∈ xs
  | [] => Iff.rfl
  | x :: xs => by
    unfold dd
    split
    · rw [mem_dd, List.mem_cons]
      constructor
      · exact .inr
      · rintro (h | h)
        · subst h; assumption
        · exact h
    · rw [List.mem_cons, List.mem_cons, mem_dd]
theorem nodup_dd {α : Type} [DecidableEq α] : ∀ (xs : List α), (dd xs).Nodup
  | [] => List.nodup_nil
  | x :: xs => by
    unfold dd
    split
    · exact nodup_dd xs
    · exact List.nodup_cons.mpr ⟨fun h => by rw [mem_dd] at h; contradiction, nodup_dd xs⟩
theorem len_dd {α : Type} [DecidableEq α] : ∀ (xs : List α), (dd xs).length ≤ xs.length
  | [] => Nat.le_refl _
  | x :: xs => by
    have ih := len_dd xs
    unfold dd
    split
    · exact Nat.le_succ_of_le ih
    · exact Nat.succ_le_succ ih
theorem dd_iff {α : Type} [DecidableEq α] : ∀ (xs : List α), (dd xs).length = xs.length ↔ xs.Nodup
  | [] => by simp [dd]
  | x :: xs => by
    have ih := dd_iff xs
    have hl := len_dd xs
    rw [List.nodup_cons]
    unfold dd
    split
    · rename_i h
      rw [List.length_cons]
      constructor
      · intro e; omega
      · intro e; exact absurd h e.1
    · rename_i h
      rw [List.length_cons, List.length_cons]
      constructor
      · intro e; exact ⟨h, ih.mp (by omega)⟩
      · intro e; rw [ih.mpr e.2]
theorem nodup_len_le {α : Type} [DecidableEq α] : ∀ (l D : List α), l.Nodup → (∀ x ∈ l, x ∈ D) → l.length ≤ D.length
  | [], _, _, _ => Nat.zero_le _
  | x :: l, D, hn, hs => by
    obtain ⟨h1, h2⟩ := List.nodup_cons.mp hn
    have hx := hs x List.mem_cons_self
    have ih := nodup_len_le l (D.erase x) h2 fun y hy => (List.mem_erase_of_ne (by rintro rfl; exact h1 hy)).mpr (hs y (List.mem_cons_of_mem _ hy))
    rw [List.length_erase_of_mem hx] at ih
    have : 0 < D.length := List.length_pos_of_mem hx
    rw [List.length_cons]
    omega
/-- how many different items -/
def nset {α : Type} [DecidableEq α] (xs : List α) : Nat := (dd xs).length
theorem nset_of {α : Type} [DecidableEq α] {l xs : List α} (hn : l.Nodup) (hm : ∀ x, x ∈ l ↔ x ∈ xs) : l.length = nset xs :=
  Nat.le_antisymm (nodup_len_le l (dd xs) hn fun x hx => mem_dd.mpr ((hm x).mp hx)) (nodup_len_le (dd xs) l (nodup_dd xs) fun x hx => (hm x).mpr (mem_dd.mp hx))
theorem nset_iff {α : Type} [DecidableEq α] (xs : List α) : nset xs = xs.length ↔ xs.Nodup := dd_iff xs
theorem nset_le {α : Type} [DecidableEq α] (xs : List α) : nset xs ≤ xs.length := len_dd xs
theorem firstMet_nd (val : Nat → Int) : ∀ i, (firstMet val i).Nodup
  | 0 => by rw [firstMet_zero]; exact List.nodup_nil
  | i + 1 => by
    rw [firstMet_succ]
    unfold step_dedup
    split
    · exact firstMet_nd val i
    · rename_i h
      rw [List.nodup_append]
      refine ⟨firstMet_nd val i, by simp, ?_⟩
      intro a ha b hb e
      simp at hb
      subst hb
      subst e
      exact h (List.any_eq_true.mpr ⟨_, ha, by simp⟩)
theorem firstMet_len (ns : List Int) : (firstMet (fun i => ns.getD i 0) ns.length).length = nset ns := by
  refine nset_of (firstMet_nd _ _) fun x => ?_
  have h := firstMet_any (fun i => ns.getD i 0) ns.length x
  have e : (List.range ns.length).map (fun i => ns.getD i 0) = ns := by
    refine List.ext_getElem (by simp) fun i h1 h2 => ?_
    simp [List.getElem?_eq_getElem h2]
  rw [e] at h
  have a1 : x ∈ firstMet (fun i => ns.getD i 0) ns.length ↔ (firstMet (fun i => ns.getD i 0) ns.length).any (· == x) = true := by
    rw [List.any_eq_true]
    constructor
    · intro q; exact ⟨x, q, by simp⟩
    · rintro ⟨y, q, r⟩
      rw [beq_iff_eq] at r
      exact r ▸ q
  have a2 : x ∈ ns ↔ ns.any (· == x) = true := by
    rw [List.any_eq_true]
    constructor
    · intro q; exact ⟨x, q, by simp⟩
    · rintro ⟨y, q, r⟩
      rw [beq_iff_eq] at r
      exact r ▸ q
  rw [a1, a2, h]
def tLenSetA (K : PySem.W.Frag) (ta : TE) : TE := fun σ H Q => ta σ H fun x H1 => ∃ (l : Addr) (ns : List Int), x = .ref l ∧ SqL K H1 l (ns.map V.int) ∧ ns.length ≤ 4000 ∧ Q (.int (nset ns : Nat)) H1
theorem pe_lenSetI {X : Cx} {a : Expr} {ta : TE} {p p2 q pos : Pos} (hg : Gl X "len") (hm : X.mg "len" = none) (hg2 : Gl X "set") (hm2 : X.mg "set" = none) (ha : PE X a ta) (hc : X.calm = true := by rfl)
    (na : starEach [a] X.env = (false, eval a X.env) :: starEach [] X.env := by rfl) : PE X (.Call (.Name "len" p) [.Call (.Name "set" p2) [a] [] q] [] pos) (tLenSetA X.K ta) := by
  refine ⟨fun pins s σ H Q I h => ?_⟩
  refine Call_ (ld_blt I hg hm boot_len ?_)
  refine PyProof.Rows.callWith_builtin1 (PyProof.Rows.args_cons ?_ rfl) rfl rfl
  refine Call_ (ld_blt I hg2 hm2 boot_set ?_)
  refine PyProof.Rows.callWith_type1 (PyProof.Rows.args_cons (thn (ha.run pins s σ H _ I h) fun v s1 ⟨x, H1, I1, r1, q1⟩ => PyProof.Rows.args_nil ?_) na) na rfl
  obtain ⟨l, ns, rfl, hq, hl, q1⟩ := q1
  cases r1
  obtain ⟨its, r, pl, hz⟩ := I1.list hq
  have hlen : its.toArray.size = ns.length := by rw [List.size_toArray, ← r.length, List.length_map]
  refine call_set_list (I1.ok.hd hc) pl.isList (by simpa using r.ints) (by rw [hlen]; unfold scanBound; omega) fun h' tk hS hk => ?_
  refine PyProof.Rows.args_nil ?_
  rw [hlen, firstMet_len] at hS
  obtain ⟨o, es, ep, t, ho, hex, hd, _, _, _, hf, hn⟩ := hS
  have hle := nset_le ns
  have I2 : Inv X pins σ H1 { s1 with heap := h', toks := tk } := I1.kept fun b o e => hk b o (Heap.lt_size e) e
  exact call_len_set ho hex hd hf (by rw [hn] <;> omega) ⟨.int (nset ns : Nat), H1, I2.tok _, ⟨_, by rw [hn]⟩, q1⟩

def tLenSetB (K : PySem.W.Frag) (ta : TE) : TE := fun σ H Q => ta σ H fun x H1 => ∃ (l : Addr) (ns : List Int), x = .ref l ∧ SqT K H1 l (ns.map V.int) ∧ ns.length ≤ 4000 ∧ Q (.int (nset ns : Nat)) H1
/-- .. of a tuple of ints -/
theorem pe_lenSetU {X : Cx} {a : Expr} {ta : TE} {p p2 q pos : Pos} (hg : Gl X "len") (hm : X.mg "len" = none) (hg2 : Gl X "set") (hm2 : X.mg "set" = none) (ha : PE X a ta) (hc : X.calm = true := by rfl)
    (na : starEach [a] X.env = (false, eval a X.env) :: starEach [] X.env := by rfl) : PE X (.Call (.Name "len" p) [.Call (.Name "set" p2) [a] [] q] [] pos) (tLenSetB X.K ta) := by
  refine ⟨fun pins s σ H Q I h => ?_⟩
  refine Call_ (ld_blt I hg hm boot_len ?_)
  refine PyProof.Rows.callWith_builtin1 (PyProof.Rows.args_cons ?_ rfl) rfl rfl
  refine Call_ (ld_blt I hg2 hm2 boot_set ?_)
  refine PyProof.Rows.callWith_type1 (PyProof.Rows.args_cons (thn (ha.run pins s σ H _ I h) fun v s1 ⟨x, H1, I1, r1, q1⟩ => PyProof.Rows.args_nil ?_) na) na rfl
  obtain ⟨l, ns, rfl, hq, hl, q1⟩ := q1
  cases r1
  obtain ⟨its, r, pl, hz⟩ := I1.tuple hq
  have hi : IntsAre its.toArray.toList ns := by simpa using r.ints
  refine call_set_tupI (P := X.prog) (w := X.w) ns (I1.ok.hd hc) (show s1.heap.IsTuple l its.toArray from pl) hi (by unfold scanBound; omega) fun h' tk c R1 hcn hk => ?_
  refine PyProof.Rows.args_nil ?_
  obtain ⟨o, es, ep, t, ho, hex, hd, g, nd, hm2, hb, hf, hn, _, _⟩ := R1
  have hlen : es.size = nset ns := by
    have h1 := nset_of (l := es.toList.map keyOf) (xs := ns) nd fun x => by
      rw [← hm2 x, decide_eq_true_eq]
    rw [List.length_map, Array.length_toList] at h1
    exact h1
  have I2 : Inv X pins σ H1 { s1 with heap := h', toks := tk } := I1.kept fun b o e => hk b o e
  exact call_len_set ho hex hd hf (by rw [hlen]; have := nset_le ns; omega) ⟨.int (nset ns : Nat), H1, I2.tok _, ⟨_, by rw [hlen]⟩, q1⟩
/-- .. of a list of tuples of ints -/
def tLenSetC (K : PySem.W.Frag) (ta : TE) : TE := fun σ H Q => ta σ H fun x H1 => ∃ (l : Addr) (ks : List (Addr × List Int)), x = .ref l ∧ SqL K H1 l (ks.map fun p => V.ref p.1) ∧ (∀ p ∈ ks, SqT K H1 p.1 (p.2.map V.int)) ∧ ks.length < 64 ∧ Q (.int (nset (ks.map (·.2)) : Nat)) H1
theorem pe_lenSetT {X : Cx} {a : Expr} {ta : TE} {p p2 q pos : Pos} (hu : X.A.units + 64 < cLine) (hg : Gl X "len") (hm : X.mg "len" = none) (hg2 : Gl X "set") (hm2 : X.mg "set" = none) (ha : PE X a ta) (hc : X.calm = true := by rfl)
    (na : starEach [a] X.env = (false, eval a X.env) :: starEach [] X.env := by rfl) : PE X (.Call (.Name "len" p) [.Call (.Name "set" p2) [a] [] q] [] pos) (tLenSetC X.K ta) := by
  refine ⟨fun pins s σ H Q I h => ?_⟩
  refine Call_ (ld_blt I hg hm boot_len ?_)
  refine PyProof.Rows.callWith_builtin1 (PyProof.Rows.args_cons ?_ rfl) rfl rfl
  refine Call_ (ld_blt I hg2 hm2 boot_set ?_)
  refine PyProof.Rows.callWith_type1 (PyProof.Rows.args_cons (thn (ha.run pins s σ H _ I h) fun v s1 ⟨x, H1, I1, r1, q1⟩ => PyProof.Rows.args_nil ?_) na) na rfl
  obtain ⟨l, ks, rfl, hq, hk, hl, q1⟩ := q1
  cases r1
  obtain ⟨its, rv, pl, hz⟩ := I1.list hq
  refine call_set_tups (P := X.prog) (w := X.w) ks (I1.ok.hd hc) pl.isList (by simpa using refs_of_vals rv) (fun p hp => I1.isT (hk p hp)) hl (by omega) fun h' tk L es ep t R g kk => ?_
  refine PyProof.Rows.args_nil ?_
  have hlen : L.length = nset (ks.map (·.2)) := by
    have h1 := nset_of (l := L.map (·.2)) (xs := ks.map (·.2)) R.nd fun x => by
      constructor
      · intro hx
        obtain ⟨p, hp, e⟩ := List.mem_map.mp hx
        exact List.mem_map.mpr ⟨p, List.mem_of_mem_take (g.sub p hp), e⟩
      · intro hx
        obtain ⟨p, hp, e⟩ := List.mem_map.mp hx
        have := g.all p (by rw [List.take_length]; exact hp)
        rw [← e]
        exact this
    rw [List.length_map] at h1
    exact h1
  have I2 : Inv X pins σ H1 { s1 with heap := h', toks := tk } := I1.kept kk
  obtain ⟨o, ho, hex, hd⟩ := R.ob
  have R' : SetTR X.prog X.w ({ s1 with heap := h', toks := tk } : Shared).heap s1.heap.objs.size L es ep t := R
  have hsz := SetTR.size R'
  exact call_len_set ho hex hd (SetTR.fits R') (by rw [hsz]; have := R.few; omega) ⟨.int (nset (ks.map (·.2)) : Nat), H1, I2.tok _, ⟨_, by rw [hsz, hlen]⟩, q1⟩

section
variable {K : PySem.W.Frag} {Γ : List (Option AV)} {B H B' H' : Hp} {g x y z : AV} {te ta tb tc : TE} {t u : TT} {b c : Bool} {i j : Int}
theorem gv_lenSetI {ns : List Int} (h : Gv ta Γ B H (.d (.list (ns.map enc)))) (hz : ns.length ≤ 4000) : Gv (tLenSetA K ta) Γ B H (AI (nset ns : Nat)) := fun B1 H1 σ e f Q q => h B1 H1 σ e f _ fun u B2 H2 e2 hu => by
  cases hu with
  | lst hp t => exact ⟨_, ns, rfl, by rw [← DqAll.ints t]; exact SqL.of (e2.bh _ _ hp), hz, q _ B2 H2 e2 (.int _)⟩
theorem gv_lenSetU {ns : List Int} (h : Gv ta Γ B H (.d (.tuple (ns.map enc)))) (hz : ns.length ≤ 4000) : Gv (tLenSetB K ta) Γ B H (AI (nset ns : Nat)) := fun B1 H1 σ e f Q q => h B1 H1 σ e f _ fun u B2 H2 e2 hu => by
  cases hu with
  | tup hp t => exact ⟨_, ns, rfl, by rw [← DqAll.ints t]; exact SqT.of (e2.bh _ _ hp), hz, q _ B2 H2 e2 (.int _)⟩
theorem dq_pairs : ∀ {us : List V} {ps : List (Int × Int)}, DqAll B us (ps.map enc) → ∃ ks : List (Addr × List Int), us = ks.map (fun p => V.ref p.1) ∧ ks.map (·.2) = ps.map (fun p => [p.1, p.2]) ∧ ∀ p ∈ ks, B p.1 = some (.tup (p.2.map V.int))
  | _, [], h => by cases h; exact ⟨[], rfl, rfl, fun _ h => by simp at h⟩
  | _, (a, c) :: ps, h => by
    cases h with
    | cons h t =>
      obtain ⟨ks, e1, e2, e3⟩ := dq_pairs t
      cases h with
      | tup hp tt =>
        cases tt with
        | cons h1 tt =>
          cases tt with
          | cons h2 tt =>
            cases tt
            cases h1
            cases h2
            refine ⟨(_, [a, c]) :: ks, by rw [e1]; rfl, by rw [List.map_cons, e2]; rfl, fun p hp' => ?_⟩
            rcases List.mem_cons.mp hp' with q | q
            · subst q; exact hp
            · exact e3 p q
theorem nset_inj {α β : Type} [DecidableEq α] [DecidableEq β] {f : α → β} (hf : ∀ a b, f a = f b → a = b) : ∀ xs : List α, nset (xs.map f) = nset xs
  | [] => rfl
  | x :: xs => by
    have ih := nset_inj hf xs
    unfold nset at ih ⊢
    rw [List.map_cons]
    unfold dd
    by_cases h : x ∈ xs
    · rw [if_pos h, if_pos (List.mem_map.mpr ⟨x, h, rfl⟩), ih]
    · rw [if_neg h, if_neg (fun q => by
        obtain ⟨y, hy, e⟩ := List.mem_map.mp q
        exact h (hf _ _ e ▸ hy)), List.length_cons, List.length_cons, ih]
theorem gv_lenSetT {ps : List (Int × Int)} (h : Gv ta Γ B H (.d (.list (ps.map enc)))) (hz : ps.length < 64) : Gv (tLenSetC K ta) Γ B H (AI (nset ps : Nat)) := fun B1 H1 σ e f Q q => h B1 H1 σ e f _ fun u B2 H2 e2 hu => by
  cases hu with
  | lst hp t =>
    obtain ⟨ks, h1, h2, h3⟩ := dq_pairs t
    have hl : ks.length = ps.length := by
      have := congrArg List.length h2
      simpa using this
    refine ⟨_, ks, rfl, by rw [← h1]; exact SqL.of (e2.bh _ _ hp), fun p hp' => SqT.of (e2.bh _ _ (h3 p hp')), by omega, ?_⟩
    rw [h2, nset_inj (f := fun p : Int × Int => [p.1, p.2]) (fun a b e => by
      cases a
      cases b
      simp at e
      simp [e])]
    exact q _ B2 H2 e2 (.int _)
/-- a op b op c, ints -/
theorem gv_chain {r r' : R2} (ha : Gv ta Γ B H x) (hb : Gv tb Γ B H y) (hc : Gv tc Γ B H z) (h1 : Ro r B H x y (AB b)) (h2 : Ro r' B H y z (AB c)) : Gv (tChain r r' ta tb tc) Γ B H (AB (b && c)) := fun B1 H1 σ e f Q q =>
  ha B1 H1 σ e f _ fun u B2 H2 e2 hu => hb B2 H2 σ (e.trans e2) (f.mono e2.bb) _ fun w B3 H3 e3 hw =>
    h1 B3 H3 u w ((e.trans e2).trans e3) (hu.mono e3.bb) hw _ fun k B4 H4 e4 hk => by
      cases hk
      refine ⟨b, rfl, ?_⟩
      cases b with
      | true =>
        show tc σ H4 _
        exact hc B4 H4 σ (((e.trans e2).trans e3).trans e4) (((f.mono e2.bb).mono e3.bb).mono e4.bb) _ fun v B5 H5 e5 hv =>
          h2 B5 H5 w v ((((e.trans e2).trans e3).trans e4).trans e5) ((hw.mono e4.bb).mono e5.bb) hv Q fun k B6 H6 e6 hk => q k B6 H6 ((((e2.trans e3).trans e4).trans e5).trans e6) hk
      | false =>
        show Q (.bl false) H4
        exact q _ B4 H4 ((e2.trans e3).trans e4) (.bl false)
/-- truth of data -/
theorem gt_truL {ds : List PyData} (h : Gv ta Γ B H (.d (.list ds))) : Gt (fun σ H Q => ta σ H fun x H' => ∃ k, TruV K x H' k ∧ Q k H') Γ B H (!ds.isEmpty) := fun B1 H1 σ e f Q q => h B1 H1 σ e f _ fun u B2 H2 e2 hu => by
  cases hu with
  | lst hp t =>
    refine ⟨!ds.isEmpty, .inl ⟨_, SqL.of (e2.bh _ _ hp), ?_⟩, q B2 H2 e2⟩
    cases t <;> rfl
theorem gt_truB (h : Gv ta Γ B H (AB b)) : Gt (fun σ H Q => ta σ H fun x H' => ∃ k, TruV K x H' k ∧ Q k H') Γ B H b := fun B1 H1 σ e f Q q => h B1 H1 σ e f _ fun u B2 H2 e2 hu => by
  cases hu
  exact ⟨b, rfl, q B2 H2 e2⟩
/-- xs.count(n) -/
theorem gv_countI {ns : List Int} {n : Int} (ha : Gv ta Γ B H (.d (.list (ns.map enc)))) (hb : Gv tb Γ B H (AI n)) : Gv (tBM K "list" (rCntI K) ta (tCons tb tNil)) Γ B H (AI (ns.count n : Nat)) := fun B1 H1 σ e f Q q => ha B1 H1 σ e f _ fun u B2 H2 e2 hu => by
  cases hu with
  | lst hp t =>
    refine ⟨Or.inl ⟨rfl, _, SqL.of (e2.bh _ _ hp)⟩, ?_⟩
    refine hb B2 H2 σ (e.trans e2) (f.mono e2.bb) _ fun w B3 H3 e3 hw => ?_
    cases hw
    refine ⟨_, ns, n, rfl, rfl, ?_, q _ B3 H3 (e2.trans e3) (.int _)⟩
    rw [← DqAll.ints t]
    exact SqL.of (e3.bh _ _ (e3.bb _ _ hp))
end
end SB
namespace SB
open PySem PySem.Spec PyProof.Rows L2
open Enc (enc)
section
variable {K : PySem.W.Frag} {Γ : List (Option AV)} {B H B' H' : Hp} {g x y z : AV} {te ta tb tc tl : TE} {t u : TT} {b c : Bool} {j : Nat} {vs : List Nat} {ta' : TA}
theorem gt_yes : Gt tYes Γ B H true := fun B1 H1 σ e _ Q q => q B1 H1 (Ext.refl e.bh)
theorem filter_yes {α : Type} : ∀ xs : List α, xs.filter (fun _ => true) = xs
  | [] => rfl
  | x :: xs => by rw [List.filter_cons_of_pos rfl, filter_yes xs]
theorem gv_lcM {α β : Type} [DecidableEq α] [Enc α] [DecidableEq β] [Enc β] {xs : List α} (f : α → β) (h : Gv tl Γ B H (.d (.list (xs.map enc)))) (hz : xs.length < 16000000) (hv : j ∈ vs) (hnd : vs.Nodup)
    (he : ∀ a ∈ xs, ∀ B1 H1, Ext B H B1 H1 → Gv te ((Ow Γ vs).set j (some (.d (enc a)))) B1 H1 (.d (enc (f a)))) :
    Gv (tLc (iList K tl) (gName j) tYes te vs) Γ B H (.d (.list ((xs.map f).map enc))) := by
  have q := gv_lcL (K := K) (te := te) (t := tYes) h hz hv hnd (fun _ => true) f (fun _ _ _ _ _ => gt_yes) fun a ha _ B1 H1 x => he a ha B1 H1 x
  rw [filter_yes] at q
  exact q
theorem gv_lcTM {α β : Type} [DecidableEq α] [Enc α] [DecidableEq β] [Enc β] {xs : List α} (f : α → β) (h : Gv tl Γ B H (.d (.tuple (xs.map enc)))) (hz : xs.length < 16000000) (hv : j ∈ vs) (hnd : vs.Nodup)
    (he : ∀ a ∈ xs, ∀ B1 H1, Ext B H B1 H1 → Gv te ((Ow Γ vs).set j (some (.d (enc a)))) B1 H1 (.d (enc (f a)))) :
    Gv (tLc (iTup K tl) (gName j) tYes te vs) Γ B H (.d (.list ((xs.map f).map enc))) := by
  have q := gv_lcT (K := K) (te := te) (t := tYes) h hz hv hnd (fun _ => true) f (fun _ _ _ _ _ => gt_yes) fun a ha _ B1 H1 x => he a ha B1 H1 x
  rw [filter_yes] at q
  exact q
theorem gv_lcRM {β : Type} [DecidableEq β] [Enc β] {n : Int} (f : Nat → β) (h : Ga ta' Γ B H [AI n]) (hn : n ≤ 1000000) (hn0 : -1000000 ≤ n) (hv : j ∈ vs) (hnd : vs.Nodup)
    (he : ∀ k : Nat, k < n.toNat → ∀ B1 H1, Ext B H B1 H1 → Gv te ((Ow Γ vs).set j (some (AI (k : Int)))) B1 H1 (.d (enc (f k)))) :
    Gv (tLc (iRng1 ta') (gName j) tYes te vs) Γ B H (.d (.list (((List.range n.toNat).map f).map enc))) := by
  have q := gv_lcR (te := te) (t := tYes) h hn hn0 hv hnd (fun _ => true) f (fun _ _ _ _ _ => gt_yes) fun a ha _ B1 H1 x => he a ha B1 H1 x
  rw [filter_yes] at q
  exact q
theorem rc_lenM {α : Type} [DecidableEq α] [Enc α] {xs : List α} : Rc (fun xs H Q => ∃ p ys, xs = [.ref p] ∧ (SqL K H p ys ∨ SqT K H p ys) ∧ Q (.int ys.length) H) B H [.d (.list (xs.map enc))] (AI xs.length) := by
  have h := rc_len (K := K) (B := B) (H := H) (ds := xs.map enc)
  rw [List.length_map] at h
  exact h
/-- membership -/
def isin {α : Type} [DecidableEq α] (a : α) (xs : List α) : Bool := decide (a ∈ xs)
theorem isin_iff {α : Type} [DecidableEq α] {a : α} {xs : List α} : isin a xs = true ↔ a ∈ xs := by unfold isin; exact decide_eq_true_iff
theorem isin_no {α : Type} [DecidableEq α] {a : α} {xs : List α} : isin a xs = false ↔ a ∉ xs := by unfold isin; exact decide_eq_false_iff_not
theorem ro_inE {α : Type} [DecidableEq α] [Enc α] {a : α} {xs : List α} (h : Enc.dep α ≤ 60) : Ro (rInD K) B H (.d (enc a)) (.d (.list (xs.map enc))) (AB (isin a xs)) := by
  have q := ro_inD (K := K) (B := B) (H := H) (shaped_enc (α := α) (by omega) a) (shaped_list (α := α) (by omega) xs)
  rw [any_enc] at q
  exact q
theorem ro_notInE {α : Type} [DecidableEq α] [Enc α] {a : α} {xs : List α} (h : Enc.dep α ≤ 60) : Ro (rNotInD K) B H (.d (enc a)) (.d (.list (xs.map enc))) (AB (!isin a xs)) := by
  have q := ro_notInD (K := K) (B := B) (H := H) (shaped_enc (α := α) (by omega) a) (shaped_list (α := α) (by omega) xs)
  rw [any_enc] at q
  exact q
theorem ro_eqE {α : Type} [DecidableEq α] [Enc α] {a b : α} (h : Enc.dep α ≤ 60) : Ro (rEqD K) B H (.d (enc a)) (.d (enc b)) (AB (decide (a = b))) := by
  have q := ro_eqD (K := K) (B := B) (H := H) (shaped_enc (α := α) (by omega) a) (shaped_enc (α := α) (by omega) b)
  rw [Enc.eqv] at q
  exact q
theorem ro_neE {α : Type} [DecidableEq α] [Enc α] {a b : α} (h : Enc.dep α ≤ 60) : Ro (rNeD K) B H (.d (enc a)) (.d (enc b)) (AB (!decide (a = b))) := by
  have q := ro_neD (K := K) (B := B) (H := H) (shaped_enc (α := α) (by omega) a) (shaped_enc (α := α) (by omega) b)
  rw [Enc.eqv] at q
  exact q
theorem atI_map {α : Type} [DecidableEq α] [Enc α] {xs : List α} {k : Nat} {a : α} (h : xs[k]? = some a) : atI (xs.map enc) (k : Int) = some (enc a) := atI_nat (by rw [List.getElem?_map, h]; rfl)
/-- == of ints -/
theorem ro_eqI {i j : Int} : Ro rEq B H (AI i) (AI j) (AB (decide (i = j))) := by
  have h := ro_eq (B := B) (H := H) (d := .int i) (e := .int j) rfl
  rw [show PyData.eqv (.int i) (.int j) = decide (i = j) from by simp only [PyData.eqv]; rw [Bool.eq_iff_iff]; simp] at h
  exact h
theorem ro_neI {i j : Int} : Ro rNe B H (AI i) (AI j) (AB (!decide (i = j))) := by
  have h := ro_ne (B := B) (H := H) (d := .int i) (e := .int j) rfl
  rw [show PyData.eqv (.int i) (.int j) = decide (i = j) from by simp only [PyData.eqv]; rw [Bool.eq_iff_iff]; simp] at h
  exact h
theorem ro_eqS {i j : Str} : Ro rEq B H (AS i) (AS j) (AB (decide (i = j))) := by
  have h := ro_eq (B := B) (H := H) (d := .str i) (e := .str j) rfl
  rw [show PyData.eqv (.str i) (.str j) = decide (i = j) from by simp only [PyData.eqv]; rw [Bool.eq_iff_iff]; simp] at h
  exact h
theorem ro_neS {i j : Str} : Ro rNe B H (AS i) (AS j) (AB (!decide (i = j))) := by
  have h := ro_ne (B := B) (H := H) (d := .str i) (e := .str j) rfl
  rw [show PyData.eqv (.str i) (.str j) = decide (i = j) from by simp only [PyData.eqv]; rw [Bool.eq_iff_iff]; simp] at h
  exact h
/-- the data of an int list under any of its two names -/
theorem ga_nil' : Ga tNil Γ B H [] := ga_nil
end
end SB
namespace SB
open PySem PySem.Spec PyProof.Rows L2
open Enc (enc)
/-! ### the rules that name the written part, with that part told -/
section
variable {X : Cx} {K : PySem.W.Frag} {a b e o value : Expr} {ta tb tv to tl : TE} {es : List Expr} {t : TA} {pos pos' apos cpos : Pos} {f : Str} {tg : Expr} {T id : String} {name : Str} {r : V → List V → Hp → VK → Prop} {p p2 q : Pos}
theorem ix_listK (h : X.K = K) : IxR X (rIxL K) := by subst h; exact ix_list
theorem ix_tupK (h : X.K = K) : IxR X (rIxT K) := by subst h; exact ix_tup
theorem op_inK (h : X.K = K) : OpR X (compareOp .In) (rIn K false) := by subst h; exact op_in_seq
theorem op_notInK (h : X.K = K) : OpR X (compareOp .NotIn) (rIn K true) := by subst h; exact op_notIn_seq
theorem op_eqDK (h : X.K = K) (hu : X.A.units + 64 < cLine) : OpR X (compareOp .Eq) (rEqD K) := by subst h; exact op_eqD hu
theorem op_neDK (h : X.K = K) (hu : X.A.units + 64 < cLine) : OpR X (compareOp .NotEq) (rNeD K) := by subst h; exact op_neD hu
theorem op_inDK (h : X.K = K) (hu : X.A.units + 65 < cLine) : OpR X (compareOp .In) (rInD K) := by subst h; exact op_inD hu
theorem op_notInDK (h : X.K = K) (hu : X.A.units + 65 < cLine) : OpR X (compareOp .NotIn) (rNotInD K) := by subst h; exact op_notInD hu
theorem op_catTK (h : X.K = K) : OpR X (binaryOp .Add) (rCatT K) := by subst h; exact op_catT
abbrev rLenK (K : PySem.W.Frag) : List V → Hp → VK → Prop := fun xs H Q => ∃ p ys, xs = [.ref p] ∧ (SqL K H p ys ∨ SqT K H p ys) ∧ Q (.int ys.length) H
abbrev rListK (K : PySem.W.Frag) : List V → Hp → VK → Prop := fun xs H Q => ∃ p ys, xs = [.ref p] ∧ (SqL K H p ys ∨ SqT K H p ys) ∧ ∀ l, H l = none → Q (.ref l) (upd H l (.lst ys))
abbrev rTupK (K : PySem.W.Frag) : List V → Hp → VK → Prop := fun xs H Q => ∃ p ys, xs = [.ref p] ∧ ((SqL K H p ys ∧ ∀ l, H l = none → Q (.ref l) (upd H l (.tup ys))) ∨ (SqT K H p ys ∧ Q (.ref p) H))
theorem call_lenK (h : X.K = K) : CallR X (.builtin "len") (rLenK K) := by subst h; exact call_len_seq
theorem call_listK (h : X.K = K) : CallR X (.type "list") (rListK K) := by subst h; exact call_list_of
theorem call_tupleK (h : X.K = K) : CallR X (.type "tuple") (rTupK K) := by subst h; exact call_tuple_of
theorem cr_anyK (h : X.K = K) (hc : X.calm = true) : CallR X (.builtin "any") (rAny K) := by subst h; exact cr_any hc
theorem cr_allK (h : X.K = K) (hc : X.calm = true) : CallR X (.builtin "all") (rAll K) := by subst h; exact cr_all hc
theorem sl_listK (h : X.K = K) : SlR X (rSlL K) := by subst h; exact sl_list
theorem sl_tupK (h : X.K = K) : SlR X (rSlT K) := by subst h; exact sl_tup
theorem mt_lcountK (h : X.K = K) : MtR X "list.count" (rCntI K) := by subst h; exact mt_lcount
theorem mt_indexDK (h : X.K = K) (hu : X.A.units + 65 < cLine) : MtR X "list.index" (rIndexD K) := by subst h; exact mt_indexD hu
theorem pe_fldK (h : X.K = K) (he : PE X e ta) (hb : attributeBase e f X.env (eval e X.env) = eval e X.env) : PE X (.Attribute e f pos) (tFld K ta f) := by subst h; exact pe_fld he hb
theorem ps_fldK (h : X.K = K) (ha : PE X o ta) (hv : PE X value tv) (hs : swapsWith value (some (.Attribute o f pos')) pos.line X.env = pure false) : PS X (.Assign [.Attribute o f pos'] value pos) (sFld K ta tv f) := by subst h; exact ps_fld ha hv hs
theorem pi_listK (h : X.K = K) {l : Expr} (hl : PE X l tl) : PI X tg l (iList K tl) := by subst h; exact pi_list hl
theorem pi_tupK (h : X.K = K) {l : Expr} (hl : PE X l tl) : PI X tg l (iTup K tl) := by subst h; exact pi_tup hl
abbrev tTru (K : PySem.W.Frag) (ta : TE) : TT := fun σ H Q => ta σ H fun x H' => ∃ k, TruV K x H' k ∧ Q k H'
theorem pt_truthK (h : X.K = K) (ha : PE X a ta) (he : ∀ whole, isTrue a X.env whole = (do let v ← whole; standAt a.pos; holding [v] (truthy v))) : PT X a (tTru K ta) := by subst h; exact pt_truth ha he
theorem pe_bmK (h : X.K = K) (pa : PlainAttrs T) (slot : Slot T name id) (hty : typeOf (.builtin id) = pure (.type "method_descriptor")) (hm : MtR X id r) (ho : PE X o to) (ha : PA X (e :: es) t)
    (hbase : attributeBase o name X.env (eval o X.env) = eval o X.env := by rfl)
    (hfew : ((backTo cpos (starEach (e :: es) X.env)).all (fun x => !x.1) && (backToKw cpos (keywordEach [] X.env)).all (fun x => x.1.isSome)
      && decide ((e :: es).length + ([] : List Keyword).length + (if ([] : List Keyword).isEmpty then 0 else 1) < 30)) = true := by rfl)
    (hline : (apos.endLine == cpos.line) = true := by rfl) (hs : starEach (e :: es) X.env = (false, eval e X.env) :: starEach es X.env := by rfl) (hplain : (backTo cpos (starEach es X.env)).any (·.1) = false := by rfl) :
    PE X (.Call (.Attribute o name apos) (e :: es) [] cpos) (tBM K T r to t) := by subst h; exact pe_bm pa slot hty hm ho ha hbase hfew hline hs hplain
theorem pe_bm0K (h : X.K = K) (pa : PlainAttrs T) (slot : Slot T name id) (hty : typeOf (.builtin id) = pure (.type "method_descriptor")) (hm : MtR X id r) (ho : PE X o to)
    (hbase : attributeBase o name X.env (eval o X.env) = eval o X.env := by rfl) (hline : (apos.endLine == cpos.line) = true := by rfl) : PE X (.Call (.Attribute o name apos) [] [] cpos) (tBM0 K T r to) := by subst h; exact pe_bm0 pa slot hty hm ho hbase hline
theorem pe_lenSetIK (h : X.K = K) (hg : Gl X "len") (hm : X.mg "len" = none) (hg2 : Gl X "set") (hm2 : X.mg "set" = none) (ha : PE X a ta) (hc : X.calm = true := by rfl)
    (na : starEach [a] X.env = (false, eval a X.env) :: starEach [] X.env := by rfl) : PE X (.Call (.Name "len" p) [.Call (.Name "set" p2) [a] [] q] [] pos) (tLenSetA K ta) := by subst h; exact pe_lenSetI hg hm hg2 hm2 ha hc na
theorem pe_lenSetUK (h : X.K = K) (hg : Gl X "len") (hm : X.mg "len" = none) (hg2 : Gl X "set") (hm2 : X.mg "set" = none) (ha : PE X a ta) (hc : X.calm = true := by rfl)
    (na : starEach [a] X.env = (false, eval a X.env) :: starEach [] X.env := by rfl) : PE X (.Call (.Name "len" p) [.Call (.Name "set" p2) [a] [] q] [] pos) (tLenSetB K ta) := by subst h; exact pe_lenSetU hg hm hg2 hm2 ha hc na
theorem pe_lenSetTK (h : X.K = K) (hu : X.A.units + 64 < cLine) (hg : Gl X "len") (hm : X.mg "len" = none) (hg2 : Gl X "set") (hm2 : X.mg "set" = none) (ha : PE X a ta) (hc : X.calm = true := by rfl)
    (na : starEach [a] X.env = (false, eval a X.env) :: starEach [] X.env := by rfl) : PE X (.Call (.Name "len" p) [.Call (.Name "set" p2) [a] [] q] [] pos) (tLenSetC K ta) := by subst h; exact pe_lenSetT hu hg hm hg2 hm2 ha hc na
theorem pg_tupK (h : X.K = K) {k : Nat} {t : TGs} {n : Nat} (hc : X.calm = true) (hp : PGs X es t)
    (hn : (assignEach es X.env).length = n := by rfl) (hst : (assignEach es X.env).findIdx? (·.1) = none := by rfl) : PG X (.Tuple es k pos) (gTup K n t) := by subst h; exact pg_tup hc hp hn hst
theorem pe_globI {x : Str} {i : Int} (hg : Gl X x) (hm : ∃ t, X.mg x = some (.int i t)) (hd : (x == ("__debug__" : Str)) = false := by decide) : PE X (.Name x pos) (tC (.int i)) := by
  obtain ⟨t, h⟩ := hm
  exact pe_glob hg h ⟨t, rfl⟩ hd
theorem pe_globS {x : Str} {i : Str} (hg : Gl X x) (hm : ∃ t, X.mg x = some (.str i t)) (hd : (x == ("__debug__" : Str)) = false := by decide) : PE X (.Name x pos) (tC (.str i)) := by
  obtain ⟨t, h⟩ := hm
  exact pe_glob hg h ⟨t, rfl⟩ hd
/-- an own class of error -/
structure ExT (K : PySem.W.Frag) (mg : Str → Option Value) (x : Str) (C : Addr) : Prop where
  g : mg x = some (.ref C)
  x : PySem.W.excIn K C [.type "ValueError", .type "Exception", .type "BaseException", .type "object"] "ValueError.__new__" = true
  k : PySem.W.keepIn K (.ref C) = true
  b : PySem.W.subIn K (.ref C) (.type "BaseException") = some true
  t : PySem.W.typeIn K (.ref C) = some (.type "type")
end
/-- an own list becomes data, in the frame too -/
theorem sx_give {t : TS} {D : Ends} {Γ : List (Option AV)} {B0 H0 B H : Hp} {p : Addr} {ds : List PyData} {i : Nat} (x : Ext B0 H0 B H) (h0 : H0 p = none) (m : Ml B H p ds) (hi : Γ[i]? = some (some (.v (.ref p))))
    (k : ∀ B', Ext B0 H0 B' H → Same B B' → Sx t D (Γ.set i (some (.d (.list ds)))) B' H) : Sx t D Γ B H := fun e σ f => by
  obtain ⟨B', x', s, hq⟩ := m.give x h0
  refine k B' x' s x'.bh σ ?_
  obtain ⟨u, hu, iu⟩ := f.2 i _ hi
  have e1 : u = .ref p := iu
  subst e1
  have f' := (f.mono s).set (g := .d (.list ds)) i hq
  have e2 : σ.set i (some (V.ref p)) = σ := by
    refine List.ext_getElem? fun j => ?_
    by_cases q : i = j
    · subst q
      rw [List.getElem?_set_self (List.getElem?_eq_some_iff.mp hu).1, hu]
    · rw [List.getElem?_set_ne q]
  rw [e2] at f'
  exact f'
end SB
namespace SB
open PySem PySem.Spec PyProof.Rows L2
open Enc (enc)
/-! ### loops and comprehensions whose target is a pair of names -/
section
variable {K : PySem.W.Frag} {Γ Δ : List (Option AV)} {B H : Hp} {g x y z : AV} {te ta tb tc : TE} {t u : TT} {b c : Bool} {i j : Nat} {D : Ends} {tz tu tw : TS} {ds es : List PyData} {d : PyData}
theorem pair_tg {α β : Type} [DecidableEq α] [Enc α] [DecidableEq β] [Enc β] {v : V} {a : α × β} (h : Dq B v (enc a)) : ∃ p v1 v2, v = .ref p ∧ B p = some (.tup [v1, v2]) ∧ Dq B v1 (enc a.1) ∧ Dq B v2 (enc a.2) := by
  cases (show Dq B v (.tuple [enc a.1, enc a.2]) from h) with
  | tup hp t =>
    cases t with
    | cons h1 t =>
      cases t with
      | cons h2 t =>
        cases t
        exact ⟨_, _, _, rfl, hp, h1, h2⟩
theorem qx_forD2 {α β : Type} [DecidableEq α] [Enc α] [DecidableEq β] [Enc β] {xs : List (α × β)} {tl : TE} (h : Gv tl Γ B H (.d (.list (xs.map enc)))) (G : Nat → List (Option AV)) (P : Nat → Hp → Hp → Prop) (hl : Le (G 0) Γ) (h0 : ∀ B1 H1, Ext B H B1 H1 → P 0 B1 H1)
    (hs : ∀ Bs k a B1 H1, xs[k]? = some a → Same B Bs → Same Bs B1 → P k B1 H1 → Sx tu { D with nx := Lp Bs (G (k + 1)) (P (k + 1)), ct := Lp Bs (G (k + 1)) (P (k + 1)), bk := tz D } (((G k).set i (some (.d (enc a.1)))).set j (some (.d (enc a.2)))) B1 H1)
    (hd : ∀ B1 H1, Same B B1 → P xs.length B1 H1 → Sx tz D (G xs.length) B1 H1) : Sx (tSeq (tFor (iList K tl) (gTup K 2 (gCons (gName i) (gCons (gName j) gNil))) tu) tz) D Γ B H := fun e σ f =>
  h B H σ (Ext.refl e) f _ fun u Bs Hs x hu => by
    cases hu with
    | @lst a us _ hp t =>
      have hlen : us.length = xs.length := by rw [t.length, List.length_map]
      refine ⟨a, rfl, ⟨_, SqL.of (x.bh _ _ hp)⟩, for_list (K := K) (a := a) (xs := us) (D := { D with nx := tz D }) (fun k => Lp Bs (G k) (P k)) ⟨Bs, Same.refl _, x.bh, h0 Bs Hs x, (f.mono x.bb).le hl⟩ ?_ ?_ ?_⟩
      · rintro k σ' H' _ ⟨B', s1, s2, _, _⟩
        exact SqL.of (s2 _ _ (s1 _ _ hp))
      · rintro k v σ' H' hk ⟨B', s1, s2, p, f'⟩
        obtain ⟨d, hd1, hd2⟩ := t.getV hk
        rw [List.getElem?_map] at hd1
        cases q : xs[k]? with
        | none => rw [q] at hd1; cases hd1
        | some a' =>
          rw [q] at hd1
          cases hd1
          obtain ⟨pp, v1, v2, rfl, hp2, d1, d2⟩ := pair_tg (hd2.mono s1)
          exact ⟨pp, _, rfl, SqT.of (s2 _ _ hp2), rfl, _, _, rfl, _, _, rfl, rfl, hs Bs k a' B' H' q x.bb s1 p s2 _ ((f'.set (g := .d (enc a'.1)) i d1).set (g := .d (enc a'.2)) j d2)⟩
      · rintro σ' H' ⟨B', s1, s2, p, f'⟩
        rw [hlen] at p f'
        exact hd B' H' (x.bb.trans s1) p s2 σ' f'
theorem wipe_get : ∀ (vs : List Nat) (τ : L2.St) (i : Nat), (wipe τ vs)[i]? = if i ∈ vs then (if i < τ.length then some none else none) else τ[i]? := by
  intro vs
  induction vs with
  | nil => intro τ i; simp [wipe]
  | cons v r ih =>
    intro τ i
    show ((wipe τ r).set v none)[i]? = _
    rw [List.getElem?_set, wipe_length]
    by_cases e : v = i
    · subst e
      rw [if_pos rfl, if_pos List.mem_cons_self]
    · rw [if_neg e, ih]
      by_cases q : i ∈ r
      · rw [if_pos q, if_pos (List.mem_cons_of_mem _ q)]
      · rw [if_neg q, if_neg (by intro z; rcases List.mem_cons.mp z with z | z; exact e z.symm; exact q z)]
theorem wipe_set2 {σ : L2.St} {vs : List Nat} {x y : V} (h : i ∈ vs) (h' : j ∈ vs) : wipe (((wipe σ vs).set i (some x)).set j (some y)) vs = wipe σ vs := by
  refine List.ext_getElem? fun k => ?_
  rw [wipe_get, wipe_get]
  by_cases q : k ∈ vs
  · rw [if_pos q, if_pos q, List.length_set, List.length_set, wipe_length]
  · rw [if_neg q, if_neg q, List.getElem?_set_ne (by rintro rfl; exact q h'), List.getElem?_set_ne (by rintro rfl; exact q h), wipe_get, if_neg q]
theorem gm_lcL2 {α β γ : Type} [DecidableEq α] [Enc α] [DecidableEq β] [Enc β] [DecidableEq γ] [Enc γ] {xs : List (α × β)} {tl : TE} {vs : List Nat} (h : Gv tl Γ B H (.d (.list (xs.map enc)))) (hz : xs.length < 16000000) (hi : i ∈ vs) (hv : j ∈ vs) (p : α × β → Bool) (f : α × β → γ)
    (ht : ∀ a ∈ xs, ∀ B1 H1, Ext B H B1 H1 → Gt t (((Ow Γ vs).set i (some (.d (enc a.1)))).set j (some (.d (enc a.2)))) B1 H1 (p a)) (he : ∀ a ∈ xs, p a = true → ∀ B1 H1, Ext B H B1 H1 → Gv te (((Ow Γ vs).set i (some (.d (enc a.1)))).set j (some (.d (enc a.2)))) B1 H1 (.d (enc (f a)))) :
    Gm (tLc (iList K tl) (gTup K 2 (gCons (gName i) (gCons (gName j) gNil))) t te vs) Γ B H (((xs.filter p).map f).map enc) := fun B0 H0 σ e fr Q q =>
  h B0 H0 σ e fr _ fun u Bs Hs x hu => by
    cases hu with
    | @lst a us _ hp tq =>
      have hlen : us.length = xs.length := by rw [tq.length, List.length_map]
      refine ⟨a, rfl, ⟨_, SqL.of (x.bh _ _ hp)⟩, fun Dl hD => ?_⟩
      have hbs : Bs Dl = none := x.bh.free hD
      refine lc_list (K := K) (xs := us) (fun k => Cq Bs Dl ((((xs.take k).filter p).map f).map enc) Bs Hs) ⟨Bs, Same.refl _, Ext.out x.bh hD, hbs, [], upd_same, .nil⟩ ?_ ?_ ?_
      · rintro k H' _ ⟨B', s1, x', _⟩
        exact SqL.of (x'.bh _ _ (s1 _ _ hp))
      · rintro k v H' hk ⟨B', s1, x', m⟩
        obtain ⟨d, hd1, hd2⟩ := tq.getV hk
        rw [List.getElem?_map] at hd1
        cases qk : xs[k]? with
        | none => rw [qk] at hd1; cases hd1
        | some a' =>
          rw [qk] at hd1
          cases hd1
          obtain ⟨pp, v1, v2, rfl, hp2, d1, d2⟩ := pair_tg (hd2.mono s1)
          have hmem : a' ∈ xs := List.mem_of_getElem? qk
          have htake : xs.take (k + 1) = xs.take k ++ [a'] := by
            rw [List.take_add_one, qk]
            rfl
          have fr1 := (((fr.mono (x.bb.trans s1)).wipe vs).set (g := .d (enc a'.1)) i d1).set (g := .d (enc a'.2)) j d2
          have eB : Ext B0 H0 B' H' := x.trans x'
          refine ⟨pp, _, rfl, SqT.of (x'.bh _ _ hp2), rfl, _, _, rfl, _, _, rfl, rfl, wipe_set2 hi hv, ht a' hmem B' H' (e.trans eB) B' H' _ (Ext.refl x'.bh) fr1 _ fun B2 H2 x2 => ?_⟩
          cases pa : p a' with
          | true =>
            rw [if_pos rfl]
            refine he a' hmem pa B2 H2 ((e.trans eB).trans x2) B2 H2 _ (Ext.refl x2.bh) (fr1.mono x2.bb) _ fun w B3 H3 x3 hw => ?_
            obtain ⟨hb, acc, ha, t3⟩ := (m.ext x2).ext x3
            have xx := (x'.trans x2).trans x3
            refine ⟨acc, ha, szl ?_, B3, s1.trans (x2.bb.trans x3.bb), xx.mut hD hb, hb, _, upd_same, ?_⟩
            · rw [t3.length, List.length_map, List.length_map]
              have h1 := List.length_filter_le p (xs.take k)
              have h4 : (xs.take k).length ≤ xs.length := by rw [List.length_take]; omega
              omega
            · have hh : ((xs.take (k + 1)).filter p).map f = ((xs.take k).filter p).map f ++ [f a'] := by
                rw [htake, List.filter_append, List.map_append]
                congr 1
                simp [List.filter_cons, pa]
              rw [hh, List.map_append]
              exact t3.append (.one hw)
          | false =>
            rw [if_neg (by simp)]
            refine ⟨B2, s1.trans x2.bb, x'.trans x2, ?_⟩
            have hh : ((xs.take (k + 1)).filter p).map f = ((xs.take k).filter p).map f := by
              rw [htake, List.filter_append, List.map_append]
              simp [List.filter_cons, pa]
            rw [hh]
            exact m.ext x2
      · rintro H' ⟨B', s1, x', m⟩
        rw [hlen, List.take_length] at m
        exact q Dl B' H' (x.trans x') (x.hh.free hD) m
theorem gv_lcL2 {α β γ : Type} [DecidableEq α] [Enc α] [DecidableEq β] [Enc β] [DecidableEq γ] [Enc γ] {xs : List (α × β)} {tl : TE} {vs : List Nat} (h : Gv tl Γ B H (.d (.list (xs.map enc)))) (hz : xs.length < 16000000) (hi : i ∈ vs) (hv : j ∈ vs) (p : α × β → Bool) (f : α × β → γ)
    (ht : ∀ a ∈ xs, ∀ B1 H1, Ext B H B1 H1 → Gt t (((Ow Γ vs).set i (some (.d (enc a.1)))).set j (some (.d (enc a.2)))) B1 H1 (p a)) (he : ∀ a ∈ xs, p a = true → ∀ B1 H1, Ext B H B1 H1 → Gv te (((Ow Γ vs).set i (some (.d (enc a.1)))).set j (some (.d (enc a.2)))) B1 H1 (.d (enc (f a)))) :
    Gv (tLc (iList K tl) (gTup K 2 (gCons (gName i) (gCons (gName j) gNil))) t te vs) Γ B H (.d (.list (((xs.filter p).map f).map enc))) := (gm_lcL2 h hz hi hv p f ht he).gv
theorem gv_lcM2 {α β γ : Type} [DecidableEq α] [Enc α] [DecidableEq β] [Enc β] [DecidableEq γ] [Enc γ] {xs : List (α × β)} {tl : TE} {vs : List Nat} (f : α × β → γ) (h : Gv tl Γ B H (.d (.list (xs.map enc)))) (hz : xs.length < 16000000) (hi : i ∈ vs) (hv : j ∈ vs)
    (he : ∀ a ∈ xs, ∀ B1 H1, Ext B H B1 H1 → Gv te (((Ow Γ vs).set i (some (.d (enc a.1)))).set j (some (.d (enc a.2)))) B1 H1 (.d (enc (f a)))) :
    Gv (tLc (iList K tl) (gTup K 2 (gCons (gName i) (gCons (gName j) gNil))) tYes te vs) Γ B H (.d (.list ((xs.map f).map enc))) := by
  have q := gv_lcL2 (K := K) (te := te) (t := tYes) h hz hi hv (fun _ => true) f (fun _ _ _ _ _ => gt_yes) fun a ha _ B1 H1 x => he a ha B1 H1 x
  rw [filter_yes] at q
  exact q
end
end SB
namespace SB
open PySem PySem.Spec PyProof.Rows L2
open Enc (enc)
/-! ### more data -/
inductive Lie where
  | no | st | br
  deriving DecidableEq
def encLie : Lie → PyData
  | .no => .none
  | .st => .str "straight"
  | .br => .str "branch"
theorem st_br : (("straight" : Str) == "branch") = false := by decide +kernel
theorem br_st : (("branch" : Str) == "straight") = false := by decide +kernel
instance : Enc Lie where
  enc := encLie
  eqv a b := by cases a <;> cases b <;> simp [encLie, PyData.eqv, st_br, br_st]
  lay a := by
    have h1 : PyData.strOk "straight" = true := by decide +kernel
    have h2 : PyData.strOk "branch" = true := by decide +kernel
    cases a <;> simp [encLie, PyData.canLay0, h1, h2]
  dep := 0
  dep_le a := by cases a <;> simp [encLie, PyData.depth]
def encOI : Option Int → PyData
  | none => .none
  | some i => .int i
instance : Enc (Option Int) where
  enc := encOI
  eqv a b := by
    cases a <;> cases b <;> simp only [encOI, PyData.eqv] <;> rw [Bool.eq_iff_iff] <;> simp
  lay a := by cases a <;> simp [encOI, PyData.canLay0]
  dep := 0
  dep_le a := by cases a <;> simp [encOI, PyData.depth]
/-! ### fields by their places -/
theorem zip_lookup : ∀ (ks : List Str) (vs : List V) (f : Str) (i : Nat) (v : V), ks.idxOf f = i → i < ks.length → vs[i]? = some v → (ks.zip vs).lookup f = some v
  | [], _, _, _, _, _, h, _ => by simp at h
  | _ :: _, [], _, _, _, _, _, h => by simp at h
  | k :: ks, u :: vs, f, i, v, e, hl, h => by
    rw [List.zip_cons_cons, List.lookup_cons]
    rw [List.idxOf_cons] at e
    by_cases q : k = f
    · subst q
      simp at e
      subst e
      simp at h
      simp [h]
    · have q1 : (k == f) = false := beq_eq_false_iff_ne.mpr q
      have q2 : (f == k) = false := beq_eq_false_iff_ne.mpr fun z => q z.symm
      rw [q1] at e
      simp only [q2]
      simp at e
      subst e
      exact zip_lookup ks vs f _ v rfl (by simpa using hl) (by simpa using h)
theorem zip_none : ∀ (ks : List Str) (vs : List V) (f : Str), f ∉ ks → (ks.zip vs).lookup f = none
  | [], _, _, _ => rfl
  | _ :: _, [], _, _ => rfl
  | k :: ks, u :: vs, f, h => by
    rw [List.zip_cons_cons, List.lookup_cons]
    have q2 : (f == k) = false := beq_eq_false_iff_ne.mpr fun z => h (z ▸ List.mem_cons_self)
    simp only [q2]
    exact zip_none ks vs f fun z => h (List.mem_cons_of_mem _ z)
theorem zip_put : ∀ (ks : List Str) (vs : List V) (f : Str) (i : Nat) (v : V), ks.idxOf f = i → i < ks.length → vs.length = ks.length → putF f v (ks.zip vs) = ks.zip (vs.set i v)
  | [], _, _, _, _, _, h, _ => by simp at h
  | _ :: _, [], _, _, _, _, _, h => by simp at h
  | k :: ks, u :: vs, f, i, v, e, hl, h => by
    rw [List.zip_cons_cons]
    rw [List.idxOf_cons] at e
    by_cases q : k = f
    · subst q
      simp at e
      subst e
      show (if k = k then _ else _) = _
      rw [if_pos rfl]
      rfl
    · have q1 : (k == f) = false := beq_eq_false_iff_ne.mpr q
      rw [q1] at e
      simp at e
      subst e
      show (if k = f then _ else (k, u) :: putF f v (ks.zip vs)) = _
      rw [if_neg q, zip_put ks vs f _ v rfl (by simpa using hl) (by simpa using h)]
      rfl
theorem zip_more : ∀ (ks : List Str) (vs : List V) (f : Str) (v : V), f ∉ ks → vs.length = ks.length → putF f v (ks.zip vs) = (ks ++ [f]).zip (vs ++ [v])
  | [], [], _, _, _, _ => rfl
  | [], _ :: _, _, _, _, h => by simp at h
  | _ :: _, [], _, _, _, h => by simp at h
  | k :: ks, u :: vs, f, v, hn, h => by
    rw [List.zip_cons_cons]
    show (if k = f then _ else (k, u) :: putF f v (ks.zip vs)) = _
    rw [if_neg fun (z : k = f) => hn (z ▸ List.mem_cons_self), zip_more ks vs f v (fun z => hn (List.mem_cons_of_mem _ z)) (by simpa using h)]
    rfl
section
variable {K : PySem.W.Frag} {Γ Δ : List (Option AV)} {B H : Hp} {g x y z : AV} {te ta tb tc tv : TE} {t u : TT} {b c : Bool} {i j : Nat} {D : Ends} {tz tu tw : TS} {ds es : List PyData} {d : PyData} {a C dx : Addr} {fs : List (Str × V)} {f : Str} {v : V} {ks : List Str} {vs : List V}
/-- o.f -/
theorem gv_fld (ha : Gv ta Γ B H (.v (.ref a))) (hy : H a = some (.ins C dx fs)) (cl : Cls K C) (na : NoAttr K C f) (hf : fs.lookup f = some v) (hv : Is B v g) : Gv (tFld K ta f) Γ B H g := fun B1 H1 σ e fr Q q =>
  ha B1 H1 σ e fr _ fun w B2 H2 e2 hw => by
    cases hw
    exact ⟨a, C, dx, fs, v, rfl, (e.trans e2).hh _ _ hy, cl, na, hf, q v B2 H2 e2 (hv.mono (e.trans e2).bb)⟩
/-- o.f = e -/
theorem qx_fld (hv : Gv tv Γ B H g) (ha : Gv ta Γ B H (.v (.ref a))) (hy : H a = some (.ins C dx fs)) (hb : B a = none) (cl : Cls K C) (na : NoAttr K C f) (hl : fs.length < 1000)
    (k : ∀ w B2 H2, ExtF (· = a) B H B2 H2 → Is B2 w g → H2 a = some (.ins C dx (putF f w fs)) → B2 a = none → Sx tz D Γ B2 H2) : Sx (tSeq (sFld K ta tv f) tz) D Γ B H := fun e σ fr =>
  hv B H σ (Ext.refl e) fr _ fun w B2 H2 e2 hw => ha B2 H2 σ e2 (fr.mono e2.bb) _ fun w' B3 H3 e3 hw' => by
    cases hw'
    have e23 := e2.trans e3
    have hb3 := e23.off hb (by rw [hy]; simp)
    have hy3 := e23.hh _ _ hy
    refine ⟨a, C, dx, fs, rfl, hy3, cl, na, hl, ?_⟩
    have wr : ∀ o, ExtF (· = a) B3 H3 B3 (upd H3 a o) := fun o => ExtF.wr e23.bh hb3 (by rw [hy3]; simp)
    exact k w B3 _ (e23.f.trans (wr _)) (hw.mono e3.bb) upd_same hb3 (wr _).bh σ (fr.mono e23.bb)
theorem qx_fldX {E : XK} {r : Except Addr AV} (hv : Gx E tv Γ B H r) (ha : Gv ta Γ B H (.v (.ref a))) (hy : H a = some (.ins C dx fs)) (hb : B a = none) (cl : Cls K C) (na : NoAttr K C f) (hl : fs.length < 1000)
    (k : ∀ w g B2 H2, r = .ok g → ExtF (· = a) B H B2 H2 → Is B2 w g → H2 a = some (.ins C dx (putF f w fs)) → B2 a = none → Sx tz D Γ B2 H2) (ke : ∀ C B2 H2, r = .error C → Ext B H B2 H2 → E (.ref C) none H2) : Sx (tSeq (sFld K ta tv f) tz) D Γ B H := fun e σ fr =>
  hv B H σ (Ext.refl e) fr _ (fun w B2 H2 g hg e2 hw => ha B2 H2 σ e2 (fr.mono e2.bb) _ fun w' B3 H3 e3 hw' => by
    cases hw'
    have e23 := e2.trans e3
    have hb3 := e23.off hb (by rw [hy]; simp)
    have hy3 := e23.hh _ _ hy
    refine ⟨a, C, dx, fs, rfl, hy3, cl, na, hl, ?_⟩
    have wr : ∀ o, ExtF (· = a) B3 H3 B3 (upd H3 a o) := fun o => ExtF.wr e23.bh hb3 (by rw [hy3]; simp)
    exact k w g B3 _ hg (e23.f.trans (wr _)) (hw.mono e3.bb) upd_same hb3 (wr _).bh σ (fr.mono e23.bb)) fun B2 H2 C hC x => ke C B2 H2 hC x
/-- o.f = a new own list -/
theorem qx_fldM (hv : Gm tv Γ B H ds) (ha : ∀ B1 H1, Ext B H B1 H1 → Gv ta Γ B1 H1 (.v (.ref a))) (hy : H a = some (.ins C dx fs)) (hb : B a = none) (cl : Cls K C) (na : NoAttr K C f) (hl : fs.length < 1000)
    (k : ∀ p B2 H2, ExtF (· = a) B H B2 H2 → H p = none → Ml B2 H2 p ds → H2 a = some (.ins C dx (putF f (.ref p) fs)) → B2 a = none → Sx tz D Γ B2 H2) : Sx (tSeq (sFld K ta tv f) tz) D Γ B H := fun e σ fr =>
  hv B H σ (Ext.refl e) fr _ fun p B2 H2 e2 hp m => ha B2 H2 e2 B2 H2 σ (Ext.refl e2.bh) (fr.mono e2.bb) _ fun w' B3 H3 e3 hw' => by
    cases hw'
    have e23 := e2.trans e3
    have hb3 := e23.off hb (by rw [hy]; simp)
    have hy3 := e23.hh _ _ hy
    refine ⟨a, C, dx, fs, rfl, hy3, cl, na, hl, ?_⟩
    have wr : ∀ o, ExtF (· = a) B3 H3 B3 (upd H3 a o) := fun o => ExtF.wr e23.bh hb3 (by rw [hy3]; simp)
    have hpa : p ≠ a := fun z => by rw [z, hy] at hp; cases hp
    exact k p B3 _ (e23.f.trans (wr _)) hp ((m.ext e3).extF (wr _) hpa) upd_same hb3 (wr _).bh σ (fr.mono e23.bb)
/-- an own dict -/
def Md (B H : Hp) (p : Addr) (kvs : List (Key × V)) : Prop := B p = none ∧ H p = some (.dK kvs)
theorem Md.ne {p : Addr} {kvs : List (Key × V)} (m : Md B H p kvs) : H p ≠ none := by rw [m.2]; simp
theorem Md.ext {B' H' : Hp} {p : Addr} {kvs : List (Key × V)} (m : Md B H p kvs) (x : Ext B H B' H') : Md B' H' p kvs := ⟨x.off m.1 m.ne, x.hh _ _ m.2⟩
theorem Md.extF {F : Addr → Prop} {B' H' : Hp} {p : Addr} {kvs : List (Key × V)} (m : Md B H p kvs) (x : ExtF F B H B' H') (n : ¬ F p) : Md B' H' p kvs := ⟨x.off m.1 m.ne, x.hh _ _ m.2 n⟩
/-- o.f = {} -/
theorem qx_fldD (ha : ∀ B1 H1, Ext B H B1 H1 → Gv ta Γ B1 H1 (.v (.ref a))) (hy : H a = some (.ins C dx fs)) (hb : B a = none) (cl : Cls K C) (na : NoAttr K C f) (hl : fs.length < 1000)
    (k : ∀ p B2 H2, ExtF (· = a) B H B2 H2 → H p = none → Md B2 H2 p [] → H2 a = some (.ins C dx (putF f (.ref p) fs)) → B2 a = none → Sx tz D Γ B2 H2) : Sx (tSeq (sFld K ta tDNewK f) tz) D Γ B H := fun e σ fr => fun p hp => by
  have e2 : Ext B H B (upd H p (.dK [])) := Ext.out e hp
  refine ha B _ e2 B _ σ (Ext.refl e2.bh) (fr.mono e2.bb) _ fun w' B3 H3 e3 hw' => ?_
  cases hw'
  have e23 := e2.trans e3
  have hb3 := e23.off hb (by rw [hy]; simp)
  have hy3 := e23.hh _ _ hy
  refine ⟨a, C, dx, fs, rfl, hy3, cl, na, hl, ?_⟩
  have wr : ∀ o, ExtF (· = a) B3 H3 B3 (upd H3 a o) := fun o => ExtF.wr e23.bh hb3 (by rw [hy3]; simp)
  have hpa : p ≠ a := fun z => by rw [z, hy] at hp; cases hp
  have m : Md B (upd H p (.dK [])) p [] := ⟨e.free hp, upd_same⟩
  exact k p B3 _ (e23.f.trans (wr _)) hp ((m.ext e3).extF (wr _) hpa) upd_same hb3 (wr _).bh σ (fr.mono e23.bb)
end
end SB
namespace SB
open PySem PySem.Spec PyProof.Rows L2
open Enc (enc)
/-! ### an error that is kept behind its clause -/
/-- at a stands an error of the class at C that was raised -/
def ExR (C : Addr) (a : Addr) : HO := .ext fun h => ∃ (o : Obj) (vs : Array Value), h.get? a = some o ∧ o.cls = .ref C ∧ o.dict = none ∧ o.data = .fields vs
theorem exR_ok {P : Program} {w : World} {H : Hp} {h : Heap} {a C : Addr} {o : Obj} {vs : Array Value} (e : h.get? a = some o) (z : Zc (.ref C) none o) (d : o.data = .fields vs) : ObjOk P w H h a (ExR C a) :=
  ⟨⟨o, vs, e, z.1, z.2, d⟩, ⟨o, e⟩, fun h1 h2 ⟨o1, v1, q1, q2⟩ k => ⟨o1, v1, k _ q1, q2⟩⟩
/-- the pin on the error becomes a tracked thing -/
theorem track {X : Cx} {σ : L2.St} {H : Hp} {s : Shared} {a C : Addr} {o : Obj} {vs : Array Value} {q : List (Addr × Obj)} (I : Inv (X.suite a ((a, o) :: q)) [] σ H s) (z : Zc (.ref C) none o) (d : o.data = .fields vs)
    (new : X.s_0.heap.get? a = none) (hq : ∀ p ∈ q, p.1 ≠ a) (hL : a ≠ X.env.locals) (hc : ∀ x c, X.env.cells.lookup x = some c → c ≠ a) (ok : (X.suite a q).Ok) : Inv (X.suite a q) [] σ (upd H a (ExR C a)) s := by
  obtain ⟨ea, na, _, _, _⟩ := I.pin (a, o) (List.mem_append.mpr (.inl List.mem_cons_self))
  have na : H a = none := na
  have off : ∀ b u, H b = some u → upd H a (ExR C a) b = some u := fun b u e => by rw [upd_ne (ne_of_none e na)]; exact e
  refine ⟨ok, I.os, I.bare, ⟨I.base.keep, I.base.slot, fun b u e n x => ?_, I.base.there, fun b xs e => off _ _ (I.base.tups b xs e), fun b u w e => off _ _ (I.base.frzs b u w e), fun b ps e => ?_⟩, I.loc, I.cell, ?_, fun x c e => ?_, fun p hp => ?_, ?_, I.len⟩
  · have hb : b ≠ a := fun y => by
      subst y
      have : X.s_0.heap.get? b = some u := e
      rw [new] at this
      cases this
    rw [upd_ne hb]
    exact I.base.free b u e n x
  · obtain ⟨more, e2⟩ := I.base.tbls b ps e
    exact ⟨more, off _ _ e2⟩
  · rw [upd_ne (fun y => hL y.symm)]
    exact I.free
  · rw [upd_ne (hc x c e)]
    exact I.freeC x c e
  · have hp' : p ∈ q := by
      rcases List.mem_append.mp hp with h | h
      · exact h
      · simp at h
    obtain ⟨e1, e2, e3⟩ := I.pin p (List.mem_append.mpr (.inl (List.mem_cons_of_mem _ hp')))
    exact ⟨e1, by rw [upd_ne (hq p hp')]; exact e2, e3⟩
  · intro b u e
    by_cases y : b = a
    · subst y
      rw [upd_same] at e
      cases e
      exact exR_ok ea z d
    · rw [upd_ne y] at e
      exact (I.hok b u e).stay (fun _ _ _ k => k) (fun c k => off _ _ k) fun c xs k => off _ _ k
/-- the suite's frame as the def's -/
theorem untrack {X : Cx} {pins : List (Addr × Obj)} {σ : L2.St} {H : Hp} {s : Shared} {a : Addr} {r : List (Addr × Obj)} (I : Inv (X.suite a (X.pn ++ pins)) r σ H s) (ok : X.Ok) : Inv X pins σ H s :=
  ⟨ok, I.os, I.bare, I.base, I.loc, I.cell, I.free, I.freeC, fun p hp => I.pin p (List.mem_append.mpr (.inl hp)), I.hok, I.len⟩
/-- what 'except c as n' wishes of the body's error, where the suite may keep it: n's slot is i -/
def wKeep (K : PySem.W.Frag) (c : Value) (i : Nat) (ts : Addr → Addr → TS) (D : Ends) : WX := fun cls d σ H =>
  ∃ C, cls = .ref C ∧ d = none ∧ PySem.W.exmOne K cls c = some true ∧ ∀ a, H a = none →
    ts a C { nx := fun τ J => D.nx (τ.set i none) J, rt := D.rt, bk := fun τ J => D.bk (τ.set i none) J, ct := fun τ J => D.ct (τ.set i none) J } (σ.set i (some (.ref a))) (upd H a (ExR C a))
/-- try: .. except c as n: .. -/
def tTryK (K : PySem.W.Frag) (c : Value) (i : Nat) (ts : Addr → Addr → TS) (tb : WX → TS) : TS := fun D σ H => tb (wKeep K c i ts D) D σ H
theorem ps_try_keep {X : Cx} {x n : Str} {c : Value} {i : Nat} {body suite : List Stmt} {b0 : Stmt} {np pos pos' : Pos} {tb : WX → TS} {ts : Addr → Addr → TS} (stk : X.stack = X.env :: X.outer) (fr : X.env.frame = some X.env.locals) (hex : X.ex = [])
    (nd : X.N.Nodup) (hi : X.N[i]? = some n) (hl : X.env.kindOf n = some .local) (hc : Names X x c)
    (hb : ∀ (W : WX) (q : List (Addr × Obj)) (xe : Value → Shared → Prop), Takes (X.tr q xe) W → PassesOwn (model X.prog X.w) X.A X.env xe → PSs (X.tr q xe) body (tb W))
    (hs : ∀ (a C : Addr) (q : List (Addr × Obj)), PSs (X.suite a q) (b0 :: suite) (ts a C)) :
    PS X (.Try body [.ExceptHandler (some (.Name x np)) (some n) (b0 :: suite) pos'] [] [] pos) (tTryK X.K c i ts tb) := by
  refine ⟨fun pins s σ H D I h => wpAny_Try_except ?_⟩
  have ok := I.ok
  have frames : X.A.frames = some (X.env :: X.outer) := ok.frames.trans (congrArg some stk)
  refine wpAny_mono ((hb (wKeep X.K c i ts D) (X.pn ++ pins) (fun e t1 => wpAny (model X.prog X.w) X.A (noteFrame e X.env)
    (fun _ t2 => wpAny (model X.prog X.w) X.A (setFlight e none) (fun _ t3 => wpAny (model X.prog X.w) X.A
      (handleBy e X.env [.ExceptHandler (some (.Name x np)) (some n) (b0 :: suite) pos']) (SP X pins D) X.xe t3) X.xe t2) X.xe t1) (fun u t air => ?_) PassesOwn.looking).run [] s σ H D (I.toTry _) h) (fun r t q => ?_) fun _ _ q => q
  · obtain ⟨a, G, sI, p2, τ, J, cls, d, rfl, I2, ground, up, sky, na, os, ag, C, rfl, rfl, hm, go⟩ := air
    have I3 : Inv X pins τ J sI := I2.ofTry ok
    have sky3 : Sky G (X.env :: X.outer) a (Zc (.ref C) none) X.env.locals t.heap := stk ▸ sky
    refine Sky.land Zc.steady frames fr sky3 fun h3 f3 up3 => ?_
    obtain ⟨o3, v3, e3, z3, d3⟩ := f3.there
    have out3 : a ∉ frs (X.env :: X.outer) := fun m => by
      obtain ⟨_, o', e', nf⟩ := f3.2.2.1.mem m
      rw [e3] at e'
      cases e'
      exact nf _ d3
    have nL : a ≠ X.env.locals := fun y => out3 (List.mem_filterMap.mpr ⟨X.env, List.mem_cons_self, by rw [fr, y]⟩)
    have nF : a ∉ X.fs := fun m => by
      obtain ⟨v, hv, y⟩ := List.mem_filterMap.mp m
      exact out3 (List.mem_filterMap.mpr ⟨v, List.mem_cons_of_mem _ hv, y⟩)
    have nI : sI.heap.get? a = none := by
      cases y : sI.heap.get? a with
      | none => rfl
      | some o =>
        have g1 := ground a o y (by show a ∉ frs X.stack; rw [stk]; exact out3)
        rw [f3.2.1] at g1
        cases g1
    have n0 : X.s_0.heap.get? a = none := by
      cases y : X.s_0.heap.get? a with
      | none => rfl
      | some o =>
        obtain ⟨o', g1⟩ := I3.base.there a o y (by rw [hex]; simp)
        rw [nI] at g1
        cases g1
    have I4 : Inv X pins τ J { t with heap := h3 } := I3.landed ground f3.1 (up.trans up3) os ag
    have S4 := I4.suite e3 d3 na nL nF
    refine wpAny_handleBy_cons (codeAny_handlers_test ?_) (by intro y; cases y)
    have tyL : PySem.W.Looks (model X.prog X.w) h3 (typeOf (.ref a)) (.ref C) := fun A Q E s k y => wpAny_typeOf_ref (k _ _ e3) (by rw [z3.1]; exact y)
    have match1 := PySem.W.exm_one (M := model X.prog X.w) I4.kIn tyL hm
    have nameC : ∀ {Q : Value → Shared → Prop} {E : Value → Shared → Prop}, Q c { t with heap := h3 } → wpAny (model X.prog X.w) (X.A.mark (some (.ref a))) (eval (.Name x np) X.env) Q E { t with heap := h3 } := fun {Q E} y => by
      obtain ⟨g, db, hm1 | ⟨hm1, hv, hn⟩⟩ := hc
      · exact ld_glob (X := X.suite a ((a, o3) :: (X.pn ++ pins))) S4 g hm1 y db
      · exact ld_blt (X := X.suite a ((a, o3) :: (X.pn ++ pins))) S4 g hm1 hv y hn db
    refine nameC (match1.here (codeAny_handlers_suite_as (HandSPX.lands_againZ f3 fun h4 f4 up4 => ?_)))
    obtain ⟨o4, v4, e4, z4, d4⟩ := f4.there
    have I5 : Inv X pins τ J { t with heap := h4 } := I3.landed ground f4.1 ((up.trans up3).trans up4) os ag
    have S5 := I5.suite e4 d4 na nL nF
    have cellNe : ∀ y k, X.env.cells.lookup y = some k → k ≠ a := fun y k e w => by
      subst w
      obtain ⟨v, ⟨oc, g1, g2⟩⟩ := I5.cell y k e
      have g1 : h4.get? k = some oc := g1
      rw [e4] at g1
      cases g1
      rw [d4] at g2
      cases g2
    have pinNe : ∀ p ∈ X.pn ++ pins, p.1 ≠ a := fun p hp w => by
      have g1 := (I3.pin p hp).1
      rw [w, nI] at g1
      cases g1
    have S6 := track S5 z4 d4 n0 pinNe nL cellNe (ok.suite _ _)
    refine store_ok (X := X.suite a (X.pn ++ pins)) (v := .ref a) S6 nd hi (.inl hl) rfl (fun s7 S7 => ?_) (.inr hl)
    refine wpAny_mono ((hs a C (X.pn ++ pins)).run [] s7 _ _ _ S7 (go a na)) (fun r s8 q => ?_) fun _ _ y => False.elim y
    have leave : ∀ {τ8 : L2.St} {J8 : Hp} {Q : Shared → Prop}, Inv (X.suite a (X.pn ++ pins)) [] τ8 J8 s8 → (∀ s9, Inv X pins (τ8.set i none) J8 s9 → Q s9) →
        wpAny (model X.prog X.w) X.A (do bindName X.env n .none; unbindBehindTheSuite X.env n pos') (fun _ s9 => Q s9) X.xe s8 := fun S8 k => gone_ok (untrack S8 ok) nd hi hl k
    cases r with
    | next =>
      obtain ⟨τ8, J8, S8, y⟩ := q
      exact leave S8 fun s9 I9 => ⟨_, _, I9, y⟩
    | brk =>
      obtain ⟨τ8, J8, S8, y⟩ := q
      exact leave S8 fun s9 I9 => ⟨_, _, I9, y⟩
    | cont =>
      obtain ⟨τ8, J8, S8, y⟩ := q
      exact leave S8 fun s9 I9 => ⟨_, _, I9, y⟩
    | ret u =>
      obtain ⟨v8, τ8, J8, S8, rv, y⟩ := q
      exact leave S8 fun s9 I9 => ⟨_, _, _, I9, rv, y⟩
  · cases r with
    | next =>
      obtain ⟨τ, J, I2, y⟩ := q
      exact wpAny_execs_nil ⟨τ, J, I2.ofTry ok, y⟩
    | brk =>
      obtain ⟨τ, J, I2, y⟩ := q
      exact ⟨τ, J, I2.ofTry ok, y⟩
    | cont =>
      obtain ⟨τ, J, I2, y⟩ := q
      exact ⟨τ, J, I2.ofTry ok, y⟩
    | ret u =>
      obtain ⟨v, τ, J, I2, rv, y⟩ := q
      exact ⟨v, τ, J, I2.ofTry ok, rv, y⟩
end SB
namespace SB
open PySem PySem.Spec PyProof.Rows L2
open Enc (enc)
/-! ### isinstance of an error that is kept -/
def rIsR (K : PySem.W.Frag) : List V → Hp → VK → Prop := fun xs H Q => ∃ (a D : Addr) (c : V) (u : Value) (b : Bool), xs = [.ref a, c] ∧ H a = some (ExR D a) ∧ ExcC K D ∧ ClsV c u ∧ PySem.W.kitOne K (.ref D) u = some b ∧ Q (.bl b) H
def rIsRT (K : PySem.W.Frag) : List V → Hp → VK → Prop := fun xs H Q => ∃ (a D tp : Addr) (cs : List V) (us : List Value) (b : Bool), xs = [.ref a, .ref tp] ∧ H a = some (ExR D a) ∧ ExcC K D ∧ H tp = some (.tup cs) ∧ Paired ClsV cs us ∧ PySem.W.kitAny K (.ref D) us = some b ∧ Q (.bl b) H
theorem exR_inst {X : Cx} {pins : List (Addr × Obj)} {σ : L2.St} {H : Hp} {s : Shared} {a D : Addr} (I : Inv X pins σ H s) (h : H a = some (ExR D a)) : ∃ o, PySem.W.InstAt s.heap a o D none := by
  obtain ⟨⟨o, vs, e, h1, h2, h3⟩, _⟩ := (show ObjOk X.prog X.w H s.heap a (ExR D a) from I.hok a _ h)
  obtain ⟨oc, od, oda, osl⟩ := o
  dsimp only at h1 h2 h3
  subst h1 h2 h3
  exact ⟨_, e, rfl, rfl, trivial⟩
theorem call_isR {X : Cx} : CallR X (.builtin "isinstance") (rIsR X.K) := by
  intro pins s σ H xs us Q I r h
  obtain ⟨a, D, c, u, b, rfl, ha, C, k, e, q⟩ := h
  obtain ⟨u1, u2, rfl, r1, r2⟩ := vals2 r
  have e2 := k.eq r2
  subst e2
  cases (show u1 = Value.ref a from r1)
  obtain ⟨o, J⟩ := exR_inst I ha
  exact PySem.W.kia_one (PySem.W.handS_kitx_exc C.hg C.hk C.hs C.hd C.ha C.hn C.ht C.hm) I.kIn J e (fun z => nomatch z) fun tk => ⟨.bl b, H, I.tok tk, rfl, q⟩
theorem call_isRT {X : Cx} : CallR X (.builtin "isinstance") (rIsRT X.K) := by
  intro pins s σ H xs us Q I r h
  obtain ⟨a, D, tp, cs, ws, b, rfl, ha, C, hT, k, e, q⟩ := h
  obtain ⟨u1, u2, rfl, r1, r2⟩ := vals2 r
  cases (show u2 = Value.ref tp from r2)
  cases (show u1 = Value.ref a from r1)
  obtain ⟨o', J⟩ := exR_inst I ha
  obtain ⟨_, its, rv, o, h1, h2, n, h3⟩ := (show ObjOk X.prog X.w H s.heap tp (.tup cs) from I.hok tp _ hT)
  have e3 := ClsV.all k rv
  subst e3
  obtain ⟨oc, od, dt, sl⟩ := o
  simp only at h2 h3
  subst h2 h3
  exact PySem.W.kia_tup (PySem.W.handS_kitx_exc C.hg C.hk C.hs C.hd C.ha C.hn C.ht C.hm) I.kIn J h1 e (fun z => nomatch z) fun tk => ⟨.bl b, H, I.tok tk, rfl, q⟩
theorem call_isRK {X : Cx} {K : PySem.W.Frag} (h : X.K = K) : CallR X (.builtin "isinstance") (rIsR K) := by subst h; exact call_isR
theorem call_isRTK {X : Cx} {K : PySem.W.Frag} (h : X.K = K) : CallR X (.builtin "isinstance") (rIsRT K) := by subst h; exact call_isRT
/-! ### a class called in the body of a try -/
section
variable {X : Cx} {CX : CXT} {k j : Nat} {f C : Addr} {fd : FuncData} {ps : List Str} {sp : Sp} {E : L2.St → XK} {x m : Str} {p pos apos : Pos} {e o : Expr} {es : List Expr} {ta : TE} {t : TA}
def tMakeS (C : Addr) (sp : Sp) (E : L2.St → XK) (t : TA) : TE := fun σ H Q => t σ H fun vs H1 => ∀ x dx, H1 x = none → H1 dx = none → dx ≠ x →
  sp (.ref x :: vs) (upd (upd H1 dx (.own x)) x (.ins C dx [])) (fun v H2 => v = .non ∧ Q (.ref x) H2) (E σ)
theorem run_makeS {pins : List (Addr × Obj)} {σ : L2.St} {H : Hp} {s : Shared} {Q : VK} {us : List Value} {vs : List V} (M : Mk X.K C f) (F : FnOk X.prog X.w X.K X.mg X.base CX k f fd ps sp) (hr : Room (k + 1) X.A) (hb : Binds X.K fd ps [])
    (hx : PassesAt CX X σ (E σ)) (I : Inv X pins σ H s) (r : Vals vs us)
    (h : ∀ x dx, H x = none → H dx = none → dx ≠ x → sp (.ref x :: vs) (upd (upd H dx (.own x)) x (.ins C dx [])) (fun v H2 => v = .non ∧ Q (.ref x) H2) (E σ)) :
    wpAny (model X.prog X.w) X.A (call (.ref C) us) (EP X pins σ Q) X.xe s := by
  have hq := h (s.heap.objs.size + 1) s.heap.objs.size (I.hok.fresh (Nat.le_succ _)) (I.hok.fresh (Nat.le_refl _)) (Nat.ne_of_lt (Nat.lt_succ_self _))
  have I2 := Inv.made (C := C) I
  have r2 : Vals (V.ref (s.heap.objs.size + 1) :: vs) (Value.ref (s.heap.objs.size + 1) :: us) := .cons rfl r
  have hl : (Value.ref (s.heap.objs.size + 1) :: us).length = ps.length := by
    have e := r2.length
    rw [F.len _ _ _ _ hq] at e
    exact e.symm
  have b := hb _ (Value.ref (s.heap.objs.size + 1) :: us) I2.kIn (by rw [List.append_nil]; exact hl)
  rw [List.append_nil] at b
  refine wpAny_call (make_map (f := f) I.kIn M.makes M.init (beq_iff_eq.mp M.fn) (codeAny_mono (F.run _ X.stack _ _ ⟨Value.ref (s.heap.objs.size + 1) :: us, []⟩ (Value.ref (s.heap.objs.size + 1) :: us) _ _ (E σ) (hr.make C us [])
    (I2.env0.make C us []) b r2 hq) fun r s' hq' => ?_))
  cases r with
  | error e => exact hx pins _ _ e s' I2 hq'
  | ok fl =>
    cases fl with
    | ret u =>
      obtain ⟨v, H', I3, rv, ev, q3⟩ := I2.after hq'
      subst ev
      exact ⟨rv, ⟨V.ref (s.heap.objs.size + 1), H', I3, rfl, q3⟩⟩
    | next => exact False.elim hq'
    | brk => exact False.elim hq'
    | cont => exact False.elim hq'
theorem pe_makS (c : Mak X.prog X.w X.K X.mg X.base CX k x C sp) (hr : Room j X.A) (hk : k + 1 ≤ j) (hg : Gl X x) (hx : ∀ σ, PassesAt CX X σ (E σ)) (ha : PA X (e :: es) t)
    (hdb : (x == ("__debug__" : Str)) = false := by decide) (he : starEach (e :: es) X.env = (false, eval e X.env) :: starEach es X.env := by rfl) (hpl : (backTo pos (starEach es X.env)).any (·.1) = false := by rfl) :
    PE X (.Call (.Name x p) (e :: es) [] pos) (tMakeS C sp E t) := by
  obtain ⟨f, fd, ps, F, hm, M, b⟩ := c.ex
  refine ⟨fun pins s σ H Q I h => ?_⟩
  refine wpAny_Call_Name_kw (ld_glob I hg hm ?_ hdb)
  refine PySem.W.callWith_K (h₀ := X.base) I.ok.mod.kin M.kp (thn (ha.run pos pins s σ H _ I h) fun us s1 ⟨vs, H1, I1, r, q⟩ => ⟨I1.kIn, ?_⟩) he hpl
  exact run_makeS M F (hr.mono hk) b (hx σ) I1 r q
end
section
variable {K : PySem.W.Frag} {Γ Δ : List (Option AV)} {B H : Hp} {g x y z : AV} {te ta tb tc tv : TE} {t u : TT} {b c : Bool} {i j : Nat} {D : Ends} {tz tu tw : TS} {ds es : List PyData} {d : PyData} {a C dx : Addr} {v : V}
theorem isAll_v : ∀ {us cs : List V}, IsAll B us (cs.map AV.v) → us = cs
  | _, [], .nil => rfl
  | _, c :: cs, .cons h t => by rw [isAll_v t, show _ = c from h]
theorem rc_isR {cv : V} {uu : Value} (h : H a = some (ExR C a)) (E : ExcC K C) (k : ClsV cv uu) (e : PySem.W.kitOne K (.ref C) uu = some b) : Rc (rIsR K) B H [.v (.ref a), .v cv] (AB b) := fun B1 H1 us e1 hu Q q => by
  have := isAll_v (cs := [.ref a, cv]) hu
  subst this
  exact ⟨a, C, cv, uu, b, rfl, e1.hh _ _ h, E, k, e, q _ B1 H1 (Ext.refl e1.bh) (.bl _)⟩
theorem gv_isRT {cs : List V} {ws : List Value} {tr : TA} (ha : Gv ta Γ B H (.v (.ref a))) (h : H a = some (ExR C a)) (E : ExcC K C) (hc : Ga tr Γ B H (cs.map AV.v)) (hz : cs.length ≤ 16000000) (k : Paired ClsV cs ws) (e : PySem.W.kitAny K (.ref C) ws = some b) :
    Gv (tCB (rIsRT K) (tCons ta (tCons (tTup tr) tNil))) Γ B H (AB b) := fun B1 H1 σ e1 f Q q => by
  refine ha B1 H1 σ e1 f _ fun w B2 H2 e2 hw => hc B2 H2 σ (e1.trans e2) (f.mono e2.bb) _ fun us B3 H3 e3 hu => ?_
  have hu := isAll_v hu
  have hw : w = .ref a := hw
  subst hu hw
  refine ⟨sz hz, fun p hp => ?_⟩
  have e4 : Ext B3 H3 B3 (upd H3 p (.tup us)) := Ext.out e3.bh hp
  have x1 := (e2.trans e3).trans e4
  exact ⟨a, C, p, us, ws, b, rfl, x1.hh _ _ (e1.hh _ _ h), E, upd_same, k, e, q _ B3 _ x1 (.bl _)⟩
theorem gv_cls {u : V} : Gv (tC u) Γ B H (.v u) := gv_C
/-- is None, of an own object -/
theorem ro_isNV : Ro (fun x y H Q => y = .non ∧ Q (.bl (decide (x = .non))) H) B H (.v (.ref a)) AN (AB false) := fun B1 H1 u w e hu hw Q q => by
  cases hw
  have hu : u = .ref a := hu
  subst hu
  refine ⟨rfl, ?_⟩
  have e0 : decide (V.ref a = V.non) = false := by simp
  rw [e0]
  exact q _ B1 H1 (Ext.refl e.bh) (.bl false)
/-! a try whose suite keeps the error -/
theorem qx_try {cv : Value} {tb : WX → TS} {ts : Addr → Addr → TS} (h : Sx (tb (wKeep K cv i ts { D with nx := tz D })) { D with nx := tz D } Γ B H) : Sx (tSeq (tTryK K cv i ts tb) tz) D Γ B H := h
theorem wkeep {cv : Value} {ts : Addr → Addr → TS} (hm : PySem.W.exmOne K (.ref C) cv = some true) (e : Same B H)
    (h : ∀ a, H a = none → Sx (ts a C) { nx := fun τ J => D.nx (τ.set i none) J, rt := D.rt, bk := fun τ J => D.bk (τ.set i none) J, ct := fun τ J => D.ct (τ.set i none) J } (Γ.set i (some (.v (.ref a)))) B (upd H a (ExR C a)))
    {σ : L2.St} (f : Fr B σ Γ) : wKeep K cv i ts D (.ref C) none σ H :=
  ⟨C, rfl, rfl, hm, fun a ha => h a ha (fun b o q => by rw [upd_ne (ne_of_none (e _ _ q) ha)]; exact e _ _ q) _ (f.set i rfl)⟩
/-- the end of such a suite -/
theorem sx_out {rt : VK} {bk ct : L2.St → Hp → Prop} {tz : TS} {D : Ends} {j : Nat} (h : Sx tz D (Γ.set j none) B H) (l : j < Γ.length) : Sx tNext { nx := fun τ J => tz D (τ.set j none) J, rt := rt, bk := bk, ct := ct } Γ B H := fun e σ f => by
  refine h e _ ⟨by rw [List.length_set, List.length_set]; exact f.1, fun k g q => ?_⟩
  by_cases z : j = k
  · subst z
    rw [List.getElem?_set_self l] at q
    cases q
  · rw [List.getElem?_set_ne z] at q ⊢
    exact f.2 k g q
/-- a call by the slots -/
theorem qx_dropS {T : Type} {args : T → List AV} {pre : T → Hp → Hp → Prop} {res : T → Except Addr AV} {W : WX} {tr : TA} (a : T) (h : Ga tr Γ B H (args a)) (hp : ∀ B1 H1, Ext B H B1 H1 → pre a B1 H1)
    (k : ∀ g B2 H2, res a = .ok g → Ext B H B2 H2 → Sx tz D Γ B2 H2) (ke : ∀ C B2 H2 σ, res a = .error C → Ext B H B2 H2 → Fr B2 σ Γ → W (.ref C) none σ H2) : Sx (tSeq (tDrop (tCallS (spR args pre res) (WE W) tr)) tz) D Γ B H := fun e σ f =>
  h B H σ (Ext.refl e) f _ fun us B2 H2 e2 hu => ⟨a, B2, e2.bh, hu, hp B2 H2 e2, fun u B3 H3 g hg e3 h3 => k g B3 H3 hg (e2.trans e3) (e2.trans e3).bh _ (f.mono (e2.trans e3).bb), fun B3 H3 C hC e3 => ke C B3 H3 σ hC (e2.trans e3) (f.mono (e2.trans e3).bb)⟩
end
end SB
namespace SB
open PySem PySem.Spec PyProof.Rows L2
open Enc (enc)
section
variable {K : PySem.W.Frag} {Γ Δ : List (Option AV)} {B H : Hp} {g x y z : AV} {te ta tb tc tv ti : TE} {t u : TT} {b c : Bool} {i j : Nat} {D : Ends} {tz tu tw : TS} {ds es : List PyData} {d : PyData} {a p C dx : Addr} {v : V} {ns : List Int} {n : Int}
/-! ### an own list that is read -/
theorem rc_lenO (m : Ml B H p ds) : Rc (fun xs H Q => ∃ p ys, xs = [.ref p] ∧ (SqL K H p ys ∨ SqT K H p ys) ∧ Q (.int ys.length) H) B H [.v (.ref p)] (AI ds.length) := fun B1 H1 us e hu Q q => by
  have := isAll_v (cs := [.ref p]) hu
  subst this
  obtain ⟨_, vs, hp, t⟩ := m.ext e
  refine ⟨p, vs, rfl, .inl (SqL.of hp), ?_⟩
  rw [t.length]
  exact q _ B1 H1 (Ext.refl e.bh) (.int _)
theorem rc_tupleO (m : Ml B H p ds) : Rc (fun xs H Q => ∃ p ys, xs = [.ref p] ∧ ((SqL K H p ys ∧ ∀ l, H l = none → Q (.ref l) (upd H l (.tup ys))) ∨ (SqT K H p ys ∧ Q (.ref p) H))) B H [.v (.ref p)] (.d (.tuple ds)) := fun B1 H1 us e hu Q q => by
  have := isAll_v (cs := [.ref p]) hu
  subst this
  obtain ⟨_, vs, hp, t⟩ := m.ext e
  refine ⟨p, vs, rfl, .inl ⟨SqL.of hp, fun l hl => ?_⟩⟩
  exact q _ _ _ (Ext.new e.bh hl) (dq_newT e.bh hl t)
theorem ro_ixO {k : Int} (m : Ml B H p ds) (h : atI ds k = some d) : Ro (rIxL K) B H (.v (.ref p)) (AI k) (.d d) := fun B1 H1 u w e hu hw Q q => by
  cases hw
  have hu : u = .ref p := hu
  subst hu
  obtain ⟨_, vs, hp, t⟩ := m.ext e
  obtain ⟨u, h1, h2⟩ := atI_dq t h
  exact ⟨p, vs, k, u, rfl, rfl, SqL.of hp, h1, q u B1 H1 (Ext.refl e.bh) h2⟩
theorem gv_slO {tl th : TO} {lo hi : Option Int} (m : Ml B H p ds) (ha : Gv ta Γ B H (.v (.ref p))) (h1 : Go tl Γ B H lo) (h2 : Go th Γ B H hi) : Gv (tSl (rSlL K) ta tl th) Γ B H (.d (.list (cutD ds lo hi))) :=
  gv_sl ha h1 h2 fun B1 H1 u e hu Q q => by
    have hu : u = .ref p := hu
    subst hu
    obtain ⟨_, vs, hp, t⟩ := m.ext e
    exact ⟨_, _, rfl, SqL.of hp, fun l hl => q _ _ _ (Ext.new e.bh hl) (dq_newL e.bh hl (t.cut lo hi))⟩
theorem gm_cat (ha : Gv ta Γ B H (.d (.list ds))) (hb : Gv tb Γ B H (.d (.list es))) (hz : ds.length + es.length ≤ 16000000) : Gm (tOp rCat ta tb) Γ B H (ds ++ es) := fun B1 H1 σ e f Q q =>
  ha B1 H1 σ e f _ fun u B2 H2 e2 hu => hb B2 H2 σ (e.trans e2) (f.mono e2.bb) _ fun w B3 H3 e3 hw => by
    cases hw with
    | lst h' t' =>
      cases hu with
      | lst h t =>
        refine ⟨_, _, _, _, rfl, rfl, e3.bh _ _ (e3.bb _ _ h), e3.bh _ _ h', sz (by rw [t.length, t'.length]; exact hz), fun p hp => ?_⟩
        have e23 := e2.trans e3
        exact q p B3 _ (e23.trans (Ext.out e3.bh hp)) (e23.hh.free hp) ⟨e3.bh.free hp, _, upd_same, (t.mono e3.bb).append t'⟩
theorem qx_asgM (h : Gm te Γ B H ds) (k : ∀ p B2 H2, H p = none → Ext B H B2 H2 → Ml B2 H2 p ds → Sx tz D (Γ.set i (some (.v (.ref p)))) B2 H2) : Sx (tSeq (tAsg te (gName i)) tz) D Γ B H := fun e σ f =>
  h B H σ (Ext.refl e) f _ fun p B2 H2 x hp m => k p B2 H2 hp x m x.bh _ ((f.mono x.bb).set i rfl)
/-- p[k] = e -/
theorem qx_set {k : Int} (m : Ml B H p ds) (hv : Gv tv Γ B H (.d d)) (ha : ∀ B1 H1, Ext B H B1 H1 → Gv ta Γ B1 H1 (.v (.ref p))) (hi : ∀ B1 H1, Ext B H B1 H1 → Gv ti Γ B1 H1 (AI k)) (hk : ixN ds.length k = some j)
    (q : ∀ B2 H2, ExtF (· = p) B H B2 H2 → Ml B2 H2 p (ds.set j d) → Sx tz D Γ B2 H2) : Sx (tSeq (tAsg tv (gSub ta ti rSetL)) tz) D Γ B H := fun e σ f =>
  hv B H σ (Ext.refl e) f _ fun w B2 H2 e2 hw => ha B2 H2 e2 B2 H2 σ (Ext.refl e2.bh) (f.mono e2.bb) _ fun u B3 H3 e3 hu => hi B3 H3 (e2.trans e3) B3 H3 σ (Ext.refl e3.bh) (f.mono (e2.trans e3).bb) _ fun u2 B4 H4 e4 hu2 => by
    cases hu2
    have hu : u = .ref p := hu
    subst hu
    have x := (e2.trans e3).trans e4
    obtain ⟨hb, vs, hp, t⟩ := m.ext x
    refine ⟨p, vs, k, j, rfl, rfl, hp, by rw [t.length]; exact hk, ?_⟩
    have wr : ∀ o, ExtF (· = p) B4 H4 B4 (upd H4 p o) := fun o => ExtF.wr x.bh hb (by rw [hp]; simp)
    exact q B4 _ (x.f.trans (wr _)) ⟨hb, _, upd_same, t.set (hw.mono (e3.trans e4).bb) j⟩ (wr _).bh σ (f.mono x.bb)
/-- if, with what is behind it told once -/
theorem qx_ifJ {ι : Type} (G : ι → List (Option AV)) (R : ι → Hp → Hp → Prop) (h : Gt t Γ B H b)
    (h1 : (∀ x B2 H2, R x B2 H2 → Sx tz D (G x) B2 H2) → b = true → ∀ B2 H2, Ext B H B2 H2 → Sx tu { D with nx := tz D } Γ B2 H2)
    (h2 : (∀ x B2 H2, R x B2 H2 → Sx tz D (G x) B2 H2) → b = false → ∀ B2 H2, Ext B H B2 H2 → Sx tw { D with nx := tz D } Γ B2 H2)
    (k : ∀ x B2 H2, R x B2 H2 → Sx tz D (G x) B2 H2) : Sx (tSeq (tIfS t tu tw) tz) D Γ B H := qx_if h (h1 k) (h2 k)
theorem gi_nil : Ga tNil Γ B H ((([] : List Int).map PyData.int).map AV.d) := ga_nil
theorem gi_cons {tr : TA} {k : Int} {ks : List Int} (h : Gv ta Γ B H (AI k)) (hr : Ga tr Γ B H ((ks.map PyData.int).map AV.d)) : Ga (tCons ta tr) Γ B H (((k :: ks).map PyData.int).map AV.d) := ga_cons h hr
/-! ### the script, as it is handed in -/
theorem gt_truSq (h : Gv ta Γ B H (.v (.ref a))) (s : SqL K H a (ns.map V.int)) : Gt (tTru K ta) Γ B H (!ns.isEmpty) := fun B1 H1 σ e f Q q => h B1 H1 σ e f _ fun u B2 H2 e2 hu => by
  have hu : u = .ref a := hu
  subst hu
  refine ⟨!ns.isEmpty, .inl ⟨_, (e.trans e2).hh.seq s, ?_⟩, q B2 H2 e2⟩
  cases ns <;> rfl
theorem rc_lenSq (s : SqL K H a (ns.map V.int)) : Rc (rLenK K) B H [.v (.ref a)] (AI ns.length) := fun B1 H1 us e hu Q q => by
  have := isAll_v (cs := [.ref a]) hu
  subst this
  refine ⟨a, _, rfl, .inl (e.hh.seq s), ?_⟩
  rw [List.length_map]
  exact q _ B1 H1 (Ext.refl e.bh) (.int _)
theorem ro_ixSq {k : Int} (s : SqL K H a (ns.map V.int)) (h : atI (ns.map V.int) k = some (.int n)) : Ro (rIxL K) B H (.v (.ref a)) (AI k) (AI n) := fun B1 H1 u w e hu hw Q q => by
  cases hw
  have hu : u = .ref a := hu
  subst hu
  exact ⟨a, _, k, .int n, rfl, rfl, e.hh.seq s, h, q _ B1 H1 (Ext.refl e.bh) (.int _)⟩
end
theorem atI_some {α : Type} {xs : List α} {k : Int} (h0 : 0 ≤ k) (h1 : k < xs.length) : ∃ x ∈ xs, atI xs k = some x := by
  have : atI xs k = xs[k.toNat]? := by
    unfold atI ixN
    rw [if_pos h0, if_pos h1]
    rfl
  have l : k.toNat < xs.length := by omega
  exact ⟨xs[k.toNat], List.getElem_mem l, by rw [this]; exact List.getElem?_eq_getElem l⟩
theorem menu (xs : List Int) (k : Int) (h : 0 < xs.length) : ∃ n ∈ xs, atI (xs.map PyData.int) (k % (xs.length : Int)) = some (.int n) := by
  have h0 : (0 : Int) ≤ k % (xs.length : Int) := Int.emod_nonneg _ (by omega)
  have h1 : k % (xs.length : Int) < xs.length := Int.emod_lt_of_pos _ (by omega)
  obtain ⟨x, hx, e⟩ := atI_some (xs := xs.map PyData.int) h0 (by rw [List.length_map]; exact h1)
  obtain ⟨n, hn, rfl⟩ := List.mem_map.mp hx
  exact ⟨n, hn, e⟩
theorem menuV (xs : List Int) (k : Int) (h : 0 < xs.length) : ∃ n ∈ xs, atI (xs.map V.int) (k % (xs.length : Int)) = some (.int n) := by
  have h0 : (0 : Int) ≤ k % (xs.length : Int) := Int.emod_nonneg _ (by omega)
  have h1 : k % (xs.length : Int) < xs.length := Int.emod_lt_of_pos _ (by omega)
  obtain ⟨x, hx, e⟩ := atI_some (xs := xs.map V.int) h0 (by rw [List.length_map]; exact h1)
  obtain ⟨n, hn, rfl⟩ := List.mem_map.mp hx
  exact ⟨n, hn, e⟩
end SB
namespace SB
open PySem PySem.Spec PyProof.Rows L2
open Enc (enc)
section
variable {K : PySem.W.Frag} {Γ Δ : List (Option AV)} {B H : Hp} {g x y z : AV} {te ta tb tc tv ti : TE} {t u : TT} {b c : Bool} {i j : Nat} {D : Ends} {tz tu tw : TS} {ds es : List PyData} {d : PyData} {a p C dx : Addr} {v : V} {ns : List Int} {n : Int}
/-! ### an own list, looked at as data -/
/-- an answer that is no object -/
def Sc (z : AV) : Prop := ∀ (B B' : Hp) (u : V), Is B u z → Is B' u z
theorem sc_int : Sc (AI n) := fun _ _ _ h => by cases h; exact .int _
theorem sc_bl : Sc (AB b) := fun _ _ _ h => by cases h; exact .bl _
theorem sc_str {s : Str} : Sc (AS s) := fun _ _ _ h => by cases h; exact .str _
theorem sc_non : Sc AN := fun _ _ _ h => by cases h; exact .non
theorem fr_own {σ : L2.St} {us : List V} (hb : B p = none) (t : DqAll B us ds) (hi : Γ[i]? = some (some (.v (.ref p)))) (f : Fr B σ Γ) : Fr (upd B p (.lst us)) σ (Γ.set i (some (.d (.list ds)))) := by
  have s : Same B (upd B p (.lst us)) := fun c o q => by rw [upd_ne (ne_of_none q hb)]; exact q
  refine ⟨by rw [List.length_set]; exact f.1, fun k g q => ?_⟩
  by_cases e : i = k
  · subst e
    rw [List.getElem?_set_self (List.getElem?_eq_some_iff.mp hi).1] at q
    cases q
    obtain ⟨u, h1, h2⟩ := f.2 i _ hi
    have h2 : u = .ref p := h2
    subst h2
    exact ⟨_, h1, .lst upd_same (t.mono s)⟩
  · rw [List.getElem?_set_ne e] at q
    obtain ⟨u, h1, h2⟩ := f.2 k g q
    exact ⟨u, h1, h2.mono s⟩
theorem same_own {us : List V} (e : Same B H) (hp : H p = some (.lst us)) : Same (upd B p (.lst us)) H := fun c o q => by
  by_cases z : c = p
  · subst z
    rw [upd_same] at q
    rw [hp]
    exact q
  · rw [upd_ne z] at q
    exact e _ _ q
theorem gv_own (m : Ml B H p ds) (hi : Γ[i]? = some (some (.v (.ref p)))) (hz : Sc z) (h : ∀ B1 H1, Same B B1 → Same H H1 → Gv te (Γ.set i (some (.d (.list ds)))) B1 H1 z) : Gv te Γ B H z := fun B1 H1 σ e f Q q => by
  obtain ⟨hb, us, hp, t⟩ := m.ext e
  have s1 : Same B1 (upd B1 p (.lst us)) := fun c o q => by rw [upd_ne (ne_of_none q hb)]; exact q
  refine h (upd B1 p (.lst us)) H1 (e.bb.trans s1) e.hh _ H1 σ (Ext.refl (same_own e.bh hp)) (fr_own hb t hi f) Q fun u B2 H2 x hu => ?_
  exact q u B1 H2 ⟨Same.refl _, e.bh.trans x.hh, x.hh, fun _ h => .inl h⟩ (hz _ _ _ hu)
theorem gt_own (m : Ml B H p ds) (hi : Γ[i]? = some (some (.v (.ref p)))) (h : ∀ B1 H1, Same B B1 → Same H H1 → Gt t (Γ.set i (some (.d (.list ds)))) B1 H1 b) : Gt t Γ B H b := fun B1 H1 σ e f Q q => by
  obtain ⟨hb, us, hp, t⟩ := m.ext e
  have s1 : Same B1 (upd B1 p (.lst us)) := fun c o q => by rw [upd_ne (ne_of_none q hb)]; exact q
  refine h (upd B1 p (.lst us)) H1 (e.bb.trans s1) e.hh _ H1 σ (Ext.refl (same_own e.bh hp)) (fr_own hb t hi f) Q fun B2 H2 x => ?_
  exact q B1 H2 ⟨Same.refl _, e.bh.trans x.hh, x.hh, fun _ h => .inl h⟩
theorem gm_catO (m : Ml B H p ds) (ha : Gv ta Γ B H (.v (.ref p))) (hb : Gv tb Γ B H (.d (.list es))) (hz : ds.length + es.length ≤ 16000000) : Gm (tOp rCat ta tb) Γ B H (ds ++ es) := fun B1 H1 σ e f Q q =>
  ha B1 H1 σ e f _ fun u B2 H2 e2 hu => hb B2 H2 σ (e.trans e2) (f.mono e2.bb) _ fun w B3 H3 e3 hw => by
    have hu : u = .ref p := hu
    subst hu
    obtain ⟨_, us, hp, t⟩ := m.ext ((e.trans e2).trans e3)
    cases hw with
    | lst h' t' =>
      refine ⟨_, _, _, _, rfl, rfl, hp, e3.bh _ _ h', sz (by rw [t.length, t'.length]; exact hz), fun l hl => ?_⟩
      have e23 := e2.trans e3
      exact q l B3 _ (e23.trans (Ext.out e3.bh hl)) (e23.hh.free hl) ⟨e3.bh.free hl, _, upd_same, t.append t'⟩
/-! ### loops whose slots are told by more than the turn -/
def Lx {ι : Type} (Bs : Hp) (G : ι → List (Option AV)) (P : ι → Hp → Hp → Prop) : L2.St → Hp → Prop := fun σ H => ∃ (x : ι) (B : Hp), Same Bs B ∧ Same B H ∧ P x B H ∧ Fr B σ (G x)
theorem sx_lx {ι : Type} {G : ι → List (Option AV)} {P : ι → Hp → Hp → Prop} {Bs : Hp} {rt : VK} {bk ct : L2.St → Hp → Prop} (x : ι) (s : Same Bs B) (l : Le (G x) Γ) (p : P x B H) : Sx tNext { nx := Lx Bs G P, rt := rt, bk := bk, ct := ct } Γ B H := fun e σ f => ⟨x, B, s, e, p, f.le l⟩
theorem sx_cx {ι : Type} {G : ι → List (Option AV)} {P : ι → Hp → Hp → Prop} {Bs : Hp} {rt : VK} {nx bk : L2.St → Hp → Prop} (x : ι) (s : Same Bs B) (l : Le (G x) Γ) (p : P x B H) : Sx (tSeq tCont tz) { nx := nx, rt := rt, bk := bk, ct := Lx Bs G P } Γ B H := fun e σ f => ⟨x, B, s, e, p, f.le l⟩
theorem qx_forDE {ι α : Type} [DecidableEq α] [Enc α] {xs : List α} {tl : TE} (h : Gv tl Γ B H (.d (.list (xs.map enc)))) (G : ι → List (Option AV)) (P : Nat → ι → Hp → Hp → Prop) (x0 : ι) (hl : Le (G x0) Γ) (h0 : ∀ B1 H1, Ext B H B1 H1 → P 0 x0 B1 H1)
    (hs : ∀ Bs k a x B1 H1, xs[k]? = some a → Same B Bs → Same Bs B1 → P k x B1 H1 → Sx tu { D with nx := Lx Bs G (P (k + 1)), ct := Lx Bs G (P (k + 1)), bk := tz D } ((G x).set j (some (.d (enc a)))) B1 H1)
    (hd : ∀ x B1 H1, Same B B1 → P xs.length x B1 H1 → Sx tz D (G x) B1 H1) : Sx (tSeq (tFor (iList K tl) (gName j) tu) tz) D Γ B H := fun e σ f =>
  h B H σ (Ext.refl e) f _ fun u Bs Hs x hu => by
    cases hu with
    | @lst a us _ hp t =>
      have hlen : us.length = xs.length := by rw [t.length, List.length_map]
      refine ⟨a, rfl, ⟨_, SqL.of (x.bh _ _ hp)⟩, for_list (K := K) (a := a) (xs := us) (D := { D with nx := tz D }) (fun k => Lx Bs G (P k)) ⟨x0, Bs, Same.refl _, x.bh, h0 Bs Hs x, (f.mono x.bb).le hl⟩ ?_ ?_ ?_⟩
      · rintro k σ' H' _ ⟨_, B', s1, s2, _, _⟩
        exact SqL.of (s2 _ _ (s1 _ _ hp))
      · rintro k v σ' H' hk ⟨y, B', s1, s2, p, f'⟩
        obtain ⟨d, hd1, hd2⟩ := t.getV hk
        rw [List.getElem?_map] at hd1
        cases q : xs[k]? with
        | none => rw [q] at hd1; cases hd1
        | some a' =>
          rw [q] at hd1
          cases hd1
          exact hs Bs k a' y B' H' q x.bb s1 p s2 _ (f'.set (g := .d (enc a')) j (hd2.mono s1))
      · rintro σ' H' ⟨y, B', s1, s2, p, f'⟩
        rw [hlen] at p
        exact hd y B' H' (x.bb.trans s1) p s2 σ' f'
theorem qx_forTE {ι α : Type} [DecidableEq α] [Enc α] {xs : List α} {tl : TE} (h : Gv tl Γ B H (.d (.tuple (xs.map enc)))) (G : ι → List (Option AV)) (P : Nat → ι → Hp → Hp → Prop) (x0 : ι) (hl : Le (G x0) Γ) (h0 : ∀ B1 H1, Ext B H B1 H1 → P 0 x0 B1 H1)
    (hs : ∀ Bs k a x B1 H1, xs[k]? = some a → Same B Bs → Same Bs B1 → P k x B1 H1 → Sx tu { D with nx := Lx Bs G (P (k + 1)), ct := Lx Bs G (P (k + 1)), bk := tz D } ((G x).set j (some (.d (enc a)))) B1 H1)
    (hd : ∀ x B1 H1, Same B B1 → P xs.length x B1 H1 → Sx tz D (G x) B1 H1) : Sx (tSeq (tFor (iTup K tl) (gName j) tu) tz) D Γ B H := fun e σ f =>
  h B H σ (Ext.refl e) f _ fun u Bs Hs x hu => by
    cases hu with
    | @tup a us _ hp t =>
      have hlen : us.length = xs.length := by rw [t.length, List.length_map]
      refine ⟨a, rfl, ⟨_, SqT.of (x.bh _ _ hp)⟩, for_tup (K := K) (a := a) (xs := us) (D := { D with nx := tz D }) (fun k => Lx Bs G (P k)) ⟨x0, Bs, Same.refl _, x.bh, h0 Bs Hs x, (f.mono x.bb).le hl⟩ ?_ ?_ ?_⟩
      · rintro k σ' H' _ ⟨_, B', s1, s2, _, _⟩
        exact SqT.of (s2 _ _ (s1 _ _ hp))
      · rintro k v σ' H' hk ⟨y, B', s1, s2, p, f'⟩
        obtain ⟨d, hd1, hd2⟩ := t.getV hk
        rw [List.getElem?_map] at hd1
        cases q : xs[k]? with
        | none => rw [q] at hd1; cases hd1
        | some a' =>
          rw [q] at hd1
          cases hd1
          exact hs Bs k a' y B' H' q x.bb s1 p s2 _ (f'.set (g := .d (enc a')) j (hd2.mono s1))
      · rintro σ' H' ⟨y, B', s1, s2, p, f'⟩
        rw [hlen] at p
        exact hd y B' H' (x.bb.trans s1) p s2 σ' f'
theorem qx_forRE {ι : Type} {ta : TA} {n : Int} (h : Ga ta Γ B H [AI n]) (hn : n ≤ 1000000) (hn0 : -1000000 ≤ n) (G : ι → List (Option AV)) (P : Nat → ι → Hp → Hp → Prop) (x0 : ι) (hl : Le (G x0) Γ) (h0 : ∀ B1 H1, Ext B H B1 H1 → P 0 x0 B1 H1)
    (hs : ∀ Bs (k : Nat) x B1 H1, k < n.toNat → Same B Bs → Same Bs B1 → P k x B1 H1 → Sx tu { D with nx := Lx Bs G (P (k + 1)), ct := Lx Bs G (P (k + 1)), bk := tz D } ((G x).set j (some (AI (k : Int)))) B1 H1)
    (hd : ∀ x B1 H1, Same B B1 → P n.toNat x B1 H1 → Sx tz D (G x) B1 H1) : Sx (tSeq (tFor (iRng1 ta) (gName j) tu) tz) D Γ B H := fun e σ f =>
  h B H σ (Ext.refl e) f _ fun us Bs Hs x hu => by
    cases hu with
    | cons hu t =>
      cases t
      cases hu
      refine ⟨n, rfl, by omega, by omega, for_range (lo := 0) (n := n.toNat) (D := { D with nx := tz D }) (fun k => Lx Bs G (P k)) ⟨x0, Bs, Same.refl _, x.bh, h0 Bs Hs x, (f.mono x.bb).le hl⟩ ?_ ?_⟩
      · rintro k σ' H' hk ⟨y, B', s1, s2, p, f'⟩
        have e0 : (0 : Int) + (k : Int) = (k : Int) := Int.zero_add _
        show gName j (V.int ((0 : Int) + (k : Int))) σ' H' _
        rw [e0]
        exact hs Bs k y B' H' hk x.bb s1 p s2 _ (f'.set (g := AI (k : Int)) j (.int _))
      · rintro σ' H' ⟨y, B', s1, s2, p, f'⟩
        exact hd y B' H' (x.bb.trans s1) p s2 σ' f'
/-! ### a call that could raise and does not -/
def xNo : XK := fun _ _ _ => False
theorem passF {X : Cx} : Passes (L2.CX X.prog X.w) X xNo := fun pins σ H s e s' I c => by
  obtain ⟨_, _, _, _, _, _, _, _, _, _, _, _, h⟩ := c
  exact h.elim
theorem gv_callR {T : Type} {args : T → List AV} {pre : T → Hp → Hp → Prop} {res : T → Except Addr AV} {E : XK} {tr : TA} (a : T) (h : Ga tr Γ B H (args a)) (hp : ∀ B1 H1, Ext B H B1 H1 → pre a B1 H1) (hr : res a = .ok z) : Gv (tCall (spR args pre res) [] E tr) Γ B H z := fun B1 H1 σ e f Q q =>
  gx_call (E := E) a h hp B1 H1 σ e f Q (fun u B2 H2 g hg x hu => by rw [hr] at hg; cases hg; exact q u B2 H2 x hu) fun B2 H2 c hc x => by rw [hr] at hc; cases hc
/-! ### a promise of some answer -/
def spX {T : Type} (args : T → List AV) (pre : T → Hp → Hp → Prop) (R : T → AV → Prop) : Sp := fun vs H Q _ =>
  ∃ (a : T) (B : Hp), Same B H ∧ IsAll B vs (args a) ∧ pre a B H ∧ ∀ u B2 H2 g, R a g → Ext B H B2 H2 → Is B2 u g → Q u H2
theorem qx_asgE {T : Type} {args : T → List AV} {pre : T → Hp → Hp → Prop} {R : T → AV → Prop} {E : XK} {tr : TA} (a : T) (h : Ga tr Γ B H (args a)) (hp : ∀ B1 H1, Ext B H B1 H1 → pre a B1 H1)
    (k : ∀ g B2 H2, R a g → Ext B H B2 H2 → Sx tz D (Γ.set i (some g)) B2 H2) : Sx (tSeq (tAsg (tCall (spX args pre R) [] E tr) (gName i)) tz) D Γ B H := fun e σ f =>
  h B H σ (Ext.refl e) f _ fun us B2 H2 e2 hu => ⟨a, B2, e2.bh, by rw [List.append_nil]; exact hu, hp B2 H2 e2, fun u B3 H3 g hg e3 h3 => k g B3 H3 hg (e2.trans e3) (e2.trans e3).bh _ ((f.mono (e2.trans e3).bb).set i h3)⟩
end
section
variable {P : Program} {w : World} {K : PySem.W.Frag} {mg : Str → Option Value} {base : Heap} {x qual : Str} {st : Stmt} {f : Addr} {fd : FuncData} {N ps : List Str} {k : Nat} {T : Type}
theorem fn_X {args : T → List AV} {pre : T → Hp → Hp → Prop} {R : T → AV → Prop} (F : Fun K x qual st f fd) (S : FnScope N ps (defScope st)) (hl : ∀ a, (args a).length = ps.length)
    (body : ∀ (cdv : Value) (A : Around) (outer : List Env) (s : Shared) (H : Hp) (Q : VK) (E : XK), Room k (A.deeper (envOfC qual (defScope st) s.heap.objs.size f cdv)) →
      ∃ t, PSs (cxOf CX0 P w K mg base N qual (defScope st) f cdv A outer s H E).nox (defBody st) t ∧ ∀ (a : T) (B : Hp), Same B H → pre a B H → (∀ u B2 H2 g, R a g → Ext B H B2 H2 → Is B2 u g → Q u H2) → Sx t { nx := fun _ H' => Q .non H', rt := Q } (Γ0 N (args a)) B H) :
    FnOk P w K mg base CX0 (k + 1) f fd ps (spX args pre R) := by
  refine F.ok S (fun vs H Q E h => ?_) (fun cdv A outer s H vs Q E hr h => ?_)
  · obtain ⟨a, B, _, i, _⟩ := h
    rw [i.length, hl]
  · obtain ⟨a, B, e, i, p, q⟩ := h
    obtain ⟨t, h1, h2⟩ := body cdv A outer s H Q E hr
    refine ⟨t, h1, h2 a B e p q e _ (fr_start i ?_)⟩
    rw [i.length, hl]
    exact take_len S.pre
end
section
variable {K : PySem.W.Frag} {Γ : List (Option AV)} {B H : Hp} {d : PyData} {b : Bool}
/-! ### isinstance of data -/
theorem ro_notInTI {n : Int} {ns : List Int} : Ro (rIn K true) B H (AI n) (.d (.tuple (ns.map PyData.int))) (AB (!decide (n ∈ ns))) := by
  have h := ro_notInT (K := K) (B := B) (H := H) (d := .int n) (ds := ns.map PyData.int) rfl (flat_ints ns)
  rw [any_ints] at h
  exact h
theorem call_isiQ {X : Cx} {K : PySem.W.Frag} (h : X.K = K) : CallR X (.builtin "isinstance") (rIsi K) := by subst h; exact call_isi
def tyD : PyData → Option String
  | .none => some "NoneType"
  | .bool _ => some "bool"
  | .int _ => some "int"
  | .str _ => some "str"
  | .list _ => some "list"
  | .tuple _ => some "tuple"
  | _ => none
theorem ty_dq {u : V} {t : String} (h : Dq B u d) (e : tyD d = some t) (s : Same B H) : TyX K H u (.type t) := by
  cases h <;> cases e
  · exact .base .non
  · exact .base (.bl _)
  · exact .base (.int _)
  · exact .base (.str _)
  · rename_i h1 h2; exact .base (.lst (s _ _ h1))
  · rename_i h1 h2; exact .base (.tup (s _ _ h1))
theorem rc_isD {t n : String} (e : tyD d = some t) (k : kitB t n = some b) : Rc (rIsi K) B H [.d d, .v (.ty n)] (AB b) := fun B1 H1 us e1 hu Q q => by
  cases hu with
  | cons h1 hu =>
    cases hu with
    | cons h2 hu =>
      cases hu
      have h2 := h2
      subst h2
      exact ⟨_, _, .type t, .type n, b, rfl, .ty n, ty_dq h1 e e1.bh, kit_ty k, q _ B1 H1 (Ext.refl e1.bh) (.bl _)⟩
end
end SB
namespace SB
/-! ### a yard's joints, as the law draws them -/
def jN (m : Int) (i : Nat) : Int := (m + 37 * (i : Int)) % 1000
theorem jN_inj {m : Int} {i k : Nat} (hi : i < 1000) (hk : k < 1000) (h : jN m i = jN m k) : i = k := by
  unfold jN at h
  omega
theorem jN_rng (m : Int) (i : Nat) : 0 ≤ jN m i ∧ jN m i ≤ 999 := by
  unfold jN
  omega
structure PInv (m : Int) (all loose : List Int) (many : Nat) : Prop where
  frm : ∀ j ∈ all, ∃ i, i < many ∧ j = jN m i
  two : ∀ j, all.count j ≤ 2
  one : ∀ j ∈ loose, all.count j = 1
structure EInv (m : Int) (all loose es : List Int) (many : Nat) : Prop where
  frm : ∀ j ∈ all, ∃ i, i < many ∧ j = jN m i
  fre : ∀ j ∈ es, ∃ i, i < many ∧ j = jN m i
  nd : es.Nodup
  cnt : ∀ j ∈ es, j ∈ loose ∨ all.count j = 0
theorem PInv.nil {m : Int} : PInv m [] [] 0 := ⟨fun j h => by simp at h, fun j => by simp, fun j h => by simp at h⟩
theorem PInv.start {m : Int} {all loose : List Int} {many : Nat} (p : PInv m all loose many) : EInv m all loose [] many := ⟨p.frm, fun j h => by simp at h, List.nodup_nil, fun j h => by simp at h⟩
theorem nd_snoc {es : List Int} {j : Int} (h : es.Nodup) (n : j ∉ es) : (es ++ [j]).Nodup := by
  rw [List.nodup_append]
  refine ⟨h, by simp, fun a ha b hb e => ?_⟩
  simp at hb
  subst hb
  subst e
  exact n ha
theorem EInv.pick {m : Int} {all loose es : List Int} {many n0 : Nat} (p : PInv m all loose n0) (e : EInv m all loose es many) {j : Int} (h : j ∈ loose) (n : j ∉ es) : EInv m all loose (es ++ [j]) many := by
  have hj : j ∈ all := List.count_pos_iff.mp (by rw [p.one j h]; decide)
  refine ⟨e.frm, fun k hk => ?_, nd_snoc e.nd n, fun k hk => ?_⟩
  · rcases List.mem_append.mp hk with h1 | h1
    · exact e.fre k h1
    · simp at h1
      subst h1
      exact e.frm _ hj
  · rcases List.mem_append.mp hk with h1 | h1
    · exact e.cnt k h1
    · simp at h1
      subst h1
      exact .inl h
theorem EInv.fresh {m : Int} {all loose es : List Int} {many : Nat} (e : EInv m all loose es many) (h : many < 999) : EInv m all loose (es ++ [jN m many]) (many + 1) := by
  have n1 : jN m many ∉ all := fun q => by
    obtain ⟨i, hi, e1⟩ := e.frm _ q
    have := jN_inj (by omega) (by omega) e1
    omega
  have n2 : jN m many ∉ es := fun q => by
    obtain ⟨i, hi, e1⟩ := e.fre _ q
    have := jN_inj (by omega) (by omega) e1
    omega
  refine ⟨fun j hj => ?_, fun j hj => ?_, nd_snoc e.nd n2, fun j hj => ?_⟩
  · obtain ⟨i, hi, e1⟩ := e.frm j hj
    exact ⟨i, by omega, e1⟩
  · rcases List.mem_append.mp hj with h1 | h1
    · obtain ⟨i, hi, e1⟩ := e.fre j h1
      exact ⟨i, by omega, e1⟩
    · simp at h1
      exact ⟨many, by omega, h1⟩
  · rcases List.mem_append.mp hj with h1 | h1
    · exact e.cnt j h1
    · simp at h1
      subst h1
      exact .inr (List.count_eq_zero.mpr n1)
theorem PInv.next {m : Int} {all loose es : List Int} {n0 many : Nat} (p : PInv m all loose n0) (e : EInv m all loose es many) :
    PInv m (all ++ es) ((es.filter fun j => !decide (j ∈ loose)) ++ loose.filter fun j => !decide (j ∈ es)) many := by
  have c1 : ∀ j, es.count j ≤ 1 := List.nodup_iff_count.mp e.nd
  refine ⟨fun j hj => ?_, fun j => ?_, fun j hj => ?_⟩
  · rcases List.mem_append.mp hj with h1 | h1
    · exact e.frm j h1
    · exact e.fre j h1
  · rw [List.count_append]
    by_cases h : j ∈ es
    · have := c1 j
      rcases e.cnt j h with h1 | h1
      · have := p.one j h1
        omega
      · omega
    · have := p.two j
      have := List.count_eq_zero.mpr h
      omega
  · rw [List.count_append]
    rcases List.mem_append.mp hj with h1 | h1
    · obtain ⟨h2, h3⟩ := List.mem_filter.mp h1
      have h3 : j ∉ loose := by simpa using h3
      have h4 : es.count j = 1 := by
        have := c1 j
        have := List.count_pos_iff.mpr h2
        omega
      rcases e.cnt j h2 with h5 | h5
      · exact absurd h5 h3
      · omega
    · obtain ⟨h2, h3⟩ := List.mem_filter.mp h1
      have h3 : j ∉ es := by simpa using h3
      have := p.one j h2
      have := List.count_eq_zero.mpr h3
      omega
end SB
namespace SB
open PySem PySem.Spec PyProof.Rows L2
open Enc (enc)
/-! ### a told list of pairs (number, own list) -/
structure Told (B H : Hp) (t : Addr) (ps ls : List Addr) (rs : List (Int × List PyData)) : Prop where
  ht : H t = some (.lst (ps.map V.ref))
  bt : B t = none
  hp : ps.length = rs.length
  hl : ls.length = rs.length
  nd : ls.Nodup
  tl : t ∉ ls
  el : ∀ (i : Nat) (r : Int × List PyData), rs[i]? = some r → ∃ p l, ps[i]? = some p ∧ ls[i]? = some l ∧ H p = some (.tup [.int r.1, .ref l]) ∧ B p = none ∧ Ml B H l r.2
def pairD (r : Int × List PyData) : PyData := .tuple [.int r.1, .list r.2]
section
variable {K : PySem.W.Frag} {Γ Δ : List (Option AV)} {B H : Hp} {g x y z : AV} {te ta tb tc tv ti tl : TE} {t u : TT} {b c : Bool} {i j : Nat} {D : Ends} {tz tu tw : TS} {ds es : List PyData} {d : PyData} {a p C dx : Addr} {v : V} {ns : List Int} {n : Int}
theorem gm_list (h : Gv ta Γ B H (.d (.list ds))) : Gm (tCB (fun xs H Q => ∃ p ys, xs = [.ref p] ∧ (SqL K H p ys ∨ SqT K H p ys) ∧ ∀ l, H l = none → Q (.ref l) (upd H l (.lst ys))) (tCons ta tNil)) Γ B H ds := fun B1 H1 σ e f Q q =>
  h B1 H1 σ e f _ fun u B2 H2 x hu => by
    cases hu with
    | lst hp t => exact ⟨_, _, rfl, .inl (SqL.of (x.bh _ _ hp)), fun l hl => q l B2 _ (x.trans (Ext.out x.bh hl)) (x.hh.free hl) ⟨x.bh.free hl, _, upd_same, t⟩⟩
theorem dqAll_ix {B : Hp} : ∀ {us : List V} {ds : List PyData}, us.length = ds.length → (∀ (i : Nat) (u : V) (d : PyData), us[i]? = some u → ds[i]? = some d → Dq B u d) → DqAll B us ds
  | [], [], _, _ => .nil
  | [], _ :: _, h, _ => by simp at h
  | _ :: _, [], h, _ => by simp at h
  | u :: us, d :: ds, h, k => .cons (k 0 u d rfl rfl) (dqAll_ix (by simpa using h) fun i u d h1 h2 => k (i + 1) u d (by simpa using h1) (by simpa using h2))
theorem Told.give {B0 H0 : Hp} {tt : Addr} {ps ls : List Addr} {rs : List (Int × List PyData)} (T : Told B H tt ps ls rs) (x : Ext B0 H0 B H) (h1 : H0 tt = none) (h2 : ∀ p ∈ ps, H0 p = none) (h3 : ∀ l ∈ ls, H0 l = none) :
    ∃ B', Ext B0 H0 B' H ∧ Same B B' ∧ Dq B' (.ref tt) (.list (rs.map pairD)) := by
  let N : Addr → Prop := fun a => a = tt ∨ a ∈ ps ∨ a ∈ ls
  have bN : ∀ a, N a → B a = none := by
    rintro a (e | m | m)
    · rw [e]; exact T.bt
    · obtain ⟨i, hi⟩ := List.mem_iff_getElem?.mp m
      have hlt : i < rs.length := by rw [← T.hp]; exact (List.getElem?_eq_some_iff.mp hi).1
      obtain ⟨p, l, h4, _, _, h5, _⟩ := T.el i _ (List.getElem?_eq_getElem hlt)
      rw [hi] at h4
      cases h4
      exact h5
    · obtain ⟨i, hi⟩ := List.mem_iff_getElem?.mp m
      have hlt : i < rs.length := by rw [← T.hl]; exact (List.getElem?_eq_some_iff.mp hi).1
      obtain ⟨p, l, _, h4, _, _, h5⟩ := T.el i _ (List.getElem?_eq_getElem hlt)
      rw [hi] at h4
      cases h4
      exact h5.1
  have fN : ∀ a, N a → H0 a = none := by
    rintro a (e | m | m)
    · rw [e]; exact h1
    · exact h2 a m
    · exact h3 a m
  haveI : DecidablePred N := fun a => Classical.propDecidable _
  refine ⟨fun a => if N a then H a else B a, ⟨fun a o q => ?_, fun a o q => ?_, x.hh, fun a q => ?_⟩, fun a o q => ?_, ?_⟩
  · have q1 := x.bb _ _ q
    show (if N a then H a else B a) = some o
    rw [if_neg fun z => by rw [bN a z] at q1; cases q1]
    exact q1
  · have q : (if N a then H a else B a) = some o := q
    split at q
    · exact q
    · exact x.bh _ _ q
  · have q : (if N a then H a else B a) ≠ none := q
    split at q
    · rename_i z; exact .inr (fN a z)
    · exact x.fr a q
  · show (if N a then H a else B a) = some o
    rw [if_neg fun z => by rw [bN a z] at q; cases q]
    exact q
  · have sB : Same B (fun a => if N a then H a else B a) := fun a o q => by
      show (if N a then H a else B a) = some o
      rw [if_neg fun z => by rw [bN a z] at q; cases q]
      exact q
    refine .lst (by show (if N tt then H tt else B tt) = _; rw [if_pos (Or.inl rfl)]; exact T.ht) (dqAll_ix (by rw [List.length_map, List.length_map]; exact T.hp) fun i u d hu hd => ?_)
    rw [List.getElem?_map] at hu hd
    cases er : rs[i]? with
    | none => rw [er] at hd; cases hd
    | some r =>
      rw [er] at hd
      cases hd
      obtain ⟨p, l, hpi, hli, hp, _, hm⟩ := T.el i r er
      rw [hpi] at hu
      cases hu
      obtain ⟨_, us, hl, tq⟩ := hm
      refine .tup (xs := [.int r.1, .ref l]) (by show (if N p then H p else B p) = _; rw [if_pos (Or.inr (Or.inl (List.mem_of_getElem? hpi)))]; exact hp) (.cons (.int _) (.cons (.lst (xs := us) ?_ (tq.mono sB)) .nil))
      show (if N l then H l else B l) = _
      rw [if_pos (Or.inr (Or.inr (List.mem_of_getElem? hli)))]
      exact hl
/-- [(e1, list(e2)) for .. in ..]: new all through -/
theorem gn_told {α : Type} [DecidableEq α] [Enc α] {xs : List α} {vs : List Nat} (f : α → Int × List PyData) (h : Gv tl Γ B H (.d (.list (xs.map enc)))) (hz : xs.length < 16000000) (hv : j ∈ vs) (hnd : vs.Nodup)
    (ha : ∀ a ∈ xs, ∀ B1 H1, Ext B H B1 H1 → Gv ta ((Ow Γ vs).set j (some (.d (enc a)))) B1 H1 (AI (f a).1)) (hb : ∀ a ∈ xs, ∀ B1 H1, Ext B H B1 H1 → Gm tb ((Ow Γ vs).set j (some (.d (enc a)))) B1 H1 (f a).2) :
    ∀ B1 H1 σ, Ext B H B1 H1 → Fr B1 σ Γ → ∀ Q : VK, (∀ t ps ls B2 H2, Ext B1 H1 B2 H2 → H1 t = none → (∀ p ∈ ps, H1 p = none) → (∀ l ∈ ls, H1 l = none) → Told B2 H2 t ps ls (xs.map f) → Q (.ref t) H2) →
      tLc (iList K tl) (gName j) tYes (tTup (tCons ta (tCons tb tNil))) vs σ H1 Q := fun B0 H0 σ e fr Q q =>
  h B0 H0 σ e fr _ fun u Bs Hs x hu => by
    cases hu with
    | @lst a us _ hp tq =>
      have hlen : us.length = xs.length := by rw [tq.length, List.length_map]
      refine ⟨a, rfl, ⟨_, SqL.of (x.bh _ _ hp)⟩, fun Dl hD => ?_⟩
      have hbs : Bs Dl = none := x.bh.free hD
      refine lc_list (K := K) (xs := us) (fun k H' => ∃ B' ps ls, Same Bs B' ∧ Ext Bs Hs B' H' ∧ (∀ p ∈ ps, Hs p = none) ∧ (∀ l ∈ ls, Hs l = none) ∧ Told B' H' Dl ps ls ((xs.take k).map f))
        ⟨Bs, [], [], Same.refl _, Ext.out x.bh hD, fun p h => by simp at h, fun p h => by simp at h, ⟨upd_same, hbs, rfl, rfl, List.nodup_nil, by simp, fun i r h => by simp at h⟩⟩ ?_ ?_ ?_
      · rintro k H' _ ⟨B', _, _, s1, x', _⟩
        exact SqL.of (x'.bh _ _ (s1 _ _ hp))
      · rintro k v H' hk ⟨B', ps, ls, s1, x', f1, f2, T⟩
        obtain ⟨d, hd1, hd2⟩ := tq.getV hk
        rw [List.getElem?_map] at hd1
        cases qk : xs[k]? with
        | none => rw [qk] at hd1; cases hd1
        | some a' =>
          rw [qk] at hd1
          cases hd1
          have hmem : a' ∈ xs := List.mem_of_getElem? qk
          have hkl := (List.getElem?_eq_some_iff.mp qk).1
          have htake : (xs.take (k + 1)).map f = (xs.take k).map f ++ [f a'] := by
            rw [List.take_add_one, qk, List.map_append]
            rfl
          have htl : ((xs.take k).map f).length = k := by rw [List.length_map, List.length_take]; omega
          have fr1 : Fr B' ((wipe σ vs).set j (some v)) ((Ow Γ vs).set j (some (.d (enc a')))) := ((fr.mono (x.bb.trans s1)).wipe vs).set (g := .d (enc a')) j (hd2.mono s1)
          have eB : Ext B0 H0 B' H' := x.trans x'
          refine ⟨wipe_set hv hnd, ?_⟩
          refine ha a' hmem B' H' (e.trans eB) B' H' _ (Ext.refl x'.bh) fr1 _ fun w1 B2 H2 x2 hw1 => ?_
          cases hw1
          refine hb a' hmem B2 H2 ((e.trans eB).trans x2) B2 H2 _ (Ext.refl x2.bh) (fr1.mono x2.bb) _ fun l B3 H3 x3 hl m3 => ?_
          refine ⟨(by show 2 ≤ sizeLine; exact sz (by decide)), fun p hp3 => ?_⟩
          have x4 : Ext B3 H3 B3 (upd H3 p (.tup [.int (f a').1, .ref l])) := Ext.out x3.bh hp3
          have xx := (x2.trans x3).trans x4
          have T4t := xx.hh _ _ T.ht
          refine ⟨_, T4t, szl ?_, B3, ps ++ [p], ls ++ [l], s1.trans (x2.bb.trans x3.bb), (x'.trans xx).mut hD (xx.off T.bt (by rw [T.ht]; simp)), ?_, ?_, ?_⟩
          · rw [List.length_map, T.hp, htl]
            omega
          · intro p' hp'
            rcases List.mem_append.mp hp' with h' | h'
            · exact f1 p' h'
            · simp at h'
              subst h'
              exact x'.hh.free (x2.hh.free (x3.hh.free hp3))
          · intro l' hl'
            rcases List.mem_append.mp hl' with h' | h'
            · exact f2 l' h'
            · simp at h'
              subst h'
              exact x'.hh.free (x2.hh.free hl)
          · have hl' : H' l = none := x2.hh.free hl
            have hp' : H' p = none := x2.hh.free (x3.hh.free hp3)
            have nDl : l ≠ Dl := fun z => by rw [z, T.ht] at hl'; cases hl'
            have nDp : p ≠ Dl := fun z => by rw [z, T.ht] at hp'; cases hp'
            have m4 := m3.ext x4
            refine ⟨by rw [upd_same, List.map_append]; rfl, xx.off T.bt (by rw [T.ht]; simp), by rw [htake, List.length_append, List.length_append, T.hp]; rfl, by rw [htake, List.length_append, List.length_append, T.hl]; rfl, ?_, ?_, fun i r hr => ?_⟩
            · rw [List.nodup_append]
              refine ⟨T.nd, by simp, fun l1 h1 l2 h2 e => ?_⟩
              simp at h2
              subst h2
              subst e
              obtain ⟨i, hi⟩ := List.mem_iff_getElem?.mp h1
              have hlt : i < ((xs.take k).map f).length := by rw [← T.hl]; exact (List.getElem?_eq_some_iff.mp hi).1
              obtain ⟨p2, l2, _, h4, _, _, h5⟩ := T.el i _ (List.getElem?_eq_getElem hlt)
              rw [hi] at h4
              cases h4
              obtain ⟨_, us5, h5, _⟩ := h5
              rw [hl'] at h5
              cases h5
            · intro z
              rcases List.mem_append.mp z with z | z
              · exact T.tl z
              · simp at z
                exact nDl z.symm
            · rw [htake] at hr
              by_cases hi : i < ((xs.take k).map f).length
              · rw [List.getElem?_append_left hi] at hr
                obtain ⟨p2, l2, h1, h2, h3, h4, h5⟩ := T.el i r hr
                have n2 : p2 ≠ Dl := fun z => by rw [z, T.ht] at h3; cases h3
                have n3 : l2 ≠ Dl := fun z => T.tl (z ▸ List.mem_of_getElem? h2)
                refine ⟨p2, l2, by rw [List.getElem?_append_left (by rw [T.hp]; exact hi)]; exact h1, by rw [List.getElem?_append_left (by rw [T.hl]; exact hi)]; exact h2, by rw [upd_ne n2]; exact xx.hh _ _ h3, xx.off h4 (by rw [h3]; simp), ?_⟩
                obtain ⟨b5, us5, h5, t5⟩ := h5.ext xx
                exact ⟨b5, us5, by rw [upd_ne n3]; exact h5, t5⟩
              · rw [List.getElem?_append_right (by omega)] at hr
                have e0 : i = ((xs.take k).map f).length := by
                  have := (List.getElem?_eq_some_iff.mp hr).1
                  simp at this
                  simp
                  simp at hi
                  omega
                rw [e0, Nat.sub_self] at hr
                cases hr
                refine ⟨p, l, by rw [List.getElem?_append_right (by rw [T.hp, e0]; exact Nat.le_refl _), T.hp, e0, Nat.sub_self]; rfl, by rw [List.getElem?_append_right (by rw [T.hl, e0]; exact Nat.le_refl _), T.hl, e0, Nat.sub_self]; rfl, by rw [upd_ne nDp, upd_same], x3.bh.free hp3, ?_⟩
                · obtain ⟨b5, us5, h5, t5⟩ := m4
                  exact ⟨b5, us5, by rw [upd_ne nDl]; exact h5, t5⟩
      · rintro H' ⟨B', ps, ls, s1, x', f1, f2, T⟩
        rw [hlen, List.take_length] at T
        exact q Dl ps ls B' H' (x.trans x') (x.hh.free hD) (fun p hp => x.hh.free (f1 p hp)) (fun l hl => x.hh.free (f2 l hl)) T
/-! a test that looks at own things as data; own lists of values -/
theorem fr_view {B' : Hp} {σ : L2.St} (s : Same B B') (hi : Γ[i]? = some (some (.v v))) (h : Dq B' v d) (f : Fr B σ Γ) : Fr B' σ (Γ.set i (some (.d d))) := by
  refine ⟨by rw [List.length_set]; exact f.1, fun k g q => ?_⟩
  by_cases e : i = k
  · subst e
    rw [List.getElem?_set_self (List.getElem?_eq_some_iff.mp hi).1] at q
    cases q
    obtain ⟨u, h1, h2⟩ := f.2 i _ hi
    have h2 : u = v := h2
    subst h2
    exact ⟨_, h1, h⟩
  · rw [List.getElem?_set_ne e] at q
    obtain ⟨u, h1, h2⟩ := f.2 k g q
    exact ⟨u, h1, h2.mono s⟩
theorem qx_noV {B' : Hp} {Γ' : List (Option AV)} (s : Same B B') (s2 : Same B' H) (hf : ∀ σ, Fr B σ Γ → Fr B' σ Γ') (h : Gt t Γ' B' H b) (hb : b = false) (k : ∀ H2, Ext B H B H2 → Sx tz D Γ B H2) : Sx (tSeq (tIfS t tu tNext) tz) D Γ B H := fun e σ f =>
  h B' H σ (Ext.refl s2) (hf σ f) _ fun B2 H2 x => by
    subst hb
    exact k H2 ⟨Same.refl _, e.trans x.hh, x.hh, fun _ h => .inl h⟩ (e.trans x.hh) σ f
theorem qx_forV {vs : List V} (ha : Gv tl Γ B H (.v (.ref p))) (G : Nat → List (Option AV)) (P : Nat → Hp → Hp → Prop) (hl : Le (G 0) Γ) (h0 : ∀ B1 H1, Ext B H B1 H1 → P 0 B1 H1) (hq : ∀ k B1 H1, P k B1 H1 → H1 p = some (.lst vs))
    (hs : ∀ Bs (k : Nat) v B1 H1, vs[k]? = some v → Same B Bs → Same Bs B1 → P k B1 H1 → Sx tu { D with nx := Lp Bs (G (k + 1)) (P (k + 1)), ct := Lp Bs (G (k + 1)) (P (k + 1)), bk := tz D } ((G k).set j (some (.v v))) B1 H1)
    (hd : ∀ B1 H1, Same B B1 → P vs.length B1 H1 → Sx tz D (G vs.length) B1 H1) : Sx (tSeq (tFor (iList K tl) (gName j) tu) tz) D Γ B H := fun e σ f =>
  ha B H σ (Ext.refl e) f _ fun u Bs Hs x hu => by
    have hu : u = .ref p := hu
    subst hu
    refine ⟨p, rfl, ⟨_, SqL.of (hq 0 Bs Hs (h0 Bs Hs x))⟩, for_list (K := K) (a := p) (xs := vs) (D := { D with nx := tz D }) (fun k => Lp Bs (G k) (P k)) ⟨Bs, Same.refl _, x.bh, h0 Bs Hs x, (f.mono x.bb).le hl⟩ ?_ ?_ ?_⟩
    · rintro k σ' H' _ ⟨B', _, _, q, _⟩
      exact SqL.of (hq k B' H' q)
    · rintro k v σ' H' hk ⟨B', s1, s2, q, f'⟩
      exact hs Bs k v B' H' hk x.bb s1 q s2 _ (f'.set (g := .v v) j rfl)
    · rintro σ' H' ⟨B', s1, s2, q, f'⟩
      exact hd B' H' (x.bb.trans s1) q s2 σ' f'
theorem ro_ixV {us : List V} {k : Int} (h : H p = some (.tup us)) (hk : atI us k = some v) : Ro (rIxT K) B H (.v (.ref p)) (AI k) (.v v) := fun B1 H1 u w e hu hw Q q => by
  cases hw
  have hu : u = .ref p := hu
  subst hu
  exact ⟨p, us, k, v, rfl, rfl, SqT.of (e.hh _ _ h), hk, q v B1 H1 (Ext.refl e.bh) rfl⟩
/-- p.append(e), p an own list of any values -/
theorem qx_appV {us : List V} (hb : B p = none) (hp : H p = some (.lst us)) (ha : Gv ta Γ B H (.v (.ref p))) (h : Gv te Γ B H g) (hz : us.length < 16000000) (k : ∀ w B2 H2, ExtF (· = p) B H B2 H2 → Is B2 w g → H2 p = some (.lst (us ++ [w])) → Sx tz D Γ B2 H2) :
    Sx (tSeq (tDrop (tBM K "list" rAppend ta (tCons te tNil))) tz) D Γ B H := fun e σ f =>
  ha B H σ (Ext.refl e) f _ fun u B2 H2 x hu => by
    have hu : u = .ref p := hu
    subst hu
    refine ⟨Or.inl ⟨rfl, us, SqL.of (x.hh _ _ hp)⟩, ?_⟩
    refine h B2 H2 σ x (f.mono x.bb) _ fun w B3 H3 y hw => ?_
    have x3 := (x.trans y)
    have hp3 := x3.hh _ _ hp
    have hb3 := x3.off hb (by rw [hp]; simp)
    refine ⟨p, us, w, rfl, rfl, hp3, szl hz, ?_⟩
    have wr : ExtF (· = p) B3 H3 B3 (upd H3 p (.lst (us ++ [w]))) := ExtF.wr x3.bh hb3 (by rw [hp3]; simp)
    exact k w B3 _ (x3.f.trans wr) hw upd_same wr.bh _ (f.mono x3.bb)
end
end SB
namespace SB
open PySem PySem.Spec PyProof.Rows L2
open Enc (enc)
def top (i : Nat) : Stmt := PySem.Challenge.pw_signalbox_k02_whole_routes.main.body.getD i (.Pass ⟨0, 0, 0, 0⟩)
local macro_rules | `(tactic| walk_at "le") => `(tactic| first | exact le_nil | (refine le_keep ?_; walk_at "le") | (refine le_drop ?_; walk_at "le"))
local macro_rules | `(tactic| walk_at "sd") => `(tactic| first | assumption | (show (_ : Int) < _ ∧ _ < (1073741824 : Int); exact ⟨by omega, by omega⟩) | (show (-(2 ^ 64) < (_ : Int) ∧ _ < (2 ^ 64 : Int)) ∨ _; first | exact .inl ⟨by omega, by omega⟩ | exact .inr ⟨by omega, by omega⟩) | rfl | decide | (simp; done) | omega | skip)
local macro_rules | `(tactic| walk_at "gc") => `(tactic| fail)
local macro_rules | `(tactic| walk_at "gv") => `(tactic| first
  | exact gv_int | exact gv_str | exact gv_bl | exact gv_non | exact gv_var rfl
  | ((with_reducible refine' gv_op ?_ ?_ ?_) <;> walk_at "gv")
  | ((with_reducible refine' ga_cons ?_ ?_) <;> walk_at "gv") | exact ga_nil
  | ((with_reducible refine' gv_cb ?_ ?_) <;> walk_at "gv")
  | ((with_reducible refine' gt_test ?_) <;> walk_at "gv") | ((with_reducible refine' gt_B ?_) <;> walk_at "gv") | ((with_reducible refine' gt_not ?_) <;> walk_at "gv")
  | ((with_reducible refine' gt_and ?k1 ?k2); (case' k1 => walk_at "gv"); (case' k2 => intro hb; walk_at "gv"))
  | ((with_reducible refine' gt_or ?k1 ?k2); (case' k1 => walk_at "gv"); (case' k2 => intro hb; walk_at "gv"))
  | ((with_reducible refine' gv_andV ?k1 ?k2); (case' k1 => walk_at "gv"); (case' k2 => intro hb; walk_at "gv"))
  | ((with_reducible refine' gv_orV ?k1 ?k2); (case' k1 => walk_at "gv"); (case' k2 => intro hb; walk_at "gv"))
  | ((with_reducible refine' gv_notV ?_) <;> walk_at "gv")
  | ((with_reducible refine' gv_slL ?_ ?_ ?_) <;> walk_at "gv") | ((with_reducible refine' gv_slT ?_ ?_ ?_ ?_) <;> walk_at "gv")
  | exact go_none | ((with_reducible refine' go_some ?_) <;> walk_at "gv")
  | exact gd_nil | ((with_reducible refine' gd_cons ?_ ?_) <;> walk_at "gv") | ((with_reducible refine' gv_lst ?_ ?_) <;> walk_at "gv") | ((with_reducible refine' gv_tup ?_ ?_) <;> walk_at "gv")
  | ((with_reducible refine' gv_chain ?_ ?_ ?_ ?_ ?_) <;> walk_at "gv") | ((with_reducible refine' gt_truL ?_) <;> walk_at "gv") | ((with_reducible refine' gv_countI ?_ ?_) <;> walk_at "gv")
  | ((with_reducible refine' gv_lenSetI ?_ ?_) <;> walk_at "gv") | ((with_reducible refine' gv_lenSetU ?_ ?_) <;> walk_at "gv") | ((with_reducible refine' gv_lenSetT ?_ ?_) <;> walk_at "gv")
  | exact gt_yes
  | walk_at "gc"
  | exact ro_I0 | exact ro_B0 | (refine ro_I ?_; walk_at "sd")
  | exact ro_eqI | exact ro_neI | exact ro_eqS | exact ro_neS
  | (refine ro_eq ?_; walk_at "sd") | (refine ro_ne ?_; walk_at "sd")
  | exact ro_isN | exact ro_notN
  | exact ro_inI | exact ro_notInI | exact ro_inTI
  | (refine' ro_ixL ?k1; (case' k1 => walk_at "sd")) | (refine' ro_ixT ?k1; (case' k1 => walk_at "sd"))
  | (refine ro_cat ?_; walk_at "sd")
  | exact rc_lenM | exact rc_len | exact rc_lenT | exact rc_list | exact rc_listT | exact rc_tuple | exact rc_any | exact rc_all | exact rc_max2 | exact rc_min2 | exact rc_intB
  | (show (_ : Nat) ≤ _; first | decide | (simp; done) | omega)
  | (show (_ : Nat) < _; first | decide | (simp; done) | omega)
  | (show ¬ (_ ∧ _); exact fun h => absurd (show (1 : Nat) = 0 from h.1) (by decide))
  | skip)
local macro_rules | `(tactic| walk_at "ge") => `(tactic| (refine' gt_is ?k1 ?k2; (case' k1 => walk_at "gv"); (case' k2 => first | rfl | (simp; done) | skip)))
local macro_rules | `(tactic| walk_at "gw") => `(tactic| (refine' gv_is ?k1 ?k2; (case' k1 => walk_at "gv"); (case' k2 => first | rfl | (simp; done) | skip)))
local macro_rules | `(tactic| walk_at "gj") => `(tactic| first | exact gi_nil | (refine' gi_cons ?g1 ?g2; (case' g1 => walk_at "gv"); (case' g2 => walk_at "gj")))
local macro_rules | `(tactic| walk_at "gi") => `(tactic| (refine' gv_lst ?k1 ?k2; (case' k1 => walk_at "gj"); (case' k2 => (simp; try omega))))
/-! ### layouts -/
inductive Pc where
  | plain (j k : Int)
  | points (t s b : Int)
  deriving DecidableEq
def Pc.word : Pc → Str
  | .plain _ _ => "plain"
  | .points _ _ _ => "points"
def Pc.js : Pc → List Int
  | .plain j k => [j, k]
  | .points t s b => [t, s, b]
def encPc (p : Pc) : PyData := .tuple (.str p.word :: p.js.map PyData.int)
theorem word_ne : (("plain" : Str) == "points") = false := by decide +kernel
theorem word_ne' : (("points" : Str) == "plain") = false := by decide +kernel
instance : Enc Pc where
  enc := encPc
  eqv a b := by
    cases a <;> cases b <;> simp only [encPc, Pc.word, Pc.js, PyData.eqv, PyData.eqvAll, List.map_cons, List.map_nil, word_ne, word_ne', Bool.false_and, Bool.and_true]
    all_goals (rw [Bool.eq_iff_iff]; simp)
  lay a := by
    have h1 : PyData.strOk "plain" = true := by decide +kernel
    have h2 : PyData.strOk "points" = true := by decide +kernel
    cases a <;> simp [encPc, Pc.word, Pc.js, PyData.canLay0, PyData.canLayAll0, h1, h2]
  dep := 1
  dep_le a := by cases a <;> simp [encPc, Pc.word, Pc.js, PyData.depth, PyData.depthAll]
abbrev Sig := Int × Int
structure Adr where
  BoxError : Addr
  BadYard : Addr
  NotThere : Addr
  Yard : Addr
structure Txt (K : PySem.W.Frag) (mg : Str → Option Value) (C : Adr) : Prop where
  n_all : mg "all" = none
  n_bool : mg "bool" = none
  n_int : mg "int" = none
  n_isinstance : mg "isinstance" = none
  n_len : mg "len" = none
  n_list : mg "list" = none
  n_min : mg "min" = none
  n_range : mg "range" = none
  n_set : mg "set" = none
  n_tuple : mg "tuple" = none
  g_JOINTS : ∃ t, mg "JOINTS" = some (.int 999 t)
  g_MOST : ∃ t, mg "MOST" = some (.int 16 t)
  g_STRAIGHT : ∃ t, mg "STRAIGHT" = some (.str "straight" t)
  e_BoxError : ExT K mg "BoxError" C.BoxError
  e_BadYard : ExT K mg "BadYard" C.BadYard
  e_NotThere : ExT K mg "NotThere" C.NotThere
  cl_Yard : Cls K C.Yard
  c_Yard : mg "Yard" = some (.ref C.Yard)
  na_Yard_pieces : NoAttr K C.Yard "pieces"
  na_Yard_signals : NoAttr K C.Yard "signals"
  na_Yard_wait : NoAttr K C.Yard "wait"
  na_Yard_routes : NoAttr K C.Yard "routes"
  na_Yard_now : NoAttr K C.Yard "now"
  na_Yard_points : NoAttr K C.Yard "points"
  na_Yard_locks : NoAttr K C.Yard "locks"
  na_Yard_green : NoAttr K C.Yard "green"
  na_Yard_falling : NoAttr K C.Yard "falling"
  na_Yard_trains : NoAttr K C.Yard "trains"
section
variable {C : Adr} {P : Program} {w : World} {K : PySem.W.Frag} {mg : Str → Option Value} {base : Heap} {fd : FuncData} {f : Addr}
abbrev s_joints : Stmt := top 8
abbrev N_joints : List Str := ["piece"]
theorem sc_joints : FnScope N_joints ["piece"] (defScope s_joints) := ⟨rfl, rfl, rfl, by decide +kernel, rfl, by decide +kernel, by decide +kernel⟩
abbrev s_beyond : Stmt := top 9
abbrev N_beyond : List Str := ["pieces", "at", "joint", "k"]
theorem sc_beyond : FnScope N_beyond ["pieces", "at", "joint"] (defScope s_beyond) := ⟨rfl, rfl, rfl, by decide +kernel, rfl, by decide +kernel, by decide +kernel⟩
abbrev s_outs : Stmt := top 10
abbrev N_outs : List Str := ["piece", "joint", "one"]
theorem sc_outs : FnScope N_outs ["piece", "joint"] (defScope s_outs) := ⟨rfl, rfl, rfl, by decide +kernel, rfl, by decide +kernel, by decide +kernel⟩
abbrev s_ends_at : Stmt := top 14
abbrev N_ends_at : List Str := ["pieces", "signals", "at", "joint", "behind"]
theorem sc_ends_at : FnScope N_ends_at ["pieces", "signals", "at", "joint"] (defScope s_ends_at) := ⟨rfl, rfl, rfl, by decide +kernel, rfl, by decide +kernel, by decide +kernel⟩
abbrev s_ways_from : Stmt := top 15
abbrev N_ways_from : List Str := ["pieces", "signals", "way", "joint", "at", "found", "out", "here", "step"]
theorem sc_ways_from : FnScope N_ways_from ["pieces", "signals", "way", "joint", "at"] (defScope s_ways_from) := ⟨rfl, rfl, rfl, by decide +kernel, rfl, by decide +kernel, by decide +kernel⟩
def spJoints : Sp := spP (T := Pc) (fun p => [.d (enc p)]) (fun _ _ _ => True) fun p => .d (enc p.js)
theorem ok_joints (T : Txt K mg C) (F : Fun K "joints" "joints" s_joints f fd) : FnOk P w K mg base CX0 1 f fd ["piece"] spJoints := by
  refine fn_P F sc_joints (fun _ => rfl) fun cdv A outer s H Q E hr => ⟨_, pss_cons (ps_ret (pe_callTy (call_listK (K := K) rfl) (by rfl) T.n_list (by decide +kernel) (pa_cons (pe_slice (sl_tupK (K := K) rfl) (pv 0) (po_some (pe_int)) (po_none)) (pa_nil))))
  (pss_nil), fun p B e _ q => ?_⟩
  refine qx_ret ?_ q
  cases p <;> walk_at "gv"

/-- the piece at the other side -/
def beyondN (ps : List Pc) (a j : Int) : Option Nat := (List.range ps.length).find? fun k => decide ((k : Int) ≠ a) && decide (j ∈ ((ps[k]?).elim [] Pc.js))
def oN : Option Nat → PyData
  | none => .none
  | some k => .int (k : Int)
def spBeyond : Sp := spP (T := List Pc × Int × Int) (fun t => [.d (.list (t.1.map enc)), AI t.2.1, AI t.2.2]) (fun t _ _ => t.1.length ≤ 100) fun t => .d (oN (beyondN t.1 t.2.1 t.2.2))
theorem gv_joints {Γ : List (Option AV)} {B H : Hp} {ta : TE} {E : XK} {p : Pc} (h : Gv ta Γ B H (.d (enc p))) : Gv (tCall spJoints [] E (tCons ta tNil)) Γ B H (.d (.list (p.js.map enc))) := gv_call p (ga_cons h ga_nil) fun _ _ _ => trivial
theorem gv_beyond {Γ : List (Option AV)} {B H : Hp} {ta tb tc : TE} {E : XK} {ps : List Pc} {a j : Int} (h1 : Gv ta Γ B H (.d (.list (ps.map enc)))) (h2 : Gv tb Γ B H (AI a)) (h3 : Gv tc Γ B H (AI j)) (hl : ps.length ≤ 100) :
    Gv (tCall spBeyond [] E (tCons ta (tCons tb (tCons tc tNil)))) Γ B H (.d (oN (beyondN ps a j))) := gv_call (ps, a, j) (ga_cons h1 (ga_cons h2 (ga_cons h3 ga_nil))) fun _ _ _ => hl
local macro_rules | `(tactic| walk_at "gc") => `(tactic| first | ((with_reducible refine' gv_joints ?_) <;> walk_at "gv") | ((with_reducible refine' gv_beyond ?_ ?_ ?_ ?_) <;> walk_at "gv"))
theorem ok_beyond (T : Txt K mg C) (F : Fun K "beyond" "beyond" s_beyond f fd) (c_joints : Cal P w K mg base CX0 1 "joints" spJoints) : FnOk P w K mg base CX0 2 f fd ["pieces", "at", "joint"] spBeyond := by
  refine fn_P F sc_beyond (fun _ => rfl) fun cdv A outer s H Q E hr => ⟨_, pss_cons (ps_for PassesOwn.never rfl (pi_range1 (by rfl) T.n_range (pa_cons (pe_callB (call_lenK (K := K) rfl) (by rfl) T.n_len (by decide +kernel) (pa_cons (pv 0) (pa_nil))) (pa_nil))) (pg_name (i := 3) sc_beyond.nd rfl (by first | exact Or.inl rfl | exact Or.inr rfl)) (pss_cons (ps_if (PW.pt (pw_and (pt_cmpR op_ne (pv 3) (pv 1) (nomark _)) (pw_and1 (pt_cmpR (op_inK (K := K) rfl) (pv 2) (pe_cal c_joints hr (by first | decide | omega) rfl passN (pa_cons (pe_ix (ix_listK (K := K) rfl) (pv 0) (pv 3) (fun _ _ => rfl)) (pa_nil))) (by rfl))))) (pss_cons (ps_ret (pv 3))
  (pss_nil)) (pss_nil))
  (pss_nil)))
  (pss_cons (ps_ret (pe_non))
  (pss_nil)), fun ⟨ps, a, j⟩ B e hl q => ?_⟩
  have hl : ps.length ≤ 100 := hl
  refine qx_forR (n := (ps.length : Int)) ?_ (by omega) (by omega) (fun _ => [some (.d (.list (ps.map enc))), some (AI a), some (AI j), none]) (fun k B1 H1 => Ext B H B1 H1 ∧ ∀ i, i < k → (decide ((i : Int) ≠ a) && decide (j ∈ ((ps[i]?).elim [] Pc.js))) = false) (by walk_at "le") (fun B1 H1 x => ⟨x, fun i hi => by omega⟩) ?_ ?_
  · walk_at "gv"
  · intro Bs k B1 H1 hk s1 s2 ⟨x, hn⟩
    have hk' : k < ps.length := by omega
    have hp : ps[k]? = some ps[k] := List.getElem?_eq_getElem hk'
    have hat := atI_map hp
    refine qx_when (b := decide ((k : Int) ≠ a) && decide (j ∈ (ps[k]).js)) ?_ ?_ ?_
    · walk_at "ge"
    · intro hb B2 H2 x2
      refine qx_ret (gv_var rfl) fun u B3 H3 x3 hu => q u B3 H3 ((x.trans x2).trans x3) ?_
      have hf : beyondN ps a j = some k := by
        unfold beyondN
        rw [List.find?_range_eq_some]
        refine ⟨?_, List.mem_range.mpr hk', fun i hi => ?_⟩
        · rw [hp]; exact hb
        · rw [hn i (by omega)]; rfl
      show Dq B3 u (oN (beyondN ps a j))
      rw [hf]
      exact hu
    · intro hb B2 H2 x2
      refine sx_lp (s2.trans x2.bb) (by walk_at "le") ⟨x.trans x2, fun i hi => ?_⟩
      by_cases h : i < k
      · exact hn i h
      · have : i = k := by omega
        subst this
        rw [hp]
        exact hb
  · intro B1 H1 s1 ⟨x, hn⟩
    refine qx_ret gv_non fun u B3 H3 x3 hu => q u B3 H3 (x.trans x3) ?_
    have hf : beyondN ps a j = none := by
      unfold beyondN
      rw [List.find?_eq_none]
      intro i hi
      have h1 := hn i (by simpa using List.mem_range.mp hi)
      rw [h1]
      simp
    show Dq B3 u (oN (beyondN ps a j))
    rw [hf]
    exact hu
/-- the joints by which a piece is left -/
def outsN (p : Pc) (j : Int) : List Int := match p with
  | .plain a c => [a, c].filter fun o => !decide (o = j)
  | .points t s b => if j = t then [s, b] else [t]
theorem word_pl (a c : Int) : decide ((Pc.plain a c).word = "plain") = true := by
  show decide (("plain" : Str) = "plain") = true
  decide +kernel
theorem word_pt (a b c : Int) : decide ((Pc.points a b c).word = "plain") = false := by
  show decide (("points" : Str) = "plain") = false
  decide +kernel
def spOuts : Sp := spP (T := Pc × Int) (fun t => [.d (enc t.1), AI t.2]) (fun _ _ _ => True) fun t => .d (.list ((outsN t.1 t.2).map enc))
theorem ok_outs (T : Txt K mg C) (F : Fun K "outs" "outs" s_outs f fd) (c_joints : Cal P w K mg base CX0 1 "joints" spJoints) : FnOk P w K mg base CX0 2 f fd ["piece", "joint"] spOuts := by
  refine fn_P F sc_outs (fun _ => rfl) fun cdv A outer s H Q E hr => ⟨_, pss_cons (ps_if (pt_cmpR op_eq (pe_ix (ix_tupK (K := K) rfl) (pv 0) (pe_int) (fun _ _ => rfl)) (pe_str) (nomark _)) (pss_cons (ps_ret (pe_lc (own := [("one", 2)]) (g := gName 2) (by rfl) sc_outs.nd (pi_listK (K := K) rfl (pe_cal c_joints hr (by first | decide | omega) rfl passN (pa_cons (pv 0) (pa_nil)))) (blkOk_by (own := [("one", 2)]) (N := N_outs) (sc := defScope s_outs) (by decide +kernel)) (fun _ _ _ _ _ => pg_name (i := 2) sc_outs.nd rfl (Or.inl rfl)) (fun _ _ _ _ _ => pts_one (pt_cmpR op_ne (pv 2) (pv 1) (nomark _))) (fun _ _ _ _ _ => pv 2)))
  (pss_nil)) (pss_nil))
  (pss_cons (ps_if (pt_cmpR op_eq (pv 1) (pe_ix (ix_tupK (K := K) rfl) (pv 0) (pe_int) (fun _ _ => rfl)) (nomark _)) (pss_cons (ps_ret (pe_lst (pa_cons (pe_ix (ix_tupK (K := K) rfl) (pv 0) (pe_int) (fun _ _ => rfl)) (pa_cons (pe_ix (ix_tupK (K := K) rfl) (pv 0) (pe_int) (fun _ _ => rfl)) (pa_nil)))))
  (pss_nil)) (pss_nil))
  (pss_cons (ps_ret (pe_lst (pa_cons (pe_ix (ix_tupK (K := K) rfl) (pv 0) (pe_int) (fun _ _ => rfl)) (pa_nil))))
  (pss_nil))), fun ⟨p, j⟩ B e _ q => ?_⟩
  cases p with
  | plain a c =>
    refine qx_yes (b := true) ?_ rfl fun B2 H2 x2 => ?_
    · refine gt_is (b := decide ((Pc.plain a c).word = "plain")) ?_ (word_pl a c)
      walk_at "gv"
    refine qx_ret (g := .d (.list ((((Pc.plain a c).js.filter fun o => !decide (o = j)).map id).map enc))) ?_ fun u B3 H3 x3 hu => q u B3 H3 (x2.trans x3) ?_
    · refine gv_lcL (xs := (Pc.plain a c).js) ?_ (by show 2 < 16000000; decide) (by decide) (by decide) (fun o => !decide (o = j)) id ?_ ?_
      · walk_at "gv"
      · intro o _ B3 H3 x3
        walk_at "gv"
      · intro o _ _ B3 H3 x3
        walk_at "gv"
    · rw [List.map_id] at hu
      exact hu
  | points t s1 b =>
    refine qx_no (b := false) ?_ rfl fun B2 H2 x2 => sx_go ?_
    · refine gt_is (b := decide ((Pc.points t s1 b).word = "plain")) ?_ (word_pt t s1 b)
      walk_at "gv"
    refine qx_when (b := decide (j = t)) ?_ ?_ ?_
    · walk_at "gv"
    · intro hb B3 H3 x3
      refine qx_ret (g := .d (.list [.int s1, .int b])) ?_ fun u B4 H4 x4 hu => q u B4 H4 ((x2.trans x3).trans x4) ?_
      · walk_at "gv"
      · have e1 : outsN (.points t s1 b) j = [s1, b] := if_pos (of_decide_eq_true hb)
        show Dq B4 u (.list ((outsN (.points t s1 b) j).map enc))
        rw [e1]
        exact hu
    · intro hb B3 H3 x3
      refine qx_ret (g := .d (.list [.int t])) ?_ fun u B4 H4 x4 hu => q u B4 H4 ((x2.trans x3).trans x4) ?_
      · walk_at "gv"
      · have e1 : outsN (.points t s1 b) j = [t] := if_neg (of_decide_eq_false hb)
        show Dq B4 u (.list ((outsN (.points t s1 b) j).map enc))
        rw [e1]
        exact hu
theorem gv_outs {Γ : List (Option AV)} {B H : Hp} {ta tb : TE} {E : XK} {p : Pc} {j : Int} (h1 : Gv ta Γ B H (.d (enc p))) (h2 : Gv tb Γ B H (AI j)) :
    Gv (tCall spOuts [] E (tCons ta (tCons tb tNil))) Γ B H (.d (.list ((outsN p j).map enc))) := gv_call (p, j) (ga_cons h1 (ga_cons h2 ga_nil)) fun _ _ _ => trivial
/-- whether a route ends where it leaves a piece -/
def endsN (ps : List Pc) (sg : List Sig) (a j : Int) : Bool := match beyondN ps a j with
  | none => true
  | some k => isin (j, (k : Int)) sg
def spEnds : Sp := spP (T := List Pc × List Sig × Int × Int) (fun t => [.d (.list (t.1.map enc)), .d (.list (t.2.1.map enc)), AI t.2.2.1, AI t.2.2.2]) (fun t _ _ => t.1.length ≤ 100) fun t => AB (endsN t.1 t.2.1 t.2.2.1 t.2.2.2)
theorem ok_ends (T : Txt K mg C) (F : Fun K "ends_at" "ends_at" s_ends_at f fd) (c_beyond : Cal P w K mg base CX0 2 "beyond" spBeyond) : FnOk P w K mg base CX0 3 f fd ["pieces", "signals", "at", "joint"] spEnds := by
  refine fn_P F sc_ends_at (fun _ => rfl) fun cdv A outer s H Q E hr => ⟨_, pss_cons (ps_set (i := 4) sc_ends_at.nd rfl (by first | exact Or.inl rfl | exact Or.inr rfl) (pe_cal c_beyond hr (by first | decide | omega) rfl passN (pa_cons (pv 0) (pa_cons (pv 2) (pa_cons (pv 3) (pa_nil))))))
  (pss_cons (ps_ret (pe_or (pe_cmpR op_isN (pv 4) (pe_non) (nomark _)) (pe_one (pe_cmpR (op_inDK (K := K) rfl hr.u65) (pe_tup (pa_cons (pv 3) (pa_cons (pv 4) (pa_nil)))) (pv 1) (by rfl)))))
  (pss_nil)), fun ⟨ps, sg, a, j⟩ B e hl q => ?_⟩
  have hl : ps.length ≤ 100 := hl
  refine qx_asg (g := .d (oN (beyondN ps a j))) ?_ fun B2 H2 x2 => ?_
  · walk_at "gv"
  refine qx_ret ?_ fun u B3 H3 x3 hu => q u B3 H3 (x2.trans x3) hu
  show Gv _ _ B2 H2 (AB (endsN ps sg a j))
  unfold endsN
  cases hb : beyondN ps a j with
  | none =>
    refine gv_is (gv_orV (b := true) (c := false) ?_ ?_) rfl
    · exact gv_op (gv_var rfl) gv_non ro_isN
    · intro h; cases h
  | some k =>
    refine gv_is (gv_orV (b := false) (c := isin (j, (k : Int)) sg) ?_ ?_) rfl
    · exact gv_op (gv_var rfl) gv_non ro_isN
    · intro _
      refine gv_op (x := .d (enc (j, (k : Int)))) ?_ (gv_var rfl) (ro_inE (α := Sig) (by decide))
      walk_at "gw"
theorem gv_ends {Γ : List (Option AV)} {B H : Hp} {ta tb tc td : TE} {E : XK} {ps : List Pc} {sg : List Sig} {a j : Int} (h1 : Gv ta Γ B H (.d (.list (ps.map enc)))) (h2 : Gv tb Γ B H (.d (.list (sg.map enc)))) (h3 : Gv tc Γ B H (AI a)) (h4 : Gv td Γ B H (AI j)) (hl : ps.length ≤ 100) :
    Gv (tCall spEnds [] E (tCons ta (tCons tb (tCons tc (tCons td tNil))))) Γ B H (AB (endsN ps sg a j)) := gv_call (ps, sg, a, j) (ga_cons h1 (ga_cons h2 (ga_cons h3 (ga_cons h4 ga_nil)))) fun _ _ _ => hl
local macro_rules | `(tactic| walk_at "gc") => `(tactic| first | ((with_reducible refine' gv_joints ?_) <;> walk_at "gv") | ((with_reducible refine' gv_beyond ?_ ?_ ?_ ?_) <;> walk_at "gv") | ((with_reducible refine' gv_outs ?_ ?_) <;> walk_at "gv") | ((with_reducible refine' gv_ends ?_ ?_ ?_ ?_ ?_) <;> walk_at "gv"))
/-! ### ways -/
/-- all ways on: n turns are allowed -/
def waysN (ps : List Pc) (sg : List Sig) : Nat → List Stp → Int → Nat → List (List Stp)
  | 0, _, _, _ => []
  | n + 1, way, j, a => if (a : Int) ∈ way.map Stp.p then [] else
      (outsN ((ps[a]?).getD (.plain 0 0)) j).flatMap fun o => if endsN ps sg a o = true then [way ++ [⟨a, j, o⟩]] else match beyondN ps a o with
        | none => []
        | some b => waysN ps sg n (way ++ [⟨a, j, o⟩]) o b
theorem outsN_len (p : Pc) (j : Int) : (outsN p j).length ≤ 2 := by
  cases p with
  | plain a c => exact Nat.le_trans (List.length_filter_le _ _) (Nat.le_refl 2)
  | points t s b =>
    show (if j = t then [s, b] else [t]).length ≤ 2
    split
    · exact Nat.le_refl 2
    · exact Nat.le_succ 1
theorem ways_len (ps : List Pc) (sg : List Sig) : ∀ (n : Nat) (way : List Stp) (j : Int) (a : Nat), (waysN ps sg n way j a).length ≤ 2 ^ n
  | 0, _, _, _ => by simp [waysN]
  | n + 1, way, j, a => by
    unfold waysN
    split
    · simp
    · have h : ∀ (os : List Int), ((os.flatMap fun o => if endsN ps sg a o = true then [way ++ [⟨a, j, o⟩]] else match beyondN ps a o with
        | none => []
        | some b => waysN ps sg n (way ++ [⟨a, j, o⟩]) o b)).length ≤ os.length * 2 ^ n := by
        intro os
        induction os with
        | nil => simp
        | cons o os ih =>
          rw [List.flatMap_cons, List.length_append, List.length_cons, Nat.add_mul, Nat.one_mul, Nat.add_comm]
          refine Nat.add_le_add ih ?_
          split
          · exact Nat.one_le_two_pow
          · split
            · exact Nat.zero_le _
            · exact ways_len ps sg n _ _ _
      refine Nat.le_trans (h _) ?_
      have h2 := outsN_len ((ps[a]?).getD (.plain 0 0)) j
      rw [Nat.pow_succ, Nat.mul_comm (2 ^ n) 2]
      exact Nat.mul_le_mul_right _ h2
theorem beyondN_lt {ps : List Pc} {a j : Int} {k : Nat} (h : beyondN ps a j = some k) : k < ps.length := by
  unfold beyondN at h
  exact List.mem_range.mp (List.mem_of_find?_eq_some h)
structure WaysArg where
  ps : List Pc
  sg : List Sig
  way : List Stp
  j : Int
  a : Nat
def WaysPre (n : Nat) (t : WaysArg) : Prop := t.ps.length ≤ 16 ∧ t.a < t.ps.length ∧ t.ps.length < t.way.length + n ∧ (t.way.map Stp.p).Nodup ∧ (∀ s ∈ t.way, 0 ≤ s.p ∧ s.p < (t.ps.length : Int)) ∧ n ≤ 17
def spWays (n : Nat) : Sp := spP (T := WaysArg) (fun t => [.d (.list (t.ps.map enc)), .d (.list (t.sg.map enc)), .d (.list (t.way.map enc)), AI t.j, AI (t.a : Int)]) (fun t _ _ => WaysPre n t)
  fun t => .d (.list ((waysN t.ps t.sg n t.way t.j t.a).map enc))
theorem gv_ways {n : Nat} {Γ : List (Option AV)} {B H : Hp} {ta : TA} {E : XK} (t : WaysArg) (h : Ga ta Γ B H [.d (.list (t.ps.map enc)), .d (.list (t.sg.map enc)), .d (.list (t.way.map enc)), AI t.j, AI (t.a : Int)]) (hp : WaysPre n t) :
    Gv (tCall (spWays n) [] E ta) Γ B H (.d (.list ((waysN t.ps t.sg n t.way t.j t.a).map enc))) := gv_call t h fun _ _ _ => hp
theorem way_le {ps : List Pc} {way : List Stp} (h1 : (way.map Stp.p).Nodup) (h2 : ∀ s ∈ way, 0 ≤ s.p ∧ s.p < (ps.length : Int)) : way.length ≤ ps.length := by
  have h := nodup_len_le (way.map Stp.p) ((List.range ps.length).map fun (k : Nat) => (k : Int)) h1 fun x hx => by
    obtain ⟨s, hs, e⟩ := List.mem_map.mp hx
    have := h2 s hs
    refine List.mem_map.mpr ⟨s.p.toNat, List.mem_range.mpr (by omega), by omega⟩
  simpa using h
theorem ok_ways_step {n : Nat} (T : Txt K mg C) (F : Fun K "ways_from" "ways_from" s_ways_from f fd) (c_beyond : Cal P w K mg base CX0 2 "beyond" spBeyond) (c_outs : Cal P w K mg base CX0 2 "outs" spOuts) (c_ends_at : Cal P w K mg base CX0 3 "ends_at" spEnds)
    (IH : Cal P w K mg base CX0 (3 + n) "ways_from" (spWays n)) : FnOk P w K mg base CX0 (3 + n + 1) f fd ["pieces", "signals", "way", "joint", "at"] (spWays (n + 1)) := by
  have HK : 3 + n ≤ 3 + n := Nat.le_refl _
  have c_beyond := c_beyond.mono (show 2 ≤ 3 + n by omega)
  have c_outs := c_outs.mono (show 2 ≤ 3 + n by omega)
  have c_ends_at := c_ends_at.mono (show 3 ≤ 3 + n by omega)
  refine fn_P F sc_ways_from (fun _ => rfl) fun cdv A outer s H Q E hr => ⟨_, pss_cons (ps_if (pt_cmpR (op_inK (K := K) rfl) (pv 4) (pe_lc (own := [("step", 8)]) (g := gName 8) (tt := tYes) (by rfl) sc_ways_from.nd (pi_listK (K := K) rfl (pv 2)) (blkOk_by (own := [("step", 8)]) (N := N_ways_from) (sc := defScope s_ways_from) (by decide +kernel)) (fun _ _ _ _ _ => pg_name (i := 8) sc_ways_from.nd rfl (Or.inl rfl)) (fun _ _ _ _ _ => pts_nil) (fun _ _ _ _ _ => pe_ix (ix_tupK (K := K) rfl) (pv 8) (pe_int) (fun _ _ => rfl))) (by rfl)) (pss_cons (ps_ret (pe_lst (pa_nil)))
  (pss_nil)) (pss_nil))
  (pss_cons (ps_set (i := 5) sc_ways_from.nd rfl (by first | exact Or.inl rfl | exact Or.inr rfl) (pe_lst (pa_nil)))
  (pss_cons (ps_for PassesOwn.never rfl (pi_listK (K := K) rfl (pe_cal c_outs hr (by first | decide | omega) rfl passN (pa_cons (pe_ix (ix_listK (K := K) rfl) (pv 0) (pv 4) (fun _ _ => rfl)) (pa_cons (pv 3) (pa_nil))))) (pg_name (i := 6) sc_ways_from.nd rfl (by first | exact Or.inl rfl | exact Or.inr rfl)) (pss_cons (ps_set (i := 7) sc_ways_from.nd rfl (by first | exact Or.inl rfl | exact Or.inr rfl) (pe_op op_cat (pv 2) (pe_lst (pa_cons (pe_tup (pa_cons (pv 4) (pa_cons (pv 3) (pa_cons (pv 6) (pa_nil))))) (pa_nil)))))
  (pss_cons (ps_if (pt_val (pe_cal c_ends_at hr (by first | decide | omega) rfl passN (pa_cons (pv 0) (pa_cons (pv 1) (pa_cons (pv 4) (pa_cons (pv 6) (pa_nil))))))) (pss_cons (ps_expr (pe_bmK (K := K) rfl PySem.F.plainAttrs_list PySem.F.slot_list_append PySem.F.type_list_append mt_append (pv 5) (pa_cons (pv 7) (pa_nil))))
  (pss_nil)) (pss_cons (ps_expr (pe_bmK (K := K) rfl PySem.F.plainAttrs_list PySem.F.slot_list_extend PySem.F.type_list_extend mt_extend (pv 5) (pa_cons (pe_cal IH hr HK rfl passN (pa_cons (pv 0) (pa_cons (pv 1) (pa_cons (pv 7) (pa_cons (pv 6) (pa_cons (pe_cal c_beyond hr (by first | decide | omega) rfl passN (pa_cons (pv 0) (pa_cons (pv 4) (pa_cons (pv 6) (pa_nil))))) (pa_nil))))))) (pa_nil))))
  (pss_nil)))
  (pss_nil))))
  (pss_cons (ps_ret (pv 5))
  (pss_nil)))), fun ⟨ps, sg, way, j, a⟩ B e pre q => ?_⟩
  obtain ⟨h16, ha, hn, hnd, hin, h17⟩ := pre
  have h16 : ps.length ≤ 16 := h16
  have ha : a < ps.length := ha
  have hn : ps.length < way.length + (n + 1) := hn
  have hnd : (way.map Stp.p).Nodup := hnd
  have hin : ∀ s ∈ way, 0 ≤ s.p ∧ s.p < (ps.length : Int) := hin
  have q : ∀ u B2 H2, Ext B H B2 H2 → Is B2 u (.d (.list ((waysN ps sg (n + 1) way j a).map enc))) → Q u H2 := q
  have hway := way_le hnd hin
  refine qx_when (b := decide ((a : Int) ∈ way.map Stp.p)) ?_ ?_ ?_
  · refine gt_test (gv_op (gv_var rfl) (y := .d (.list ((way.map Stp.p).map enc))) ?_ ro_inI)
    refine gv_lcM Stp.p (gv_var rfl) (by omega) (by decide) (by decide) fun st _ B2 H2 x2 => ?_
    walk_at "gw"
  · intro hb B2 H2 x2
    refine qx_ret (g := .d (.list [])) (by walk_at "gv") fun u B3 H3 x3 hu => q u B3 H3 (x2.trans x3) ?_
    have : waysN ps sg (n + 1) way j a = [] := by
      unfold waysN
      exact if_pos (of_decide_eq_true hb)
    rw [this]
    exact hu
  intro hb B2 H2 x2
  have hna : (a : Int) ∉ way.map Stp.p := of_decide_eq_false hb
  refine qx_newL (ds := []) ga_nil (by decide) fun p B3 H3 hp x3 m => ?_
  have hp0 : H p = none := x2.hh.free hp
  have x30 := x2.trans x3
  obtain ⟨pc, hpc⟩ : ∃ pc, ps[a]? = some pc := ⟨_, List.getElem?_eq_getElem ha⟩
  let Fo : Int → List (List Stp) := fun o => if endsN ps sg a o = true then [way ++ [⟨a, j, o⟩]] else match beyondN ps a o with
        | none => []
        | some b => waysN ps sg n (way ++ [⟨a, j, o⟩]) o b
  have hFl : ∀ o, (Fo o).length ≤ 2 ^ n := fun o => by
    show (if endsN ps sg a o = true then [way ++ [⟨a, j, o⟩]] else match beyondN ps a o with
        | none => []
        | some b => waysN ps sg n (way ++ [⟨a, j, o⟩]) o b).length ≤ 2 ^ n
    split
    · exact Nat.one_le_two_pow
    · split
      · exact Nat.zero_le _
      · exact ways_len ps sg n _ _ _
  have hpow : 2 ^ n ≤ 2 ^ 17 := Nat.pow_le_pow_right (by decide) (by omega)
  have hpl : ∀ k, (((outsN pc j).take k).flatMap Fo).length ≤ 2 * 2 ^ 17 := fun k => by
    have key : ∀ os : List Int, (os.flatMap Fo).length ≤ os.length * 2 ^ n := by
      intro os
      induction os with
      | nil => simp
      | cons o os ih =>
        rw [List.flatMap_cons, List.length_append, List.length_cons, Nat.add_mul, Nat.one_mul, Nat.add_comm]
        exact Nat.add_le_add ih (hFl o)
    refine Nat.le_trans (key _) (Nat.le_trans (Nat.mul_le_mul_right _ (m := 2) ?_) (Nat.mul_le_mul_left _ hpow))
    have := outsN_len pc j
    have h2 := List.length_take_le k (outsN pc j)
    have h3 : ((outsN pc j).take k).length ≤ (outsN pc j).length := by rw [List.length_take]; omega
    omega
  have hw : waysN ps sg (n + 1) way j a = (outsN pc j).flatMap Fo := by
    show (if (a : Int) ∈ way.map Stp.p then [] else (outsN ((ps[a]?).getD (.plain 0 0)) j).flatMap Fo) = _
    rw [if_neg hna, hpc]
    rfl
  rw [hw] at q
  refine qx_forD (xs := outsN pc j) ?_ (fun _ => [some (.d (.list (ps.map enc))), some (.d (.list (sg.map enc))), some (.d (.list (way.map enc))), some (AI j), some (AI (a : Int)), some (.v (.ref p)), none, none, none])
    (fun k B1 H1 => Ext B H B1 H1 ∧ Ml B1 H1 p ((((outsN pc j).take k).flatMap Fo).map enc)) (by walk_at "le") (fun B4 H4 x4 => ⟨x30.trans x4, m.ext x4⟩) ?_ ?_
  · have hat := atI_map hpc
    walk_at "gv"
  · intro Bs k o B4 H4 hk s1 s2 ⟨x4, m4⟩
    have htake : ((outsN pc j).take (k + 1)).flatMap Fo = ((outsN pc j).take k).flatMap Fo ++ Fo o := by
      rw [List.take_add_one, hk, List.flatMap_append]
      simp
    have hsz := hpl (k + 1)
    rw [htake, List.length_append] at hsz
    refine qx_asg (g := .d (.list ((way ++ [(⟨a, j, o⟩ : Stp)]).map enc))) ?_ fun B5 H5 x5 => ?_
    · refine gv_is (g := .d (.list (way.map enc ++ [enc (⟨a, j, o⟩ : Stp)]))) ?_ (by rw [List.map_append]; rfl)
      refine gv_op (y := .d (.list [enc (⟨a, j, o⟩ : Stp)])) (gv_var rfl) ?_ (ro_cat (by simp; omega))
      walk_at "gw"
    refine qx_if (b := endsN ps sg a o) ?_ ?_ ?_
    · refine gt_B ?_
      walk_at "gv"
    · intro hb B6 H6 x6
      have e1 : Fo o = [way ++ [⟨a, j, o⟩]] := if_pos hb
      refine qx_app ((m4.ext x5).ext x6) (gv_var rfl) (gv_var rfl) (by rw [List.length_map]; omega) fun B7 H7 x7 m7 => sx_go ?_
      refine sx_lp (s2.trans (x5.bb.trans (x6.bb.trans x7.bb))) (by walk_at "le") ⟨(x4.trans (x5.trans x6)).thenF x7 (fun z hz => by rw [hz]; exact hp0), ?_⟩
      rw [htake, e1, List.map_append]
      exact m7
    · intro hb B6 H6 x6
      obtain ⟨b, hbe⟩ : ∃ b, beyondN ps a o = some b := by
        cases h : beyondN ps a o with
        | none =>
          unfold endsN at hb
          rw [h] at hb
          cases hb
        | some b => exact ⟨b, rfl⟩
      have e1 : Fo o = waysN ps sg n (way ++ [⟨a, j, o⟩]) o b := by
        show (if endsN ps sg a o = true then [way ++ [⟨a, j, o⟩]] else match beyondN ps a o with
        | none => []
        | some b => waysN ps sg n (way ++ [⟨a, j, o⟩]) o b) = _
        rw [if_neg (by rw [hb]; simp), hbe]
      have hpre : WaysPre n ⟨ps, sg, way ++ [⟨a, j, o⟩], o, b⟩ := by
        refine ⟨h16, beyondN_lt hbe, ?_, ?_, ?_, by omega⟩
        · show ps.length < (way ++ [(⟨a, j, o⟩ : Stp)]).length + n
          rw [List.length_append, List.length_singleton]
          omega
        · show ((way ++ [(⟨a, j, o⟩ : Stp)]).map Stp.p).Nodup
          rw [List.map_append, List.nodup_append]
          refine ⟨hnd, by simp, ?_⟩
          intro x hx y hy e
          simp at hy
          subst hy
          subst e
          exact hna hx
        · intro st hst
          rcases List.mem_append.mp hst with h | h
          · exact hin st h
          · simp at h
            subst h
            show (0 : Int) ≤ (a : Int) ∧ (a : Int) < (ps.length : Int)
            omega
      refine qx_extend ((m4.ext x5).ext x6) (gv_var rfl) (es := (waysN ps sg n (way ++ [⟨a, j, o⟩]) o b).map enc) ?_ (by rw [List.length_map, List.length_map, ← e1]; omega) fun B7 H7 x7 m7 => sx_go ?_
      · refine gv_ways (⟨ps, sg, way ++ [⟨a, j, o⟩], o, b⟩ : WaysArg) ?_ hpre
        refine ga_cons (gv_var rfl) (ga_cons (gv_var rfl) (ga_cons (gv_var rfl) (ga_cons (gv_var rfl) (ga_cons ?_ ga_nil))))
        refine gv_is (g := .d (oN (beyondN ps a o))) ?_ (by rw [hbe]; rfl)
        walk_at "gv"
      · refine sx_lp (s2.trans (x5.bb.trans (x6.bb.trans x7.bb))) (by walk_at "le") ⟨(x4.trans (x5.trans x6)).thenF x7 (fun z hz => by rw [hz]; exact hp0), ?_⟩
        rw [htake, e1, List.map_append]
        exact m7
  · intro B4 H4 s1 ⟨x4, m4⟩
    rw [List.take_length] at m4
    exact qx_retM x4 hp0 m4 (gv_var rfl) q
theorem ok_ways (T : Txt K mg C) (F : Fun K "ways_from" "ways_from" s_ways_from f fd) (bF : Binds K fd ["pieces", "signals", "way", "joint", "at"] []) (mF : mg "ways_from" = some (.ref f)) (c_beyond : Cal P w K mg base CX0 2 "beyond" spBeyond) (c_outs : Cal P w K mg base CX0 2 "outs" spOuts) (c_ends_at : Cal P w K mg base CX0 3 "ends_at" spEnds) :
    ∀ n : Nat, Cal P w K mg base CX0 (3 + n) "ways_from" (spWays n)
  | 0 => by
    have no : ∀ vs H Q E, ¬ spWays 0 vs H Q E := fun vs H Q E h => by
      obtain ⟨a, _, _, _, ⟨_, _, h1, h2, h3, _⟩, _⟩ := h
      have := way_le h2 h3
      omega
    exact Fun.cal F mF bF ⟨fun vs H Q E h => absurd h (no vs H Q E), fun A outer s H args us vs Q E _ _ _ _ h => absurd h (no vs H Q E)⟩
  | n + 1 => Fun.cal F mF bF (ok_ways_step T F c_beyond c_outs c_ends_at (ok_ways T F bF mF c_beyond c_outs c_ends_at n))
end
end SB
namespace SB
open PySem PySem.Spec PyProof.Rows L2
open Enc (enc)
local macro_rules | `(tactic| walk_at "le") => `(tactic| first | exact le_nil | (refine le_keep ?_; walk_at "le") | (refine le_drop ?_; walk_at "le"))
local macro_rules | `(tactic| walk_at "sd") => `(tactic| first | assumption | (show (_ : Int) < _ ∧ _ < (1073741824 : Int); exact ⟨by omega, by omega⟩) | (show (-(2 ^ 64) < (_ : Int) ∧ _ < (2 ^ 64 : Int)) ∨ _; first | exact .inl ⟨by omega, by omega⟩ | exact .inr ⟨by omega, by omega⟩) | rfl | decide | (simp; done) | omega | skip)
local macro_rules | `(tactic| walk_at "gc") => `(tactic| fail)
local macro_rules | `(tactic| walk_at "gv") => `(tactic| first
  | exact gv_int | exact gv_str | exact gv_bl | exact gv_non | exact gv_var rfl
  | ((with_reducible refine' gv_op ?_ ?_ ?_) <;> walk_at "gv")
  | ((with_reducible refine' ga_cons ?_ ?_) <;> walk_at "gv") | exact ga_nil
  | ((with_reducible refine' gv_cb ?_ ?_) <;> walk_at "gv")
  | ((with_reducible refine' gt_test ?_) <;> walk_at "gv") | ((with_reducible refine' gt_B ?_) <;> walk_at "gv") | ((with_reducible refine' gt_not ?_) <;> walk_at "gv")
  | ((with_reducible refine' gt_and ?k1 ?k2); (case' k1 => walk_at "gv"); (case' k2 => intro hb; walk_at "gv"))
  | ((with_reducible refine' gt_or ?k1 ?k2); (case' k1 => walk_at "gv"); (case' k2 => intro hb; walk_at "gv"))
  | ((with_reducible refine' gv_andV ?k1 ?k2); (case' k1 => walk_at "gv"); (case' k2 => intro hb; walk_at "gv"))
  | ((with_reducible refine' gv_orV ?k1 ?k2); (case' k1 => walk_at "gv"); (case' k2 => intro hb; walk_at "gv"))
  | ((with_reducible refine' gv_notV ?_) <;> walk_at "gv")
  | ((with_reducible refine' gv_slL ?_ ?_ ?_) <;> walk_at "gv") | ((with_reducible refine' gv_slT ?_ ?_ ?_ ?_) <;> walk_at "gv")
  | exact go_none | ((with_reducible refine' go_some ?_) <;> walk_at "gv")
  | exact gd_nil | ((with_reducible refine' gd_cons ?_ ?_) <;> walk_at "gv") | ((with_reducible refine' gv_lst ?_ ?_) <;> walk_at "gv") | ((with_reducible refine' gv_tup ?_ ?_) <;> walk_at "gv")
  | ((with_reducible refine' gv_chain ?_ ?_ ?_ ?_ ?_) <;> walk_at "gv") | ((with_reducible refine' gt_truL ?_) <;> walk_at "gv") | ((with_reducible refine' gv_countI ?_ ?_) <;> walk_at "gv")
  | ((with_reducible refine' gv_lenSetI ?_ ?_) <;> walk_at "gv") | ((with_reducible refine' gv_lenSetU ?_ ?_) <;> walk_at "gv") | ((with_reducible refine' gv_lenSetT ?_ ?_) <;> walk_at "gv")
  | exact gt_yes
  | walk_at "gc"
  | exact ro_I0 | exact ro_B0 | (refine ro_I ?_; walk_at "sd")
  | exact ro_eqI | exact ro_neI | exact ro_eqS | exact ro_neS
  | (refine ro_eq ?_; walk_at "sd") | (refine ro_ne ?_; walk_at "sd")
  | exact ro_isN | exact ro_notN
  | exact ro_inI | exact ro_notInI | exact ro_inTI
  | (refine' ro_ixL ?k1; (case' k1 => walk_at "sd")) | (refine' ro_ixT ?k1; (case' k1 => walk_at "sd"))
  | (refine ro_cat ?_; walk_at "sd")
  | exact rc_lenM | exact rc_len | exact rc_lenT | exact rc_list | exact rc_listT | exact rc_tuple | exact rc_any | exact rc_all | exact rc_max2 | exact rc_min2 | exact rc_intB
  | (show (_ : Nat) ≤ _; first | decide | (simp; done) | omega)
  | (show (_ : Nat) < _; first | decide | (simp; done) | omega)
  | (show ¬ (_ ∧ _); exact fun h => absurd (show (1 : Nat) = 0 from h.1) (by decide))
  | skip)
local macro_rules | `(tactic| walk_at "ge") => `(tactic| (refine' gt_is ?k1 ?k2; (case' k1 => walk_at "gv"); (case' k2 => first | rfl | (simp; done) | skip)))
local macro_rules | `(tactic| walk_at "gw") => `(tactic| (refine' gv_is ?k1 ?k2; (case' k1 => walk_at "gv"); (case' k2 => first | rfl | (simp; done) | skip)))
local macro_rules | `(tactic| walk_at "gj") => `(tactic| first | exact gi_nil | (refine' gi_cons ?g1 ?g2; (case' g1 => walk_at "gv"); (case' g2 => walk_at "gj")))
local macro_rules | `(tactic| walk_at "gi") => `(tactic| (refine' gv_lst ?k1 ?k2; (case' k1 => walk_at "gj"); (case' k2 => (simp; try omega))))
local macro_rules | `(tactic| walk_at "gc") => `(tactic| first | ((with_reducible refine' gv_joints ?_) <;> walk_at "gv") | ((with_reducible refine' gv_beyond ?_ ?_ ?_ ?_) <;> walk_at "gv") | ((with_reducible refine' gv_outs ?_ ?_) <;> walk_at "gv") | ((with_reducible refine' gv_ends ?_ ?_ ?_ ?_ ?_) <;> walk_at "gv"))
/-! ### looks -/
section
variable {C : Adr} {P : Program} {w : World} {K : PySem.W.Frag} {mg : Str → Option Value} {base : Heap} {fd : FuncData} {f : Addr}
abbrev s_look_pieces : Stmt := top 11
abbrev N_look_pieces : List Str := ["pieces", "ends", "piece", "joint"]
theorem sc_look_pieces : FnScope N_look_pieces ["pieces"] (defScope s_look_pieces) := ⟨rfl, rfl, rfl, by decide +kernel, rfl, by decide +kernel, by decide +kernel⟩
abbrev s_look_signals : Stmt := top 12
abbrev N_look_signals : List Str := ["pieces", "signals", "joint", "at"]
theorem sc_look_signals : FnScope N_look_signals ["pieces", "signals"] (defScope s_look_signals) := ⟨rfl, rfl, rfl, by decide +kernel, rfl, by decide +kernel, by decide +kernel⟩
abbrev s_routes : Stmt := top 16
abbrev N_routes : List Str := ["pieces", "signals", "found", "k", "way"]
theorem sc_routes : FnScope N_routes ["pieces", "signals"] (defScope s_routes) := ⟨rfl, rfl, rfl, by decide +kernel, rfl, by decide +kernel, by decide +kernel⟩
def endsOf (ps : List Pc) : List Int := ps.flatMap Pc.js
def okEnd (es : List Int) (j : Int) : Bool := (decide (0 ≤ j) && decide (j ≤ 999)) && !decide (2 < ((es.count j : Nat) : Int))
def goodPs (ps : List Pc) : Bool := (decide (1 ≤ ((ps.length : Nat) : Int)) && decide (((ps.length : Nat) : Int) ≤ 16)) && ps.all (fun p => decide (((nset p.js : Nat) : Int) = ((p.js.length : Nat) : Int))) && (endsOf ps).all (okEnd (endsOf ps))
def spLookP (c : Addr) : Sp := spR (T := List Pc) (fun ps => [.d (.list (ps.map enc))]) (fun ps _ _ => ps.length ≤ 100) fun ps => if goodPs ps = true then .ok AN else .error c
theorem js_len (p : Pc) : p.js.length ≤ 3 := by cases p <;> simp [Pc.js]
theorem endsOf_len : ∀ ps : List Pc, (endsOf ps).length ≤ 3 * ps.length
  | [] => by simp [endsOf]
  | p :: ps => by
    have h1 := js_len p
    have h2 := endsOf_len ps
    unfold endsOf at h2 ⊢
    rw [List.flatMap_cons, List.length_append, List.length_cons]
    omega
theorem ok_lookP (T : Txt K mg C) (F : Fun K "look_pieces" "look_pieces" s_look_pieces f fd) (c_joints : Cal P w K mg base CX0 1 "joints" spJoints) : FnOk P w K mg base (L2.CX P w) 2 f fd ["pieces"] (spLookP C.BadYard) := by
  refine fn_R F sc_look_pieces (fun _ => rfl) fun cdv A outer s H Q E hr => ⟨_, pss_cons (ps_if (pt_not (pt_chain op_le op_le (pe_int) (pe_callB (call_lenK (K := K) rfl) (by rfl) T.n_len (by decide +kernel) (pa_cons (pv 0) (pa_nil))) (pe_globI rfl T.g_MOST))) (pss_cons (ps_raise rfl (takes_of rfl rfl rfl rfl) (pmk_own PySem.F.excBase_ValueError T.e_BadYard.x T.e_BadYard.g T.e_BadYard.k (raises_own T.e_BadYard.b T.e_BadYard.t) rfl))
  (pss_nil)) (pss_nil))
  (pss_cons (ps_set (i := 1) sc_look_pieces.nd rfl (by first | exact Or.inl rfl | exact Or.inr rfl) (pe_lst (pa_nil)))
  (pss_cons (ps_for (passes_of rfl) rfl (pi_listK (K := K) rfl (pv 0)) (pg_name (i := 2) sc_look_pieces.nd rfl (by first | exact Or.inl rfl | exact Or.inr rfl)) (pss_cons (ps_if (pt_cmpR op_ne (pe_lenSetIK (K := K) rfl (by rfl) T.n_len (by rfl) T.n_set (pe_cal c_joints hr (by first | decide | omega) rfl passN (pa_cons (pv 2) (pa_nil)))) (pe_callB (call_lenK (K := K) rfl) (by rfl) T.n_len (by decide +kernel) (pa_cons (pe_cal c_joints hr (by first | decide | omega) rfl passN (pa_cons (pv 2) (pa_nil))) (pa_nil))) (nomark _)) (pss_cons (ps_raise rfl (takes_of rfl rfl rfl rfl) (pmk_own PySem.F.excBase_ValueError T.e_BadYard.x T.e_BadYard.g T.e_BadYard.k (raises_own T.e_BadYard.b T.e_BadYard.t) rfl))
  (pss_nil)) (pss_nil))
  (pss_cons (ps_expr (pe_bmK (K := K) rfl PySem.F.plainAttrs_list PySem.F.slot_list_extend PySem.F.type_list_extend mt_extend (pv 1) (pa_cons (pe_cal c_joints hr (by first | decide | omega) rfl passN (pa_cons (pv 2) (pa_nil))) (pa_nil))))
  (pss_nil))))
  (pss_cons (ps_for (passes_of rfl) rfl (pi_listK (K := K) rfl (pv 1)) (pg_name (i := 3) sc_look_pieces.nd rfl (by first | exact Or.inl rfl | exact Or.inr rfl)) (pss_cons (ps_if (PW.pt (pw_or (pt_not (pt_chain op_le op_le (pe_int) (pv 3) (pe_globI rfl T.g_JOINTS))) (pw_or1 (pt_cmpR op_gt (pe_bmK (K := K) rfl PySem.F.plainAttrs_list PySem.F.slot_list_count PySem.F.type_list_count (mt_lcountK (K := K) rfl) (pv 1) (pa_cons (pv 3) (pa_nil))) (pe_int) (nomark _))))) (pss_cons (ps_raise rfl (takes_of rfl rfl rfl rfl) (pmk_own PySem.F.excBase_ValueError T.e_BadYard.x T.e_BadYard.g T.e_BadYard.k (raises_own T.e_BadYard.b T.e_BadYard.t) rfl))
  (pss_nil)) (pss_nil))
  (pss_nil)))
  (pss_nil)))), fun ps B e hl q qe => ?_⟩
  have hl : ps.length ≤ 100 := hl
  have bad : goodPs ps = false → ∀ B2 H2, Ext B H B2 H2 → E (.ref C.BadYard) none H2 := fun h B2 H2 x => qe B2 H2 _ (by rw [h]; rfl) x
  refine qx_when (b := !(decide (1 ≤ ((ps.length : Nat) : Int)) && decide (((ps.length : Nat) : Int) ≤ 16))) ?_ ?_ ?_
  · walk_at "gv"
  · intro hb B2 H2 x2
    refine qx_raise fun _ => bad ?_ B2 H2 x2
    unfold goodPs
    rw [Bool.not_eq_true'] at hb
    rw [hb]
    rfl
  intro hb B2 H2 x2
  have hb1 : (decide (1 ≤ ((ps.length : Nat) : Int)) && decide (((ps.length : Nat) : Int) ≤ 16)) = true := by simpa using hb
  have good : ∀ c : Bool, (ps.all (fun p => decide (((nset p.js : Nat) : Int) = ((p.js.length : Nat) : Int))) && (endsOf ps).all (okEnd (endsOf ps))) = c → goodPs ps = c := fun c h => by
    unfold goodPs
    rw [hb1, Bool.true_and]
    exact h
  refine qx_newL (ds := []) ga_nil (by decide) fun p B3 H3 hp x3 m => ?_
  have hp0 : H p = none := x2.hh.free hp
  have hel := endsOf_len ps
  refine qx_forD (xs := ps) (gv_var rfl) (fun _ => [some (.d (.list (ps.map enc))), some (.v (.ref p)), none, none]) (fun k B1 H1 => Ext B H B1 H1 ∧ Ml B1 H1 p ((endsOf (ps.take k)).map enc) ∧ (ps.take k).all (fun p => decide (((nset p.js : Nat) : Int) = ((p.js.length : Nat) : Int))) = true)
    (by walk_at "le") (fun B4 H4 x4 => ⟨(x2.trans x3).trans x4, m.ext x4, rfl⟩) ?_ ?_
  · intro Bs k pc B4 H4 hk s1 s2 ⟨x4, m4, hall⟩
    have hjl := js_len pc
    have htake : ps.take (k + 1) = ps.take k ++ [pc] := by rw [List.take_add_one, hk]; rfl
    have hmem : pc ∈ ps := List.mem_of_getElem? hk
    have hlk : (endsOf (ps.take k)).length ≤ 3 * ps.length := by
      have h1 := endsOf_len (ps.take k)
      have h2 : (ps.take k).length ≤ ps.length := by rw [List.length_take]; omega
      omega
    refine qx_when (b := !decide (((nset pc.js : Nat) : Int) = ((pc.js.length : Nat) : Int))) ?_ ?_ ?_
    · walk_at "ge"
    · intro hb2 B5 H5 x5
      refine qx_raise fun _ => bad ?_ B5 H5 (x4.trans x5)
      refine good false ?_
      rw [Bool.and_eq_false_iff]
      refine .inl ?_
      rw [← Bool.not_eq_true]
      intro h
      have := List.all_eq_true.mp h pc hmem
      rw [this] at hb2
      cases hb2
    · intro hb2 B5 H5 x5
      refine qx_extend (es := pc.js.map enc) (m4.ext x5) (gv_var rfl) ?_ (by rw [List.length_map, List.length_map]; omega) fun B6 H6 x6 m6 => ?_
      · walk_at "gv"
      refine sx_lp (s2.trans (x5.bb.trans x6.bb)) (by walk_at "le") ⟨(x4.trans x5).thenF x6 (fun z hz => by rw [hz]; exact hp0), ?_, ?_⟩
      · rw [htake]
        unfold endsOf
        rw [List.flatMap_append, List.map_append, List.flatMap_singleton]
        exact m6
      · rw [htake, List.all_append, hall, List.all_cons, List.all_nil, Bool.true_and, Bool.and_true]
        simpa using hb2
  intro B4 H4 s1 ⟨x4, m4, hall⟩
  rw [List.take_length] at m4 hall
  refine sx_give (i := 1) x4 hp0 m4 rfl fun B5 x5 s5 => ?_
  refine qx_forD (xs := endsOf ps) (gv_var rfl) (fun _ => [some (.d (.list (ps.map enc))), some (.d (.list ((endsOf ps).map enc))), none, none]) (fun k B1 H1 => Ext B H B1 H1 ∧ ((endsOf ps).take k).all (okEnd (endsOf ps)) = true)
    (by walk_at "le") (fun B6 H6 x6 => ⟨x5.trans x6, rfl⟩) ?_ ?_
  · intro Bs k j B6 H6 hk s6 s7 ⟨x6, hall2⟩
    have htake : (endsOf ps).take (k + 1) = (endsOf ps).take k ++ [j] := by rw [List.take_add_one, hk]; rfl
    have hmem : j ∈ endsOf ps := List.mem_of_getElem? hk
    refine qx_when (b := !(decide (0 ≤ j) && decide (j ≤ 999)) || decide (2 < (((endsOf ps).count j : Nat) : Int))) ?_ ?_ ?_
    · walk_at "ge"
    · intro hb2 B7 H7 x7
      refine qx_raise fun _ => bad ?_ B7 H7 (x6.trans x7)
      refine good false ?_
      rw [Bool.and_eq_false_iff]
      refine .inr ?_
      rw [← Bool.not_eq_true]
      intro h
      have := List.all_eq_true.mp h j hmem
      unfold okEnd at this
      rw [Bool.and_eq_true] at this
      rw [this.1, Bool.not_true, Bool.false_or] at hb2
      rw [hb2] at this
      exact absurd this.2 (by decide)
    · intro hb2 B7 H7 x7
      refine sx_lp (s7.trans x7.bb) (by walk_at "le") ⟨x6.trans x7, ?_⟩
      rw [htake, List.all_append, hall2, List.all_cons, List.all_nil, Bool.true_and, Bool.and_true]
      unfold okEnd
      rw [Bool.or_eq_false_iff, Bool.not_eq_false'] at hb2
      rw [hb2.1, hb2.2]
      rfl
  intro B6 H6 s6 ⟨x6, hall2⟩
  rw [List.take_length] at hall2
  refine sx_next fun _ σ _ => ?_
  have hg : goodPs ps = true := good true (by rw [hall, hall2]; rfl)
  exact q .non B6 H6 AN (by rw [hg]; rfl) x6 .non
theorem gx_lookP {c : Addr} {Γ : List (Option AV)} {B H : Hp} {ta : TE} {E : XK} {ps : List Pc} (h : Gv ta Γ B H (.d (.list (ps.map enc)))) (hl : ps.length ≤ 100) : Gx E (tCall (spLookP c) [] E (tCons ta tNil)) Γ B H (if goodPs ps = true then .ok AN else .error c) :=
  gx_call ps (ga_cons h ga_nil) fun _ _ _ => hl
/-! signals -/
def okSig (ps : List Pc) (s : Sig) : Bool := (decide (0 ≤ s.2) && decide (s.2 < ((ps.length : Nat) : Int))) && decide (s.1 ∈ ((ps[s.2.toNat]?).getD (.plain 0 0)).js)
def goodSg (ps : List Pc) (sg : List Sig) : Bool := (!decide (16 < ((sg.length : Nat) : Int)) && decide (((nset sg : Nat) : Int) = ((sg.length : Nat) : Int))) && sg.all (okSig ps)
def spLookS (c : Addr) : Sp := spR (T := List Pc × List Sig) (fun t => [.d (.list (t.1.map enc)), .d (.list (t.2.map enc))]) (fun t _ _ => t.1.length ≤ 100 ∧ t.2.length ≤ 60) fun t => if goodSg t.1 t.2 = true then .ok AN else .error c
theorem ok_lookS (T : Txt K mg C) (F : Fun K "look_signals" "look_signals" s_look_signals f fd) (c_joints : Cal P w K mg base CX0 1 "joints" spJoints) : FnOk P w K mg base (L2.CX P w) 2 f fd ["pieces", "signals"] (spLookS C.BadYard) := by
  refine fn_R F sc_look_signals (fun _ => rfl) fun cdv A outer s H Q E hr => ⟨_, pss_cons (ps_if (PW.pt (pw_or (pt_cmpR op_gt (pe_callB (call_lenK (K := K) rfl) (by rfl) T.n_len (by decide +kernel) (pa_cons (pv 1) (pa_nil))) (pe_globI rfl T.g_MOST) (nomark _)) (pw_or1 (pt_cmpR op_ne (pe_lenSetTK (K := K) rfl hr.units (by rfl) T.n_len (by rfl) T.n_set (pv 1)) (pe_callB (call_lenK (K := K) rfl) (by rfl) T.n_len (by decide +kernel) (pa_cons (pv 1) (pa_nil))) (nomark _))))) (pss_cons (ps_raise rfl (takes_of rfl rfl rfl rfl) (pmk_own PySem.F.excBase_ValueError T.e_BadYard.x T.e_BadYard.g T.e_BadYard.k (raises_own T.e_BadYard.b T.e_BadYard.t) rfl))
  (pss_nil)) (pss_nil))
  (pss_cons (ps_for (passes_of rfl) rfl (pi_listK (K := K) rfl (pv 1)) (pg_tupK (K := K) rfl rfl (pgs_cons (pg_name (i := 2) sc_look_signals.nd rfl (by first | exact Or.inl rfl | exact Or.inr rfl)) (pgs_cons (pg_name (i := 3) sc_look_signals.nd rfl (by first | exact Or.inl rfl | exact Or.inr rfl)) (pgs_nil)))) (pss_cons (ps_if (PW.pt (pw_or (pt_not (pt_chain op_le op_lt (pe_int) (pv 3) (pe_callB (call_lenK (K := K) rfl) (by rfl) T.n_len (by decide +kernel) (pa_cons (pv 0) (pa_nil))))) (pw_or1 (pt_cmpR (op_notInK (K := K) rfl) (pv 2) (pe_cal c_joints hr (by first | decide | omega) rfl passN (pa_cons (pe_ix (ix_listK (K := K) rfl) (pv 0) (pv 3) (fun _ _ => rfl)) (pa_nil))) (by rfl))))) (pss_cons (ps_raise rfl (takes_of rfl rfl rfl rfl) (pmk_own PySem.F.excBase_ValueError T.e_BadYard.x T.e_BadYard.g T.e_BadYard.k (raises_own T.e_BadYard.b T.e_BadYard.t) rfl))
  (pss_nil)) (pss_nil))
  (pss_nil)))
  (pss_nil)), fun ⟨ps, sg⟩ B e hl q qe => ?_⟩
  obtain ⟨hl, hs⟩ := hl
  have hl : ps.length ≤ 100 := hl
  have hs : sg.length ≤ 60 := hs
  have bad : goodSg ps sg = false → ∀ B2 H2, Ext B H B2 H2 → E (.ref C.BadYard) none H2 := fun h B2 H2 x => qe B2 H2 _ (by show (if goodSg ps sg = true then _ else _) = _; rw [h]; rfl) x
  refine qx_when (b := decide (16 < ((sg.length : Nat) : Int)) || !decide (((nset sg : Nat) : Int) = ((sg.length : Nat) : Int))) ?_ ?_ ?_
  · walk_at "ge"
  · intro hb B2 H2 x2
    refine qx_raise fun _ => bad ?_ B2 H2 x2
    unfold goodSg
    rw [Bool.and_eq_false_iff]
    refine .inl ?_
    rcases Bool.or_eq_true_iff.mp hb with h | h
    · rw [h]; rfl
    · rw [Bool.not_eq_true'] at h
      rw [h, Bool.and_false]
  intro hb B2 H2 x2
  rw [Bool.or_eq_false_iff, Bool.not_eq_false'] at hb
  have good : ∀ c : Bool, sg.all (okSig ps) = c → goodSg ps sg = c := fun c h => by
    unfold goodSg
    rw [hb.1, hb.2, h]
    rfl
  refine qx_forD2 (xs := sg) (gv_var rfl) (fun _ => [some (.d (.list (ps.map enc))), some (.d (.list (sg.map enc))), none, none]) (fun k B1 H1 => Ext B H B1 H1 ∧ (sg.take k).all (okSig ps) = true) (by walk_at "le") (fun B3 H3 x3 => ⟨x2.trans x3, rfl⟩) ?_ ?_
  · intro Bs k ⟨j, a⟩ B3 H3 hk s1 s2 ⟨x3, hall⟩
    have htake : sg.take (k + 1) = sg.take k ++ [(j, a)] := by rw [List.take_add_one, hk]; rfl
    have hmem : (j, a) ∈ sg := List.mem_of_getElem? hk
    refine qx_when (b := !okSig ps (j, a)) ?_ ?_ ?_
    · refine gt_is (b := !(decide (0 ≤ a) && decide (a < ((ps.length : Nat) : Int))) || !decide (j ∈ ((ps[a.toNat]?).getD (.plain 0 0)).js)) (gt_or ?_ fun h1 => ?_) ?_
      · walk_at "gv"
      · have h1' : 0 ≤ a ∧ a < (ps.length : Int) := by simpa using h1
        have hlt : a.toNat < ps.length := by omega
        obtain ⟨pc, hpc⟩ : ∃ pc, ps[a.toNat]? = some pc := ⟨_, List.getElem?_eq_getElem hlt⟩
        have hat : atI (ps.map enc) a = some (enc pc) := by
          have := atI_map hpc
          rw [show ((a.toNat : Nat) : Int) = a by omega] at this
          exact this
        rw [hpc]
        walk_at "ge"
      · show _ = !okSig ps (j, a)
        unfold okSig
        simp only [Bool.not_and]
    · intro hb2 B4 H4 x4
      refine qx_raise fun _ => bad ?_ B4 H4 (x3.trans x4)
      refine good false ?_
      rw [← Bool.not_eq_true]
      intro h
      have := List.all_eq_true.mp h _ hmem
      rw [this] at hb2
      cases hb2
    · intro hb2 B4 H4 x4
      refine sx_lp (s2.trans x4.bb) (by walk_at "le") ⟨x3.trans x4, ?_⟩
      rw [htake, List.all_append, hall, List.all_cons, List.all_nil, Bool.true_and, Bool.and_true]
      simpa using hb2
  · intro B3 H3 s1 ⟨x3, hall⟩
    rw [List.take_length] at hall
    have hg := good true hall
    exact sx_next fun _ σ _ => q .non B3 H3 AN (by show (if goodSg ps sg = true then _ else _) = _; rw [hg]; rfl) x3 .non
theorem gx_lookS {c : Addr} {Γ : List (Option AV)} {B H : Hp} {ta tb : TE} {E : XK} {ps : List Pc} {sg : List Sig} (h : Gv ta Γ B H (.d (.list (ps.map enc)))) (h2 : Gv tb Γ B H (.d (.list (sg.map enc)))) (hl : ps.length ≤ 100) (hs : sg.length ≤ 60) :
    Gx E (tCall (spLookS c) [] E (tCons ta (tCons tb tNil))) Γ B H (if goodSg ps sg = true then .ok AN else .error c) := gx_call (ps, sg) (ga_cons h (ga_cons h2 ga_nil)) fun _ _ _ => ⟨hl, hs⟩
/-! routes -/
def routesN (ps : List Pc) (sg : List Sig) : List (Int × List Stp) := (List.range sg.length).flatMap fun (k : Nat) => (waysN ps sg 17 [] ((sg[k]?).getD (0, 0)).1 ((sg[k]?).getD (0, 0)).2.toNat).map fun w => ((k : Int), w)
def goodYard (ps : List Pc) (sg : List Sig) : Bool := goodPs ps && goodSg ps sg
def spRoutes (c : Addr) : Sp := spR (T := List Pc × List Sig) (fun t => [.d (.list (t.1.map enc)), .d (.list (t.2.map enc))]) (fun t _ _ => t.1.length ≤ 100 ∧ t.2.length ≤ 60) fun t => if goodYard t.1 t.2 = true then .ok (.d (.list ((routesN t.1 t.2).map enc))) else .error c
theorem good_len {ps : List Pc} (h : goodPs ps = true) : 1 ≤ ps.length ∧ ps.length ≤ 16 := by
  unfold goodPs at h
  simp only [Bool.and_eq_true, decide_eq_true_eq] at h
  obtain ⟨⟨⟨h1, h2⟩, _⟩, _⟩ := h
  omega
theorem good_sg {ps : List Pc} {sg : List Sig} (h : goodSg ps sg = true) : sg.length ≤ 16 ∧ ∀ s ∈ sg, 0 ≤ s.2 ∧ s.2 < (ps.length : Int) ∧ s.1 ∈ ((ps[s.2.toNat]?).getD (.plain 0 0)).js := by
  unfold goodSg at h
  simp only [Bool.and_eq_true, Bool.not_eq_true', decide_eq_true_eq, decide_eq_false_iff_not, List.all_eq_true] at h
  obtain ⟨⟨h1, h2⟩, h3⟩ := h
  refine ⟨by omega, fun s hs => ?_⟩
  have := h3 s hs
  unfold okSig at this
  simp only [Bool.and_eq_true, decide_eq_true_eq] at this
  exact ⟨this.1.1, this.1.2, this.2⟩
theorem flat_len {α β : Type} (f : α → List β) (m : Nat) : ∀ xs : List α, (∀ x ∈ xs, (f x).length ≤ m) → (xs.flatMap f).length ≤ xs.length * m
  | [], _ => by simp
  | x :: xs, h => by
    rw [List.flatMap_cons, List.length_append, List.length_cons, Nat.add_mul, Nat.one_mul, Nat.add_comm]
    exact Nat.add_le_add (flat_len f m xs fun y hy => h y (List.mem_cons_of_mem _ hy)) (h x List.mem_cons_self)
theorem ok_routes (T : Txt K mg C) (F : Fun K "routes" "routes" s_routes f fd) (c_look_pieces : Cal P w K mg base (L2.CX P w) 2 "look_pieces" (spLookP C.BadYard)) (c_look_signals : Cal P w K mg base (L2.CX P w) 2 "look_signals" (spLookS C.BadYard))
    (c_ways_from : Cal P w K mg base CX0 20 "ways_from" (spWays 17)) : FnOk P w K mg base (L2.CX P w) 21 f fd ["pieces", "signals"] (spRoutes C.BadYard) := by
  refine fn_R F sc_routes (fun _ => rfl) fun cdv A outer s H Q E hr => ⟨_, pss_cons (ps_expr (pe_cal c_look_pieces hr (by first | decide | omega) rfl (passX (takes_of rfl rfl rfl rfl)) (pa_cons (pv 0) (pa_nil))))
  (pss_cons (ps_expr (pe_cal c_look_signals hr (by first | decide | omega) rfl (passX (takes_of rfl rfl rfl rfl)) (pa_cons (pv 0) (pa_cons (pv 1) (pa_nil)))))
  (pss_cons (ps_set (i := 2) sc_routes.nd rfl (by first | exact Or.inl rfl | exact Or.inr rfl) (pe_lst (pa_nil)))
  (pss_cons (ps_for (passes_of rfl) rfl (pi_range1 (by rfl) T.n_range (pa_cons (pe_callB (call_lenK (K := K) rfl) (by rfl) T.n_len (by decide +kernel) (pa_cons (pv 1) (pa_nil))) (pa_nil))) (pg_name (i := 3) sc_routes.nd rfl (by first | exact Or.inl rfl | exact Or.inr rfl)) (pss_cons (ps_for (passes_of rfl) rfl (pi_listK (K := K) rfl (pe_cal c_ways_from hr (by first | decide | omega) rfl passN (pa_cons (pv 0) (pa_cons (pv 1) (pa_cons (pe_lst (pa_nil)) (pa_cons (pe_ix (ix_tupK (K := K) rfl) (pe_ix (ix_listK (K := K) rfl) (pv 1) (pv 3) (fun _ _ => rfl)) (pe_int) (fun _ _ => rfl)) (pa_cons (pe_ix (ix_tupK (K := K) rfl) (pe_ix (ix_listK (K := K) rfl) (pv 1) (pv 3) (fun _ _ => rfl)) (pe_int) (fun _ _ => rfl)) (pa_nil)))))))) (pg_name (i := 4) sc_routes.nd rfl (by first | exact Or.inl rfl | exact Or.inr rfl)) (pss_cons (ps_expr (pe_bmK (K := K) rfl PySem.F.plainAttrs_list PySem.F.slot_list_append PySem.F.type_list_append mt_append (pv 2) (pa_cons (pe_tup (pa_cons (pv 3) (pa_cons (pv 4) (pa_nil)))) (pa_nil))))
  (pss_nil)))
  (pss_nil)))
  (pss_cons (ps_ret (pv 2))
  (pss_nil))))), fun ⟨ps, sg⟩ B e hl q qe => ?_⟩
  obtain ⟨hl, hs⟩ := hl
  have hl : ps.length ≤ 100 := hl
  have hs : sg.length ≤ 60 := hs
  have q : ∀ u B2 H2 g, (if goodYard ps sg = true then Except.ok (.d (.list ((routesN ps sg).map enc))) else Except.error C.BadYard) = Except.ok g → Ext B H B2 H2 → Is B2 u g → Q u H2 := q
  have qe : ∀ B2 H2 c, (if goodYard ps sg = true then Except.ok (AV.d (.list ((routesN ps sg).map enc))) else Except.error C.BadYard) = Except.error c → Ext B H B2 H2 → E (.ref c) none H2 := qe
  refine qx_dropX (gx_lookP (gv_var rfl) hl) (fun g B2 H2 hg x2 => ?_) fun c B2 H2 hc x2 => ?_
  rotate_left
  · cases h : goodPs ps with
    | true => rw [h, if_pos rfl] at hc; cases hc
    | false =>
      rw [h] at hc
      cases hc
      exact qe B2 H2 _ (by unfold goodYard; rw [h]; rfl) x2
  have hgp : goodPs ps = true := by
    cases h : goodPs ps with
    | true => rfl
    | false => rw [h] at hg; cases hg
  refine qx_dropX (gx_lookS (gv_var rfl) (gv_var rfl) hl hs) (fun g' B3 H3 hg' x3 => ?_) fun c B3 H3 hc x3 => ?_
  rotate_left
  · cases h : goodSg ps sg with
    | true => rw [h, if_pos rfl] at hc; cases hc
    | false =>
      rw [h] at hc
      cases hc
      exact qe B3 H3 _ (by unfold goodYard; rw [h, Bool.and_false]; rfl) (x2.trans x3)
  have hgs : goodSg ps sg = true := by
    cases h : goodSg ps sg with
    | true => rfl
    | false => rw [h] at hg'; cases hg'
  have hgy : goodYard ps sg = true := by unfold goodYard; rw [hgp, hgs]; rfl
  rw [hgy, if_pos rfl] at q
  obtain ⟨hl1, hl16⟩ := good_len hgp
  obtain ⟨hs16, hsig⟩ := good_sg hgs
  refine qx_newL (ds := []) ga_nil (by decide) fun p B4 H4 hp x4 m => ?_
  have hp0 : H p = none := (x2.trans x3).hh.free hp
  have x04 := (x2.trans x3).trans x4
  let Fk : Nat → List (Int × List Stp) := fun k => (waysN ps sg 17 [] ((sg[k]?).getD (0, 0)).1 ((sg[k]?).getD (0, 0)).2.toNat).map fun w => ((k : Int), w)
  have hFk : ∀ k, (Fk k).length ≤ 2 ^ 17 := fun k => by
    show ((waysN ps sg 17 [] _ _).map _).length ≤ _
    rw [List.length_map]
    exact ways_len ps sg 17 _ _ _
  have hpre : ∀ k, k ≤ 16 → ((List.range k).flatMap Fk).length ≤ 16 * 2 ^ 17 := fun k hk => by
    refine Nat.le_trans (flat_len Fk (2 ^ 17) _ fun x _ => hFk x) ?_
    rw [List.length_range]
    exact Nat.mul_le_mul_right _ hk
  refine qx_forR (n := ((sg.length : Nat) : Int)) ?_ (by omega) (by omega) (fun _ => [some (.d (.list (ps.map enc))), some (.d (.list (sg.map enc))), some (.v (.ref p)), none, none]) (fun k B1 H1 => Ext B H B1 H1 ∧ Ml B1 H1 p (((List.range k).flatMap Fk).map enc)) (by walk_at "le") (fun B5 H5 x5 => ⟨x04.trans x5, m.ext x5⟩) ?_ ?_
  · walk_at "gv"
  · intro Bs k B5 H5 hk s1 s2 ⟨x5, m5⟩
    have hk' : k < sg.length := by omega
    obtain ⟨⟨j, a⟩, hja⟩ : ∃ s, sg[k]? = some s := ⟨_, List.getElem?_eq_getElem hk'⟩
    have hmem : (j, a) ∈ sg := List.mem_of_getElem? hja
    obtain ⟨ha0, hal, _⟩ := hsig _ hmem
    have hat := atI_map hja
    have eFk : Fk k = (waysN ps sg 17 [] j a.toNat).map fun w => ((k : Int), w) := by
      show (waysN ps sg 17 [] ((sg[k]?).getD (0, 0)).1 ((sg[k]?).getD (0, 0)).2.toNat).map (fun w => ((k : Int), w)) = _
      rw [hja]
      rfl
    have ea : ((a.toNat : Nat) : Int) = a := by
      have : (0 : Int) ≤ a := ha0
      omega
    have hsz := hpre (k + 1) (by omega)
    rw [List.range_succ, List.flatMap_append, List.flatMap_singleton, List.length_append] at hsz
    refine qx_forD (xs := waysN ps sg 17 [] j a.toNat) ?_ (fun _ => [some (.d (.list (ps.map enc))), some (.d (.list (sg.map enc))), some (.v (.ref p)), some (AI (k : Int)), none])
      (fun i B1 H1 => Ext B H B1 H1 ∧ Ml B1 H1 p ((((List.range k).flatMap Fk) ++ (Fk k).take i).map enc)) (by walk_at "le") (fun B6 H6 x6 => ⟨x5.trans x6, by rw [List.take_zero, List.append_nil]; exact m5.ext x6⟩) ?_ ?_
    · refine gv_ways (⟨ps, sg, [], j, a.toNat⟩ : WaysArg) ?_ ⟨hl16, ?_, ?_, List.nodup_nil, fun s hs => by simp at hs, by omega⟩
      · refine ga_cons (gv_var rfl) (ga_cons (gv_var rfl) (ga_cons ?_ (ga_cons ?_ (ga_cons ?_ ga_nil))))
        · walk_at "gw"
        · refine gv_op (x := .d (enc ((j, a) : Sig))) ?_ gv_int (ro_ixT (ds := [.int j, .int a]) rfl)
          walk_at "gv"
        · show Gv _ _ B5 H5 (AI ((a.toNat : Nat) : Int))
          rw [ea]
          refine gv_op (x := .d (enc ((j, a) : Sig))) ?_ gv_int (ro_ixT (ds := [.int j, .int a]) rfl)
          walk_at "gv"
      · show a.toNat < ps.length
        omega
      · show ps.length < 0 + 17
        omega
    · intro Bs2 i wy B6 H6 hi s3 s4 ⟨x6, m6⟩
      have hFi : (Fk k)[i]? = some ((k : Int), wy) := by rw [eFk, List.getElem?_map, hi]; rfl
      have htake : (Fk k).take (i + 1) = (Fk k).take i ++ [((k : Int), wy)] := by rw [List.take_add_one, hFi]; rfl
      have hli : ((Fk k).take i).length ≤ (Fk k).length := by rw [List.length_take]; omega
      refine qx_app m6 (gv_var rfl) (d := enc ((k : Int), wy)) ?_ (by rw [List.length_map, List.length_append]; omega) fun B7 H7 x7 m7 => ?_
      · walk_at "gw"
      · refine sx_lp (s4.trans x7.bb) (by walk_at "le") ⟨x6.thenF x7 (fun z hz => by rw [hz]; exact hp0), ?_⟩
        rw [htake, ← List.append_assoc, List.map_append]
        exact m7
    · intro B6 H6 s3 ⟨x6, m6⟩
      refine sx_lp (s2.trans s3) (by walk_at "le") ⟨x6, ?_⟩
      rw [List.range_succ, List.flatMap_append, List.flatMap_singleton]
      have e2 : (Fk k).take (waysN ps sg 17 [] j a.toNat).length = Fk k := by
        rw [List.take_of_length_le]
        rw [eFk, List.length_map]
        exact Nat.le_refl _
      rw [e2] at m6
      exact m6
  · intro B5 H5 s1 ⟨x5, m5⟩
    exact qx_retM x5 hp0 m5 (gv_var rfl) fun u B6 H6 x6 hu => q u B6 H6 _ rfl x6 hu
theorem gx_routes {c : Addr} {Γ : List (Option AV)} {B H : Hp} {ta tb : TE} {E : XK} {ps : List Pc} {sg : List Sig} (h : Gv ta Γ B H (.d (.list (ps.map enc)))) (h2 : Gv tb Γ B H (.d (.list (sg.map enc)))) (hl : ps.length ≤ 100) (hs : sg.length ≤ 60) :
    Gx E (tCall (spRoutes c) [] E (tCons ta (tCons tb tNil))) Γ B H (if goodYard ps sg = true then .ok (.d (.list ((routesN ps sg).map enc))) else .error c) := gx_call (ps, sg) (ga_cons h (ga_cons h2 ga_nil)) fun _ _ _ => ⟨hl, hs⟩
end
end SB
namespace SB
open PySem PySem.Spec PyProof.Rows L2
open Enc (enc)
local macro_rules | `(tactic| walk_at "le") => `(tactic| first | exact le_nil | (refine le_keep ?_; walk_at "le") | (refine le_drop ?_; walk_at "le"))
local macro_rules | `(tactic| walk_at "sd") => `(tactic| first | assumption | (show (_ : Int) < _ ∧ _ < (1073741824 : Int); exact ⟨by omega, by omega⟩) | (show (-(2 ^ 64) < (_ : Int) ∧ _ < (2 ^ 64 : Int)) ∨ _; first | exact .inl ⟨by omega, by omega⟩ | exact .inr ⟨by omega, by omega⟩) | rfl | decide | (simp; done) | omega | skip)
local macro_rules | `(tactic| walk_at "gc") => `(tactic| fail)
local macro_rules | `(tactic| walk_at "gv") => `(tactic| first
  | exact gv_int | exact gv_str | exact gv_bl | exact gv_non | exact gv_var rfl
  | ((with_reducible refine' gv_op ?_ ?_ ?_) <;> walk_at "gv")
  | ((with_reducible refine' ga_cons ?_ ?_) <;> walk_at "gv") | exact ga_nil
  | ((with_reducible refine' gv_cb ?_ ?_) <;> walk_at "gv")
  | ((with_reducible refine' gt_test ?_) <;> walk_at "gv") | ((with_reducible refine' gt_B ?_) <;> walk_at "gv") | ((with_reducible refine' gt_not ?_) <;> walk_at "gv")
  | ((with_reducible refine' gt_and ?k1 ?k2); (case' k1 => walk_at "gv"); (case' k2 => intro hb; walk_at "gv"))
  | ((with_reducible refine' gt_or ?k1 ?k2); (case' k1 => walk_at "gv"); (case' k2 => intro hb; walk_at "gv"))
  | ((with_reducible refine' gv_andV ?k1 ?k2); (case' k1 => walk_at "gv"); (case' k2 => intro hb; walk_at "gv"))
  | ((with_reducible refine' gv_orV ?k1 ?k2); (case' k1 => walk_at "gv"); (case' k2 => intro hb; walk_at "gv"))
  | ((with_reducible refine' gv_notV ?_) <;> walk_at "gv")
  | ((with_reducible refine' gv_slL ?_ ?_ ?_) <;> walk_at "gv") | ((with_reducible refine' gv_slT ?_ ?_ ?_ ?_) <;> walk_at "gv")
  | exact go_none | ((with_reducible refine' go_some ?_) <;> walk_at "gv")
  | exact gd_nil | ((with_reducible refine' gd_cons ?_ ?_) <;> walk_at "gv") | ((with_reducible refine' gv_lst ?_ ?_) <;> walk_at "gv") | ((with_reducible refine' gv_tup ?_ ?_) <;> walk_at "gv")
  | ((with_reducible refine' gv_chain ?_ ?_ ?_ ?_ ?_) <;> walk_at "gv") | ((with_reducible refine' gt_truL ?_) <;> walk_at "gv") | ((with_reducible refine' gv_countI ?_ ?_) <;> walk_at "gv")
  | ((with_reducible refine' gv_lenSetI ?_ ?_) <;> walk_at "gv") | ((with_reducible refine' gv_lenSetU ?_ ?_) <;> walk_at "gv") | ((with_reducible refine' gv_lenSetT ?_ ?_) <;> walk_at "gv")
  | exact gt_yes
  | walk_at "gc"
  | exact ro_I0 | exact ro_B0 | (refine ro_I ?_; walk_at "sd")
  | exact ro_eqI | exact ro_neI | exact ro_eqS | exact ro_neS
  | (refine ro_eq ?_; walk_at "sd") | (refine ro_ne ?_; walk_at "sd")
  | exact ro_isN | exact ro_notN
  | exact ro_inI | exact ro_notInI | exact ro_inTI
  | (refine' ro_ixL ?k1; (case' k1 => walk_at "sd")) | (refine' ro_ixT ?k1; (case' k1 => walk_at "sd"))
  | (refine ro_cat ?_; walk_at "sd")
  | exact rc_lenM | exact rc_len | exact rc_lenT | exact rc_list | exact rc_listT | exact rc_tuple | exact rc_any | exact rc_all | exact rc_max2 | exact rc_min2 | exact rc_intB
  | (show (_ : Nat) ≤ _; first | decide | (simp; done) | omega)
  | (show (_ : Nat) < _; first | decide | (simp; done) | omega)
  | (show ¬ (_ ∧ _); exact fun h => absurd (show (1 : Nat) = 0 from h.1) (by decide))
  | skip)
local macro_rules | `(tactic| walk_at "ge") => `(tactic| (refine' gt_is ?k1 ?k2; (case' k1 => walk_at "gv"); (case' k2 => first | rfl | (simp; done) | skip)))
local macro_rules | `(tactic| walk_at "gw") => `(tactic| (refine' gv_is ?k1 ?k2; (case' k1 => walk_at "gv"); (case' k2 => first | rfl | (simp; done) | skip)))
local macro_rules | `(tactic| walk_at "gj") => `(tactic| first | exact gi_nil | (refine' gi_cons ?g1 ?g2; (case' g1 => walk_at "gv"); (case' g2 => walk_at "gj")))
local macro_rules | `(tactic| walk_at "gi") => `(tactic| (refine' gv_lst ?k1 ?k2; (case' k1 => walk_at "gj"); (case' k2 => (simp; try omega))))
local macro_rules | `(tactic| walk_at "gc") => `(tactic| first | ((with_reducible refine' gv_joints ?_) <;> walk_at "gv") | ((with_reducible refine' gv_beyond ?_ ?_ ?_ ?_) <;> walk_at "gv") | ((with_reducible refine' gv_outs ?_ ?_) <;> walk_at "gv") | ((with_reducible refine' gv_ends ?_ ?_ ?_ ?_ ?_) <;> walk_at "gv"))
/-! ### a new yard -/
section
variable {C : Adr} {P : Program} {w : World} {K : PySem.W.Frag} {mg : Str → Option Value} {base : Heap} {fd : FuncData} {f : Addr}
abbrev s_Yard_init : Stmt := inClass (top 19) 0
abbrev N_Yard_init : List Str := ["self", "pieces", "signals", "wait", "piece"]
theorem sc_Yard_init : FnScope N_Yard_init ["self", "pieces", "signals", "wait"] (defScope s_Yard_init) := ⟨rfl, rfl, rfl, by decide +kernel, rfl, by decide +kernel, by decide +kernel⟩
abbrev yKeys : List Str := ["pieces", "signals", "wait", "routes", "now", "points", "locks", "green", "falling", "trains"]
/-- a yard's places -/
structure YAd where
  dx : Addr
  vps : V
  vsg : V
  vrt : V
  pts : Addr
  lks : Addr
  grn : Addr
  fal : Addr
  trn : Addr
def lieOf : Pc → Lie
  | .plain _ _ => .no
  | .points _ _ _ => .st
structure YNew (C : Adr) (B H : Hp) (y : Addr) (A : YAd) (ps : List Pc) (sg : List Sig) (wait : Int) : Prop where
  ob : H y = some (.ins C.Yard A.dx (yKeys.zip [A.vps, A.vsg, .int wait, A.vrt, .int 0, .ref A.pts, .ref A.lks, .ref A.grn, .ref A.fal, .ref A.trn]))
  oy : B y = none
  hps : Dq B A.vps (.list (ps.map enc))
  hsg : Dq B A.vsg (.list (sg.map enc))
  hrt : Dq B A.vrt (.list ((routesN ps sg).map enc))
  hpts : Ml B H A.pts ((ps.map lieOf).map enc)
  hlks : Ml B H A.lks ((List.replicate ps.length (none : Option Int)).map enc)
  hgrn : Ml B H A.grn (([] : List Int).map enc)
  hfal : Md B H A.fal []
  htrn : Md B H A.trn []
  n1 : A.pts ≠ A.lks
  n2 : A.pts ≠ A.grn
  n3 : A.lks ≠ A.grn
  n4 : A.fal ≠ A.trn
def spYard (C : Adr) : Sp := fun vs H Q E => ∃ (y dx : Addr) (ps : List Pc) (sg : List Sig) (wait : Int) (B : Hp), Same B H ∧ IsAll B vs [.v (.ref y), .d (.list (ps.map enc)), .d (.list (sg.map enc)), AI wait] ∧
  H y = some (.ins C.Yard dx []) ∧ B y = none ∧ ps.length ≤ 100 ∧ sg.length ≤ 60 ∧
  (goodYard ps sg = true → ∀ A B2 H2, A.dx = dx → ExtF (· = y) B H B2 H2 → (∀ p ∈ [A.pts, A.lks, A.grn, A.fal, A.trn], H p = none) → YNew C B2 H2 y A ps sg wait → Q .non H2) ∧
  (goodYard ps sg = false → ∀ B2 H2, ExtF (· = y) B H B2 H2 → E (.ref C.BadYard) none H2)
theorem word_pl' (a c : Int) : decide ((Pc.plain a c).word = "points") = false := by
  show decide (("plain" : Str) = "points") = false
  decide +kernel
theorem word_pt' (a b c : Int) : decide ((Pc.points a b c).word = "points") = true := by
  show decide (("points" : Str) = "points") = true
  decide +kernel
theorem ok_yard (T : Txt K mg C) (F : Fun K "__init__" "Yard.__init__" s_Yard_init f fd) (c_routes : Cal P w K mg base (L2.CX P w) 21 "routes" (spRoutes C.BadYard)) :
    FnOk P w K mg base (L2.CX P w) 22 f fd ["self", "pieces", "signals", "wait"] (spYard C) := by
  refine F.okX sc_Yard_init (fun vs H Q E h => ?_) (fun cdv A outer s H vs Q E hr h => ?_)
  · obtain ⟨y, dx, ps, sg, wait, B, _, i, _⟩ := h
    exact i.length
  obtain ⟨y, dx, ps, sg, wait, B, e, i, hy, hby, hl, hs, q, qe⟩ := h
  refine ⟨_, pss_cons (ps_fldK (K := K) rfl (pv 0) (pe_callTy (call_listK (K := K) rfl) (by rfl) T.n_list (by decide +kernel) (pa_cons (pv 1) (pa_nil))) rfl)
  (pss_cons (ps_fldK (K := K) rfl (pv 0) (pe_callTy (call_listK (K := K) rfl) (by rfl) T.n_list (by decide +kernel) (pa_cons (pv 2) (pa_nil))) rfl)
  (pss_cons (ps_fldK (K := K) rfl (pv 0) (pv 3) rfl)
  (pss_cons (ps_fldK (K := K) rfl (pv 0) (pe_cal c_routes hr (by first | decide | omega) rfl (passX (takes_of rfl rfl rfl rfl)) (pa_cons (pv 1) (pa_cons (pv 2) (pa_nil)))) rfl)
  (pss_cons (ps_fldK (K := K) rfl (pv 0) (pe_int) rfl)
  (pss_cons (ps_fldK (K := K) rfl (pv 0) (pe_lc (own := [("piece", 4)]) (g := gName 4) (tt := tYes) (by rfl) sc_Yard_init.nd (pi_listK (K := K) rfl (pv 1)) (blkOk_by (own := [("piece", 4)]) (N := N_Yard_init) (sc := defScope s_Yard_init) (by decide +kernel)) (fun _ _ _ _ _ => pg_name (i := 4) sc_Yard_init.nd rfl (Or.inl rfl)) (fun _ _ _ _ _ => pts_nil) (fun _ _ _ _ _ => pe_ifExp (pt_cmpR op_eq (pe_ix (ix_tupK (K := K) rfl) (pv 4) (pe_int) (fun _ _ => rfl)) (pe_str) (nomark _)) (pe_globS rfl T.g_STRAIGHT) (pe_non))) rfl)
  (pss_cons (ps_fldK (K := K) rfl (pv 0) (pe_op op_rep (pe_lst (pa_cons (pe_non) (pa_nil))) (pe_callB (call_lenK (K := K) rfl) (by rfl) T.n_len (by decide +kernel) (pa_cons (pv 1) (pa_nil)))) rfl)
  (pss_cons (ps_fldK (K := K) rfl (pv 0) (pe_lst (pa_nil)) rfl)
  (pss_cons (ps_fldK (K := K) rfl (pv 0) (pe_dnewK) rfl)
  (pss_cons (ps_fldK (K := K) rfl (pv 0) (pe_dnewK) rfl)
  (pss_nil)))))))))), ?_⟩
  have hy0 := hy
  have bad : goodYard ps sg = false → ∀ B2 H2, ExtF (· = y) B H B2 H2 → E (.ref C.BadYard) none H2 := qe
  refine Sx.run (Γ := Γ0 N_Yard_init [.v (.ref y), .d (.list (ps.map enc)), .d (.list (sg.map enc)), AI wait]) (B := B) ?_ e (fr_start i (by rw [i.length]; show 4 ≤ 5; decide))
  -- pieces
  refine qx_fld (g := .d (.list (ps.map enc))) ?_ (gv_var rfl) hy hby T.cl_Yard T.na_Yard_pieces (by decide) fun v1 B1 H1 x1 i1 hy hby => ?_
  · walk_at "gv"
  have hy : H1 y = some (.ins C.Yard dx ((["pieces"] : List Str).zip [v1])) := hy
  -- signals
  refine qx_fld (g := .d (.list (sg.map enc))) ?_ (gv_var rfl) hy hby T.cl_Yard T.na_Yard_signals (by simp) fun v2 B2 H2 x2 i2 hy hby => ?_
  · walk_at "gv"
  rw [zip_more _ _ _ _ (by decide +kernel) rfl] at hy
  -- wait
  refine qx_fld (g := AI wait) (gv_var rfl) (gv_var rfl) hy hby T.cl_Yard T.na_Yard_wait (by simp) fun v3 B3 H3 x3 i3 hy hby => ?_
  rw [zip_more _ _ _ _ (by decide +kernel) rfl] at hy
  -- routes
  refine qx_fldX (gx_routes (gv_var rfl) (gv_var rfl) hl hs) (gv_var rfl) hy hby T.cl_Yard T.na_Yard_routes (by simp) (fun v4 g B4 H4 hg x4 i4 hy hby => ?_) fun c B4 H4 hc x4 => ?_
  rotate_left
  · cases h : goodYard ps sg with
    | true => rw [h, if_pos rfl] at hc; cases hc
    | false =>
      rw [h] at hc
      cases hc
      exact bad h B4 H4 (((x1.trans x2).trans x3).trans x4.f)
  have hgy : goodYard ps sg = true := by
    cases h : goodYard ps sg with
    | true => rfl
    | false => rw [h] at hg; cases hg
  rw [hgy, if_pos rfl] at hg
  cases hg
  rw [zip_more _ _ _ _ (by decide +kernel) rfl] at hy
  -- now
  refine qx_fld (g := AI 0) gv_int (gv_var rfl) hy hby T.cl_Yard T.na_Yard_now (by simp) fun v5 B5 H5 x5 i5 hy hby => ?_
  rw [zip_more _ _ _ _ (by decide +kernel) rfl] at hy
  have x05 := (((x1.trans x2).trans x3).trans x4).trans x5
  -- points
  refine qx_fldM (ds := ((ps.filter fun _ => true).map lieOf).map enc) ?_ (fun _ _ _ => gv_var rfl) hy hby T.cl_Yard T.na_Yard_points (by simp) fun pp B6 H6 x6 np m6 hy hby => ?_
  · refine gm_lcL (xs := ps) (gv_var rfl) (by omega) (by decide) (by decide) (fun _ => true) lieOf (fun _ _ _ _ _ => gt_yes) fun pc _ _ B7 H7 x7 => ?_
    cases pc with
    | plain a c =>
      refine gv_if (b := false) ?_ (fun h => by cases h) fun _ => gv_non
      refine gt_is (b := decide ((Pc.plain a c).word = "points")) ?_ (word_pl' a c)
      walk_at "gv"
    | points a c d =>
      refine gv_if (b := true) ?_ (fun _ => gv_str) fun h => by cases h
      refine gt_is (b := decide ((Pc.points a c d).word = "points")) ?_ (word_pt' a c d)
      walk_at "gv"
  rw [zip_more _ _ _ _ (by decide +kernel) rfl] at hy
  rw [filter_yes] at m6
  -- locks
  refine qx_fldM (ds := (List.replicate ((ps.length : Nat) : Int).toNat [PyData.none]).flatten) ?_ (fun _ _ _ => gv_var rfl) hy hby T.cl_Yard T.na_Yard_locks (by simp) fun pl B7 H7 x7 nl m7 hy hby => ?_
  · refine gm_rep (k := ((ps.length : Nat) : Int)) ?_ ?_ (by omega) (by omega) (by simp; omega)
    · walk_at "gv"
    · walk_at "gv"
  rw [zip_more _ _ _ _ (by decide +kernel) rfl] at hy
  -- green
  refine qx_fldM (ds := []) (gm_lst ga_nil (by decide)) (fun _ _ _ => gv_var rfl) hy hby T.cl_Yard T.na_Yard_green (by simp) fun pg B8 H8 x8 ng m8 hy hby => ?_
  rw [zip_more _ _ _ _ (by decide +kernel) rfl] at hy
  -- falling
  refine qx_fldD (fun _ _ _ => gv_var rfl) hy hby T.cl_Yard T.na_Yard_falling (by simp) fun pf B9 H9 x9 nf m9 hy hby => ?_
  rw [zip_more _ _ _ _ (by decide +kernel) rfl] at hy
  -- trains
  refine qx_fldD (fun _ _ _ => gv_var rfl) hy hby T.cl_Yard T.na_Yard_trains (by simp) fun pt B10 H10 x10 nt m10 hy hby => ?_
  rw [zip_more _ _ _ _ (by decide +kernel) rfl] at hy
  refine sx_next fun _ σ _ => ?_
  have x06 := x05.trans x6
  have x07 := x06.trans x7
  have x08 := x07.trans x8
  have x09 := x08.trans x9
  have e3 : v3 = .int wait := by cases i3; rfl
  have e5 : v5 = .int 0 := by cases i5; rfl
  subst e3 e5
  have np0 := x05.free np
  have nl0 := x06.free nl
  have ng0 := x07.free ng
  have nf0 := x08.free nf
  have nt0 := x09.free nt
  have yne : ∀ {p : Addr}, H p = none → ¬ p = y := fun h z => by rw [z, hy0] at h; cases h
  have m67 := m6.extF x7 (yne np0)
  have b45 := x5.bb.trans ((x6.bb.trans x7.bb).trans ((x8.bb.trans x9.bb).trans x10.bb))
  refine q hgy ⟨dx, v1, v2, v4, pp, pl, pg, pf, pt⟩ B10 H10 rfl (x09.trans x10) (fun p hp => ?_) ?_
  · simp only [List.mem_cons, List.not_mem_nil, or_false] at hp
    rcases hp with h | h | h | h | h <;> subst h
    · exact np0
    · exact nl0
    · exact ng0
    · exact nf0
    · exact nt0
  · refine ⟨hy, hby, Dq.mono (x2.bb.trans (x3.bb.trans (x4.bb.trans b45))) i1, Dq.mono (x3.bb.trans (x4.bb.trans b45)) i2, Dq.mono b45 i4, ((m67.extF x8 (yne np0)).extF x9 (yne np0)).extF x10 (yne np0), ?_, (m8.extF x9 (yne ng0)).extF x10 (yne ng0), m9.extF x10 (yne nf0), m10, ?_, ?_, ?_, ?_⟩
    · have m7' := ((m7.extF x8 (yne nl0)).extF x9 (yne nl0)).extF x10 (yne nl0)
      have e7 : (List.replicate ((ps.length : Nat) : Int).toNat [PyData.none]).flatten = (List.replicate ps.length (none : Option Int)).map enc := by
        rw [Int.toNat_natCast, List.map_replicate]
        have : ∀ n, (List.replicate n [PyData.none]).flatten = List.replicate n PyData.none := by
          intro n
          induction n with
          | zero => rfl
          | succ n ih => rw [List.replicate_succ, List.flatten_cons, ih]; rfl
        exact this _
      rw [e7] at m7'
      exact m7'
    · intro z
      have z : pp = pl := z
      subst z
      exact m6.ne nl
    · intro z
      have z : pp = pg := z
      subst z
      exact m67.ne ng
    · intro z
      have z : pl = pg := z
      subst z
      exact m7.ne ng
    · intro z
      have z : pf = pt := z
      subst z
      exact m9.ne nt
end
end SB
namespace SB
open PySem PySem.Spec PyProof.Rows L2
open Enc (enc)
local macro_rules | `(tactic| walk_at "le") => `(tactic| first | exact le_nil | (refine le_keep ?_; walk_at "le") | (refine le_drop ?_; walk_at "le"))
local macro_rules | `(tactic| walk_at "sd") => `(tactic| first | assumption | (show (_ : Int) < _ ∧ _ < (1073741824 : Int); exact ⟨by omega, by omega⟩) | (show (-(2 ^ 64) < (_ : Int) ∧ _ < (2 ^ 64 : Int)) ∨ _; first | exact .inl ⟨by omega, by omega⟩ | exact .inr ⟨by omega, by omega⟩) | rfl | decide | (simp; done) | omega | skip)
local macro_rules | `(tactic| walk_at "gc") => `(tactic| fail)
local macro_rules | `(tactic| walk_at "gv") => `(tactic| first
  | exact gv_int | exact gv_str | exact gv_bl | exact gv_non | exact gv_var rfl
  | ((with_reducible refine' gv_op ?_ ?_ ?_) <;> walk_at "gv")
  | ((with_reducible refine' ga_cons ?_ ?_) <;> walk_at "gv") | exact ga_nil
  | ((with_reducible refine' gv_cb ?_ ?_) <;> walk_at "gv")
  | ((with_reducible refine' gt_test ?_) <;> walk_at "gv") | ((with_reducible refine' gt_B ?_) <;> walk_at "gv") | ((with_reducible refine' gt_not ?_) <;> walk_at "gv")
  | ((with_reducible refine' gt_and ?k1 ?k2); (case' k1 => walk_at "gv"); (case' k2 => intro hb; walk_at "gv"))
  | ((with_reducible refine' gt_or ?k1 ?k2); (case' k1 => walk_at "gv"); (case' k2 => intro hb; walk_at "gv"))
  | ((with_reducible refine' gv_andV ?k1 ?k2); (case' k1 => walk_at "gv"); (case' k2 => intro hb; walk_at "gv"))
  | ((with_reducible refine' gv_orV ?k1 ?k2); (case' k1 => walk_at "gv"); (case' k2 => intro hb; walk_at "gv"))
  | ((with_reducible refine' gv_notV ?_) <;> walk_at "gv")
  | ((with_reducible refine' gv_slL ?_ ?_ ?_) <;> walk_at "gv") | ((with_reducible refine' gv_slT ?_ ?_ ?_ ?_) <;> walk_at "gv")
  | exact go_none | ((with_reducible refine' go_some ?_) <;> walk_at "gv")
  | exact gd_nil | ((with_reducible refine' gd_cons ?_ ?_) <;> walk_at "gv") | ((with_reducible refine' gv_lst ?_ ?_) <;> walk_at "gv") | ((with_reducible refine' gv_tup ?_ ?_) <;> walk_at "gv")
  | ((with_reducible refine' gv_chain ?_ ?_ ?_ ?_ ?_) <;> walk_at "gv") | ((with_reducible refine' gt_truL ?_) <;> walk_at "gv") | ((with_reducible refine' gv_countI ?_ ?_) <;> walk_at "gv")
  | ((with_reducible refine' gv_lenSetI ?_ ?_) <;> walk_at "gv") | ((with_reducible refine' gv_lenSetU ?_ ?_) <;> walk_at "gv") | ((with_reducible refine' gv_lenSetT ?_ ?_) <;> walk_at "gv")
  | exact gt_yes
  | walk_at "gc"
  | exact ro_I0 | exact ro_B0 | (refine ro_I ?_; walk_at "sd")
  | exact ro_eqI | exact ro_neI | exact ro_eqS | exact ro_neS
  | (refine ro_eq ?_; walk_at "sd") | (refine ro_ne ?_; walk_at "sd")
  | exact ro_isN | exact ro_notN
  | exact ro_inI | exact ro_notInI | exact ro_inTI
  | (refine' ro_ixL ?k1; (case' k1 => walk_at "sd")) | (refine' ro_ixT ?k1; (case' k1 => walk_at "sd"))
  | (refine ro_cat ?_; walk_at "sd")
  | exact rc_lenM | exact rc_len | exact rc_lenT | exact rc_list | exact rc_listT | exact rc_tuple | exact rc_any | exact rc_all | exact rc_max2 | exact rc_min2 | exact rc_intB
  | (show (_ : Nat) ≤ _; first | decide | (simp; done) | omega)
  | (show (_ : Nat) < _; first | decide | (simp; done) | omega)
  | (show ¬ (_ ∧ _); exact fun h => absurd (show (1 : Nat) = 0 from h.1) (by decide))
  | skip)
local macro_rules | `(tactic| walk_at "ge") => `(tactic| (refine' gt_is ?k1 ?k2; (case' k1 => walk_at "gv"); (case' k2 => first | rfl | (simp; done) | skip)))
local macro_rules | `(tactic| walk_at "gw") => `(tactic| (refine' gv_is ?k1 ?k2; (case' k1 => walk_at "gv"); (case' k2 => first | rfl | (simp; done) | skip)))
local macro_rules | `(tactic| walk_at "gj") => `(tactic| first | exact gi_nil | (refine' gi_cons ?g1 ?g2; (case' g1 => walk_at "gv"); (case' g2 => walk_at "gj")))
local macro_rules | `(tactic| walk_at "gi") => `(tactic| (refine' gv_lst ?k1 ?k2; (case' k1 => walk_at "gj"); (case' k2 => (simp; try omega))))
local macro_rules | `(tactic| walk_at "gc") => `(tactic| first | ((with_reducible refine' gv_joints ?_) <;> walk_at "gv") | ((with_reducible refine' gv_beyond ?_ ?_ ?_ ?_) <;> walk_at "gv") | ((with_reducible refine' gv_outs ?_ ?_) <;> walk_at "gv") | ((with_reducible refine' gv_ends ?_ ?_ ?_ ?_ ?_) <;> walk_at "gv"))
/-! ### the law's own parts -/
section
variable {C : Adr} {P : Program} {w : World} {K : PySem.W.Frag} {mg : Str → Option Value} {base : Heap} {fd : FuncData} {f : Addr}
abbrev s__law_cell : Stmt := top 21
abbrev N__law_cell : List Str := ["_law_script", "_law_k"]
theorem sc__law_cell : FnScope N__law_cell ["_law_script", "_law_k"] (defScope s__law_cell) := ⟨rfl, rfl, rfl, by decide +kernel, rfl, by decide +kernel, by decide +kernel⟩
abbrev s__law_mix : Stmt := top 22
abbrev N__law_mix : List Str := ["_law_script", "_law_k", "_law_number"]
theorem sc__law_mix : FnScope N__law_mix ["_law_script", "_law_k"] (defScope s__law_mix) := ⟨rfl, rfl, rfl, by decide +kernel, rfl, by decide +kernel, by decide +kernel⟩
def cellN (ns : List Int) (k : Int) : Int := if ns.isEmpty then 0 else (ns[(k % (ns.length : Int)).toNat]?).getD 0
def spCell (K : PySem.W.Frag) : Sp := spP (T := Addr × List Int × Int) (fun t => [.v (.ref t.1), AI t.2.2]) (fun t _ H => SqL K H t.1 (t.2.1.map V.int)) fun t => AI (cellN t.2.1 t.2.2)
theorem ok_cell (T : Txt K mg C) (F : Fun K "_law_cell" "_law_cell" s__law_cell f fd) : FnOk P w K mg base CX0 1 f fd ["_law_script", "_law_k"] (spCell K) := by
  refine fn_P F sc__law_cell (fun _ => rfl) fun cdv A outer s H Q E hr => ⟨_, pss_cons (ps_if (pt_truthK (K := K) rfl (pv 0) (by intro _; rfl)) (pss_cons (ps_ret (pe_ix (ix_listK (K := K) rfl) (pv 0) (pe_op op_mod (pv 1) (pe_callB (call_lenK (K := K) rfl) (by rfl) T.n_len (by decide +kernel) (pa_cons (pv 0) (pa_nil)))) (fun _ _ => rfl)))
  (pss_nil)) (pss_nil))
  (pss_cons (ps_ret (pe_int))
  (pss_nil)), fun ⟨a, ns, k⟩ B e hS q => ?_⟩
  have hS : SqL K H a (ns.map V.int) := hS
  refine qx_when (b := !ns.isEmpty) (gt_truSq (gv_var rfl) hS) ?_ ?_
  · intro hb B2 H2 x2
    have hS2 := x2.hh.seq hS
    have hl : 0 < ns.length := by cases ns with | nil => cases hb | cons => simp
    have h0 : (0 : Int) ≤ k % (ns.length : Int) := Int.emod_nonneg _ (by omega)
    have h1 : k % (ns.length : Int) < ns.length := Int.emod_lt_of_pos _ (by omega)
    have hat : atI (ns.map V.int) (k % (ns.length : Int)) = some (.int (cellN ns k)) := by
      have l : (k % (ns.length : Int)).toNat < ns.length := by omega
      unfold atI ixN cellN
      rw [List.length_map, if_pos h0, if_pos h1, Option.bind_some, List.getElem?_map, List.getElem?_eq_getElem l]
      have : ns.isEmpty = false := by simpa using hb
      rw [this]
      rfl
    refine qx_ret (g := AI (cellN ns k)) ?_ fun u B3 H3 x3 hu => q u B3 H3 (x2.trans x3) hu
    refine gv_op (gv_var rfl) (gv_op (gv_var rfl) (gv_cb (ga_cons (gv_var rfl) ga_nil) (rc_lenSq hS2)) (ro_I (by show _; omega))) (ro_ixSq hS2 hat)
  · intro hb B2 H2 x2
    refine qx_ret (g := AI (cellN ns k)) ?_ fun u B3 H3 x3 hu => q u B3 H3 (x2.trans x3) hu
    have : cellN ns k = 0 := by
      unfold cellN
      have : ns.isEmpty = true := by simpa using hb
      rw [this]
      rfl
    rw [this]
    exact gv_int
theorem gv_cell {Γ : List (Option AV)} {B H : Hp} {ta tb : TE} {E : XK} {a : Addr} {ns : List Int} {k : Int} (h1 : Gv ta Γ B H (.v (.ref a))) (h2 : Gv tb Γ B H (AI k)) (hS : SqL K H a (ns.map V.int)) :
    Gv (tCall (spCell K) [] E (tCons ta (tCons tb tNil))) Γ B H (AI (cellN ns k)) := gv_call (a, ns, k) (ga_cons h1 (ga_cons h2 ga_nil)) fun _ _ x => x.hh.seq hS
def mixN (ns : List Int) (k : Int) : Int := (((cellN ns k + 104729 * (k + 1)) % 4294967291 * 48271 % 4294967279) / 64 * 69621 + ((cellN ns k + 104729 * (k + 1)) % 4294967291 * 48271 % 4294967279)) % 4294967231
def spMix (K : PySem.W.Frag) : Sp := spP (T := Addr × List Int × Int) (fun t => [.v (.ref t.1), AI t.2.2]) (fun t _ H => SqL K H t.1 (t.2.1.map V.int)) fun t => AI (mixN t.2.1 t.2.2)
theorem ok_mix (T : Txt K mg C) (F : Fun K "_law_mix" "_law_mix" s__law_mix f fd) (c__law_cell : Cal P w K mg base CX0 1 "_law_cell" (spCell K)) : FnOk P w K mg base CX0 2 f fd ["_law_script", "_law_k"] (spMix K) := by
  refine fn_P F sc__law_mix (fun _ => rfl) fun cdv A outer s H Q E hr => ⟨_, pss_cons (ps_set (i := 2) sc__law_mix.nd rfl (by first | exact Or.inl rfl | exact Or.inr rfl) (pe_op op_mod (pe_op op_add (pe_cal c__law_cell hr (by first | decide | omega) rfl passN (pa_cons (pv 0) (pa_cons (pv 1) (pa_nil)))) (pe_op op_mul (pe_int) (pe_op op_add (pv 1) (pe_int)))) (pe_int)))
  (pss_cons (ps_set (i := 2) sc__law_mix.nd rfl (by first | exact Or.inl rfl | exact Or.inr rfl) (pe_op op_mod (pe_op op_mul (pv 2) (pe_int)) (pe_int)))
  (pss_cons (ps_ret (pe_op op_mod (pe_op op_add (pe_op op_mul (pe_op op_fdiv (pv 2) (pe_int)) (pe_int)) (pv 2)) (pe_int)))
  (pss_nil))), fun ⟨a, ns, k⟩ B e hS q => ?_⟩
  have hS : SqL K H a (ns.map V.int) := hS
  refine qx_asg (g := AI ((cellN ns k + 104729 * (k + 1)) % 4294967291)) ?_ fun B2 H2 x2 => ?_
  · refine gv_op (gv_op (gv_cell (gv_var rfl) (gv_var rfl) hS) ?_ ro_I0) gv_int (ro_I (by decide))
    walk_at "gv"
  refine qx_asg (g := AI ((cellN ns k + 104729 * (k + 1)) % 4294967291 * 48271 % 4294967279)) ?_ fun B3 H3 x3 => ?_
  · walk_at "gv"
  refine qx_ret (g := AI (mixN ns k)) ?_ fun u B4 H4 x4 hu => q u B4 H4 ((x2.trans x3).trans x4) hu
  walk_at "gw"
theorem gv_mix {Γ : List (Option AV)} {B H : Hp} {ta tb : TE} {E : XK} {a : Addr} {ns : List Int} {k : Int} (h1 : Gv ta Γ B H (.v (.ref a))) (h2 : Gv tb Γ B H (AI k)) (hS : SqL K H a (ns.map V.int)) :
    Gv (tCall (spMix K) [] E (tCons ta (tCons tb tNil))) Γ B H (AI (mixN ns k)) := gv_call (a, ns, k) (ga_cons h1 (ga_cons h2 ga_nil)) fun _ _ x => x.hh.seq hS
/-- piece[1:] -/
theorem gv_tl {Γ : List (Option AV)} {B H : Hp} {ta : TE} {p : Pc} (h : Gv ta Γ B H (.d (enc p))) : Gv (tSl (rSlT K) ta (tPart (tC (.int 1))) tNoPart) Γ B H (.d (.tuple (p.js.map enc))) := by
  cases p with
  | plain a c => exact gv_is (gv_slT (ds := [.str (Pc.plain a c).word, .int a, .int c]) h (go_some gv_int) go_none (fun h => absurd (show (1 : Nat) = 0 from h.1) (by decide))) rfl
  | points a c d => exact gv_is (gv_slT (ds := [.str (Pc.points a c d).word, .int a, .int c, .int d]) h (go_some gv_int) go_none (fun h => absurd (show (1 : Nat) = 0 from h.1) (by decide))) rfl
theorem rc_lenPc {B H : Hp} {p : Pc} : Rc (fun xs H Q => ∃ p ys, xs = [.ref p] ∧ (SqL K H p ys ∨ SqT K H p ys) ∧ Q (.int ys.length) H) B H [.d (enc p)] (AI ((p.js.length : Nat) + 1)) := by
  cases p <;> exact rc_lenT
end
end SB
namespace SB
open PySem PySem.Spec PyProof.Rows L2
open Enc (enc)
local macro_rules | `(tactic| walk_at "le") => `(tactic| first | exact le_nil | (refine le_keep ?_; walk_at "le") | (refine le_drop ?_; walk_at "le"))
local macro_rules | `(tactic| walk_at "sd") => `(tactic| first | assumption | (show (_ : Int) < _ ∧ _ < (1073741824 : Int); exact ⟨by omega, by omega⟩) | (show (-(2 ^ 64) < (_ : Int) ∧ _ < (2 ^ 64 : Int)) ∨ _; first | exact .inl ⟨by omega, by omega⟩ | exact .inr ⟨by omega, by omega⟩) | rfl | decide | (simp; done) | omega | skip)
local macro_rules | `(tactic| walk_at "gc") => `(tactic| fail)
local macro_rules | `(tactic| walk_at "gv") => `(tactic| first
  | exact gv_int | exact gv_str | exact gv_bl | exact gv_non | exact gv_var rfl
  | ((with_reducible refine' gv_op ?_ ?_ ?_) <;> walk_at "gv")
  | ((with_reducible refine' ga_cons ?_ ?_) <;> walk_at "gv") | exact ga_nil
  | ((with_reducible refine' gv_cb ?_ ?_) <;> walk_at "gv")
  | ((with_reducible refine' gt_test ?_) <;> walk_at "gv") | ((with_reducible refine' gt_B ?_) <;> walk_at "gv") | ((with_reducible refine' gt_not ?_) <;> walk_at "gv")
  | ((with_reducible refine' gt_and ?k1 ?k2); (case' k1 => walk_at "gv"); (case' k2 => intro hb; walk_at "gv"))
  | ((with_reducible refine' gt_or ?k1 ?k2); (case' k1 => walk_at "gv"); (case' k2 => intro hb; walk_at "gv"))
  | ((with_reducible refine' gv_andV ?k1 ?k2); (case' k1 => walk_at "gv"); (case' k2 => intro hb; walk_at "gv"))
  | ((with_reducible refine' gv_orV ?k1 ?k2); (case' k1 => walk_at "gv"); (case' k2 => intro hb; walk_at "gv"))
  | ((with_reducible refine' gv_notV ?_) <;> walk_at "gv")
  | ((with_reducible refine' gv_slL ?_ ?_ ?_) <;> walk_at "gv") | ((with_reducible refine' gv_slT ?_ ?_ ?_ ?_) <;> walk_at "gv")
  | exact go_none | ((with_reducible refine' go_some ?_) <;> walk_at "gv")
  | exact gd_nil | ((with_reducible refine' gd_cons ?_ ?_) <;> walk_at "gv") | ((with_reducible refine' gv_lst ?_ ?_) <;> walk_at "gv") | ((with_reducible refine' gv_tup ?_ ?_) <;> walk_at "gv")
  | ((with_reducible refine' gv_chain ?_ ?_ ?_ ?_ ?_) <;> walk_at "gv") | ((with_reducible refine' gt_truL ?_) <;> walk_at "gv") | ((with_reducible refine' gv_countI ?_ ?_) <;> walk_at "gv")
  | ((with_reducible refine' gv_lenSetI ?_ ?_) <;> walk_at "gv") | ((with_reducible refine' gv_lenSetU ?_ ?_) <;> walk_at "gv") | ((with_reducible refine' gv_lenSetT ?_ ?_) <;> walk_at "gv")
  | exact gt_yes
  | walk_at "gc"
  | exact ro_I0 | exact ro_B0 | (refine ro_I ?_; walk_at "sd")
  | exact ro_eqI | exact ro_neI | exact ro_eqS | exact ro_neS
  | (refine ro_eq ?_; walk_at "sd") | (refine ro_ne ?_; walk_at "sd")
  | exact ro_isN | exact ro_notN
  | exact ro_inI | exact ro_notInI | exact ro_inTI
  | (refine' ro_ixL ?k1; (case' k1 => walk_at "sd")) | (refine' ro_ixT ?k1; (case' k1 => walk_at "sd"))
  | (refine ro_cat ?_; walk_at "sd")
  | exact rc_lenM | exact rc_len | exact rc_lenT | exact rc_list | exact rc_listT | exact rc_tuple | exact rc_any | exact rc_all | exact rc_max2 | exact rc_min2 | exact rc_intB
  | (show (_ : Nat) ≤ _; first | decide | (simp; done) | omega)
  | (show (_ : Nat) < _; first | decide | (simp; done) | omega)
  | (show ¬ (_ ∧ _); exact fun h => absurd (show (1 : Nat) = 0 from h.1) (by decide))
  | skip)
local macro_rules | `(tactic| walk_at "ge") => `(tactic| (refine' gt_is ?k1 ?k2; (case' k1 => walk_at "gv"); (case' k2 => first | rfl | (simp; done) | skip)))
local macro_rules | `(tactic| walk_at "gw") => `(tactic| (refine' gv_is ?k1 ?k2; (case' k1 => walk_at "gv"); (case' k2 => first | rfl | (simp; done) | skip)))
local macro_rules | `(tactic| walk_at "gj") => `(tactic| first | exact gi_nil | (refine' gi_cons ?g1 ?g2; (case' g1 => walk_at "gv"); (case' g2 => walk_at "gj")))
local macro_rules | `(tactic| walk_at "gi") => `(tactic| (refine' gv_lst ?k1 ?k2; (case' k1 => walk_at "gj"); (case' k2 => (simp; try omega))))
local macro_rules | `(tactic| walk_at "gc") => `(tactic| first | ((with_reducible refine' gv_joints ?_) <;> walk_at "gv") | ((with_reducible refine' gv_beyond ?_ ?_ ?_ ?_) <;> walk_at "gv") | ((with_reducible refine' gv_outs ?_ ?_) <;> walk_at "gv") | ((with_reducible refine' gv_ends ?_ ?_ ?_ ?_ ?_) <;> walk_at "gv"))
/-! ### the law's own pieces, signals -/
section
variable {C : Adr} {P : Program} {w : World} {K : PySem.W.Frag} {mg : Str → Option Value} {base : Heap} {fd : FuncData} {f : Addr}
abbrev s__law_beyond : Stmt := top 24
abbrev N__law_beyond : List Str := ["_law_pieces_here", "_law_at", "_law_joint", "_law_found", "_law_k"]
theorem sc__law_beyond : FnScope N__law_beyond ["_law_pieces_here", "_law_at", "_law_joint"] (defScope s__law_beyond) := ⟨rfl, rfl, rfl, by decide +kernel, rfl, by decide +kernel, by decide +kernel⟩
abbrev s__law_outs : Stmt := top 27
abbrev N__law_outs : List Str := ["_law_piece", "_law_joint", "_law_one"]
theorem sc__law_outs : FnScope N__law_outs ["_law_piece", "_law_joint"] (defScope s__law_outs) := ⟨rfl, rfl, rfl, by decide +kernel, rfl, by decide +kernel, by decide +kernel⟩
abbrev s__law_pieces : Stmt := top 25
abbrev N__law_pieces : List Str := ["_law_script", "_law_base", "_law_pieces_here", "_law_loose", "_law_many", "_law_k", "_law_number", "_law_ends", "_law_j", "_law_pick", "_law_others", "_law_joint"]
theorem sc__law_pieces : FnScope N__law_pieces ["_law_script", "_law_base"] (defScope s__law_pieces) := ⟨rfl, rfl, rfl, by decide +kernel, rfl, by decide +kernel, by decide +kernel⟩
abbrev s__law_signals : Stmt := top 26
abbrev N__law_signals : List Str := ["_law_script", "_law_base", "_law_pieces_here", "_law_found", "_law_at", "_law_joint", "_law_number", "_law_border", "_law_shift"]
theorem sc__law_signals : FnScope N__law_signals ["_law_script", "_law_base", "_law_pieces_here"] (defScope s__law_signals) := ⟨rfl, rfl, rfl, by decide +kernel, rfl, by decide +kernel, by decide +kernel⟩
theorem ok_Lbeyond (T : Txt K mg C) (F : Fun K "_law_beyond" "_law_beyond" s__law_beyond f fd) : FnOk P w K mg base CX0 1 f fd ["_law_pieces_here", "_law_at", "_law_joint"] spBeyond := by
  refine fn_P F sc__law_beyond (fun _ => rfl) fun cdv A outer s H Q E hr => ⟨_, pss_cons (ps_setLc (i := 3) (own := [("_law_k", 4)]) (g := gName 4) (by rfl) sc__law_beyond.nd rfl rfl (sw_true rfl rfl rfl (by decide +kernel)) (pi_range1 (by rfl) T.n_range (pa_cons (pe_callB (call_lenK (K := K) rfl) (by rfl) T.n_len (by decide +kernel) (pa_cons (pv 0) (pa_nil))) (pa_nil))) (blkOk_by (own := [("_law_k", 4)]) (N := N__law_beyond) (sc := defScope s__law_beyond) (by decide +kernel)) (fun _ _ _ _ _ => pg_name (i := 4) sc__law_beyond.nd rfl (Or.inl rfl)) (fun _ _ _ _ _ => pts_one (PW.pt (pw_and (pt_cmpR op_ne (pv 4) (pv 1) (nomark _)) (pw_and1 (pt_cmpR (op_inK (K := K) rfl) (pv 2) (pe_slice (sl_tupK (K := K) rfl) (pe_ix (ix_listK (K := K) rfl) (pv 0) (pv 4) (fun _ _ => rfl)) (po_some (pe_int)) (po_none)) (by rfl)))))) (fun _ _ _ _ _ => pv 4))
  (pss_cons (ps_ret (pe_ifExp (pt_truthK (K := K) rfl (pv 3) (by intro _; rfl)) (pe_ix (ix_listK (K := K) rfl) (pv 3) (pe_int) (fun _ _ => rfl)) (pe_non)))
  (pss_nil)), fun ⟨ps, a, j⟩ B e hl q => ?_⟩
  have hl : ps.length ≤ 100 := hl
  have q : ∀ u B2 H2, Ext B H B2 H2 → Is B2 u (.d (oN (beyondN ps a j))) → Q u H2 := q
  refine qx_asg (g := .d (.list ((((List.range ((ps.length : Nat) : Int).toNat).filter fun (k : Nat) => decide ((k : Int) ≠ a) && decide (j ∈ ((ps[k]?).elim [] Pc.js))).map fun (k : Nat) => (k : Int)).map enc))) ?_ fun B2 H2 x2 => ?_
  · refine gv_lcR (n := ((ps.length : Nat) : Int)) ?_ (by omega) (by omega) (by decide) (by decide) _ (fun (k : Nat) => (k : Int)) (fun k hk B2 H2 x2 => ?_) fun k hk _ B2 H2 x2 => ?_
    · walk_at "gv"
    · have hk' : k < ps.length := by omega
      have hp : ps[k]? = some ps[k] := List.getElem?_eq_getElem hk'
      have hat := atI_map hp
      rw [hp]
      refine gt_is (gt_and (gt_test (gv_op (gv_var rfl) (gv_var rfl) ro_neI)) fun _ => gt_test (gv_op (gv_var rfl) (gv_tl (gv_op (gv_var rfl) (gv_var rfl) (ro_ixL hat))) ro_inTI)) ?_
      rw [← decide_not]
      rfl
    · exact gv_var rfl
  · have hf : beyondN ps a j = ((List.range ps.length).filter fun (k : Nat) => decide ((k : Int) ≠ a) && decide (j ∈ ((ps[k]?).elim [] Pc.js))).head? := by
      rw [List.head?_filter]
      rfl
    rw [hf] at q
    rw [Int.toNat_natCast]
    generalize (List.range ps.length).filter (fun (k : Nat) => decide ((k : Int) ≠ a) && decide (j ∈ ((ps[k]?).elim [] Pc.js))) = ks at q
    cases ks with
    | nil => exact qx_ret (gv_if (b := false) (gt_is (gt_truL (ds := []) (gv_var rfl)) rfl) (fun h => by cases h) fun _ => gv_non) fun u B3 H3 x3 hu => q u B3 H3 (x2.trans x3) hu
    | cons k ks => exact qx_ret (g := AI (k : Int)) (gv_if (b := true) (gt_is (gt_truL (ds := (((k :: ks).map fun (k : Nat) => (k : Int)).map enc)) (gv_var rfl)) rfl) (fun _ => gv_op (gv_var rfl) gv_int (ro_ixL (atI_map (xs := (k :: ks).map fun (k : Nat) => (k : Int)) (k := 0) rfl))) fun h => by cases h) fun u B3 H3 x3 hu => q u B3 H3 (x2.trans x3) hu
theorem ok_Louts (T : Txt K mg C) (F : Fun K "_law_outs" "_law_outs" s__law_outs f fd) : FnOk P w K mg base CX0 1 f fd ["_law_piece", "_law_joint"] spOuts := by
  refine fn_P F sc__law_outs (fun _ => rfl) fun cdv A outer s H Q E hr => ⟨_, pss_cons (ps_if (pt_cmpR op_eq (pe_ix (ix_tupK (K := K) rfl) (pv 0) (pe_int) (fun _ _ => rfl)) (pe_str) (nomark _)) (pss_cons (ps_ret (pe_lc (own := [("_law_one", 2)]) (g := gName 2) (by rfl) sc__law_outs.nd (pi_tupK (K := K) rfl (pe_slice (sl_tupK (K := K) rfl) (pv 0) (po_some (pe_int)) (po_none))) (blkOk_by (own := [("_law_one", 2)]) (N := N__law_outs) (sc := defScope s__law_outs) (by decide +kernel)) (fun _ _ _ _ _ => pg_name (i := 2) sc__law_outs.nd rfl (Or.inl rfl)) (fun _ _ _ _ _ => pts_one (pt_cmpR op_ne (pv 2) (pv 1) (nomark _))) (fun _ _ _ _ _ => pv 2)))
  (pss_nil)) (pss_nil))
  (pss_cons (ps_ret (pe_ifExp (pt_cmpR op_eq (pv 1) (pe_ix (ix_tupK (K := K) rfl) (pv 0) (pe_int) (fun _ _ => rfl)) (nomark _)) (pe_lst (pa_cons (pe_ix (ix_tupK (K := K) rfl) (pv 0) (pe_int) (fun _ _ => rfl)) (pa_cons (pe_ix (ix_tupK (K := K) rfl) (pv 0) (pe_int) (fun _ _ => rfl)) (pa_nil)))) (pe_lst (pa_cons (pe_ix (ix_tupK (K := K) rfl) (pv 0) (pe_int) (fun _ _ => rfl)) (pa_nil)))))
  (pss_nil)), fun ⟨p, j⟩ B e _ q => ?_⟩
  cases p with
  | plain a c =>
    refine qx_yes (b := true) ?_ rfl fun B2 H2 x2 => ?_
    · refine gt_is (b := decide ((Pc.plain a c).word = "plain")) ?_ (word_pl a c)
      walk_at "gv"
    refine qx_ret (g := .d (.list ((((Pc.plain a c).js.filter fun o => !decide (o = j)).map id).map enc))) ?_ fun u B3 H3 x3 hu => q u B3 H3 (x2.trans x3) ?_
    · refine gv_lcT (xs := (Pc.plain a c).js) (gv_tl (gv_var rfl)) (by show 2 < 16000000; decide) (by decide) (by decide) (fun o => !decide (o = j)) id ?_ ?_
      · intro o _ B3 H3 x3
        walk_at "gv"
      · intro o _ _ B3 H3 x3
        walk_at "gv"
    · rw [List.map_id] at hu
      exact hu
  | points t s1 b =>
    refine qx_no (b := false) ?_ rfl fun B2 H2 x2 => sx_go ?_
    · refine gt_is (b := decide ((Pc.points t s1 b).word = "plain")) ?_ (word_pt t s1 b)
      walk_at "gv"
    refine qx_ret (g := if decide (j = t) = true then .d (.list [.int s1, .int b]) else .d (.list [.int t])) (gv_ite ?_ (fun _ => ?_) fun _ => ?_) fun u B4 H4 x4 hu => q u B4 H4 (x2.trans x4) ?_
    · walk_at "gv"
    · walk_at "gv"
    · walk_at "gv"
    · show Dq B4 u (.list ((if j = t then [s1, b] else [t]).map enc))
      by_cases h : j = t
      · rw [if_pos h]
        rw [if_pos (decide_eq_true h)] at hu
        exact hu
      · rw [if_neg h]
        rw [if_neg (by simp [h])] at hu
        exact hu
/-- what the law draws as pieces -/
def goodJs (ps : List Pc) : Prop := 1 ≤ ps.length ∧ ps.length ≤ 8 ∧ (∀ p ∈ ps, p.js.Nodup) ∧ ∃ (m : Int) (loose : List Int) (many : Nat), PInv m (endsOf ps) loose many
theorem goodJs.ok {ps : List Pc} (h : goodJs ps) : goodPs ps = true := by
  obtain ⟨h1, h8, hn, m, loose, many, p⟩ := h
  unfold goodPs
  rw [Bool.and_eq_true, Bool.and_eq_true]
  refine ⟨⟨by simp; omega, List.all_eq_true.mpr fun p hp => decide_eq_true ?_⟩, List.all_eq_true.mpr fun j hj => ?_⟩
  · rw [(nset_iff p.js).mpr (hn p hp)]
  · obtain ⟨i, _, e⟩ := p.frm j hj
    have := jN_rng m i
    have := p.two j
    unfold okEnd
    subst e
    simp
    omega
def spPieces (K : PySem.W.Frag) : Sp := spX (T := Addr × List Int × Int) (fun t => [.v (.ref t.1), AI t.2.2]) (fun t _ H => SqL K H t.1 (t.2.1.map V.int)) fun _ g => ∃ ps : List Pc, goodJs ps ∧ g = .d (.list (ps.map enc))
theorem two_pcJ {es : List Int} (h : es.length = 2 ∨ es.length = 3) : ∃ pc : Pc, pc.js = es ∧ atI [PyData.str "plain", PyData.str "points"] ((es.length : Int) - 2) = some (.str pc.word) ∧ PyData.tuple ([.str pc.word] ++ es.map PyData.int) = enc pc := by
  rcases es with _ | ⟨a, _ | ⟨b, _ | ⟨c, _ | ⟨d, r⟩⟩⟩⟩
  · rcases h with h | h <;> cases h
  · rcases h with h | h <;> cases h
  · exact ⟨.plain a b, rfl, rfl, rfl⟩
  · exact ⟨.points a b c, rfl, rfl, rfl⟩
  · rcases h with h | h <;> simp at h
theorem endsOf_snoc (ps : List Pc) (p : Pc) : endsOf (ps ++ [p]) = endsOf ps ++ p.js := by
  unfold endsOf
  rw [List.flatMap_append, List.flatMap_singleton]
theorem ok_pieces (T : Txt K mg C) (F : Fun K "_law_pieces" "_law_pieces" s__law_pieces f fd) (c__law_mix : Cal P w K mg base CX0 2 "_law_mix" (spMix K)) : FnOk P w K mg base CX0 3 f fd ["_law_script", "_law_base"] (spPieces K) := by
  refine fn_X F sc__law_pieces (fun _ => rfl) fun cdv A outer s H Q E hr => ⟨_, pss_cons (ps_set (i := 2) sc__law_pieces.nd rfl (by first | exact Or.inl rfl | exact Or.inr rfl) (pe_lst (pa_nil)))
  (pss_cons (ps_set (i := 3) sc__law_pieces.nd rfl (by first | exact Or.inl rfl | exact Or.inr rfl) (pe_lst (pa_nil)))
  (pss_cons (ps_set (i := 4) sc__law_pieces.nd rfl (by first | exact Or.inl rfl | exact Or.inr rfl) (pe_int))
  (pss_cons (ps_for PassesOwn.never rfl (pi_range1 (by rfl) T.n_range (pa_cons (pe_op op_add (pe_int) (pe_op op_mod (pe_cal c__law_mix hr (by first | decide | omega) rfl passN (pa_cons (pv 0) (pa_cons (pv 1) (pa_nil)))) (pe_int))) (pa_nil))) (pg_name (i := 5) sc__law_pieces.nd rfl (by first | exact Or.inl rfl | exact Or.inr rfl)) (pss_cons (ps_set (i := 6) sc__law_pieces.nd rfl (by first | exact Or.inl rfl | exact Or.inr rfl) (pe_cal c__law_mix hr (by first | decide | omega) rfl passN (pa_cons (pv 0) (pa_cons (pe_op op_add (pe_op op_add (pv 1) (pe_int)) (pv 5)) (pa_nil)))))
  (pss_cons (ps_set (i := 7) sc__law_pieces.nd rfl (by first | exact Or.inl rfl | exact Or.inr rfl) (pe_lst (pa_nil)))
  (pss_cons (ps_for PassesOwn.never rfl (pi_range1 (by rfl) T.n_range (pa_cons (pe_op op_add (pe_int) (pe_callTy call_int1 (by rfl) T.n_int (by decide +kernel) (pa_cons (pe_cmpR op_lt (pe_op op_mod (pv 6) (pe_int)) (pe_int) (nomark _)) (pa_nil)))) (pa_nil))) (pg_name (i := 8) sc__law_pieces.nd rfl (by first | exact Or.inl rfl | exact Or.inr rfl)) (pss_cons (ps_set (i := 9) sc__law_pieces.nd rfl (by first | exact Or.inl rfl | exact Or.inr rfl) (pe_cal c__law_mix hr (by first | decide | omega) rfl passN (pa_cons (pv 0) (pa_cons (pe_op op_add (pe_op op_add (pe_op op_add (pv 1) (pe_int)) (pe_op op_mul (pe_int) (pv 5))) (pv 8)) (pa_nil)))))
  (pss_cons (ps_setLc (i := 10) (own := [("_law_joint", 11)]) (g := gName 11) (by rfl) sc__law_pieces.nd rfl rfl (sw_true rfl rfl rfl (by decide +kernel)) (pi_listK (K := K) rfl (pv 3)) (blkOk_by (own := [("_law_joint", 11)]) (N := N__law_pieces) (sc := defScope s__law_pieces) (by decide +kernel)) (fun _ _ _ _ _ => pg_name (i := 11) sc__law_pieces.nd rfl (Or.inl rfl)) (fun _ _ _ _ _ => pts_one (pt_cmpR (op_notInK (K := K) rfl) (pv 11) (pv 7) (by rfl))) (fun _ _ _ _ _ => pv 11))
  (pss_cons (ps_if (PW.pt (pw_and (pt_truthK (K := K) rfl (pv 10) (by intro _; rfl)) (pw_and1 (pt_cmpR op_lt (pe_op op_mod (pv 9) (pe_int)) (pe_ix (ix_listK (K := K) rfl) (pe_lst (pa_cons (pe_int) (pa_cons (pe_int) (pa_cons (pe_int) (pa_nil))))) (pv 8) (fun _ _ => rfl)) (nomark _))))) (pss_cons (ps_expr (pe_bmK (K := K) rfl PySem.F.plainAttrs_list PySem.F.slot_list_append PySem.F.type_list_append mt_append (pv 7) (pa_cons (pe_ix (ix_listK (K := K) rfl) (pv 10) (pe_op op_mod (pe_op op_fdiv (pv 9) (pe_int)) (pe_callB (call_min2 rfl) (by rfl) T.n_min (by decide +kernel) (pa_cons (pe_int) (pa_cons (pe_callB (call_lenK (K := K) rfl) (by rfl) T.n_len (by decide +kernel) (pa_cons (pv 10) (pa_nil))) (pa_nil))))) (fun _ _ => rfl)) (pa_nil))))
  (pss_nil)) (pss_cons (ps_expr (pe_bmK (K := K) rfl PySem.F.plainAttrs_list PySem.F.slot_list_append PySem.F.type_list_append mt_append (pv 7) (pa_cons (pe_op op_mod (pe_op op_add (pe_cal c__law_mix hr (by first | decide | omega) rfl passN (pa_cons (pv 0) (pa_cons (pe_op op_add (pv 1) (pe_int)) (pa_nil)))) (pe_op op_mul (pe_int) (pv 4))) (pe_int)) (pa_nil))))
  (pss_cons (ps_set (i := 4) sc__law_pieces.nd rfl (by first | exact Or.inl rfl | exact Or.inr rfl) (pe_op op_add (pv 4) (pe_int)))
  (pss_nil))))
  (pss_nil)))))
  (pss_cons (ps_set (i := 3) sc__law_pieces.nd rfl (by first | exact Or.inl rfl | exact Or.inr rfl) (pe_op op_cat (pe_lc (own := [("_law_joint", 11)]) (g := gName 11) (by rfl) sc__law_pieces.nd (pi_listK (K := K) rfl (pv 7)) (blkOk_by (own := [("_law_joint", 11)]) (N := N__law_pieces) (sc := defScope s__law_pieces) (by decide +kernel)) (fun _ _ _ _ _ => pg_name (i := 11) sc__law_pieces.nd rfl (Or.inl rfl)) (fun _ _ _ _ _ => pts_one (pt_cmpR (op_notInK (K := K) rfl) (pv 11) (pv 3) (by rfl))) (fun _ _ _ _ _ => pv 11)) (pe_lc (own := [("_law_joint", 11)]) (g := gName 11) (by rfl) sc__law_pieces.nd (pi_listK (K := K) rfl (pv 3)) (blkOk_by (own := [("_law_joint", 11)]) (N := N__law_pieces) (sc := defScope s__law_pieces) (by decide +kernel)) (fun _ _ _ _ _ => pg_name (i := 11) sc__law_pieces.nd rfl (Or.inl rfl)) (fun _ _ _ _ _ => pts_one (pt_cmpR (op_notInK (K := K) rfl) (pv 11) (pv 7) (by rfl))) (fun _ _ _ _ _ => pv 11))))
  (pss_cons (ps_expr (pe_bmK (K := K) rfl PySem.F.plainAttrs_list PySem.F.slot_list_append PySem.F.type_list_append mt_append (pv 2) (pa_cons (pe_op (op_catTK (K := K) rfl) (pe_tup (pa_cons (pe_ix (ix_listK (K := K) rfl) (pe_lst (pa_cons (pe_str) (pa_cons (pe_str) (pa_nil)))) (pe_op op_sub (pe_callB (call_lenK (K := K) rfl) (by rfl) T.n_len (by decide +kernel) (pa_cons (pv 7) (pa_nil))) (pe_int)) (fun _ _ => rfl)) (pa_nil))) (pe_callTy (call_tupleK (K := K) rfl) (by rfl) T.n_tuple (by decide +kernel) (pa_cons (pv 7) (pa_nil)))) (pa_nil))))
  (pss_nil)))))))
  (pss_cons (ps_ret (pv 2))
  (pss_nil))))), fun ⟨a, ns, bs⟩ B e hS q => ?_⟩
  have hS : SqL K H a (ns.map V.int) := hS
  have q : ∀ u B2 H2 ps, goodJs ps → Ext B H B2 H2 → Is B2 u (.d (.list (ps.map enc))) → Q u H2 := fun u B2 H2 ps hp x hu => q u B2 H2 _ ⟨ps, hp, rfl⟩ x hu
  refine qx_newL (ds := []) ga_nil (by decide) fun pp B2 H2 hp x2 m => ?_
  refine qx_asg (g := .d (.list (([] : List Int).map enc))) (gv_lst (ds := []) ga_nil (by decide)) fun B3 H3 x3 => ?_
  refine qx_asg (g := AI 0) gv_int fun B4 H4 x4 => ?_
  have x04 := (x2.trans x3).trans x4
  have hS4 := x04.hh.seq hS
  let mm := mixN ns (bs + 9)
  have r0 : 0 ≤ mixN ns bs % 8 ∧ mixN ns bs % 8 < 8 := by omega
  refine qx_forRE (n := 1 + mixN ns bs % 8) (ga_cons (gv_op gv_int (gv_op (gv_mix (gv_var rfl) (gv_var rfl) hS4) gv_int (ro_I (by decide))) ro_I0) ga_nil) (by omega) (by omega)
    (ι := List Int × Nat) (fun t => [some (.v (.ref a)), some (AI bs), some (.v (.ref pp)), some (.d (.list (t.1.map enc))), some (AI (t.2 : Int)), none, none, none, none, none, none, none])
    (fun k t B1 H1 => Ext B H B1 H1 ∧ t.2 ≤ 3 * k ∧ t.1.length ≤ 3 * k ∧ ∃ ps : List Pc, ps.length = k ∧ Ml B1 H1 pp (ps.map enc) ∧ (∀ p ∈ ps, p.js.Nodup) ∧ PInv mm (endsOf ps) t.1 t.2) ([], 0) (by walk_at "le")
    (fun B5 H5 x5 => ⟨x04.trans x5, by decide, by decide, [], rfl, (m.ext (x3.trans x4)).ext x5, fun p h => by simp at h, PInv.nil⟩) ?_ ?_
  · rintro Bs k ⟨loose, many⟩ B5 H5 hk s1 s2 ⟨x5, hm, hlo, ps, hps, m5, hnd, pin⟩
    have hm : many ≤ 3 * k := hm
    have hlo : loose.length ≤ 3 * k := hlo
    have pin : PInv mm (endsOf ps) loose many := pin
    have hk8 : k < 8 := by omega
    have hS5 := x5.hh.seq hS
    refine qx_asg (g := AI (mixN ns (bs + 1 + (k : Int)))) (gv_mix (gv_var rfl) (gv_op (gv_op (gv_var rfl) gv_int ro_I0) (gv_var rfl) ro_I0) hS5) fun B6 H6 x6 => ?_
    generalize mixN ns (bs + 1 + (k : Int)) = nu
    refine qx_newL (ds := []) ga_nil (by decide) fun pe B7 H7 hpe x7 m7 => ?_
    have x57 := x6.trans x7
    have hpe5 : H5 pe = none := x6.hh.free hpe
    have hS7 := x57.hh.seq hS5
    have b01 : (2 + (if decide (nu % 5 < 3) = true then 1 else 0) : Int) = 2 ∨ (2 + (if decide (nu % 5 < 3) = true then 1 else 0) : Int) = 3 := by
      split
      · exact .inr rfl
      · exact .inl rfl
    refine qx_forRE (n := 2 + (if decide (nu % 5 < 3) = true then 1 else 0)) (ga_cons (gv_op gv_int (gv_cb (ga_cons (gv_op (gv_op (gv_var rfl) gv_int (ro_I (by decide))) gv_int ro_B0) ga_nil) rc_intB) ro_I0) ga_nil) (by omega) (by omega)
      (ι := Nat) (fun t => [some (.v (.ref a)), some (AI bs), some (.v (.ref pp)), some (.d (.list (loose.map enc))), some (AI (t : Int)), some (AI (k : Int)), some (AI nu), some (.v (.ref pe)), none, none, none, none])
      (fun j t B1 H1 => Ext B5 H5 B1 H1 ∧ t ≤ 3 * k + j ∧ ∃ es : List Int, es.length = j ∧ Ml B1 H1 pe (es.map PyData.int) ∧ EInv mm (endsOf ps) loose es t) many (by walk_at "le")
      (fun B8 H8 x8 => ⟨x57.trans x8, hm, [], rfl, m7.ext x8, pin.start⟩) ?_ ?_
    · rintro Bs2 j t B8 H8 hj s3 s4 ⟨x8, ht, es, hes, m8, ein⟩
      have hj3 : j < 3 := by omega
      have hS8 := x8.hh.seq hS5
      refine qx_asg (g := AI (mixN ns (bs + 10 + 3 * (k : Int) + (j : Int)))) (gv_mix (gv_var rfl) (gv_op (gv_op (gv_op (gv_var rfl) gv_int ro_I0) (gv_op gv_int (gv_var rfl) (ro_I (by show (-(2 ^ 64) < (3 : Int) ∧ (3 : Int) < 2 ^ 64) ∨ _; exact .inl ⟨by decide, by decide⟩))) ro_I0) (gv_var rfl) ro_I0) hS8) fun B9 H9 x9 => ?_
      generalize mixN ns (bs + 10 + 3 * (k : Int) + (j : Int)) = pk
      refine qx_asg (g := .d (.list (((loose.filter fun z => !decide (z ∈ es)).map id).map enc))) ?_ fun B10 H10 x10 => ?_
      · refine gv_lcL (xs := loose) (gv_var rfl) (by omega) (by decide) (by decide) (fun z => !decide (z ∈ es)) id (fun z _ B11 H11 x11 => ?_) fun z _ _ B11 H11 x11 => gv_var rfl
        refine gt_own (i := 7) ((m8.ext x9).ext x11) rfl fun B12 H12 _ _ => ?_
        walk_at "gv"
      rw [List.map_id]
      obtain ⟨oth, hoth⟩ : ∃ o, (loose.filter fun z => !decide (z ∈ es)) = o := ⟨_, rfl⟩
      have hothl : oth.length ≤ loose.length := by rw [← hoth]; exact List.length_filter_le _ _
      rw [hoth]
      have m10 := (m8.ext x9).ext x10
      have x810 := x9.trans x10
      obtain ⟨c7, hc7, e7⟩ : ∃ c7 : Int, True ∧ atI [PyData.int 7, .int 2, .int 2] (j : Int) = some (.int c7) := by
        have : j = 0 ∨ j = 1 ∨ j = 2 := by omega
        rcases this with h | h | h <;> subst h <;> exact ⟨_, trivial, rfl⟩
      refine qx_if (b := !(oth.map enc).isEmpty && decide (pk % 8 < c7)) ?_ (fun hb B11 H11 x11 => ?_) fun hb B11 H11 x11 => ?_
      · refine gt_and (gt_truL (gv_var rfl)) fun _ => gt_test (gv_op (gv_op (gv_var rfl) gv_int (ro_I (by decide))) (gv_op (x := .d (.list [PyData.int 7, .int 2, .int 2])) ?_ (gv_var rfl) (ro_ixL e7)) ro_B0)
        walk_at "gv"
      · have hl0 : 0 < oth.length := by
          rw [Bool.and_eq_true] at hb
          cases oth with
          | nil => cases hb.1
          | cons => simp
        obtain ⟨M, hM, hM0, hM1⟩ : ∃ M : Int, (if ((oth.length : Nat) : Int) < 4 then ((oth.length : Nat) : Int) else 4) = M ∧ 0 < M ∧ M ≤ oth.length := by
          by_cases h : ((oth.length : Nat) : Int) < 4
          · exact ⟨_, if_pos h, by omega, by omega⟩
          · exact ⟨_, if_neg h, by omega, by omega⟩
        have i0 : 0 ≤ pk / 8 % M := Int.emod_nonneg _ (by omega)
        have i1 : pk / 8 % M < M := Int.emod_lt_of_pos _ hM0
        have hlt : (pk / 8 % M).toNat < oth.length := by omega
        obtain ⟨z, hz⟩ : ∃ z, oth[(pk / 8 % M).toNat]? = some z := ⟨_, List.getElem?_eq_getElem hlt⟩
        have hat : atI (oth.map enc) (pk / 8 % M) = some (enc z) := by
          have := atI_map hz
          rw [show (((pk / 8 % M).toNat : Nat) : Int) = pk / 8 % M by omega] at this
          exact this
        have hzm : z ∈ loose ∧ z ∉ es := by
          have := List.mem_of_getElem? hz
          rw [← hoth] at this
          obtain ⟨h1, h2⟩ := List.mem_filter.mp this
          exact ⟨h1, by simpa using h2⟩
        refine qx_app (d := enc z) (m10.ext x11) (gv_var rfl) (gv_op (gv_var rfl) (gv_op (gv_op (gv_var rfl) gv_int (ro_I ?_)) (gv_is (gv_cb (ga_cons gv_int (ga_cons (gv_cb (ga_cons (gv_var rfl) ga_nil) rc_lenM) ga_nil)) rc_min2) (by rw [hM])) (ro_I (by show (0 : Int) < _; omega))) (ro_ixL hat)) (by rw [List.length_map]; omega) fun B12 H12 x12 m12 => sx_go ?_
        · show (0 : Int) < _ ∧ _ < (1073741824 : Int)
          exact ⟨by decide, by decide⟩
        · have e12 : es.map PyData.int ++ [enc z] = (es ++ [z]).map PyData.int := by rw [List.map_append]; rfl
          rw [e12] at m12
          exact sx_lx t (s4.trans (x810.bb.trans (x11.bb.trans x12.bb))) (by walk_at "le") ⟨((x8.trans x810).trans x11).thenF x12 (fun p h => by rw [h]; exact hpe5), by omega, es ++ [z], by rw [List.length_append, hes]; rfl, m12, ein.pick pin hzm.1 hzm.2⟩
      · have hS11 := (x810.trans x11).hh.seq hS8
        refine qx_app (d := .int (jN mm t)) (m10.ext x11) (gv_var rfl) (gv_op (gv_op (gv_mix (gv_var rfl) (gv_op (gv_var rfl) gv_int ro_I0) hS11) (gv_op gv_int (gv_var rfl) (ro_I (by show (-(2 ^ 64) < (37 : Int) ∧ (37 : Int) < 2 ^ 64) ∨ _; exact .inl ⟨by decide, by decide⟩))) ro_I0) gv_int (ro_I (by decide))) (by rw [List.length_map]; omega) fun B12 H12 x12 m12 => ?_
        refine qx_asg (g := AI ((t + 1 : Nat) : Int)) (gv_is (gv_op (gv_var rfl) gv_int ro_I0) rfl) fun B13 H13 x13 => sx_go ?_
        have e12 : es.map PyData.int ++ [PyData.int (jN mm t)] = (es ++ [jN mm t]).map PyData.int := by rw [List.map_append]; rfl
        rw [e12] at m12
        have x013 := (((x8.trans x810).trans x11).thenF x12 (fun p h => by rw [h]; exact hpe5)).trans x13
        exact sx_lx (t + 1) (s4.trans (x810.bb.trans (x11.bb.trans (x12.bb.trans x13.bb)))) (by walk_at "le") ⟨x013, by omega, es ++ [jN mm t], by rw [List.length_append, hes]; rfl, m12.ext x13, ein.fresh (by omega)⟩
    · intro t B8 H8 s3 ⟨x8, ht, es, hes, m8, ein⟩
      have hes23 : es.length = 2 ∨ es.length = 3 := by omega
      have ht : t ≤ 3 * k + 3 := by omega
      refine sx_give (i := 7) x8 hpe5 m8 rfl fun B9 x9 s9 => ?_
      obtain ⟨pc, hpj, hw, epc⟩ := two_pcJ hes23
      refine qx_asg (g := .d (.list (((es.filter fun z => !decide (z ∈ loose)) ++ (loose.filter fun z => !decide (z ∈ es))).map enc))) ?_ fun B10 H10 x10 => ?_
      · refine gv_is (gv_op (gv_lcL (xs := es) (gv_var rfl) (by omega) (by decide) (by decide) (fun z => !decide (z ∈ loose)) id (fun z _ B11 H11 x11 => ?_) fun z _ _ B11 H11 x11 => gv_var rfl) (gv_lcL (xs := loose) (gv_var rfl) (by omega) (by decide) (by decide) (fun z => !decide (z ∈ es)) id (fun z _ B11 H11 x11 => ?_) fun z _ _ B11 H11 x11 => gv_var rfl) (ro_cat ?_)) ?_
        · walk_at "gv"
        · walk_at "gv"
        · have h1 := List.length_filter_le (fun z => !decide (z ∈ loose)) es
          have h2 := List.length_filter_le (fun z => !decide (z ∈ es)) loose
          simp only [List.length_map, List.map_id]
          omega
        · rw [List.map_id, List.map_id, List.map_append]
      refine qx_app (d := enc pc) ((m5.ext x9).ext x10) (gv_var rfl) ?_ (by rw [List.length_map]; omega) fun B11 H11 x11 m11 => ?_
      · rw [← epc]
        refine gv_op (x := .d (.tuple [.str pc.word])) (gv_tup (ds := [.str pc.word]) (ga_cons (gv_op (x := .d (.list [PyData.str "plain", PyData.str "points"])) (y := AI ((es.length : Int) - 2)) ?_ (gv_op (gv_is (gv_cb (ga_cons (gv_var rfl) ga_nil) rc_len) (by rw [List.length_map])) gv_int ro_I0) (ro_ixL hw)) ga_nil) (by show 1 ≤ 16000000; decide))
          (gv_cb (ga_cons (gv_var rfl) ga_nil) rc_tuple) (ro_catT (by rw [List.length_map]; show 1 + _ ≤ _; omega) (by simp) (by intro h; have := congrArg List.length h; rw [List.length_map] at this; rcases hes23 with h | h <;> simp [h] at this))
        walk_at "gv"
      · have e11 : ps.map enc ++ [enc pc] = (ps ++ [pc]).map enc := by rw [List.map_append]; rfl
        rw [e11] at m11
        refine sx_lx (((es.filter fun z => !decide (z ∈ loose)) ++ (loose.filter fun z => !decide (z ∈ es))), t) (s2.trans (x9.bb.trans (x10.bb.trans x11.bb))) (by walk_at "le")
          ⟨((x5.trans x9).trans x10).thenF x11 (fun p h => by rw [h]; exact hp), by show t ≤ 3 * (k + 1); omega, ?_, ps ++ [pc], by rw [List.length_append, hps]; rfl, m11, ?_, ?_⟩
        · show List.length _ ≤ 3 * (k + 1)
          have h1 := List.length_filter_le (fun z => !decide (z ∈ loose)) es
          have h2 := List.length_filter_le (fun z => !decide (z ∈ es)) loose
          rw [List.length_append]
          omega
        · intro p hp
          rcases List.mem_append.mp hp with h | h
          · exact hnd p h
          · simp at h
            subst h
            rw [hpj]
            exact ein.nd
        · rw [endsOf_snoc, hpj]
          exact pin.next ein
  · rintro ⟨loose, many⟩ B5 H5 s1 ⟨x5, _, _, ps, hps, m5, hnd, pin⟩
    exact qx_retM x5 hp m5 (gv_var rfl) fun u B6 H6 x6 hu => q u B6 H6 ps ⟨by omega, by omega, hnd, mm, loose, many, pin⟩ x6 hu
end
end SB
namespace SB
open PySem PySem.Spec PyProof.Rows L2
open Enc (enc)
local macro_rules | `(tactic| walk_at "le") => `(tactic| first | exact le_nil | (refine le_keep ?_; walk_at "le") | (refine le_drop ?_; walk_at "le"))
local macro_rules | `(tactic| walk_at "sd") => `(tactic| first | assumption | (show (_ : Int) < _ ∧ _ < (1073741824 : Int); exact ⟨by omega, by omega⟩) | (show (-(2 ^ 64) < (_ : Int) ∧ _ < (2 ^ 64 : Int)) ∨ _; first | exact .inl ⟨by omega, by omega⟩ | exact .inr ⟨by omega, by omega⟩) | rfl | decide | (simp; done) | omega | skip)
local macro_rules | `(tactic| walk_at "gc") => `(tactic| fail)
local macro_rules | `(tactic| walk_at "gv") => `(tactic| first
  | exact gv_int | exact gv_str | exact gv_bl | exact gv_non | exact gv_var rfl
  | ((with_reducible refine' gv_op ?_ ?_ ?_) <;> walk_at "gv")
  | ((with_reducible refine' ga_cons ?_ ?_) <;> walk_at "gv") | exact ga_nil
  | ((with_reducible refine' gv_cb ?_ ?_) <;> walk_at "gv")
  | ((with_reducible refine' gt_test ?_) <;> walk_at "gv") | ((with_reducible refine' gt_B ?_) <;> walk_at "gv") | ((with_reducible refine' gt_not ?_) <;> walk_at "gv")
  | ((with_reducible refine' gt_and ?k1 ?k2); (case' k1 => walk_at "gv"); (case' k2 => intro hb; walk_at "gv"))
  | ((with_reducible refine' gt_or ?k1 ?k2); (case' k1 => walk_at "gv"); (case' k2 => intro hb; walk_at "gv"))
  | ((with_reducible refine' gv_andV ?k1 ?k2); (case' k1 => walk_at "gv"); (case' k2 => intro hb; walk_at "gv"))
  | ((with_reducible refine' gv_orV ?k1 ?k2); (case' k1 => walk_at "gv"); (case' k2 => intro hb; walk_at "gv"))
  | ((with_reducible refine' gv_notV ?_) <;> walk_at "gv")
  | ((with_reducible refine' gv_slL ?_ ?_ ?_) <;> walk_at "gv") | ((with_reducible refine' gv_slT ?_ ?_ ?_ ?_) <;> walk_at "gv")
  | exact go_none | ((with_reducible refine' go_some ?_) <;> walk_at "gv")
  | exact gd_nil | ((with_reducible refine' gd_cons ?_ ?_) <;> walk_at "gv") | ((with_reducible refine' gv_lst ?_ ?_) <;> walk_at "gv") | ((with_reducible refine' gv_tup ?_ ?_) <;> walk_at "gv")
  | ((with_reducible refine' gv_chain ?_ ?_ ?_ ?_ ?_) <;> walk_at "gv") | ((with_reducible refine' gt_truL ?_) <;> walk_at "gv") | ((with_reducible refine' gv_countI ?_ ?_) <;> walk_at "gv")
  | ((with_reducible refine' gv_lenSetI ?_ ?_) <;> walk_at "gv") | ((with_reducible refine' gv_lenSetU ?_ ?_) <;> walk_at "gv") | ((with_reducible refine' gv_lenSetT ?_ ?_) <;> walk_at "gv")
  | exact gt_yes
  | walk_at "gc"
  | exact ro_I0 | exact ro_B0 | (refine ro_I ?_; walk_at "sd")
  | exact ro_eqI | exact ro_neI | exact ro_eqS | exact ro_neS
  | (refine ro_eq ?_; walk_at "sd") | (refine ro_ne ?_; walk_at "sd")
  | exact ro_isN | exact ro_notN
  | exact ro_inI | exact ro_notInI | exact ro_inTI
  | (refine' ro_ixL ?k1; (case' k1 => walk_at "sd")) | (refine' ro_ixT ?k1; (case' k1 => walk_at "sd"))
  | (refine ro_cat ?_; walk_at "sd")
  | exact rc_lenM | exact rc_len | exact rc_lenT | exact rc_list | exact rc_listT | exact rc_tuple | exact rc_any | exact rc_all | exact rc_max2 | exact rc_min2 | exact rc_intB
  | (show (_ : Nat) ≤ _; first | decide | (simp; done) | omega)
  | (show (_ : Nat) < _; first | decide | (simp; done) | omega)
  | (show ¬ (_ ∧ _); exact fun h => absurd (show (1 : Nat) = 0 from h.1) (by decide))
  | skip)
local macro_rules | `(tactic| walk_at "ge") => `(tactic| (refine' gt_is ?k1 ?k2; (case' k1 => walk_at "gv"); (case' k2 => first | rfl | (simp; done) | skip)))
local macro_rules | `(tactic| walk_at "gw") => `(tactic| (refine' gv_is ?k1 ?k2; (case' k1 => walk_at "gv"); (case' k2 => first | rfl | (simp; done) | skip)))
local macro_rules | `(tactic| walk_at "gj") => `(tactic| first | exact gi_nil | (refine' gi_cons ?g1 ?g2; (case' g1 => walk_at "gv"); (case' g2 => walk_at "gj")))
local macro_rules | `(tactic| walk_at "gi") => `(tactic| (refine' gv_lst ?k1 ?k2; (case' k1 => walk_at "gj"); (case' k2 => (simp; try omega))))
local macro_rules | `(tactic| walk_at "gc") => `(tactic| first | ((with_reducible refine' gv_joints ?_) <;> walk_at "gv") | ((with_reducible refine' gv_beyond ?_ ?_ ?_ ?_) <;> walk_at "gv") | ((with_reducible refine' gv_outs ?_ ?_) <;> walk_at "gv") | ((with_reducible refine' gv_ends ?_ ?_ ?_ ?_ ?_) <;> walk_at "gv"))
/-! ### the law's own signals, ways, routes -/
section
variable {C : Adr} {P : Program} {w : World} {K : PySem.W.Frag} {mg : Str → Option Value} {base : Heap} {fd : FuncData} {f : Addr}
abbrev s__law_ways : Stmt := top 28
abbrev N__law_ways : List Str := ["_law_pieces_here", "_law_signals_here", "_law_way", "_law_at", "_law_joint", "_law_found", "_law_out", "_law_here", "_law_behind", "_law_step"]
theorem sc__law_ways : FnScope N__law_ways ["_law_pieces_here", "_law_signals_here", "_law_way", "_law_at", "_law_joint"] (defScope s__law_ways) := ⟨rfl, rfl, rfl, by decide +kernel, rfl, by decide +kernel, by decide +kernel⟩
abbrev s__law_routes : Stmt := top 29
abbrev N__law_routes : List Str := ["_law_pieces_here", "_law_signals_here", "_law_found", "_law_k", "_law_way"]
theorem sc__law_routes : FnScope N__law_routes ["_law_pieces_here", "_law_signals_here"] (defScope s__law_routes) := ⟨rfl, rfl, rfl, by decide +kernel, rfl, by decide +kernel, by decide +kernel⟩
def cutX {α : Type} (xs : List α) (lo hi : Option Int) : List α := (xs.drop (HT.sIx xs.length 0 lo)).take (HT.sIx xs.length xs.length hi - HT.sIx xs.length 0 lo)
theorem cutD_map {α : Type} [DecidableEq α] [Enc α] (xs : List α) (lo hi : Option Int) : cutD (xs.map enc) lo hi = (cutX xs lo hi).map enc := by
  unfold cutD cutX
  rw [List.length_map, List.map_take, List.map_drop]
theorem cutX_from {α : Type} (xs : List α) (s : Nat) (h : s ≤ xs.length) : cutX xs (some (s : Int)) none = xs.drop s := by
  unfold cutX
  rw [HT.sIx_nat, HT.sIx_none, Nat.min_eq_left h, List.take_of_length_le (by rw [List.length_drop]; exact Nat.le_refl _)]
theorem cutX_to {α : Type} (xs : List α) (s : Nat) : cutX xs none (some (s : Int)) = xs.take s := by
  unfold cutX
  rw [HT.sIx_nat, HT.sIx_none, List.drop_zero, Nat.sub_zero]
  rw [List.take_eq_take_iff]
  omega
def goodSJ (ps : List Pc) (sg : List Sig) : Prop := sg.length ≤ 16 ∧ sg.Nodup ∧ ∀ s ∈ sg, okSig ps s = true
theorem goodSJ.ok {ps : List Pc} {sg : List Sig} (h : goodSJ ps sg) : goodSg ps sg = true := by
  unfold goodSg
  rw [Bool.and_eq_true, Bool.and_eq_true]
  refine ⟨⟨?_, decide_eq_true ?_⟩, List.all_eq_true.mpr h.2.2⟩
  · have := h.1
    simp
    omega
  · rw [(nset_iff sg).mpr h.2.1]
theorem goodSJ.turn {ps : List Pc} {fs : List Sig} (n : fs.Nodup) (h : ∀ s ∈ fs, okSig ps s = true) (k : Nat) : goodSJ ps ((fs.drop k ++ fs.take k).take 16) := by
  refine ⟨by rw [List.length_take]; omega, ?_, fun s hs => ?_⟩
  · refine List.Nodup.sublist (List.take_sublist _ _) ?_
    rw [List.perm_append_comm.nodup_iff, List.take_append_drop]
    exact n
  · have := List.mem_of_mem_take hs
    rcases List.mem_append.mp this with q | q
    · exact h s (List.mem_of_mem_drop q)
    · exact h s (List.mem_of_mem_take q)
def spSignals (K : PySem.W.Frag) : Sp := spX (T := Addr × List Int × Int × List Pc) (fun t => [.v (.ref t.1), AI t.2.2.1, .d (.list (t.2.2.2.map enc))]) (fun t _ H => SqL K H t.1 (t.2.1.map V.int) ∧ t.2.2.2.length ≤ 8 ∧ ∀ p ∈ t.2.2.2, p.js.Nodup) fun t g => ∃ sg : List Sig, goodSJ t.2.2.2 sg ∧ g = .d (.list (sg.map enc))
theorem nd_notin {xs : List Int} {i : Nat} {x : Int} (n : xs.Nodup) (h : xs[i]? = some x) : x ∉ xs.take i := by
  intro q
  have e : xs = xs.take i ++ xs.drop i := (List.take_append_drop i xs).symm
  have hi := (List.getElem?_eq_some_iff.mp h).1
  have hd : x ∈ xs.drop i := by
    rw [List.mem_iff_getElem?]
    exact ⟨0, by rw [List.getElem?_drop]; exact h⟩
  rw [e] at n
  exact (List.nodup_append.mp n).2.2 x q x hd rfl
theorem ok_signals (T : Txt K mg C) (F : Fun K "_law_signals" "_law_signals" s__law_signals f fd) (c__law_mix : Cal P w K mg base CX0 2 "_law_mix" (spMix K)) (c__law_beyond : Cal P w K mg base CX0 1 "_law_beyond" spBeyond) :
    FnOk P w K mg base CX0 3 f fd ["_law_script", "_law_base", "_law_pieces_here"] (spSignals K) := by
  refine fn_X F sc__law_signals (fun _ => rfl) fun cdv A outer s H Q E hr => ⟨_, pss_cons (ps_set (i := 3) sc__law_signals.nd rfl (by first | exact Or.inl rfl | exact Or.inr rfl) (pe_lst (pa_nil)))
  (pss_cons (ps_for PassesOwn.never rfl (pi_range1 (by rfl) T.n_range (pa_cons (pe_callB (call_lenK (K := K) rfl) (by rfl) T.n_len (by decide +kernel) (pa_cons (pv 2) (pa_nil))) (pa_nil))) (pg_name (i := 4) sc__law_signals.nd rfl (by first | exact Or.inl rfl | exact Or.inr rfl)) (pss_cons (ps_for PassesOwn.never rfl (pi_tupK (K := K) rfl (pe_slice (sl_tupK (K := K) rfl) (pe_ix (ix_listK (K := K) rfl) (pv 2) (pv 4) (fun _ _ => rfl)) (po_some (pe_int)) (po_none))) (pg_name (i := 5) sc__law_signals.nd rfl (by first | exact Or.inl rfl | exact Or.inr rfl)) (pss_cons (ps_set (i := 6) sc__law_signals.nd rfl (by first | exact Or.inl rfl | exact Or.inr rfl) (pe_cal c__law_mix hr (by first | decide | omega) rfl passN (pa_cons (pv 0) (pa_cons (pe_op op_add (pe_op op_add (pv 1) (pe_op op_mul (pe_int) (pv 4))) (pe_callB (call_lenK (K := K) rfl) (by rfl) T.n_len (by decide +kernel) (pa_cons (pv 3) (pa_nil)))) (pa_nil)))))
  (pss_cons (ps_set (i := 7) sc__law_signals.nd rfl (by first | exact Or.inl rfl | exact Or.inr rfl) (pe_cmpR op_isN (pe_cal c__law_beyond hr (by first | decide | omega) rfl passN (pa_cons (pv 2) (pa_cons (pv 4) (pa_cons (pv 5) (pa_nil))))) (pe_non) (nomark _)))
  (pss_cons (ps_if (PW.pt (pw_or (pt_cmpR op_eq (pe_op op_mod (pv 6) (pe_int)) (pe_int) (nomark _)) (pw_or1 (PW.pt (pw_and (pt_val (pv 7)) (pw_and1 (pt_cmpR op_eq (pe_op op_mod (pv 6) (pe_int)) (pe_int) (nomark _)))))))) (pss_cons (ps_expr (pe_bmK (K := K) rfl PySem.F.plainAttrs_list PySem.F.slot_list_append PySem.F.type_list_append mt_append (pv 3) (pa_cons (pe_tup (pa_cons (pv 5) (pa_cons (pv 4) (pa_nil)))) (pa_nil))))
  (pss_nil)) (pss_nil))
  (pss_nil)))))
  (pss_nil)))
  (pss_cons (ps_set (i := 8) sc__law_signals.nd rfl (by first | exact Or.inl rfl | exact Or.inr rfl) (pe_op op_mod (pe_cal c__law_mix hr (by first | decide | omega) rfl passN (pa_cons (pv 0) (pa_cons (pe_op op_add (pv 1) (pe_int)) (pa_nil)))) (pe_op op_add (pe_int) (pe_callB (call_lenK (K := K) rfl) (by rfl) T.n_len (by decide +kernel) (pa_cons (pv 3) (pa_nil))))))
  (pss_cons (ps_ret (pe_slice (sl_listK (K := K) rfl) (pe_op op_cat (pe_slice (sl_listK (K := K) rfl) (pv 3) (po_some (pv 8)) (po_none)) (pe_slice (sl_listK (K := K) rfl) (pv 3) (po_none) (po_some (pv 8)))) (po_none) (po_some (pe_int))))
  (pss_nil)))), fun ⟨a, ns, bs, ps⟩ B e hpre q => ?_⟩
  obtain ⟨hS, hl, hnd⟩ := hpre
  have hS : SqL K H a (ns.map V.int) := hS
  have hl : ps.length ≤ 8 := hl
  have hnd : ∀ p ∈ ps, p.js.Nodup := hnd
  have q : ∀ u B2 H2 sg, goodSJ ps sg → Ext B H B2 H2 → Is B2 u (.d (.list (sg.map enc))) → Q u H2 := fun u B2 H2 sg hp x hu => q u B2 H2 _ ⟨sg, hp, rfl⟩ x hu
  refine qx_newL (ds := []) ga_nil (by decide) fun pf B2 H2 hp x2 m => ?_
  refine qx_forR (n := ((ps.length : Nat) : Int)) (ga_cons (gv_cb (ga_cons (gv_var rfl) ga_nil) rc_lenM) ga_nil) (by omega) (by omega) (fun _ => [some (.v (.ref a)), some (AI bs), some (.d (.list (ps.map enc))), some (.v (.ref pf)), none, none, none, none, none])
    (fun k B1 H1 => Ext B H B1 H1 ∧ ∃ fs : List Sig, fs.length ≤ 3 * k ∧ Ml B1 H1 pf (fs.map enc) ∧ fs.Nodup ∧ ∀ s ∈ fs, okSig ps s = true ∧ s.2 < (k : Int)) (by walk_at "le") (fun B3 H3 x3 => ⟨x2.trans x3, [], by decide, m.ext x3, List.nodup_nil, fun s h => by simp at h⟩) ?_ ?_
  · intro Bs k B3 H3 hk s1 s2 ⟨x3, fs, hfl, m3, nd3, ok3⟩
    have hk' : k < ps.length := by omega
    obtain ⟨pc, hpc⟩ : ∃ pc, ps[k]? = some pc := ⟨_, List.getElem?_eq_getElem hk'⟩
    have hat := atI_map hpc
    have hpn := hnd pc (List.mem_of_getElem? hpc)
    have hjl := js_len pc
    refine qx_forT (xs := pc.js) (gv_tl (gv_op (gv_var rfl) (gv_var rfl) (ro_ixL hat))) (fun _ => [some (.v (.ref a)), some (AI bs), some (.d (.list (ps.map enc))), some (.v (.ref pf)), some (AI (k : Int)), none, none, none, none])
      (fun i B1 H1 => Ext B H B1 H1 ∧ ∃ fs : List Sig, fs.length ≤ 3 * k + i ∧ Ml B1 H1 pf (fs.map enc) ∧ fs.Nodup ∧ ∀ s ∈ fs, okSig ps s = true ∧ (s.2 < (k : Int) ∨ (s.2 = (k : Int) ∧ s.1 ∈ pc.js.take i))) (by walk_at "le")
      (fun B4 H4 x4 => ⟨x3.trans x4, fs, by omega, m3.ext x4, nd3, fun s hs => ⟨(ok3 s hs).1, .inl (ok3 s hs).2⟩⟩) ?_ ?_
    · intro Bs2 i jj B4 H4 hi s3 s4 ⟨x4, fs, hfl, m4, nd4, ok4⟩
      have hi3 : i < 3 := by
        have := (List.getElem?_eq_some_iff.mp hi).1
        omega
      have hS4 := x4.hh.seq hS
      have htk : ∀ s : Sig, okSig ps s = true ∧ (s.2 < (k : Int) ∨ (s.2 = (k : Int) ∧ s.1 ∈ pc.js.take i)) → okSig ps s = true ∧ (s.2 < (k : Int) ∨ (s.2 = (k : Int) ∧ s.1 ∈ pc.js.take (i + 1))) := fun s h => ⟨h.1, h.2.imp id fun h => ⟨h.1, by rw [List.take_add_one]; exact List.mem_append.mpr (.inl h.2)⟩⟩
      refine qx_asg (g := AI (mixN ns (bs + 3 * (k : Int) + ((fs.length : Nat) : Int)))) (gv_mix (gv_var rfl) (gv_op (gv_op (gv_var rfl) (gv_op gv_int (gv_var rfl) (ro_I (by show (-(2 ^ 64) < (3 : Int) ∧ (3 : Int) < 2 ^ 64) ∨ _; exact .inl ⟨by decide, by decide⟩))) ro_I0) (gv_is (gv_cb (ga_cons (gv_var rfl) ga_nil) (rc_lenO m4)) (by rw [List.length_map])) ro_I0) hS4) fun B5 H5 x5 => ?_
      generalize mixN ns (bs + 3 * (k : Int) + ((fs.length : Nat) : Int)) = nu
      refine qx_asg (gv_op (gv_beyond (ps := ps) (gv_var rfl) (gv_var rfl) (gv_var rfl) (by omega)) gv_non ro_isN) fun B6 H6 x6 => ?_
      generalize isN (AV.d (oN (beyondN ps (k : Int) jj))) = bo
      refine qx_when (b := decide (nu % 3 = 0) || (bo && decide (nu % 3 = 1))) ?_ (fun _ B7 H7 x7 => ?_) fun _ B7 H7 x7 => ?_
      · refine gt_or ?_ fun _ => gt_and (gt_B (gv_var rfl)) fun _ => ?_ <;> walk_at "gv"
      · have new : ((jj, (k : Int)) : Sig) ∉ fs := fun h => by
          rcases (ok4 _ h).2 with h1 | h1
          · have h1 : (k : Int) < (k : Int) := h1
            omega
          · exact nd_notin hpn hi h1.2
        refine qx_app (d := enc ((jj, (k : Int)) : Sig)) (((m4.ext x5).ext x6).ext x7) (gv_var rfl) (gv_is (gv_tup (ds := [.int jj, .int (k : Int)]) (ga_cons (gv_var rfl) (ga_cons (gv_var rfl) ga_nil)) (by show 2 ≤ 16000000; decide)) rfl) (by rw [List.length_map]; omega) fun B8 H8 x8 m8 => sx_go ?_
        have e8 : fs.map enc ++ [enc ((jj, (k : Int)) : Sig)] = (fs ++ [(jj, (k : Int))]).map enc := by rw [List.map_append]; rfl
        rw [e8] at m8
        refine sx_lp (s4.trans (x5.bb.trans (x6.bb.trans (x7.bb.trans x8.bb)))) (by walk_at "le") ⟨(x4.trans ((x5.trans x6).trans x7)).thenF x8 (fun p h => by rw [h]; exact hp), fs ++ [(jj, (k : Int))], by rw [List.length_append]; show fs.length + 1 ≤ _; omega, m8, ?_, fun s hs => ?_⟩
        · rw [List.nodup_append]
          refine ⟨nd4, by simp, fun x hx y hy e => ?_⟩
          simp at hy
          subst hy
          subst e
          exact new hx
        · rcases List.mem_append.mp hs with h | h
          · exact htk s (ok4 s h)
          · simp at h
            subst h
            refine ⟨?_, .inr ⟨rfl, ?_⟩⟩
            · have hj : jj ∈ pc.js := List.mem_of_getElem? hi
              unfold okSig
              rw [show ((k : Int)).toNat = k by omega, hpc]
              simp [hj]
              omega
            · rw [List.take_add_one, hi]
              exact List.mem_append.mpr (.inr (by simp))
      · exact sx_lp (s4.trans (x5.bb.trans (x6.bb.trans x7.bb))) (by walk_at "le") ⟨x4.trans ((x5.trans x6).trans x7), fs, by omega, ((m4.ext x5).ext x6).ext x7, nd4, fun s hs => htk s (ok4 s hs)⟩
    · intro B4 H4 s3 ⟨x4, fs, hfl, m4, nd4, ok4⟩
      refine sx_lp (s2.trans s3) (by walk_at "le") ⟨x4, fs, by omega, m4, nd4, fun s hs => ⟨(ok4 s hs).1, ?_⟩⟩
      rcases (ok4 s hs).2 with h | h
      · show s.2 < ((k + 1 : Nat) : Int)
        omega
      · have := h.1
        show s.2 < ((k + 1 : Nat) : Int)
        omega
  · intro B3 H3 s1 ⟨x3, fs, hfl, m3, nd3, ok3⟩
    refine sx_give (i := 3) x3 hp m3 rfl fun B4 x4 s4 => ?_
    have hS4 := x4.hh.seq hS
    have r0 : 0 ≤ mixN ns (bs + 30) % (1 + ((fs.length : Nat) : Int)) := Int.emod_nonneg _ (by omega)
    have r1 : mixN ns (bs + 30) % (1 + ((fs.length : Nat) : Int)) < 1 + ((fs.length : Nat) : Int) := Int.emod_lt_of_pos _ (by omega)
    refine qx_asg (g := AI (mixN ns (bs + 30) % (1 + ((fs.length : Nat) : Int)))) (gv_op (gv_mix (gv_var rfl) (gv_op (gv_var rfl) gv_int ro_I0) hS4) (gv_op gv_int (gv_cb (ga_cons (gv_var rfl) ga_nil) rc_lenM) ro_I0) (ro_I (by show (0 : Int) < _; omega))) fun B5 H5 x5 => ?_
    obtain ⟨sh, hsh⟩ : ∃ sh : Nat, mixN ns (bs + 30) % (1 + ((fs.length : Nat) : Int)) = (sh : Int) := ⟨_, (Int.toNat_of_nonneg r0).symm⟩
    rw [hsh] at r1 ⊢
    refine qx_ret (g := .d (.list (((fs.drop sh ++ fs.take sh).take 16).map enc))) (gv_is (gv_slL (gv_op (gv_slL (gv_var rfl) (go_some (gv_var rfl)) go_none) (gv_slL (gv_var rfl) go_none (go_some (gv_var rfl))) (ro_cat ?_)) go_none (go_some gv_int)) ?_) fun u B6 H6 x6 hu => q u B6 H6 _ (goodSJ.turn nd3 (fun s hs => (ok3 s hs).1) sh) (x4.trans (x5.trans x6)) hu
    · rw [cutD_map, cutD_map, cutX_from _ _ (by omega), cutX_to, List.length_map, List.length_map, List.length_drop, List.length_take]
      omega
    · rw [cutD_map, cutD_map, cutX_from _ _ (by omega), cutX_to, ← List.map_append, cutD_map, show (16 : Int) = ((16 : Nat) : Int) from rfl, cutX_to]
end
end SB
namespace SB
open PySem PySem.Spec PyProof.Rows L2
open Enc (enc)
local macro_rules | `(tactic| walk_at "le") => `(tactic| first | exact le_nil | (refine le_keep ?_; walk_at "le") | (refine le_drop ?_; walk_at "le"))
local macro_rules | `(tactic| walk_at "sd") => `(tactic| first | assumption | (show (_ : Int) < _ ∧ _ < (1073741824 : Int); exact ⟨by omega, by omega⟩) | (show (-(2 ^ 64) < (_ : Int) ∧ _ < (2 ^ 64 : Int)) ∨ _; first | exact .inl ⟨by omega, by omega⟩ | exact .inr ⟨by omega, by omega⟩) | rfl | decide | (simp; done) | omega | skip)
local macro_rules | `(tactic| walk_at "gc") => `(tactic| fail)
local macro_rules | `(tactic| walk_at "gv") => `(tactic| first
  | exact gv_int | exact gv_str | exact gv_bl | exact gv_non | exact gv_var rfl
  | ((with_reducible refine' gv_op ?_ ?_ ?_) <;> walk_at "gv")
  | ((with_reducible refine' ga_cons ?_ ?_) <;> walk_at "gv") | exact ga_nil
  | ((with_reducible refine' gv_cb ?_ ?_) <;> walk_at "gv")
  | ((with_reducible refine' gt_test ?_) <;> walk_at "gv") | ((with_reducible refine' gt_B ?_) <;> walk_at "gv") | ((with_reducible refine' gt_not ?_) <;> walk_at "gv")
  | ((with_reducible refine' gt_and ?k1 ?k2); (case' k1 => walk_at "gv"); (case' k2 => intro hb; walk_at "gv"))
  | ((with_reducible refine' gt_or ?k1 ?k2); (case' k1 => walk_at "gv"); (case' k2 => intro hb; walk_at "gv"))
  | ((with_reducible refine' gv_andV ?k1 ?k2); (case' k1 => walk_at "gv"); (case' k2 => intro hb; walk_at "gv"))
  | ((with_reducible refine' gv_orV ?k1 ?k2); (case' k1 => walk_at "gv"); (case' k2 => intro hb; walk_at "gv"))
  | ((with_reducible refine' gv_notV ?_) <;> walk_at "gv")
  | ((with_reducible refine' gv_slL ?_ ?_ ?_) <;> walk_at "gv") | ((with_reducible refine' gv_slT ?_ ?_ ?_ ?_) <;> walk_at "gv")
  | exact go_none | ((with_reducible refine' go_some ?_) <;> walk_at "gv")
  | exact gd_nil | ((with_reducible refine' gd_cons ?_ ?_) <;> walk_at "gv") | ((with_reducible refine' gv_lst ?_ ?_) <;> walk_at "gv") | ((with_reducible refine' gv_tup ?_ ?_) <;> walk_at "gv")
  | ((with_reducible refine' gv_chain ?_ ?_ ?_ ?_ ?_) <;> walk_at "gv") | ((with_reducible refine' gt_truL ?_) <;> walk_at "gv") | ((with_reducible refine' gv_countI ?_ ?_) <;> walk_at "gv")
  | ((with_reducible refine' gv_lenSetI ?_ ?_) <;> walk_at "gv") | ((with_reducible refine' gv_lenSetU ?_ ?_) <;> walk_at "gv") | ((with_reducible refine' gv_lenSetT ?_ ?_) <;> walk_at "gv")
  | exact gt_yes
  | walk_at "gc"
  | exact ro_I0 | exact ro_B0 | (refine ro_I ?_; walk_at "sd")
  | exact ro_eqI | exact ro_neI | exact ro_eqS | exact ro_neS
  | (refine ro_eq ?_; walk_at "sd") | (refine ro_ne ?_; walk_at "sd")
  | exact ro_isN | exact ro_notN
  | exact ro_inI | exact ro_notInI | exact ro_inTI
  | (refine' ro_ixL ?k1; (case' k1 => walk_at "sd")) | (refine' ro_ixT ?k1; (case' k1 => walk_at "sd"))
  | (refine ro_cat ?_; walk_at "sd")
  | exact rc_lenM | exact rc_len | exact rc_lenT | exact rc_list | exact rc_listT | exact rc_tuple | exact rc_any | exact rc_all | exact rc_max2 | exact rc_min2 | exact rc_intB
  | (show (_ : Nat) ≤ _; first | decide | (simp; done) | omega)
  | (show (_ : Nat) < _; first | decide | (simp; done) | omega)
  | (show ¬ (_ ∧ _); exact fun h => absurd (show (1 : Nat) = 0 from h.1) (by decide))
  | skip)
local macro_rules | `(tactic| walk_at "ge") => `(tactic| (refine' gt_is ?k1 ?k2; (case' k1 => walk_at "gv"); (case' k2 => first | rfl | (simp; done) | skip)))
local macro_rules | `(tactic| walk_at "gw") => `(tactic| (refine' gv_is ?k1 ?k2; (case' k1 => walk_at "gv"); (case' k2 => first | rfl | (simp; done) | skip)))
local macro_rules | `(tactic| walk_at "gj") => `(tactic| first | exact gi_nil | (refine' gi_cons ?g1 ?g2; (case' g1 => walk_at "gv"); (case' g2 => walk_at "gj")))
local macro_rules | `(tactic| walk_at "gi") => `(tactic| (refine' gv_lst ?k1 ?k2; (case' k1 => walk_at "gj"); (case' k2 => (simp; try omega))))
local macro_rules | `(tactic| walk_at "gc") => `(tactic| first | ((with_reducible refine' gv_joints ?_) <;> walk_at "gv") | ((with_reducible refine' gv_beyond ?_ ?_ ?_ ?_) <;> walk_at "gv") | ((with_reducible refine' gv_outs ?_ ?_) <;> walk_at "gv") | ((with_reducible refine' gv_ends ?_ ?_ ?_ ?_ ?_) <;> walk_at "gv"))
/-! ### the law's own ways, routes -/
section
variable {C : Adr} {P : Program} {w : World} {K : PySem.W.Frag} {mg : Str → Option Value} {base : Heap} {fd : FuncData} {f : Addr}
def spWaysL (n : Nat) : Sp := spP (T := WaysArg) (fun t => [.d (.list (t.ps.map enc)), .d (.list (t.sg.map enc)), .d (.list (t.way.map enc)), AI (t.a : Int), AI t.j]) (fun t _ _ => WaysPre n t)
  fun t => .d (.list ((waysN t.ps t.sg n t.way t.j t.a).map enc))
theorem gv_waysL {n : Nat} {Γ : List (Option AV)} {B H : Hp} {ta : TA} {E : XK} (t : WaysArg) (h : Ga ta Γ B H [.d (.list (t.ps.map enc)), .d (.list (t.sg.map enc)), .d (.list (t.way.map enc)), AI (t.a : Int), AI t.j]) (hp : WaysPre n t) :
    Gv (tCall (spWaysL n) [] E ta) Γ B H (.d (.list ((waysN t.ps t.sg n t.way t.j t.a).map enc))) := gv_call t h fun _ _ _ => hp
theorem ok_Lways_step {n : Nat} (T : Txt K mg C) (F : Fun K "_law_ways" "_law_ways" s__law_ways f fd) (c__law_beyond : Cal P w K mg base CX0 1 "_law_beyond" spBeyond) (c__law_outs : Cal P w K mg base CX0 1 "_law_outs" spOuts)
    (IH : Cal P w K mg base CX0 (3 + n) "_law_ways" (spWaysL n)) : FnOk P w K mg base CX0 (3 + n + 1) f fd ["_law_pieces_here", "_law_signals_here", "_law_way", "_law_at", "_law_joint"] (spWaysL (n + 1)) := by
  have HK : 3 + n ≤ 3 + n := Nat.le_refl _
  have c__law_beyond := c__law_beyond.mono (show 1 ≤ 3 + n by omega)
  have c__law_outs := c__law_outs.mono (show 1 ≤ 3 + n by omega)
  refine fn_P F sc__law_ways (fun _ => rfl) fun cdv A outer s H Q E hr => ⟨_, pss_cons (ps_set (i := 5) sc__law_ways.nd rfl (by first | exact Or.inl rfl | exact Or.inr rfl) (pe_lst (pa_nil)))
  (pss_cons (ps_if (pt_cmpR (op_inK (K := K) rfl) (pv 3) (pe_lc (own := [("_law_step", 9)]) (g := gName 9) (tt := tYes) (by rfl) sc__law_ways.nd (pi_listK (K := K) rfl (pv 2)) (blkOk_by (own := [("_law_step", 9)]) (N := N__law_ways) (sc := defScope s__law_ways) (by decide +kernel)) (fun _ _ _ _ _ => pg_name (i := 9) sc__law_ways.nd rfl (Or.inl rfl)) (fun _ _ _ _ _ => pts_nil) (fun _ _ _ _ _ => pe_ix (ix_tupK (K := K) rfl) (pv 9) (pe_int) (fun _ _ => rfl))) (by rfl)) (pss_cons (ps_ret (pv 5))
  (pss_nil)) (pss_nil))
  (pss_cons (ps_for PassesOwn.never rfl (pi_listK (K := K) rfl (pe_cal c__law_outs hr (by first | decide | omega) rfl passN (pa_cons (pe_ix (ix_listK (K := K) rfl) (pv 0) (pv 3) (fun _ _ => rfl)) (pa_cons (pv 4) (pa_nil))))) (pg_name (i := 6) sc__law_ways.nd rfl (by first | exact Or.inl rfl | exact Or.inr rfl)) (pss_cons (ps_set (i := 7) sc__law_ways.nd rfl (by first | exact Or.inl rfl | exact Or.inr rfl) (pe_op op_cat (pv 2) (pe_lst (pa_cons (pe_tup (pa_cons (pv 3) (pa_cons (pv 4) (pa_cons (pv 6) (pa_nil))))) (pa_nil)))))
  (pss_cons (ps_set (i := 8) sc__law_ways.nd rfl (by first | exact Or.inl rfl | exact Or.inr rfl) (pe_cal c__law_beyond hr (by first | decide | omega) rfl passN (pa_cons (pv 0) (pa_cons (pv 3) (pa_cons (pv 6) (pa_nil))))))
  (pss_cons (ps_if (PW.pt (pw_or (pt_cmpR op_isN (pv 8) (pe_non) (nomark _)) (pw_or1 (pt_cmpR (op_inDK (K := K) rfl hr.u65) (pe_tup (pa_cons (pv 6) (pa_cons (pv 8) (pa_nil)))) (pv 1) (by rfl))))) (pss_cons (ps_expr (pe_bmK (K := K) rfl PySem.F.plainAttrs_list PySem.F.slot_list_append PySem.F.type_list_append mt_append (pv 5) (pa_cons (pv 7) (pa_nil))))
  (pss_nil)) (pss_cons (ps_set (i := 5) sc__law_ways.nd rfl (by first | exact Or.inl rfl | exact Or.inr rfl) (pe_op op_cat (pv 5) (pe_cal IH hr HK rfl passN (pa_cons (pv 0) (pa_cons (pv 1) (pa_cons (pv 7) (pa_cons (pv 8) (pa_cons (pv 6) (pa_nil)))))))))
  (pss_nil)))
  (pss_nil)))))
  (pss_cons (ps_ret (pv 5))
  (pss_nil)))), fun ⟨ps, sg, way, j, a⟩ B e pre q => ?_⟩
  obtain ⟨h16, ha, hn, hnd, hin, h17⟩ := pre
  have h16 : ps.length ≤ 16 := h16
  have ha : a < ps.length := ha
  have hn : ps.length < way.length + (n + 1) := hn
  have hnd : (way.map Stp.p).Nodup := hnd
  have hin : ∀ s ∈ way, 0 ≤ s.p ∧ s.p < (ps.length : Int) := hin
  have q : ∀ u B2 H2, Ext B H B2 H2 → Is B2 u (.d (.list ((waysN ps sg (n + 1) way j a).map enc))) → Q u H2 := q
  have hway := way_le hnd hin
  refine qx_newL (ds := []) ga_nil (by decide) fun p B2 H2 hp x2 m => ?_
  refine qx_when (b := decide ((a : Int) ∈ way.map Stp.p)) ?_ ?_ ?_
  · refine gt_test (gv_op (gv_var rfl) (y := .d (.list ((way.map Stp.p).map enc))) ?_ ro_inI)
    refine gv_lcM Stp.p (gv_var rfl) (by omega) (by decide) (by decide) fun st _ B2 H2 x2 => ?_
    walk_at "gw"
  · intro hb B3 H3 x3
    refine qx_retM (x2.trans x3) hp (m.ext x3) (gv_var rfl) fun u B4 H4 x4 hu => q u B4 H4 x4 ?_
    have : waysN ps sg (n + 1) way j a = [] := by
      unfold waysN
      exact if_pos (of_decide_eq_true hb)
    rw [this]
    exact hu
  intro hb B3 H3 x3
  have hna : (a : Int) ∉ way.map Stp.p := of_decide_eq_false hb
  have x30 := x2.trans x3
  have m3 := m.ext x3
  obtain ⟨pc, hpc⟩ : ∃ pc, ps[a]? = some pc := ⟨_, List.getElem?_eq_getElem ha⟩
  let Fo : Int → List (List Stp) := fun o => if endsN ps sg a o = true then [way ++ [⟨a, j, o⟩]] else match beyondN ps a o with
        | none => []
        | some b => waysN ps sg n (way ++ [⟨a, j, o⟩]) o b
  have hFl : ∀ o, (Fo o).length ≤ 2 ^ n := fun o => by
    show (if endsN ps sg a o = true then [way ++ [⟨a, j, o⟩]] else match beyondN ps a o with
        | none => []
        | some b => waysN ps sg n (way ++ [⟨a, j, o⟩]) o b).length ≤ 2 ^ n
    split
    · exact Nat.one_le_two_pow
    · split
      · exact Nat.zero_le _
      · exact ways_len ps sg n _ _ _
  have hpow : 2 ^ n ≤ 2 ^ 17 := Nat.pow_le_pow_right (by decide) (by omega)
  have hpl : ∀ k, (((outsN pc j).take k).flatMap Fo).length ≤ 2 * 2 ^ 17 := fun k => by
    have key : ∀ os : List Int, (os.flatMap Fo).length ≤ os.length * 2 ^ n := by
      intro os
      induction os with
      | nil => simp
      | cons o os ih =>
        rw [List.flatMap_cons, List.length_append, List.length_cons, Nat.add_mul, Nat.one_mul, Nat.add_comm]
        exact Nat.add_le_add ih (hFl o)
    refine Nat.le_trans (key _) (Nat.le_trans (Nat.mul_le_mul_right _ (m := 2) ?_) (Nat.mul_le_mul_left _ hpow))
    have := outsN_len pc j
    have h3 : ((outsN pc j).take k).length ≤ (outsN pc j).length := by rw [List.length_take]; omega
    omega
  have hw : waysN ps sg (n + 1) way j a = (outsN pc j).flatMap Fo := by
    show (if (a : Int) ∈ way.map Stp.p then [] else (outsN ((ps[a]?).getD (.plain 0 0)) j).flatMap Fo) = _
    rw [if_neg hna, hpc]
    rfl
  rw [hw] at q
  refine qx_forDE (xs := outsN pc j) ?_ (ι := Addr) (fun t => [some (.d (.list (ps.map enc))), some (.d (.list (sg.map enc))), some (.d (.list (way.map enc))), some (AI (a : Int)), some (AI j), some (.v (.ref t)), none, none, none, none])
    (fun k t B1 H1 => Ext B H B1 H1 ∧ H t = none ∧ Ml B1 H1 t ((((outsN pc j).take k).flatMap Fo).map enc)) p (by walk_at "le") (fun B4 H4 x4 => ⟨x30.trans x4, hp, m3.ext x4⟩) ?_ ?_
  · have hat := atI_map hpc
    exact gv_outs (gv_op (gv_var rfl) (gv_var rfl) (ro_ixL hat)) (gv_var rfl)
  · intro Bs k o t B4 H4 hk s1 s2 ⟨x4, ht, m4⟩
    have htake : ((outsN pc j).take (k + 1)).flatMap Fo = ((outsN pc j).take k).flatMap Fo ++ Fo o := by
      rw [List.take_add_one, hk, List.flatMap_append]
      simp
    have hsz := hpl (k + 1)
    rw [htake, List.length_append] at hsz
    refine qx_asg (g := .d (.list ((way ++ [(⟨a, j, o⟩ : Stp)]).map enc))) ?_ fun B5 H5 x5 => ?_
    · refine gv_is (g := .d (.list (way.map enc ++ [enc (⟨a, j, o⟩ : Stp)]))) ?_ (by rw [List.map_append]; rfl)
      refine gv_op (y := .d (.list [enc (⟨a, j, o⟩ : Stp)])) (gv_var rfl) ?_ (ro_cat (by simp; omega))
      walk_at "gw"
    refine qx_asg (g := .d (oN (beyondN ps a o))) (gv_beyond (gv_var rfl) (gv_var rfl) (gv_var rfl) (by omega)) fun B6 H6 x6 => ?_
    have x46 := x5.trans x6
    have m6 := m4.ext x46
    refine qx_if (b := endsN ps sg a o) ?_ ?_ ?_
    · unfold endsN
      cases hb : beyondN ps a o with
      | none => exact gt_is (gt_or (b := true) (c := false) (gt_test (gv_op (gv_var rfl) gv_non ro_isN)) fun h => by cases h) rfl
      | some k2 => exact gt_is (gt_or (b := false) (c := isin (o, (k2 : Int)) sg) (gt_test (gv_op (gv_var rfl) gv_non ro_isN)) fun _ => gt_test (gv_op (x := .d (enc (o, (k2 : Int)))) (gv_is (gv_tup (ds := [.int o, .int (k2 : Int)]) (ga_cons (gv_var rfl) (ga_cons (gv_var rfl) ga_nil)) (by show 2 ≤ 16000000; decide)) rfl) (gv_var rfl) (ro_inE (α := Sig) (by decide)))) rfl
    · intro hb B7 H7 x7
      have e1 : Fo o = [way ++ [⟨a, j, o⟩]] := if_pos hb
      refine qx_app (m6.ext x7) (gv_var rfl) (gv_var rfl) (by rw [List.length_map]; omega) fun B8 H8 x8 m8 => sx_go ?_
      refine sx_lx t (s2.trans (x46.bb.trans (x7.bb.trans x8.bb))) (by walk_at "le") ⟨(x4.trans (x46.trans x7)).thenF x8 (fun z hz => by rw [hz]; exact ht), ht, ?_⟩
      rw [htake, e1, List.map_append]
      exact m8
    · intro hb B7 H7 x7
      obtain ⟨b, hbe⟩ : ∃ b, beyondN ps a o = some b := by
        cases h : beyondN ps a o with
        | none =>
          unfold endsN at hb
          rw [h] at hb
          cases hb
        | some b => exact ⟨b, rfl⟩
      have e1 : Fo o = waysN ps sg n (way ++ [⟨a, j, o⟩]) o b := by
        show (if endsN ps sg a o = true then [way ++ [⟨a, j, o⟩]] else match beyondN ps a o with
        | none => []
        | some b => waysN ps sg n (way ++ [⟨a, j, o⟩]) o b) = _
        rw [if_neg (by rw [hb]; simp), hbe]
      have hpre : WaysPre n ⟨ps, sg, way ++ [⟨a, j, o⟩], o, b⟩ := by
        refine ⟨h16, beyondN_lt hbe, ?_, ?_, ?_, by omega⟩
        · show ps.length < (way ++ [(⟨a, j, o⟩ : Stp)]).length + n
          rw [List.length_append, List.length_singleton]
          omega
        · show ((way ++ [(⟨a, j, o⟩ : Stp)]).map Stp.p).Nodup
          rw [List.map_append, List.nodup_append]
          refine ⟨hnd, by simp, ?_⟩
          intro x hx y hy e
          simp at hy
          subst hy
          subst e
          exact hna hx
        · intro st hst
          rcases List.mem_append.mp hst with h | h
          · exact hin st h
          · simp at h
            subst h
            show (0 : Int) ≤ (a : Int) ∧ (a : Int) < (ps.length : Int)
            omega
      have m7 := m6.ext x7
      refine qx_asgM (ds := ((((outsN pc j).take (k + 1)).flatMap Fo).map enc)) (fun B8 H8 σ x8 fr Q2 q2 => ?_) fun t2 B8 H8 ht2 x8 m8 => sx_go ?_
      · rw [htake, e1, List.map_append] at q2
        refine gm_catO (m7.ext x8) (gv_var rfl) (gv_waysL (⟨ps, sg, way ++ [⟨a, j, o⟩], o, b⟩ : WaysArg) ?_ hpre) (by rw [List.length_map, List.length_map, ← e1]; omega) B8 H8 σ (Ext.refl x8.bh) fr Q2 q2
        exact ga_cons (gv_var rfl) (ga_cons (gv_var rfl) (ga_cons (gv_var rfl) (ga_cons (gv_is (gv_var rfl) (by rw [hbe]; rfl)) (ga_cons (gv_var rfl) ga_nil))))
      · exact sx_lx t2 (s2.trans (x46.bb.trans (x7.bb.trans x8.bb))) (by walk_at "le") ⟨(x4.trans (x46.trans x7)).trans x8, (x4.trans (x46.trans x7)).hh.free ht2, m8⟩
  · intro t B4 H4 s1 ⟨x4, ht, m4⟩
    rw [List.take_length] at m4
    exact qx_retM x4 ht m4 (gv_var rfl) q
theorem ok_Lways (T : Txt K mg C) (F : Fun K "_law_ways" "_law_ways" s__law_ways f fd) (bF : Binds K fd ["_law_pieces_here", "_law_signals_here", "_law_way", "_law_at", "_law_joint"] []) (mF : mg "_law_ways" = some (.ref f)) (c__law_beyond : Cal P w K mg base CX0 1 "_law_beyond" spBeyond) (c__law_outs : Cal P w K mg base CX0 1 "_law_outs" spOuts) :
    ∀ n : Nat, Cal P w K mg base CX0 (3 + n) "_law_ways" (spWaysL n)
  | 0 => by
    have no : ∀ vs H Q E, ¬ spWaysL 0 vs H Q E := fun vs H Q E h => by
      obtain ⟨a, _, _, _, ⟨_, _, h1, h2, h3, _⟩, _⟩ := h
      have := way_le h2 h3
      omega
    exact Fun.cal F mF bF ⟨fun vs H Q E h => absurd h (no vs H Q E), fun A outer s H args us vs Q E _ _ _ _ h => absurd h (no vs H Q E)⟩
  | n + 1 => Fun.cal F mF bF (ok_Lways_step T F c__law_beyond c__law_outs (ok_Lways T F bF mF c__law_beyond c__law_outs n))
end
end SB
namespace SB
open PySem PySem.Spec PyProof.Rows L2
open Enc (enc)
local macro_rules | `(tactic| walk_at "le") => `(tactic| first | exact le_nil | (refine le_keep ?_; walk_at "le") | (refine le_drop ?_; walk_at "le"))
local macro_rules | `(tactic| walk_at "sd") => `(tactic| first | assumption | (show (_ : Int) < _ ∧ _ < (1073741824 : Int); exact ⟨by omega, by omega⟩) | (show (-(2 ^ 64) < (_ : Int) ∧ _ < (2 ^ 64 : Int)) ∨ _; first | exact .inl ⟨by omega, by omega⟩ | exact .inr ⟨by omega, by omega⟩) | rfl | decide | (simp; done) | omega | skip)
local macro_rules | `(tactic| walk_at "gc") => `(tactic| fail)
local macro_rules | `(tactic| walk_at "gv") => `(tactic| first
  | exact gv_int | exact gv_str | exact gv_bl | exact gv_non | exact gv_var rfl
  | ((with_reducible refine' gv_op ?_ ?_ ?_) <;> walk_at "gv")
  | ((with_reducible refine' ga_cons ?_ ?_) <;> walk_at "gv") | exact ga_nil
  | ((with_reducible refine' gv_cb ?_ ?_) <;> walk_at "gv")
  | ((with_reducible refine' gt_test ?_) <;> walk_at "gv") | ((with_reducible refine' gt_B ?_) <;> walk_at "gv") | ((with_reducible refine' gt_not ?_) <;> walk_at "gv")
  | ((with_reducible refine' gt_and ?k1 ?k2); (case' k1 => walk_at "gv"); (case' k2 => intro hb; walk_at "gv"))
  | ((with_reducible refine' gt_or ?k1 ?k2); (case' k1 => walk_at "gv"); (case' k2 => intro hb; walk_at "gv"))
  | ((with_reducible refine' gv_andV ?k1 ?k2); (case' k1 => walk_at "gv"); (case' k2 => intro hb; walk_at "gv"))
  | ((with_reducible refine' gv_orV ?k1 ?k2); (case' k1 => walk_at "gv"); (case' k2 => intro hb; walk_at "gv"))
  | ((with_reducible refine' gv_notV ?_) <;> walk_at "gv")
  | ((with_reducible refine' gv_slL ?_ ?_ ?_) <;> walk_at "gv") | ((with_reducible refine' gv_slT ?_ ?_ ?_ ?_) <;> walk_at "gv")
  | exact go_none | ((with_reducible refine' go_some ?_) <;> walk_at "gv")
  | exact gd_nil | ((with_reducible refine' gd_cons ?_ ?_) <;> walk_at "gv") | ((with_reducible refine' gv_lst ?_ ?_) <;> walk_at "gv") | ((with_reducible refine' gv_tup ?_ ?_) <;> walk_at "gv")
  | ((with_reducible refine' gv_chain ?_ ?_ ?_ ?_ ?_) <;> walk_at "gv") | ((with_reducible refine' gt_truL ?_) <;> walk_at "gv") | ((with_reducible refine' gv_countI ?_ ?_) <;> walk_at "gv")
  | ((with_reducible refine' gv_lenSetI ?_ ?_) <;> walk_at "gv") | ((with_reducible refine' gv_lenSetU ?_ ?_) <;> walk_at "gv") | ((with_reducible refine' gv_lenSetT ?_ ?_) <;> walk_at "gv")
  | exact gt_yes
  | walk_at "gc"
  | exact ro_I0 | exact ro_B0 | (refine ro_I ?_; walk_at "sd")
  | exact ro_eqI | exact ro_neI | exact ro_eqS | exact ro_neS
  | (refine ro_eq ?_; walk_at "sd") | (refine ro_ne ?_; walk_at "sd")
  | exact ro_isN | exact ro_notN
  | exact ro_inI | exact ro_notInI | exact ro_inTI
  | (refine' ro_ixL ?k1; (case' k1 => walk_at "sd")) | (refine' ro_ixT ?k1; (case' k1 => walk_at "sd"))
  | (refine ro_cat ?_; walk_at "sd")
  | exact rc_lenM | exact rc_len | exact rc_lenT | exact rc_list | exact rc_listT | exact rc_tuple | exact rc_any | exact rc_all | exact rc_max2 | exact rc_min2 | exact rc_intB
  | (show (_ : Nat) ≤ _; first | decide | (simp; done) | omega)
  | (show (_ : Nat) < _; first | decide | (simp; done) | omega)
  | (show ¬ (_ ∧ _); exact fun h => absurd (show (1 : Nat) = 0 from h.1) (by decide))
  | skip)
local macro_rules | `(tactic| walk_at "ge") => `(tactic| (refine' gt_is ?k1 ?k2; (case' k1 => walk_at "gv"); (case' k2 => first | rfl | (simp; done) | skip)))
local macro_rules | `(tactic| walk_at "gw") => `(tactic| (refine' gv_is ?k1 ?k2; (case' k1 => walk_at "gv"); (case' k2 => first | rfl | (simp; done) | skip)))
local macro_rules | `(tactic| walk_at "gj") => `(tactic| first | exact gi_nil | (refine' gi_cons ?g1 ?g2; (case' g1 => walk_at "gv"); (case' g2 => walk_at "gj")))
local macro_rules | `(tactic| walk_at "gi") => `(tactic| (refine' gv_lst ?k1 ?k2; (case' k1 => walk_at "gj"); (case' k2 => (simp; try omega))))
local macro_rules | `(tactic| walk_at "gc") => `(tactic| first | ((with_reducible refine' gv_joints ?_) <;> walk_at "gv") | ((with_reducible refine' gv_beyond ?_ ?_ ?_ ?_) <;> walk_at "gv") | ((with_reducible refine' gv_outs ?_ ?_) <;> walk_at "gv") | ((with_reducible refine' gv_ends ?_ ?_ ?_ ?_ ?_) <;> walk_at "gv"))
/-! ### routes by the law's own search; what a route is -/
section
variable {C : Adr} {P : Program} {w : World} {K : PySem.W.Frag} {mg : Str → Option Value} {base : Heap} {fd : FuncData} {f : Addr}
abbrev s__law_whole : Stmt := top 23
abbrev N__law_whole : List Str := ["_law_found"]
theorem sc__law_whole : FnScope N__law_whole ["_law_found"] (defScope s__law_whole) := ⟨rfl, rfl, rfl, by decide +kernel, rfl, by decide +kernel, by decide +kernel⟩
abbrev s__law_is_route : Stmt := top 30
abbrev N__law_is_route : List Str := ["_law_pieces_here", "_law_signals_here", "_law_one", "_law_joint", "_law_at", "_law_k", "_law_step", "_law_ends", "_law_places", "_law_number"]
theorem sc__law_is_route : FnScope N__law_is_route ["_law_pieces_here", "_law_signals_here", "_law_one"] (defScope s__law_is_route) := ⟨rfl, rfl, rfl, by decide +kernel, rfl, by decide +kernel, by decide +kernel⟩
def spLroutes : Sp := spP (T := List Pc × List Sig) (fun t => [.d (.list (t.1.map enc)), .d (.list (t.2.map enc))]) (fun t _ _ => goodYard t.1 t.2 = true) fun t => .d (.list ((routesN t.1 t.2).map enc))
theorem good_both {ps : List Pc} {sg : List Sig} (h : goodYard ps sg = true) : goodPs ps = true ∧ goodSg ps sg = true := Bool.and_eq_true_iff.mp h
theorem gv_Lroutes {Γ : List (Option AV)} {B H : Hp} {ta tb : TE} {E : XK} {ps : List Pc} {sg : List Sig} (h1 : Gv ta Γ B H (.d (.list (ps.map enc)))) (h2 : Gv tb Γ B H (.d (.list (sg.map enc)))) (hg : goodYard ps sg = true) :
    Gv (tCall spLroutes [] E (tCons ta (tCons tb tNil))) Γ B H (.d (.list ((routesN ps sg).map enc))) := gv_call (ps, sg) (ga_cons h1 (ga_cons h2 ga_nil)) fun _ _ _ => hg
theorem routes_len {ps : List Pc} {sg : List Sig} (h : sg.length ≤ 16) : (routesN ps sg).length ≤ 16 * 2 ^ 17 := by
  unfold routesN
  refine Nat.le_trans (flat_len _ (2 ^ 17) _ fun x _ => ?_) ?_
  · rw [List.length_map]
    exact ways_len ps sg 17 _ _ _
  · rw [List.length_range]
    exact Nat.mul_le_mul_right _ h
theorem ok_Lroutes (T : Txt K mg C) (F : Fun K "_law_routes" "_law_routes" s__law_routes f fd) (c__law_ways : Cal P w K mg base CX0 20 "_law_ways" (spWaysL 17)) : FnOk P w K mg base CX0 21 f fd ["_law_pieces_here", "_law_signals_here"] spLroutes := by
  refine fn_P F sc__law_routes (fun _ => rfl) fun cdv A outer s H Q E hr => ⟨_, pss_cons (ps_set (i := 2) sc__law_routes.nd rfl (by first | exact Or.inl rfl | exact Or.inr rfl) (pe_lst (pa_nil)))
  (pss_cons (ps_for PassesOwn.never rfl (pi_range1 (by rfl) T.n_range (pa_cons (pe_callB (call_lenK (K := K) rfl) (by rfl) T.n_len (by decide +kernel) (pa_cons (pv 1) (pa_nil))) (pa_nil))) (pg_name (i := 3) sc__law_routes.nd rfl (by first | exact Or.inl rfl | exact Or.inr rfl)) (pss_cons (ps_set (i := 2) sc__law_routes.nd rfl (by first | exact Or.inl rfl | exact Or.inr rfl) (pe_op op_cat (pv 2) (pe_lc (own := [("_law_way", 4)]) (g := gName 4) (tt := tYes) (by rfl) sc__law_routes.nd (pi_listK (K := K) rfl (pe_cal c__law_ways hr (by first | decide | omega) rfl passN (pa_cons (pv 0) (pa_cons (pv 1) (pa_cons (pe_lst (pa_nil)) (pa_cons (pe_ix (ix_tupK (K := K) rfl) (pe_ix (ix_listK (K := K) rfl) (pv 1) (pv 3) (fun _ _ => rfl)) (pe_int) (fun _ _ => rfl)) (pa_cons (pe_ix (ix_tupK (K := K) rfl) (pe_ix (ix_listK (K := K) rfl) (pv 1) (pv 3) (fun _ _ => rfl)) (pe_int) (fun _ _ => rfl)) (pa_nil)))))))) (blkOk_by (own := [("_law_way", 4)]) (N := N__law_routes) (sc := defScope s__law_routes) (by decide +kernel)) (fun _ _ _ _ _ => pg_name (i := 4) sc__law_routes.nd rfl (Or.inl rfl)) (fun _ _ _ _ _ => pts_nil) (fun _ _ _ _ _ => pe_tup (pa_cons (pv 3) (pa_cons (pv 4) (pa_nil)))))))
  (pss_nil)))
  (pss_cons (ps_ret (pv 2))
  (pss_nil))), fun ⟨ps, sg⟩ B e hgy q => ?_⟩
  have hgy : goodYard ps sg = true := hgy
  have q : ∀ u B2 H2, Ext B H B2 H2 → Is B2 u (.d (.list ((routesN ps sg).map enc))) → Q u H2 := q
  obtain ⟨hgp, hgs⟩ := good_both hgy
  obtain ⟨hl1, hl16⟩ := good_len hgp
  obtain ⟨hs16, hsig⟩ := good_sg hgs
  refine qx_newL (ds := []) ga_nil (by decide) fun p B4 H4 hp x4 m => ?_
  let Fk : Nat → List (Int × List Stp) := fun k => (waysN ps sg 17 [] ((sg[k]?).getD (0, 0)).1 ((sg[k]?).getD (0, 0)).2.toNat).map fun w => ((k : Int), w)
  have hFk : ∀ k, (Fk k).length ≤ 2 ^ 17 := fun k => by
    show ((waysN ps sg 17 [] _ _).map _).length ≤ _
    rw [List.length_map]
    exact ways_len ps sg 17 _ _ _
  have hpre : ∀ k, k ≤ 16 → ((List.range k).flatMap Fk).length ≤ 16 * 2 ^ 17 := fun k hk => by
    refine Nat.le_trans (flat_len Fk (2 ^ 17) _ fun x _ => hFk x) ?_
    rw [List.length_range]
    exact Nat.mul_le_mul_right _ hk
  refine qx_forRE (n := ((sg.length : Nat) : Int)) (ga_cons (gv_cb (ga_cons (gv_var rfl) ga_nil) rc_lenM) ga_nil) (by omega) (by omega) (ι := Addr) (fun t => [some (.d (.list (ps.map enc))), some (.d (.list (sg.map enc))), some (.v (.ref t)), none, none])
    (fun k t B1 H1 => Ext B H B1 H1 ∧ H t = none ∧ Ml B1 H1 t (((List.range k).flatMap Fk).map enc)) p (by walk_at "le") (fun B5 H5 x5 => ⟨x4.trans x5, hp, m.ext x5⟩) ?_ ?_
  · intro Bs k t B5 H5 hk s1 s2 ⟨x5, ht, m5⟩
    have hk' : k < sg.length := by omega
    obtain ⟨⟨j, a⟩, hja⟩ : ∃ s, sg[k]? = some s := ⟨_, List.getElem?_eq_getElem hk'⟩
    have hmem : (j, a) ∈ sg := List.mem_of_getElem? hja
    obtain ⟨ha0, hal, _⟩ := hsig _ hmem
    have hat := atI_map hja
    have eFk : Fk k = (waysN ps sg 17 [] j a.toNat).map fun w => ((k : Int), w) := by
      show (waysN ps sg 17 [] ((sg[k]?).getD (0, 0)).1 ((sg[k]?).getD (0, 0)).2.toNat).map (fun w => ((k : Int), w)) = _
      rw [hja]
      rfl
    have ea : ((a.toNat : Nat) : Int) = a := by
      have : (0 : Int) ≤ a := ha0
      omega
    have hsz := hpre (k + 1) (by omega)
    rw [List.range_succ, List.flatMap_append, List.flatMap_singleton, List.length_append] at hsz
    have hwl : (waysN ps sg 17 [] j a.toNat).length < 16000000 := by
      have := ways_len ps sg 17 [] j a.toNat
      have : 2 ^ 17 < 16000000 := by decide
      omega
    refine qx_asgM (ds := (((List.range (k + 1)).flatMap Fk).map enc)) (fun B8 H8 σ x8 fr Q2 q2 => ?_) fun t2 B8 H8 ht2 x8 m8 => ?_
    · rw [List.range_succ, List.flatMap_append, List.flatMap_singleton, List.map_append] at q2
      refine gm_catO (m5.ext x8) (gv_var rfl) (gv_is (gv_lcM (xs := waysN ps sg 17 [] j a.toNat) (fun w => ((k : Int), w)) ?_ hwl (by decide) (by decide) fun wy _ B9 H9 x9 => ?_) (by rw [eFk])) (by rw [List.length_map, List.length_map]; omega) B8 H8 σ (Ext.refl x8.bh) fr Q2 q2
      · refine gv_waysL (⟨ps, sg, [], j, a.toNat⟩ : WaysArg) ?_ ⟨hl16, ?_, ?_, List.nodup_nil, fun s hs => by simp at hs, by omega⟩
        · refine ga_cons (gv_var rfl) (ga_cons (gv_var rfl) (ga_cons (gv_lst (ds := []) ga_nil (by decide)) (ga_cons ?_ (ga_cons ?_ ga_nil))))
          · show Gv _ _ B8 H8 (AI ((a.toNat : Nat) : Int))
            rw [ea]
            exact gv_op (x := .d (enc ((j, a) : Sig))) (gv_op (gv_var rfl) (gv_var rfl) (ro_ixL hat)) gv_int (ro_ixT (ds := [.int j, .int a]) rfl)
          · exact gv_op (x := .d (enc ((j, a) : Sig))) (gv_op (gv_var rfl) (gv_var rfl) (ro_ixL hat)) gv_int (ro_ixT (ds := [.int j, .int a]) rfl)
        · show a.toNat < ps.length
          omega
        · show ps.length < 0 + 17
          omega
      · exact gv_is (gv_tup (ds := [.int (k : Int), enc wy]) (ga_cons (gv_var rfl) (ga_cons (gv_var rfl) ga_nil)) (by show 2 ≤ 16000000; decide)) rfl
    · exact sx_lx t2 (s2.trans x8.bb) (by walk_at "le") ⟨x5.trans x8, x5.hh.free ht2, m8⟩
  · intro t B5 H5 s1 ⟨x5, ht, m5⟩
    exact qx_retM x5 ht m5 (gv_var rfl) fun u B6 H6 x6 hu => q u B6 H6 x6 hu
/-! what every found way keeps -/
def walkF (ps : List Pc) (sg : List Sig) : Bool → Option Nat → Int → List Stp → Prop
  | _, none, _, [] => True
  | _, some a, j, [] => ((j, (a : Int)) : Sig) ∈ sg
  | _, none, _, _ :: _ => False
  | fst, some a, j, st :: r => (fst = false → ((j, (a : Int)) : Sig) ∉ sg) ∧ st.p = (a : Int) ∧ st.i = j ∧ (∃ pc, ps[a]? = some pc ∧ st.o ∈ outsN pc j) ∧ walkF ps sg false (beyondN ps a st.o) st.o r
theorem waysN_walk (ps : List Pc) (sg : List Sig) : ∀ (n : Nat) (way : List Stp) (j : Int) (a : Nat), a < ps.length → (way.map Stp.p).Nodup → ∀ fst, (fst = false → ((j, (a : Int)) : Sig) ∉ sg) → ∀ w ∈ waysN ps sg n way j a, ∃ st r, w = way ++ st :: r ∧ walkF ps sg fst (some a) j (st :: r) ∧ (w.map Stp.p).Nodup
  | 0, _, _, _, _, _, _, _, w, h => by simp [waysN] at h
  | n + 1, way, j, a, ha, hnd, fst, hf, w, h => by
    unfold waysN at h
    split at h
    · simp at h
    · rename_i hna
      obtain ⟨o, ho, h⟩ := List.mem_flatMap.mp h
      have hpc : ps[a]? = some ps[a] := List.getElem?_eq_getElem ha
      rw [hpc, Option.getD_some] at ho
      have hnd2 : ((way ++ [(⟨a, j, o⟩ : Stp)]).map Stp.p).Nodup := by
        rw [List.map_append, List.nodup_append]
        refine ⟨hnd, by simp, ?_⟩
        intro x hx y hy e
        simp at hy
        subst hy
        subst e
        exact hna hx
      split at h
      · rename_i he
        simp at h
        subst h
        refine ⟨⟨a, j, o⟩, [], rfl, ⟨hf, rfl, rfl, ⟨_, hpc, ho⟩, ?_⟩, hnd2⟩
        show walkF ps sg false (beyondN ps a o) o []
        unfold endsN at he
        cases hb : beyondN ps (a : Int) o with
        | none => trivial
        | some b =>
          rw [hb] at he
          exact isin_iff.mp he
      · rename_i he
        cases hb : beyondN ps (a : Int) o with
        | none => rw [hb] at h; simp at h
        | some b =>
          rw [hb] at h
          have hob : ((o, (b : Int)) : Sig) ∉ sg := fun q => by
            apply he
            unfold endsN
            rw [hb]
            exact isin_iff.mpr q
          obtain ⟨st, r, e, hw, hn⟩ := waysN_walk ps sg n _ o b (beyondN_lt hb) hnd2 false (fun _ => hob) w h
          refine ⟨⟨a, j, o⟩, st :: r, by rw [e, List.append_assoc]; rfl, ⟨hf, rfl, rfl, ⟨_, hpc, ho⟩, ?_⟩, hn⟩
          show walkF ps sg false (beyondN ps a o) o (st :: r)
          rw [hb]
          exact hw
def RouteOk (ps : List Pc) (sg : List Sig) (t : Int × List Stp) : Prop := ∃ (k : Nat) (j : Int) (a : Nat), t.1 = (k : Int) ∧ sg[k]? = some (j, (a : Int)) ∧ walkF ps sg true (some a) j t.2 ∧ t.2 ≠ [] ∧ (t.2.map Stp.p).Nodup
theorem routesN_ok {ps : List Pc} {sg : List Sig} (h : goodYard ps sg = true) : ∀ t ∈ routesN ps sg, RouteOk ps sg t := fun t ht => by
  obtain ⟨hgp, hgs⟩ := good_both h
  obtain ⟨hs16, hsig⟩ := good_sg hgs
  unfold routesN at ht
  obtain ⟨k, hk, ht⟩ := List.mem_flatMap.mp ht
  obtain ⟨w, hw, e⟩ := List.mem_map.mp ht
  subst e
  have hk : k < sg.length := List.mem_range.mp hk
  obtain ⟨⟨j, a⟩, hja⟩ : ∃ s, sg[k]? = some s := ⟨_, List.getElem?_eq_getElem hk⟩
  rw [hja, Option.getD_some] at hw
  obtain ⟨ha0, hal, _⟩ := hsig _ (List.mem_of_getElem? hja)
  have ha0 : 0 ≤ a := ha0
  have hal : a < (ps.length : Int) := hal
  obtain ⟨st, r, e, hwk, hn⟩ := waysN_walk ps sg 17 [] j a.toNat (by omega) List.nodup_nil true (fun z => by cases z) w hw
  rw [List.nil_append] at e
  refine ⟨k, j, a.toNat, rfl, ?_, ?_, ?_, hn⟩
  · rw [hja, Int.toNat_of_nonneg ha0]
  · show walkF ps sg true (some a.toNat) j w
    rw [e]
    exact hwk
  · show w ≠ []
    rw [e]
    simp
def spWhole : Sp := spP (T := Int) (fun i => [AI i]) (fun _ _ _ => True) fun _ => AB true
theorem ok_whole (T : Txt K mg C) (F : Fun K "_law_whole" "_law_whole" s__law_whole f fd) : FnOk P w K mg base CX0 1 f fd ["_law_found"] spWhole := by
  refine fn_P F sc__law_whole (fun _ => rfl) fun cdv A outer s H Q E hr => ⟨_, pss_cons (ps_ret (pe_and (pe_callB (call_isiQ (K := K) rfl) (by rfl) T.n_isinstance (by decide +kernel) (pa_cons (pv 0) (pa_cons (pe_bltn (v := .ty "int") (u := .type "int") (by rfl) T.n_int (by decide +kernel) rfl) (pa_nil)))) (pe_one (pe_not (pe_callB (call_isiQ (K := K) rfl) (by rfl) T.n_isinstance (by decide +kernel) (pa_cons (pv 0) (pa_cons (pe_bltn (v := .ty "bool") (u := .type "bool") (by rfl) T.n_bool (by decide +kernel) rfl) (pa_nil))))))))
  (pss_nil), fun i B e _ q => ?_⟩
  refine qx_ret (g := AB true) (gv_is (gv_andV (b := true) (c := !false) (gv_cb (ga_cons (gv_var rfl) (ga_cons gv_cls ga_nil)) (rc_isD (t := "int") rfl (by decide +kernel))) fun _ => gv_notV (gv_cb (ga_cons (gv_var rfl) (ga_cons gv_cls ga_nil)) (rc_isD (t := "int") rfl (by decide +kernel)))) rfl) q
theorem gv_whole {Γ : List (Option AV)} {B H : Hp} {ta : TE} {E : XK} {i : Int} (h : Gv ta Γ B H (AI i)) : Gv (tCall spWhole [] E (tCons ta tNil)) Γ B H (AB true) := gv_call i (ga_cons h ga_nil) fun _ _ _ => trivial
def spIsR : Sp := spP (T := List Pc × List Sig × (Int × List Stp)) (fun t => [.d (.list (t.1.map enc)), .d (.list (t.2.1.map enc)), .d (enc t.2.2)]) (fun t _ _ => goodPs t.1 = true ∧ RouteOk t.1 t.2.1 t.2.2) fun _ => AB true
theorem good_nd {ps : List Pc} (h : goodPs ps = true) : ∀ p ∈ ps, p.js.Nodup := fun p hp => by
  unfold goodPs at h
  simp only [Bool.and_eq_true, List.all_eq_true, decide_eq_true_eq] at h
  have := h.1.2 p hp
  exact (nset_iff p.js).mp (by omega)
/-- the law's test of one step -/
theorem step_ok {pc : Pc} {j o : Int} (n : pc.js.Nodup) (h : o ∈ outsN pc j) : (decide (j = o) || (!decide (o ∈ pc.js) || (decide (((pc.js.length : Nat) : Int) = 3) && !decide ((pc.js.headD 0) ∈ [j, o])))) = false := by
  cases pc with
  | plain a c =>
    obtain ⟨h1, h2⟩ := List.mem_filter.mp h
    have h2 : o ≠ j := by simpa using h2
    have h1 : o ∈ (Pc.plain a c).js := h1
    simp [h1, Ne.symm h2]
    intro z
    cases z
  | points t s b =>
    have n : [t, s, b].Nodup := n
    simp at n
    have h0 : o ∈ (if j = t then [s, b] else [t]) := h
    clear h
    by_cases e : j = t
    · subst e
      rw [if_pos rfl] at h0
      simp at h0
      have this : o ∈ (Pc.points j s b).js := by simp [Pc.js, h0]
      have q : j ≠ o := by
        rcases h0 with h | h <;> subst h
        · exact n.1.1
        · exact n.1.2
      rw [decide_eq_true this, decide_eq_false q]
      simp [Pc.js]
    · rw [if_neg e] at h0
      simp at h0
      subst h0
      have this : o ∈ (Pc.points o s b).js := by simp [Pc.js]
      rw [decide_eq_true this, decide_eq_false e]
      simp [Pc.js]
end
end SB
namespace SB
open PySem PySem.Spec PyProof.Rows L2
open Enc (enc)
local macro_rules | `(tactic| walk_at "le") => `(tactic| first | exact le_nil | (refine le_keep ?_; walk_at "le") | (refine le_drop ?_; walk_at "le"))
local macro_rules | `(tactic| walk_at "sd") => `(tactic| first | assumption | (show (_ : Int) < _ ∧ _ < (1073741824 : Int); exact ⟨by omega, by omega⟩) | (show (-(2 ^ 64) < (_ : Int) ∧ _ < (2 ^ 64 : Int)) ∨ _; first | exact .inl ⟨by omega, by omega⟩ | exact .inr ⟨by omega, by omega⟩) | rfl | decide | (simp; done) | omega | skip)
local macro_rules | `(tactic| walk_at "gc") => `(tactic| fail)
local macro_rules | `(tactic| walk_at "gv") => `(tactic| first
  | exact gv_int | exact gv_str | exact gv_bl | exact gv_non | exact gv_var rfl
  | ((with_reducible refine' gv_op ?_ ?_ ?_) <;> walk_at "gv")
  | ((with_reducible refine' ga_cons ?_ ?_) <;> walk_at "gv") | exact ga_nil
  | ((with_reducible refine' gv_cb ?_ ?_) <;> walk_at "gv")
  | ((with_reducible refine' gt_test ?_) <;> walk_at "gv") | ((with_reducible refine' gt_B ?_) <;> walk_at "gv") | ((with_reducible refine' gt_not ?_) <;> walk_at "gv")
  | ((with_reducible refine' gt_and ?k1 ?k2); (case' k1 => walk_at "gv"); (case' k2 => intro hb; walk_at "gv"))
  | ((with_reducible refine' gt_or ?k1 ?k2); (case' k1 => walk_at "gv"); (case' k2 => intro hb; walk_at "gv"))
  | ((with_reducible refine' gv_andV ?k1 ?k2); (case' k1 => walk_at "gv"); (case' k2 => intro hb; walk_at "gv"))
  | ((with_reducible refine' gv_orV ?k1 ?k2); (case' k1 => walk_at "gv"); (case' k2 => intro hb; walk_at "gv"))
  | ((with_reducible refine' gv_notV ?_) <;> walk_at "gv")
  | ((with_reducible refine' gv_slL ?_ ?_ ?_) <;> walk_at "gv") | ((with_reducible refine' gv_slT ?_ ?_ ?_ ?_) <;> walk_at "gv")
  | exact go_none | ((with_reducible refine' go_some ?_) <;> walk_at "gv")
  | exact gd_nil | ((with_reducible refine' gd_cons ?_ ?_) <;> walk_at "gv") | ((with_reducible refine' gv_lst ?_ ?_) <;> walk_at "gv") | ((with_reducible refine' gv_tup ?_ ?_) <;> walk_at "gv")
  | ((with_reducible refine' gv_chain ?_ ?_ ?_ ?_ ?_) <;> walk_at "gv") | ((with_reducible refine' gt_truL ?_) <;> walk_at "gv") | ((with_reducible refine' gv_countI ?_ ?_) <;> walk_at "gv")
  | ((with_reducible refine' gv_lenSetI ?_ ?_) <;> walk_at "gv") | ((with_reducible refine' gv_lenSetU ?_ ?_) <;> walk_at "gv") | ((with_reducible refine' gv_lenSetT ?_ ?_) <;> walk_at "gv")
  | exact gt_yes
  | walk_at "gc"
  | exact ro_I0 | exact ro_B0 | (refine ro_I ?_; walk_at "sd")
  | exact ro_eqI | exact ro_neI | exact ro_eqS | exact ro_neS
  | (refine ro_eq ?_; walk_at "sd") | (refine ro_ne ?_; walk_at "sd")
  | exact ro_isN | exact ro_notN
  | exact ro_inI | exact ro_notInI | exact ro_inTI
  | (refine' ro_ixL ?k1; (case' k1 => walk_at "sd")) | (refine' ro_ixT ?k1; (case' k1 => walk_at "sd"))
  | (refine ro_cat ?_; walk_at "sd")
  | exact rc_lenM | exact rc_len | exact rc_lenT | exact rc_list | exact rc_listT | exact rc_tuple | exact rc_any | exact rc_all | exact rc_max2 | exact rc_min2 | exact rc_intB
  | (show (_ : Nat) ≤ _; first | decide | (simp; done) | omega)
  | (show (_ : Nat) < _; first | decide | (simp; done) | omega)
  | (show ¬ (_ ∧ _); exact fun h => absurd (show (1 : Nat) = 0 from h.1) (by decide))
  | skip)
local macro_rules | `(tactic| walk_at "ge") => `(tactic| (refine' gt_is ?k1 ?k2; (case' k1 => walk_at "gv"); (case' k2 => first | rfl | (simp; done) | skip)))
local macro_rules | `(tactic| walk_at "gw") => `(tactic| (refine' gv_is ?k1 ?k2; (case' k1 => walk_at "gv"); (case' k2 => first | rfl | (simp; done) | skip)))
local macro_rules | `(tactic| walk_at "gj") => `(tactic| first | exact gi_nil | (refine' gi_cons ?g1 ?g2; (case' g1 => walk_at "gv"); (case' g2 => walk_at "gj")))
local macro_rules | `(tactic| walk_at "gi") => `(tactic| (refine' gv_lst ?k1 ?k2; (case' k1 => walk_at "gj"); (case' k2 => (simp; try omega))))
local macro_rules | `(tactic| walk_at "gc") => `(tactic| first | ((with_reducible refine' gv_joints ?_) <;> walk_at "gv") | ((with_reducible refine' gv_beyond ?_ ?_ ?_ ?_) <;> walk_at "gv") | ((with_reducible refine' gv_outs ?_ ?_) <;> walk_at "gv") | ((with_reducible refine' gv_ends ?_ ?_ ?_ ?_ ?_) <;> walk_at "gv"))
/-! ### the law's test of a route -/
section
variable {C : Adr} {P : Program} {w : World} {K : PySem.W.Frag} {mg : Str → Option Value} {base : Heap} {fd : FuncData} {f : Addr}
theorem pc_hd (pc : Pc) : atI (pc.js.map enc) 0 = some (enc (pc.js.headD 0)) := by cases pc <;> rfl
theorem ok_is_route (T : Txt K mg C) (F : Fun K "_law_is_route" "_law_is_route" s__law_is_route f fd) (c__law_whole : Cal P w K mg base CX0 1 "_law_whole" spWhole) (c__law_beyond : Cal P w K mg base CX0 1 "_law_beyond" spBeyond) :
    FnOk P w K mg base CX0 2 f fd ["_law_pieces_here", "_law_signals_here", "_law_one"] spIsR := by
  refine fn_P F sc__law_is_route (fun _ => rfl) fun cdv A outer s H Q E hr => ⟨_, pss_cons (ps_if (PW.pt (pw_or (pt_not (pt_val (pe_callB (call_isiQ (K := K) rfl) (by rfl) T.n_isinstance (by decide +kernel) (pa_cons (pv 2) (pa_cons (pe_bltn (v := .ty "tuple") (u := .type "tuple") (by rfl) T.n_tuple (by decide +kernel) rfl) (pa_nil)))))) (pw_or (pt_cmpR op_ne (pe_callB (call_lenK (K := K) rfl) (by rfl) T.n_len (by decide +kernel) (pa_cons (pv 2) (pa_nil))) (pe_int) (nomark _)) (pw_or (pt_not (pt_val (pe_cal c__law_whole hr (by first | decide | omega) rfl passN (pa_cons (pe_ix (ix_tupK (K := K) rfl) (pv 2) (pe_int) (fun _ _ => rfl)) (pa_nil))))) (pw_or1 (pt_not (pt_val (pe_callB (call_isiQ (K := K) rfl) (by rfl) T.n_isinstance (by decide +kernel) (pa_cons (pe_ix (ix_tupK (K := K) rfl) (pv 2) (pe_int) (fun _ _ => rfl)) (pa_cons (pe_bltn (v := .ty "list") (u := .type "list") (by rfl) T.n_list (by decide +kernel) rfl) (pa_nil))))))))))) (pss_cons (ps_ret (pe_bl))
  (pss_nil)) (pss_nil))
  (pss_cons (ps_asg (pe_ix (ix_listK (K := K) rfl) (pv 1) (pe_ix (ix_tupK (K := K) rfl) (pv 2) (pe_int) (fun _ _ => rfl)) (fun _ _ => rfl)) (pg_tupK (K := K) rfl rfl (pgs_cons (pg_name (i := 3) sc__law_is_route.nd rfl (by first | exact Or.inl rfl | exact Or.inr rfl)) (pgs_cons (pg_name (i := 4) sc__law_is_route.nd rfl (by first | exact Or.inl rfl | exact Or.inr rfl)) (pgs_nil)))))
  (pss_cons (ps_for PassesOwn.never rfl (pi_range1 (by rfl) T.n_range (pa_cons (pe_callB (call_lenK (K := K) rfl) (by rfl) T.n_len (by decide +kernel) (pa_cons (pe_ix (ix_tupK (K := K) rfl) (pv 2) (pe_int) (fun _ _ => rfl)) (pa_nil))) (pa_nil))) (pg_name (i := 5) sc__law_is_route.nd rfl (by first | exact Or.inl rfl | exact Or.inr rfl)) (pss_cons (ps_set (i := 6) sc__law_is_route.nd rfl (by first | exact Or.inl rfl | exact Or.inr rfl) (pe_ix (ix_listK (K := K) rfl) (pe_ix (ix_tupK (K := K) rfl) (pv 2) (pe_int) (fun _ _ => rfl)) (pv 5) (fun _ _ => rfl)))
  (pss_cons (ps_if (PW.pt (pw_or (pt_not (pt_val (pe_callB (call_isiQ (K := K) rfl) (by rfl) T.n_isinstance (by decide +kernel) (pa_cons (pv 6) (pa_cons (pe_bltn (v := .ty "tuple") (u := .type "tuple") (by rfl) T.n_tuple (by decide +kernel) rfl) (pa_nil)))))) (pw_or (pt_cmpR op_ne (pe_callB (call_lenK (K := K) rfl) (by rfl) T.n_len (by decide +kernel) (pa_cons (pv 6) (pa_nil))) (pe_int) (nomark _)) (pw_or1 (pt_not (pt_val (pe_callB (cr_allK (K := K) rfl rfl) (by rfl) T.n_all (by decide +kernel) (pa_cons (pe_lc (own := [("_law_number", 9)]) (g := gName 9) (tt := tYes) (by rfl) sc__law_is_route.nd (pi_tupK (K := K) rfl (pv 6)) (blkOk_by (own := [("_law_number", 9)]) (N := N__law_is_route) (sc := defScope s__law_is_route) (by decide +kernel)) (fun _ _ _ _ _ => pg_name (i := 9) sc__law_is_route.nd rfl (Or.inl rfl)) (fun _ _ _ _ _ => pts_nil) (fun _ _ _ _ _ => pe_cal c__law_whole hr (by first | decide | omega) rfl passN (pa_cons (pv 9) (pa_nil)))) (pa_nil))))))))) (pss_cons (ps_ret (pe_bl))
  (pss_nil)) (pss_nil))
  (pss_cons (ps_if (PW.pt (pw_or (pt_cmpR (op_neDK (K := K) rfl hr.units) (pe_slice (sl_tupK (K := K) rfl) (pv 6) (po_none) (po_some (pe_int))) (pe_tup (pa_cons (pv 4) (pa_cons (pv 3) (pa_nil)))) (nomark _)) (pw_or1 (PW.pt (pw_and (pt_cmpR op_gt (pv 5) (pe_int) (nomark _)) (pw_and1 (pt_cmpR (op_inDK (K := K) rfl hr.u65) (pe_tup (pa_cons (pv 3) (pa_cons (pv 4) (pa_nil)))) (pv 1) (by rfl)))))))) (pss_cons (ps_ret (pe_bl))
  (pss_nil)) (pss_nil))
  (pss_cons (ps_set (i := 7) sc__law_is_route.nd rfl (by first | exact Or.inl rfl | exact Or.inr rfl) (pe_slice (sl_tupK (K := K) rfl) (pe_ix (ix_listK (K := K) rfl) (pv 0) (pv 4) (fun _ _ => rfl)) (po_some (pe_int)) (po_none)))
  (pss_cons (ps_if (PW.pt (pw_or (pt_cmpR op_eq (pv 3) (pe_ix (ix_tupK (K := K) rfl) (pv 6) (pe_int) (fun _ _ => rfl)) (nomark _)) (pw_or (pt_cmpR (op_notInK (K := K) rfl) (pe_ix (ix_tupK (K := K) rfl) (pv 6) (pe_int) (fun _ _ => rfl)) (pv 7) (by rfl)) (pw_or1 (PW.pt (pw_and (pt_cmpR op_eq (pe_callB (call_lenK (K := K) rfl) (by rfl) T.n_len (by decide +kernel) (pa_cons (pv 7) (pa_nil))) (pe_int) (nomark _)) (pw_and1 (pt_cmpR (op_notInK (K := K) rfl) (pe_ix (ix_tupK (K := K) rfl) (pv 7) (pe_int) (fun _ _ => rfl)) (pe_tup (pa_cons (pv 3) (pa_cons (pe_ix (ix_tupK (K := K) rfl) (pv 6) (pe_int) (fun _ _ => rfl)) (pa_nil)))) (by rfl))))))))) (pss_cons (ps_ret (pe_bl))
  (pss_nil)) (pss_nil))
  (pss_cons (ps_set (i := 3) sc__law_is_route.nd rfl (by first | exact Or.inl rfl | exact Or.inr rfl) (pe_ix (ix_tupK (K := K) rfl) (pv 6) (pe_int) (fun _ _ => rfl)))
  (pss_cons (ps_set (i := 4) sc__law_is_route.nd rfl (by first | exact Or.inl rfl | exact Or.inr rfl) (pe_cal c__law_beyond hr (by first | decide | omega) rfl passN (pa_cons (pv 0) (pa_cons (pv 4) (pa_cons (pv 3) (pa_nil))))))
  (pss_nil)))))))))
  (pss_cons (ps_setLc (i := 8) (own := [("_law_step", 6)]) (g := gName 6) (tt := tYes) (by rfl) sc__law_is_route.nd rfl rfl (sw_true rfl rfl rfl (by decide +kernel)) (pi_listK (K := K) rfl (pe_ix (ix_tupK (K := K) rfl) (pv 2) (pe_int) (fun _ _ => rfl))) (blkOk_by (own := [("_law_step", 6)]) (N := N__law_is_route) (sc := defScope s__law_is_route) (by decide +kernel)) (fun _ _ _ _ _ => pg_name (i := 6) sc__law_is_route.nd rfl (Or.inl rfl)) (fun _ _ _ _ _ => pts_nil) (fun _ _ _ _ _ => pe_ix (ix_tupK (K := K) rfl) (pv 6) (pe_int) (fun _ _ => rfl)))
  (pss_cons (ps_ret (pe_and (pe_chain op_eq op_gt (pe_lenSetIK (K := K) rfl (by rfl) T.n_len (by rfl) T.n_set (pv 8)) (pe_callB (call_lenK (K := K) rfl) (by rfl) T.n_len (by decide +kernel) (pa_cons (pv 8) (pa_nil))) (pe_int)) (pe_one (pe_or (pe_cmpR op_isN (pv 4) (pe_non) (nomark _)) (pe_one (pe_cmpR (op_inDK (K := K) rfl hr.u65) (pe_tup (pa_cons (pv 3) (pa_cons (pv 4) (pa_nil)))) (pv 1) (by rfl)))))))
  (pss_nil))))), fun ⟨ps, sg, k0, wy⟩ B e hpre q => ?_⟩
  obtain ⟨hgp, k1, j, a, ek, hja, hwk, hne, hnd⟩ := hpre
  have hgp : goodPs ps = true := hgp
  have ek : k0 = (k1 : Int) := ek
  subst ek
  have hwk : walkF ps sg true (some a) j wy := hwk
  have hne : wy ≠ [] := hne
  have hnd : (wy.map Stp.p).Nodup := hnd
  have q : ∀ u B2 H2, Ext B H B2 H2 → Is B2 u (AB true) → Q u H2 := q
  obtain ⟨hl1, hl16⟩ := good_len hgp
  have hl16 : ps.length ≤ 16 := hl16
  have hpn := good_nd hgp
  have hwl : wy.length ≤ 16 := by
    have key : ∀ (l : List Stp) (fst : Bool) (o : Option Nat) (j : Int), walkF ps sg fst o j l → ∀ st ∈ l, 0 ≤ st.p ∧ st.p < (ps.length : Int) := by
      intro l
      induction l with
      | nil => intro _ _ _ _ st h; simp at h
      | cons s r ih =>
        intro fst o j h st hm
        cases o with
        | none => exact h.elim
        | some a =>
          obtain ⟨_, hp, _, ⟨pc, hpc, _⟩, hr⟩ := h
          rcases List.mem_cons.mp hm with h | h
          · subst h
            have := (List.getElem?_eq_some_iff.mp hpc).1
            omega
          · exact ih _ _ _ hr st h
    have := way_le hnd (key wy true (some a) j hwk)
    omega
  refine qx_no (b := !true || (!decide ((2 : Int) = 2) || (!true || !true))) ?_ rfl fun B2 H2 x2 => sx_go ?_
  · refine gt_or (gt_not (gt_test (gv_cb (ga_cons (gv_var rfl) (ga_cons gv_cls ga_nil)) (rc_isD (t := "tuple") rfl (by decide +kernel))))) fun _ => gt_or (gt_test (gv_op (gv_cb (ga_cons (gv_var rfl) ga_nil) (rc_lenT (ds := [.int (k1 : Int), enc wy]))) gv_int ro_neI)) fun _ =>
      gt_or (gt_not (gt_test (gv_whole (gv_op (gv_var rfl) gv_int (ro_ixT (ds := [.int (k1 : Int), enc wy]) rfl))))) fun _ => gt_not (gt_test (gv_cb (ga_cons (gv_op (gv_var rfl) gv_int (ro_ixT (ds := [.int (k1 : Int), enc wy]) (d := enc wy) rfl)) (ga_cons gv_cls ga_nil)) (rc_isD (t := "list") rfl (by decide +kernel))))
  refine qx_asg2 (d1 := .int j) (d2 := .int (a : Int)) (gv_op (gv_var rfl) (gv_op (gv_var rfl) gv_int (ro_ixT (ds := [.int (k1 : Int), enc wy]) rfl)) (ro_ixL (atI_map hja))) fun B3 H3 x3 => ?_
  have x03 := x2.trans x3
  refine qx_forRE (n := ((wy.length : Nat) : Int)) (ga_cons (gv_cb (ga_cons (gv_op (gv_var rfl) gv_int (ro_ixT (ds := [.int (k1 : Int), enc wy]) (d := enc wy) rfl)) ga_nil) rc_lenM) ga_nil) (by omega) (by omega) (ι := Int × Option Nat)
    (fun t => [some (.d (.list (ps.map enc))), some (.d (.list (sg.map enc))), some (.d (enc (((k1 : Int), wy) : Int × List Stp))), some (AI t.1), some (.d (oN t.2)), none, none, none, none, none])
    (fun k t B1 H1 => Ext B H B1 H1 ∧ walkF ps sg (k == 0) t.2 t.1 (wy.drop k)) (j, some a) (by walk_at "le") (fun B4 H4 x4 => ⟨x03.trans x4, hwk⟩) ?_ ?_
  · rintro Bs k ⟨jj, oa⟩ B4 H4 hk s1 s2 ⟨x4, hw⟩
    have hk' : k < wy.length := by omega
    have hst : wy[k]? = some wy[k] := List.getElem?_eq_getElem hk'
    have hw : walkF ps sg (k == 0) oa jj (wy.drop k) := hw
    rw [List.drop_eq_getElem_cons hk'] at hw
    generalize wy[k] = st at hw hst
    cases oa with
    | none => exact hw.elim
    | some aa =>
      obtain ⟨hns, hsp, hsi, ⟨pc, hpc, hout⟩, hrest⟩ := hw
      obtain ⟨sp, si, so⟩ := st
      have hsp : sp = (aa : Int) := hsp
      have hsi : si = jj := hsi
      subst hsp hsi
      have hout : so ∈ outsN pc si := hout
      have hrest : walkF ps sg false (beyondN ps (aa : Int) so) so (wy.drop (k + 1)) := hrest
      have hpc1 := hpn pc (List.mem_of_getElem? hpc)
      have hpa := atI_map hpc
      refine qx_asg (g := .d (enc (⟨(aa : Int), si, so⟩ : Stp))) (gv_op (gv_op (gv_var rfl) gv_int (ro_ixT (ds := [.int (k1 : Int), enc wy]) (d := enc wy) rfl)) (gv_var rfl) (ro_ixL (atI_map hst))) fun B5 H5 x5 => ?_
      have six : ∀ {Γ : List (Option AV)} {B H : Hp} {i : Nat}, Γ[i]? = some (some (.d (enc (⟨(aa : Int), si, so⟩ : Stp)))) → Gv (tOp (rIxT K) (tVar i) (tC (.int 2))) Γ B H (AI so) := fun h => gv_op (gv_var h) gv_int (ro_ixT (ds := [.int (aa : Int), .int si, .int so]) rfl)
      refine qx_no (b := !true || (!decide ((3 : Int) = 3) || !true)) ?_ rfl fun B6 H6 x6 => sx_go ?_
      · refine gt_or (gt_not (gt_test (gv_cb (ga_cons (gv_var rfl) (ga_cons gv_cls ga_nil)) (rc_isD (t := "tuple") rfl (by decide +kernel))))) fun _ => gt_or (gt_test (gv_op (gv_cb (ga_cons (gv_var rfl) ga_nil) (rc_lenT (ds := [.int (aa : Int), .int si, .int so]))) gv_int ro_neI)) fun _ =>
          gt_not (gt_test (gv_is (gv_cb (ga_cons (gv_lcTM (xs := [(aa : Int), si, so]) (fun _ => true) (gv_var rfl) (by show 3 < 16000000; decide) (by decide) (by decide) fun z _ B7 H7 x7 => gv_whole (gv_var rfl)) ga_nil) (rc_all (bs := [true, true, true]))) rfl))
      refine qx_no (b := !decide (((aa : Int), si) = ((aa : Int), si)) || (decide ((0 : Int) < (k : Int)) && isin ((si, (aa : Int)) : Sig) sg)) ?_ ?_ fun B7 H7 x7 => sx_go ?_
      · refine gt_or (gt_test (gv_op (x := .d (enc (((aa : Int), si) : Int × Int))) (y := .d (enc (((aa : Int), si) : Int × Int))) (gv_is (gv_slT (ds := [.int (aa : Int), .int si, .int so]) (gv_var rfl) go_none (go_some gv_int) (fun h => absurd (show (2 : Nat) = 3 from h.2) (by decide))) rfl) (gv_is (gv_tup (ds := [.int (aa : Int), .int si]) (ga_cons (gv_var rfl) (ga_cons (gv_var rfl) ga_nil)) (by show 2 ≤ 16000000; decide)) rfl) (ro_neE (by decide)))) fun _ =>
          gt_and (gt_test (gv_op (gv_var rfl) gv_int ro_B0)) fun _ => gt_test (gv_op (x := .d (enc ((si, (aa : Int)) : Sig))) (gv_is (gv_tup (ds := [.int si, .int (aa : Int)]) (ga_cons (gv_var rfl) (ga_cons (gv_var rfl) ga_nil)) (by show 2 ≤ 16000000; decide)) rfl) (gv_var rfl) (ro_inE (α := Sig) (by decide)))
      · rw [decide_eq_true rfl, Bool.not_true, Bool.false_or]
        cases hk0 : decide ((0 : Int) < (k : Int)) with
        | false => rfl
        | true =>
          have : 0 < k := by have := of_decide_eq_true hk0; omega
          have hb : (k == 0) = false := by simp; omega
          have := hns hb
          show isin _ _ = false
          rw [← Bool.not_eq_true, isin_iff]
          exact this
      refine qx_asg (g := .d (.tuple (pc.js.map enc))) (gv_tl (gv_op (gv_var rfl) (gv_var rfl) (ro_ixL hpa))) fun B8 H8 x8 => ?_
      refine qx_no (b := decide (si = so) || (!decide (so ∈ pc.js) || (decide (((pc.js.length : Nat) : Int) = 3) && !decide ((pc.js.headD 0) ∈ [si, so])))) ?_ (step_ok hpc1 hout) fun B9 H9 x9 => sx_go ?_
      · refine gt_or (gt_test (gv_op (gv_var rfl) (six rfl) ro_eqI)) fun _ => gt_or (gt_test (gv_op (six rfl) (gv_var rfl) ro_notInTI)) fun _ => gt_and (gt_test (gv_op (gv_is (gv_cb (ga_cons (gv_var rfl) ga_nil) rc_lenT) (by rw [List.length_map])) gv_int ro_eqI)) fun _ =>
          gt_test (gv_op (gv_op (gv_var rfl) gv_int (ro_ixT (pc_hd pc))) (gv_tup (ds := [si, so].map PyData.int) (ga_cons (gv_var rfl) (ga_cons (six rfl) ga_nil)) (by show 2 ≤ 16000000; decide)) ro_notInTI)
      refine qx_asg (g := AI so) (six rfl) fun B10 H10 x10 => ?_
      refine qx_asg (g := .d (oN (beyondN ps (aa : Int) so))) (gv_beyond (gv_var rfl) (gv_var rfl) (gv_var rfl) (by omega)) fun B11 H11 x11 => ?_
      have xx := x5.trans (x6.trans (x7.trans (x8.trans (x9.trans (x10.trans x11)))))
      exact sx_lx (so, beyondN ps (aa : Int) so) (s2.trans xx.bb) (by walk_at "le") ⟨x4.trans xx, hrest⟩
  · rintro ⟨jj, oa⟩ B4 H4 s1 ⟨x4, hw⟩
    have hw : walkF ps sg (wy.length == 0) oa jj (wy.drop wy.length) := hw
    rw [List.drop_length] at hw
    refine qx_asg (g := .d (.list ((wy.map Stp.p).map enc))) (gv_lcM Stp.p (gv_op (gv_var rfl) gv_int (ro_ixT (ds := [.int (k1 : Int), enc wy]) (d := enc wy) rfl)) (by omega) (by decide) (by decide) fun st _ B5 H5 x5 => gv_op (gv_var rfl) gv_int (ro_ixT (ds := [.int st.p, .int st.i, .int st.o]) rfl)) fun B5 H5 x5 => ?_
    have hns : nset (wy.map Stp.p) = (wy.map Stp.p).length := (nset_iff _).mpr hnd
    have hpos : 0 < wy.length := by cases wy with | nil => exact absurd rfl hne | cons => simp
    have hpl : (wy.map Stp.p).length = wy.length := List.length_map _
    refine qx_ret (g := AB true) (gv_is (gv_andV (b := decide (((nset (wy.map Stp.p) : Nat) : Int) = (((wy.map Stp.p).length : Nat) : Int)) && decide ((0 : Int) < (((wy.map Stp.p).length : Nat) : Int))) (c := true) (gv_chain (gv_lenSetI (gv_var rfl) (by omega)) (gv_cb (ga_cons (gv_var rfl) ga_nil) rc_lenM) gv_int ro_eqI ro_B0) fun _ => ?_) ?_) fun u B6 H6 x6 hu => q u B6 H6 (x4.trans (x5.trans x6)) hu
    · cases oa with
      | none => exact gv_is (gv_orV (b := true) (c := false) (gv_op (gv_var rfl) gv_non ro_isN) fun h => by cases h) rfl
      | some aa =>
        have hw : ((jj, (aa : Int)) : Sig) ∈ sg := hw
        refine gv_is (gv_orV (b := false) (c := isin ((jj, (aa : Int)) : Sig) sg) (gv_op (gv_var rfl) gv_non ro_isN) fun _ => gv_op (x := .d (enc ((jj, (aa : Int)) : Sig))) (gv_is (gv_tup (ds := [.int jj, .int (aa : Int)]) (ga_cons (gv_var rfl) (ga_cons (gv_var rfl) ga_nil)) (by show 2 ≤ 16000000; decide)) rfl) (gv_var rfl) (ro_inE (α := Sig) (by decide))) ?_
        rw [isin_iff.mpr hw]
        rfl
    · rw [decide_eq_true (by rw [hns]), decide_eq_true (by omega)]
      rfl
end
end SB
namespace SB
open PySem PySem.Spec PyProof.Rows L2
open Enc (enc)
local macro_rules | `(tactic| walk_at "le") => `(tactic| first | exact le_nil | (refine le_keep ?_; walk_at "le") | (refine le_drop ?_; walk_at "le"))
local macro_rules | `(tactic| walk_at "sd") => `(tactic| first | assumption | (show (_ : Int) < _ ∧ _ < (1073741824 : Int); exact ⟨by omega, by omega⟩) | (show (-(2 ^ 64) < (_ : Int) ∧ _ < (2 ^ 64 : Int)) ∨ _; first | exact .inl ⟨by omega, by omega⟩ | exact .inr ⟨by omega, by omega⟩) | rfl | decide | (simp; done) | omega | skip)
local macro_rules | `(tactic| walk_at "gc") => `(tactic| fail)
local macro_rules | `(tactic| walk_at "gv") => `(tactic| first
  | exact gv_int | exact gv_str | exact gv_bl | exact gv_non | exact gv_var rfl
  | ((with_reducible refine' gv_op ?_ ?_ ?_) <;> walk_at "gv")
  | ((with_reducible refine' ga_cons ?_ ?_) <;> walk_at "gv") | exact ga_nil
  | ((with_reducible refine' gv_cb ?_ ?_) <;> walk_at "gv")
  | ((with_reducible refine' gt_test ?_) <;> walk_at "gv") | ((with_reducible refine' gt_B ?_) <;> walk_at "gv") | ((with_reducible refine' gt_not ?_) <;> walk_at "gv")
  | ((with_reducible refine' gt_and ?k1 ?k2); (case' k1 => walk_at "gv"); (case' k2 => intro hb; walk_at "gv"))
  | ((with_reducible refine' gt_or ?k1 ?k2); (case' k1 => walk_at "gv"); (case' k2 => intro hb; walk_at "gv"))
  | ((with_reducible refine' gv_andV ?k1 ?k2); (case' k1 => walk_at "gv"); (case' k2 => intro hb; walk_at "gv"))
  | ((with_reducible refine' gv_orV ?k1 ?k2); (case' k1 => walk_at "gv"); (case' k2 => intro hb; walk_at "gv"))
  | ((with_reducible refine' gv_notV ?_) <;> walk_at "gv")
  | ((with_reducible refine' gv_slL ?_ ?_ ?_) <;> walk_at "gv") | ((with_reducible refine' gv_slT ?_ ?_ ?_ ?_) <;> walk_at "gv")
  | exact go_none | ((with_reducible refine' go_some ?_) <;> walk_at "gv")
  | exact gd_nil | ((with_reducible refine' gd_cons ?_ ?_) <;> walk_at "gv") | ((with_reducible refine' gv_lst ?_ ?_) <;> walk_at "gv") | ((with_reducible refine' gv_tup ?_ ?_) <;> walk_at "gv")
  | ((with_reducible refine' gv_chain ?_ ?_ ?_ ?_ ?_) <;> walk_at "gv") | ((with_reducible refine' gt_truL ?_) <;> walk_at "gv") | ((with_reducible refine' gv_countI ?_ ?_) <;> walk_at "gv")
  | ((with_reducible refine' gv_lenSetI ?_ ?_) <;> walk_at "gv") | ((with_reducible refine' gv_lenSetU ?_ ?_) <;> walk_at "gv") | ((with_reducible refine' gv_lenSetT ?_ ?_) <;> walk_at "gv")
  | exact gt_yes
  | walk_at "gc"
  | exact ro_I0 | exact ro_B0 | (refine ro_I ?_; walk_at "sd")
  | exact ro_eqI | exact ro_neI | exact ro_eqS | exact ro_neS
  | (refine ro_eq ?_; walk_at "sd") | (refine ro_ne ?_; walk_at "sd")
  | exact ro_isN | exact ro_notN
  | exact ro_inI | exact ro_notInI | exact ro_inTI
  | (refine' ro_ixL ?k1; (case' k1 => walk_at "sd")) | (refine' ro_ixT ?k1; (case' k1 => walk_at "sd"))
  | (refine ro_cat ?_; walk_at "sd")
  | exact rc_lenM | exact rc_len | exact rc_lenT | exact rc_list | exact rc_listT | exact rc_tuple | exact rc_any | exact rc_all | exact rc_max2 | exact rc_min2 | exact rc_intB
  | (show (_ : Nat) ≤ _; first | decide | (simp; done) | omega)
  | (show (_ : Nat) < _; first | decide | (simp; done) | omega)
  | (show ¬ (_ ∧ _); exact fun h => absurd (show (1 : Nat) = 0 from h.1) (by decide))
  | skip)
local macro_rules | `(tactic| walk_at "ge") => `(tactic| (refine' gt_is ?k1 ?k2; (case' k1 => walk_at "gv"); (case' k2 => first | rfl | (simp; done) | skip)))
local macro_rules | `(tactic| walk_at "gw") => `(tactic| (refine' gv_is ?k1 ?k2; (case' k1 => walk_at "gv"); (case' k2 => first | rfl | (simp; done) | skip)))
local macro_rules | `(tactic| walk_at "gj") => `(tactic| first | exact gi_nil | (refine' gi_cons ?g1 ?g2; (case' g1 => walk_at "gv"); (case' g2 => walk_at "gj")))
local macro_rules | `(tactic| walk_at "gi") => `(tactic| (refine' gv_lst ?k1 ?k2; (case' k1 => walk_at "gj"); (case' k2 => (simp; try omega))))
local macro_rules | `(tactic| walk_at "gc") => `(tactic| first | ((with_reducible refine' gv_joints ?_) <;> walk_at "gv") | ((with_reducible refine' gv_beyond ?_ ?_ ?_ ?_) <;> walk_at "gv") | ((with_reducible refine' gv_outs ?_ ?_) <;> walk_at "gv") | ((with_reducible refine' gv_ends ?_ ?_ ?_ ?_ ?_) <;> walk_at "gv"))
/-! ### a yard's ways; the law -/
section
variable {C : Adr} {P : Program} {w : World} {K : PySem.W.Frag} {mg : Str → Option Value} {base : Heap} {fd : FuncData} {f : Addr}
abbrev s_Yard_ways : Stmt := inClass (top 19) 2
abbrev N_Yard_ways : List Str := ["self", "one"]
theorem sc_Yard_ways : FnScope N_Yard_ways ["self"] (defScope s_Yard_ways) := ⟨rfl, rfl, rfl, by decide +kernel, rfl, by decide +kernel, by decide +kernel⟩
abbrev s_law : Stmt := top 31
abbrev N_law : List Str := ["_law_script", "_law_pieces_here", "_law_signals_here", "_law_handed", "_law_found", "_law_yard", "_law_told", "_law_one"]
theorem sc_law : FnScope N_law ["_law_script"] (defScope s_law) := ⟨rfl, rfl, rfl, by decide +kernel, rfl, by decide +kernel, by decide +kernel⟩
def rowD (r : Int × List Stp) : Int × List PyData := (r.1, r.2.map enc)
/-- yard.ways(): new lists all through -/
def spWY (C : Adr) : Sp := fun vs H Q _ => ∃ (y dx : Addr) (fs : List (Str × V)) (v : V) (rs : List (Int × List Stp)) (B : Hp), Same B H ∧ vs = [.ref y] ∧ H y = some (.ins C.Yard dx fs) ∧ fs.lookup ("routes" : Str) = some v ∧ Dq B v (.list (rs.map enc)) ∧ rs.length < 16000000 ∧
  ∀ t ps ls B2 H2, Ext B H B2 H2 → H t = none → (∀ p ∈ ps, H p = none) → (∀ l ∈ ls, H l = none) → Told B2 H2 t ps ls (rs.map rowD) → Q (.ref t) H2
theorem ok_waysY (T : Txt K mg C) (F : Fun K "ways" "Yard.ways" s_Yard_ways f fd) : FnOk P w K mg base CX0 1 f fd ["self"] (spWY C) := by
  refine F.ok sc_Yard_ways (fun vs H Q E h => ?_) (fun cdv A outer s H vs Q E hr h => ?_)
  · obtain ⟨y, dx, fs, v, rs, B, _, rfl, _⟩ := h
    rfl
  obtain ⟨y, dx, fs, v, rs, B, e, rfl, hy, hf, hv, hz, q⟩ := h
  refine ⟨_, pss_cons (ps_ret (pe_lc (own := [("one", 1)]) (g := gName 1) (tt := tYes) (by rfl) sc_Yard_ways.nd (pi_listK (K := K) rfl (pe_fldK (K := K) rfl (pv 0) rfl)) (blkOk_by (own := [("one", 1)]) (N := N_Yard_ways) (sc := defScope s_Yard_ways) (by decide +kernel)) (fun _ _ _ _ _ => pg_name (i := 1) sc_Yard_ways.nd rfl (Or.inl rfl)) (fun _ _ _ _ _ => pts_nil) (fun _ _ _ _ _ => pe_tup (pa_cons (pe_ix (ix_tupK (K := K) rfl) (pv 1) (pe_int) (fun _ _ => rfl)) (pa_cons (pe_callTy (call_listK (K := K) rfl) (by rfl) T.n_list (by decide +kernel) (pa_cons (pe_ix (ix_tupK (K := K) rfl) (pv 1) (pe_int) (fun _ _ => rfl)) (pa_nil))) (pa_nil))))))
  (pss_nil), ?_⟩
  have fr : Fr B (L2.start N_Yard_ways [.ref y]) (Γ0 N_Yard_ways [.v (.ref y)]) := fr_start (.cons rfl .nil) (by show 1 ≤ 2; decide)
  refine gn_told (xs := rs) rowD (gv_fld (g := .d (.list (rs.map enc))) (gv_var rfl) hy T.cl_Yard T.na_Yard_routes hf hv) hz (by decide) (by decide) (fun r _ B1 H1 x1 => gv_op (gv_var rfl) gv_int (ro_ixT (ds := [.int r.1, enc r.2]) rfl)) (fun r _ B1 H1 x1 => gm_list (gv_op (gv_var rfl) gv_int (ro_ixT (ds := [.int r.1, enc r.2]) (d := enc r.2) rfl)))
    B H _ (Ext.refl e) fr _ fun t ps ls B2 H2 x h1 h2 h3 TT => q t ps ls B2 H2 x h1 h2 h3 TT
theorem rowD_enc (rs : List (Int × List Stp)) : (rs.map rowD).map pairD = rs.map enc := by
  rw [List.map_map]
  rfl
theorem gv_waysY {Γ : List (Option AV)} {B H : Hp} {ta : TE} {y dx : Addr} {fs : List (Str × V)} {v : V} {rs : List (Int × List Stp)} {E : XK} (ha : Gv ta Γ B H (.v (.ref y))) (hy : H y = some (.ins C.Yard dx fs)) (hf : fs.lookup ("routes" : Str) = some v) (hm : fs.lookup ("ways" : Str) = none) (hv : Dq B v (.list (rs.map enc))) (hz : rs.length < 16000000) :
    Gv (tMeth C.Yard "ways" (spWY C) [] E ta tNil) Γ B H (.d (.list (rs.map enc))) := fun B1 H1 σ e fr Q q => ha B1 H1 σ e fr _ fun u B2 H2 x2 hu => by
  have hu : u = .ref y := hu
  subst hu
  have x := e.trans x2
  refine ⟨y, dx, fs, rfl, x.hh _ _ hy, hm, y, dx, fs, v, rs, B2, x2.bh, rfl, x.hh _ _ hy, hf, hv.mono x.bb, hz, fun t ps ls B3 H3 x3 h1 h2 h3 TT => ?_⟩
  obtain ⟨B4, x4, _, h4⟩ := TT.give x3 h1 h2 h3
  rw [rowD_enc] at h4
  exact q _ B4 H3 (x2.trans x4) h4
theorem qx_asgWY {Γ : List (Option AV)} {B H : Hp} {ta : TE} {tz : TS} {D : Ends} {i : Nat} {y dx : Addr} {fs : List (Str × V)} {v : V} {rs : List (Int × List Stp)} {E : XK} (ha : Gv ta Γ B H (.v (.ref y))) (hy : H y = some (.ins C.Yard dx fs)) (hf : fs.lookup ("routes" : Str) = some v) (hm : fs.lookup ("ways" : Str) = none) (hv : Dq B v (.list (rs.map enc))) (hz : rs.length < 16000000)
    (k : ∀ t ps ls B2 H2, Ext B H B2 H2 → H t = none → (∀ p ∈ ps, H p = none) → (∀ l ∈ ls, H l = none) → Told B2 H2 t ps ls (rs.map rowD) → Sx tz D (Γ.set i (some (.v (.ref t)))) B2 H2) :
    Sx (tSeq (tAsg (tMeth C.Yard "ways" (spWY C) [] E ta tNil) (gName i)) tz) D Γ B H := fun e σ fr => ha B H σ (Ext.refl e) fr _ fun u B2 H2 x2 hu => by
  have hu : u = .ref y := hu
  subst hu
  refine ⟨y, dx, fs, rfl, x2.hh _ _ hy, hm, y, dx, fs, v, rs, B2, x2.bh, rfl, x2.hh _ _ hy, hf, hv.mono x2.bb, hz, fun t ps ls B3 H3 x3 h1 h2 h3 TT => ?_⟩
  exact k t ps ls B3 H3 (x2.trans x3) (x2.hh.free h1) (fun p hp => x2.hh.free (h2 p hp)) (fun l hl => x2.hh.free (h3 l hl)) TT x3.bh _ ((fr.mono (x2.trans x3).bb).set i rfl)
theorem qx_asgYard {tr : TA} {tz : TS} {D : Ends} {Γ : List (Option AV)} {B H : Hp} {ps : List Pc} {sg : List Sig} {wait : Int} {i : Nat} (h : Ga tr Γ B H [.d (.list (ps.map enc)), .d (.list (sg.map enc)), AI wait]) (hl : ps.length ≤ 100) (hs : sg.length ≤ 60) (hg : goodYard ps sg = true)
    (k : ∀ y A B2 H2, H y = none → Ext B H B2 H2 → (∀ p ∈ [A.pts, A.lks, A.grn, A.fal, A.trn], H p = none) → YNew C B2 H2 y A ps sg wait → Sx tz D (Γ.set i (some (.v (.ref y)))) B2 H2) :
    Sx (tSeq (tAsg (tMake C.Yard (spYard C) [] xNo tr) (gName i)) tz) D Γ B H := fun e σ f =>
  h B H σ (Ext.refl e) f _ fun us B2 H2 e2 hu => fun y dx hy hdx hne => by
    have x1 : Ext B2 H2 B2 (upd H2 dx (.own y)) := Ext.out e2.bh hdx
    have hy1 : upd H2 dx (.own y) y = none := by rw [upd_ne (fun z => hne z.symm)]; exact hy
    have x2 : Ext B2 (upd H2 dx (.own y)) B2 (upd (upd H2 dx (.own y)) y (.ins C.Yard dx [])) := Ext.out x1.bh hy1
    have x := e2.trans (x1.trans x2)
    have hy0 := e2.hh.free hy
    refine ⟨y, dx, ps, sg, wait, B2, x2.bh, .cons rfl (by rw [List.append_nil]; exact hu), upd_same, e2.bh.free hy, hl, hs, fun _ A B3 H3 _ x3 hn Y => ?_, fun hg2 => by rw [hg] at hg2; cases hg2⟩
    have x4 := x.thenF x3 (fun p hp => by rw [hp]; exact hy0)
    exact ⟨rfl, k y A B3 H3 hy0 x4 (fun p hp => x.hh.free (hn p hp)) Y x4.bh _ ((f.mono x4.bb).set i rfl)⟩
theorem ways_len17 (ps : List Pc) (sg : List Sig) : ∀ (n : Nat) (way : List Stp) (j : Int) (a : Nat), ∀ w ∈ waysN ps sg n way j a, w.length ≤ way.length + n
  | 0, _, _, _, w, h => by simp [waysN] at h
  | n + 1, way, j, a, w, h => by
    unfold waysN at h
    split at h
    · simp at h
    · obtain ⟨o, _, h⟩ := List.mem_flatMap.mp h
      split at h
      · simp at h
        subst h
        rw [List.length_append, List.length_singleton]
        omega
      · cases hb : beyondN ps (a : Int) o with
        | none => rw [hb] at h; simp at h
        | some b =>
          rw [hb] at h
          have := ways_len17 ps sg n _ o b w h
          rw [List.length_append, List.length_singleton] at this
          omega
theorem routes_len17 {ps : List Pc} {sg : List Sig} : ∀ t ∈ routesN ps sg, t.2.length ≤ 17 := fun t ht => by
  unfold routesN at ht
  obtain ⟨k, _, ht⟩ := List.mem_flatMap.mp ht
  obtain ⟨w, hw, e⟩ := List.mem_map.mp ht
  subst e
  have := ways_len17 ps sg 17 _ _ _ w hw
  exact Nat.le_trans this (by simp)
def spLaw (K : PySem.W.Frag) : Sp := fun vs H Q _ => ∃ (a : Addr) (ns : List Int), vs = [.ref a] ∧ SqL K H a (ns.map V.int) ∧ ns.length ≤ 63 ∧ ∀ H', Q (.bl true) H'
theorem ok_law (T : Txt K mg C) (F : Fun K "law" "law" s_law f fd) (c__law_pieces : Cal P w K mg base CX0 3 "_law_pieces" (spPieces K)) (c__law_signals : Cal P w K mg base CX0 3 "_law_signals" (spSignals K)) (c_routes : Cal P w K mg base (L2.CX P w) 21 "routes" (spRoutes C.BadYard))
    (c__law_is_route : Cal P w K mg base CX0 2 "_law_is_route" spIsR) (c__law_routes : Cal P w K mg base CX0 21 "_law_routes" spLroutes) (c_Yard : Mak P w K mg base (L2.CX P w) 22 "Yard" C.Yard (spYard C)) (c_Yard_ways : Met P w K mg base CX0 1 C.Yard "ways" (spWY C)) :
    FnOk P w K mg base CX0 25 f fd ["_law_script"] (spLaw K) := by
  refine F.ok sc_law (fun vs H Q E h => ?_) (fun cdv A outer s H vs Q E hr h => ?_)
  · obtain ⟨a, ns, rfl, _⟩ := h
    rfl
  obtain ⟨a, ns, rfl, hS, hlen, q⟩ := h
  refine ⟨_, pss_cons (ps_set (i := 1) sc_law.nd rfl (by first | exact Or.inl rfl | exact Or.inr rfl) (pe_cal c__law_pieces hr (by first | decide | omega) rfl passN (pa_cons (pv 0) (pa_cons (pe_int) (pa_nil)))))
  (pss_cons (ps_set (i := 2) sc_law.nd rfl (by first | exact Or.inl rfl | exact Or.inr rfl) (pe_cal c__law_signals hr (by first | decide | omega) rfl passN (pa_cons (pv 0) (pa_cons (pe_int) (pa_cons (pv 1) (pa_nil))))))
  (pss_cons (ps_set (i := 3) sc_law.nd rfl (by first | exact Or.inl rfl | exact Or.inr rfl) (pe_tup (pa_cons (pe_callTy (call_listK (K := K) rfl) (by rfl) T.n_list (by decide +kernel) (pa_cons (pv 1) (pa_nil))) (pa_cons (pe_callTy (call_listK (K := K) rfl) (by rfl) T.n_list (by decide +kernel) (pa_cons (pv 2) (pa_nil))) (pa_nil)))))
  (pss_cons (ps_set (i := 4) sc_law.nd rfl (by first | exact Or.inl rfl | exact Or.inr rfl) (pe_cal c_routes hr (by first | decide | omega) rfl passF (pa_cons (pe_ix (ix_tupK (K := K) rfl) (pv 3) (pe_int) (fun _ _ => rfl)) (pa_cons (pe_ix (ix_tupK (K := K) rfl) (pv 3) (pe_int) (fun _ _ => rfl)) (pa_nil)))))
  (pss_cons (ps_if (PW.pt (pw_or (pt_not (pt_val (pe_callB (call_isiQ (K := K) rfl) (by rfl) T.n_isinstance (by decide +kernel) (pa_cons (pv 4) (pa_cons (pe_bltn (v := .ty "list") (u := .type "list") (by rfl) T.n_list (by decide +kernel) rfl) (pa_nil)))))) (pw_or1 (pt_not (pt_val (pe_callB (cr_allK (K := K) rfl rfl) (by rfl) T.n_all (by decide +kernel) (pa_cons (pe_lc (own := [("_law_one", 7)]) (g := gName 7) (tt := tYes) (by rfl) sc_law.nd (pi_listK (K := K) rfl (pv 4)) (blkOk_by (own := [("_law_one", 7)]) (N := N_law) (sc := defScope s_law) (by decide +kernel)) (fun _ _ _ _ _ => pg_name (i := 7) sc_law.nd rfl (Or.inl rfl)) (fun _ _ _ _ _ => pts_nil) (fun _ _ _ _ _ => pe_cal c__law_is_route hr (by first | decide | omega) rfl passN (pa_cons (pv 1) (pa_cons (pv 2) (pa_cons (pv 7) (pa_nil)))))) (pa_nil)))))))) (pss_cons (ps_ret (pe_bl))
  (pss_nil)) (pss_nil))
  (pss_cons (ps_if (PW.pt (pw_or (pt_cmpR (op_neDK (K := K) rfl hr.units) (pv 4) (pe_cal c__law_routes hr (by first | decide | omega) rfl passN (pa_cons (pv 1) (pa_cons (pv 2) (pa_nil)))) (nomark _)) (pw_or1 (pt_cmpR (op_neDK (K := K) rfl hr.units) (pv 3) (pe_tup (pa_cons (pv 1) (pa_cons (pv 2) (pa_nil)))) (nomark _))))) (pss_cons (ps_ret (pe_bl))
  (pss_nil)) (pss_nil))
  (pss_cons (ps_set (i := 5) sc_law.nd rfl (by first | exact Or.inl rfl | exact Or.inr rfl) (pe_mak c_Yard hr (by first | decide | omega) rfl passF (pa_cons (pv 1) (pa_cons (pv 2) (pa_cons (pe_int) (pa_nil))))))
  (pss_cons (ps_set (i := 6) sc_law.nd rfl (by first | exact Or.inl rfl | exact Or.inr rfl) (pe_met0 c_Yard_ways T.cl_Yard hr (by first | decide | omega) passN (pv 5)))
  (pss_cons (ps_if (pt_cmpR (op_neDK (K := K) rfl hr.units) (pv 6) (pv 4) (nomark _)) (pss_cons (ps_ret (pe_bl))
  (pss_nil)) (pss_nil))
  (pss_cons (ps_for PassesOwn.never rfl (pi_listK (K := K) rfl (pv 6)) (pg_name (i := 7) sc_law.nd rfl (by first | exact Or.inl rfl | exact Or.inr rfl)) (pss_cons (ps_expr (pe_bmK (K := K) rfl PySem.F.plainAttrs_list PySem.F.slot_list_append PySem.F.type_list_append mt_append (pe_ix (ix_tupK (K := K) rfl) (pv 7) (pe_int) (fun _ _ => rfl)) (pa_cons (pe_tup (pa_cons (pe_int) (pa_cons (pe_int) (pa_cons (pe_int) (pa_nil))))) (pa_nil))))
  (pss_nil)))
  (pss_cons (ps_expr (pe_bmK (K := K) rfl PySem.F.plainAttrs_list PySem.F.slot_list_append PySem.F.type_list_append mt_append (pv 6) (pa_cons (pe_tup (pa_cons (pe_int) (pa_cons (pe_lst (pa_nil)) (pa_nil)))) (pa_nil))))
  (pss_cons (ps_ret (pe_cmpR (op_eqDK (K := K) rfl hr.units) (pe_met0 c_Yard_ways T.cl_Yard hr (by first | decide | omega) passN (pv 5)) (pv 4) (nomark _)))
  (pss_nil)))))))))))), ?_⟩
  refine Sx.run (Γ := Γ0 N_law [.v (.ref a)]) (B := H) ?_ (Same.refl _) (fr_start (.cons rfl .nil) (by show 1 ≤ 8; decide))
  refine qx_asgE (a, ns, 0) (ga_cons (gv_var rfl) (ga_cons gv_int ga_nil)) (fun _ _ x => x.hh.seq hS) fun g B2 H2 hg x2 => ?_
  obtain ⟨ps, hgj, rfl⟩ := hg
  have hgp := hgj.ok
  have hnd := hgj.2.2.1
  have hl8 := hgj.2.1
  have hS2 := x2.hh.seq hS
  refine qx_asgE (a, ns, 40, ps) (ga_cons (gv_var rfl) (ga_cons gv_int (ga_cons (gv_var rfl) ga_nil))) (fun _ _ x => ⟨x.hh.seq hS2, hl8, hnd⟩) fun g B3 H3 hg x3 => ?_
  obtain ⟨sg, hsj, rfl⟩ := hg
  have hsj : goodSJ ps sg := hsj
  have hgs := hsj.ok
  have hs16 := hsj.1
  have hgy : goodYard ps sg = true := by unfold goodYard; rw [hgp, hgs]; rfl
  have hrl := routes_len (ps := ps) hs16
  have hrl2 : (routesN ps sg).length < 16000000 := by
    have : 16 * 2 ^ 17 < 16000000 := by decide
    omega
  refine qx_asg (g := .d (enc ((ps, sg) : List Pc × List Sig))) (gv_is (gv_tup (ds := [.list (ps.map enc), .list (sg.map enc)]) (ga_cons (gv_cb (ga_cons (gv_var rfl) ga_nil) rc_list) (ga_cons (gv_cb (ga_cons (gv_var rfl) ga_nil) rc_list) ga_nil)) (by show 2 ≤ 16000000; decide)) rfl) fun B4 H4 x4 => ?_
  refine qx_asg (g := .d (.list ((routesN ps sg).map enc))) (gv_callR (ps, sg) (ga_cons (gv_op (gv_var rfl) gv_int (ro_ixT (ds := [.list (ps.map enc), .list (sg.map enc)]) rfl)) (ga_cons (gv_op (gv_var rfl) gv_int (ro_ixT (ds := [.list (ps.map enc), .list (sg.map enc)]) rfl)) ga_nil)) (fun _ _ _ => ⟨by show ps.length ≤ 100; omega, by show sg.length ≤ 60; omega⟩) (by show (if goodYard ps sg = true then _ else _) = _; rw [if_pos hgy])) fun B5 H5 x5 => ?_
  refine qx_no (b := !true || !true) ?_ rfl fun B6 H6 x6 => sx_go ?_
  · refine gt_or (gt_not (gt_test (gv_cb (ga_cons (gv_var rfl) (ga_cons gv_cls ga_nil)) (rc_isD (t := "list") rfl (by decide +kernel))))) fun _ =>
      gt_not (gt_test (gv_is (gv_cb (ga_cons (gv_lcM (xs := routesN ps sg) (fun _ => true) (gv_var rfl) hrl2 (by decide) (by decide) fun r hr B7 H7 x7 => gv_call (ps, sg, r) (ga_cons (gv_var rfl) (ga_cons (gv_var rfl) (ga_cons (gv_var rfl) ga_nil))) fun _ _ _ => ⟨hgp, routesN_ok hgy r hr⟩) ga_nil) (rc_all (bs := (routesN ps sg).map fun _ => true))) (by rw [List.all_map]; simp)))
  refine qx_no (b := !decide (routesN ps sg = routesN ps sg) || !decide ((ps, sg) = (ps, sg))) ?_ (by simp) fun B7 H7 x7 => sx_go ?_
  · refine gt_or (gt_test (gv_op (x := .d (enc (routesN ps sg))) (y := .d (enc (routesN ps sg))) (gv_var rfl) (gv_Lroutes (gv_var rfl) (gv_var rfl) hgy) (ro_neE (by decide)))) fun _ =>
      gt_test (gv_op (x := .d (enc ((ps, sg) : List Pc × List Sig))) (y := .d (enc ((ps, sg) : List Pc × List Sig))) (gv_var rfl) (gv_is (gv_tup (ds := [.list (ps.map enc), .list (sg.map enc)]) (ga_cons (gv_var rfl) (ga_cons (gv_var rfl) ga_nil)) (by show 2 ≤ 16000000; decide)) rfl) (ro_neE (by decide)))
  refine qx_asgYard (ga_cons (gv_var rfl) (ga_cons (gv_var rfl) (ga_cons gv_int ga_nil))) (by omega) (by omega) hgy fun y A B8 H8 hy x8 _ Y => ?_
  have hyo := Y.ob
  have hyr := Y.hrt
  have hlk : (yKeys.zip [A.vps, A.vsg, .int 0, A.vrt, .int 0, .ref A.pts, .ref A.lks, .ref A.grn, .ref A.fal, .ref A.trn]).lookup ("routes" : Str) = some A.vrt := zip_lookup _ _ _ 3 _ (by decide +kernel) (by decide) rfl
  have hlm : (yKeys.zip [A.vps, A.vsg, .int 0, A.vrt, .int 0, .ref A.pts, .ref A.lks, .ref A.grn, .ref A.fal, .ref A.trn]).lookup ("ways" : Str) = none := zip_none _ _ _ (by decide +kernel)
  generalize yKeys.zip [A.vps, A.vsg, .int 0, A.vrt, .int 0, .ref A.pts, .ref A.lks, .ref A.grn, .ref A.fal, .ref A.trn] = fs at hyo hlk hlm
  refine qx_asgWY (gv_var rfl) hyo hlk hlm hyr hrl2 fun t pp ls B9 H9 x9 ht hpp hls TT => ?_
  -- told is what was found
  obtain ⟨B', xB, sB, hB⟩ := TT.give x9 ht hpp hls
  rw [rowD_enc] at hB
  refine qx_noV (b := !decide (routesN ps sg = routesN ps sg)) sB xB.bh (fun σ f => fr_view (i := 6) sB rfl hB f) ?_ (by simp) fun H10 x10 => ?_
  · exact gt_test (gv_op (x := .d (enc (routesN ps sg))) (y := .d (enc (routesN ps sg))) (gv_var rfl) (gv_var rfl) (ro_neE (by decide)))
  have hy10 := x10.hh _ _ (x9.hh _ _ hyo)
  have hyr9 := hyr.mono x9.bb
  have nyl : y ∉ ls := fun z => by have := hls y z; rw [hyo] at this; cases this
  have nyt : y ≠ t := fun z => by rw [← z, hyo] at ht; cases ht
  -- the told lists are changed
  refine qx_forV (vs := pp.map V.ref) (gv_var rfl) (fun _ => [some (.v (.ref a)), some (.d (.list (ps.map enc))), some (.d (.list (sg.map enc))), some (.d (enc ((ps, sg) : List Pc × List Sig))), some (.d (.list ((routesN ps sg).map enc))), some (.v (.ref y)), some (.v (.ref t)), none])
    (fun k B1 H1 => ExtF (· ∈ ls) B9 H10 B1 H1 ∧ H1 t = some (.lst (pp.map V.ref)) ∧ B1 t = none ∧ ∀ (i : Nat) (r : Int × List PyData), ((routesN ps sg).map rowD)[i]? = some r → ∃ p l ds, pp[i]? = some p ∧ ls[i]? = some l ∧ H1 p = some (.tup [.int r.1, .ref l]) ∧ Ml B1 H1 l ds ∧ ds.length ≤ 17 + k) (by walk_at "le")
    (fun B11 H11 x11 => ⟨x11.f, x11.hh _ _ (x10.hh _ _ TT.ht), (x10.trans x11).off TT.bt (by rw [TT.ht]; simp), fun i r hr => ?_⟩) (fun k B1 H1 h => h.2.1) ?_ ?_
  · obtain ⟨p, l, h1, h2, h3, h4, h5⟩ := TT.el i r hr
    refine ⟨p, l, _, h1, h2, x11.hh _ _ (x10.hh _ _ h3), (h5.ext x10).ext x11, ?_⟩
    rw [List.getElem?_map] at hr
    cases er : (routesN ps sg)[i]? with
    | none => rw [er] at hr; cases hr
    | some r0 =>
      rw [er] at hr
      cases hr
      show (r0.2.map enc).length ≤ _
      rw [List.length_map]
      exact Nat.le_trans (routes_len17 r0 (List.mem_of_getElem? er)) (by omega)
  · intro Bs k v B11 H11 hk s1 s2 ⟨x11, h1, h1b, h2⟩
    rw [List.getElem?_map] at hk
    cases ep : pp[k]? with
    | none => rw [ep] at hk; cases hk
    | some p =>
      rw [ep] at hk
      cases hk
      have hkl : k < ((routesN ps sg).map rowD).length := by rw [← TT.hp]; exact (List.getElem?_eq_some_iff.mp ep).1
      have hkl2 : k < 16000000 - 100 := by
        rw [List.length_map] at hkl
        have : 16 * 2 ^ 17 < 16000000 - 100 := by decide
        omega
      obtain ⟨p', l, ds, h3, h4, h5, h6, h7⟩ := h2 k _ (List.getElem?_eq_getElem hkl)
      rw [ep] at h3
      cases h3
      refine qx_app (d := .tuple [.int 0, .int 0, .int 0]) h6 (gv_op (gv_var rfl) gv_int (ro_ixV h5 rfl)) (gv_tup (ds := [.int 0, .int 0, .int 0]) (ga_cons gv_int (ga_cons gv_int (ga_cons gv_int ga_nil))) (by decide)) (by omega) fun B12 H12 x12 m12 => ?_
      have hlm : l ∈ ls := List.mem_of_getElem? h4
      have ntl : ¬ t = l := fun z => TT.tl (z ▸ hlm)
      refine sx_lp (s2.trans x12.bb) (by walk_at "le") ⟨x11.trans (x12.mono fun z hz => by rw [hz]; exact hlm), x12.hh _ _ h1 ntl, x12.off h1b (by rw [h1]; simp), fun i r hr => ?_⟩
      obtain ⟨p2, l2, ds2, q1, q2, q3, q4, q5⟩ := h2 i r hr
      have np : ¬ p2 = l := fun z => by
        obtain ⟨_, us6, h6, _⟩ := h6
        rw [z, h6] at q3
        cases q3
      by_cases e : l2 = l
      · subst e
        exact ⟨p2, l2, _, q1, q2, x12.hh _ _ q3 np, m12, by
          rw [List.length_append]
          show ds.length + 1 ≤ 17 + (k + 1)
          omega⟩
      · exact ⟨p2, l2, ds2, q1, q2, x12.hh _ _ q3 np, q4.extF x12 e, by omega⟩
  · intro B11 H11 s1 ⟨x11, h1, h1b, _⟩
    have hy11 := x11.hh _ _ hy10 nyl
    refine qx_appV (g := .d (.tuple [.int 0, .list []])) h1b h1 (gv_var rfl) (gv_tup (ds := [.int 0, .list []]) (ga_cons gv_int (ga_cons (gv_lst (ds := []) ga_nil (by decide)) ga_nil)) (by decide)) (by rw [List.length_map, TT.hp, List.length_map]; exact hrl2) fun w B12 H12 x12 _ _ => ?_
    have hy12 := x12.hh _ _ hy11 nyt
    have hyr12 := (hyr9.mono x11.bb).mono x12.bb
    refine qx_ret (g := AB true) (gv_is (gv_op (x := .d (enc (routesN ps sg))) (y := .d (enc (routesN ps sg))) (gv_waysY (gv_var rfl) hy12 hlk hlm hyr12 hrl2) (gv_var rfl) (ro_eqE (by decide))) (by simp)) fun u B13 H13 x13 hu => ?_
    cases hu
    exact q H13
end
end SB
namespace SB
open PySem PySem.Spec PyProof.Rows L2
open Enc (enc)
local macro_rules | `(tactic| walk_at "le") => `(tactic| first | exact le_nil | (refine le_keep ?_; walk_at "le") | (refine le_drop ?_; walk_at "le"))
local macro_rules | `(tactic| walk_at "sd") => `(tactic| first | assumption | (show (_ : Int) < _ ∧ _ < (1073741824 : Int); exact ⟨by omega, by omega⟩) | (show (-(2 ^ 64) < (_ : Int) ∧ _ < (2 ^ 64 : Int)) ∨ _; first | exact .inl ⟨by omega, by omega⟩ | exact .inr ⟨by omega, by omega⟩) | rfl | decide | (simp; done) | omega | skip)
local macro_rules | `(tactic| walk_at "gc") => `(tactic| fail)
local macro_rules | `(tactic| walk_at "gv") => `(tactic| first
  | exact gv_int | exact gv_str | exact gv_bl | exact gv_non | exact gv_var rfl
  | ((with_reducible refine' gv_op ?_ ?_ ?_) <;> walk_at "gv")
  | ((with_reducible refine' ga_cons ?_ ?_) <;> walk_at "gv") | exact ga_nil
  | ((with_reducible refine' gv_cb ?_ ?_) <;> walk_at "gv")
  | ((with_reducible refine' gt_test ?_) <;> walk_at "gv") | ((with_reducible refine' gt_B ?_) <;> walk_at "gv") | ((with_reducible refine' gt_not ?_) <;> walk_at "gv")
  | ((with_reducible refine' gt_and ?k1 ?k2); (case' k1 => walk_at "gv"); (case' k2 => intro hb; walk_at "gv"))
  | ((with_reducible refine' gt_or ?k1 ?k2); (case' k1 => walk_at "gv"); (case' k2 => intro hb; walk_at "gv"))
  | ((with_reducible refine' gv_andV ?k1 ?k2); (case' k1 => walk_at "gv"); (case' k2 => intro hb; walk_at "gv"))
  | ((with_reducible refine' gv_orV ?k1 ?k2); (case' k1 => walk_at "gv"); (case' k2 => intro hb; walk_at "gv"))
  | ((with_reducible refine' gv_notV ?_) <;> walk_at "gv")
  | ((with_reducible refine' gv_slL ?_ ?_ ?_) <;> walk_at "gv") | ((with_reducible refine' gv_slT ?_ ?_ ?_ ?_) <;> walk_at "gv")
  | exact go_none | ((with_reducible refine' go_some ?_) <;> walk_at "gv")
  | exact gd_nil | ((with_reducible refine' gd_cons ?_ ?_) <;> walk_at "gv") | ((with_reducible refine' gv_lst ?_ ?_) <;> walk_at "gv") | ((with_reducible refine' gv_tup ?_ ?_) <;> walk_at "gv")
  | ((with_reducible refine' gv_chain ?_ ?_ ?_ ?_ ?_) <;> walk_at "gv") | ((with_reducible refine' gt_truL ?_) <;> walk_at "gv") | ((with_reducible refine' gv_countI ?_ ?_) <;> walk_at "gv")
  | ((with_reducible refine' gv_lenSetI ?_ ?_) <;> walk_at "gv") | ((with_reducible refine' gv_lenSetU ?_ ?_) <;> walk_at "gv") | ((with_reducible refine' gv_lenSetT ?_ ?_) <;> walk_at "gv")
  | exact gt_yes
  | walk_at "gc"
  | exact ro_I0 | exact ro_B0 | (refine ro_I ?_; walk_at "sd")
  | exact ro_eqI | exact ro_neI | exact ro_eqS | exact ro_neS
  | (refine ro_eq ?_; walk_at "sd") | (refine ro_ne ?_; walk_at "sd")
  | exact ro_isN | exact ro_notN
  | exact ro_inI | exact ro_notInI | exact ro_inTI
  | (refine' ro_ixL ?k1; (case' k1 => walk_at "sd")) | (refine' ro_ixT ?k1; (case' k1 => walk_at "sd"))
  | (refine ro_cat ?_; walk_at "sd")
  | exact rc_lenM | exact rc_len | exact rc_lenT | exact rc_list | exact rc_listT | exact rc_tuple | exact rc_any | exact rc_all | exact rc_max2 | exact rc_min2 | exact rc_intB
  | (show (_ : Nat) ≤ _; first | decide | (simp; done) | omega)
  | (show (_ : Nat) < _; first | decide | (simp; done) | omega)
  | (show ¬ (_ ∧ _); exact fun h => absurd (show (1 : Nat) = 0 from h.1) (by decide))
  | skip)
local macro_rules | `(tactic| walk_at "ge") => `(tactic| (refine' gt_is ?k1 ?k2; (case' k1 => walk_at "gv"); (case' k2 => first | rfl | (simp; done) | skip)))
local macro_rules | `(tactic| walk_at "gw") => `(tactic| (refine' gv_is ?k1 ?k2; (case' k1 => walk_at "gv"); (case' k2 => first | rfl | (simp; done) | skip)))
local macro_rules | `(tactic| walk_at "gj") => `(tactic| first | exact gi_nil | (refine' gi_cons ?g1 ?g2; (case' g1 => walk_at "gv"); (case' g2 => walk_at "gj")))
local macro_rules | `(tactic| walk_at "gi") => `(tactic| (refine' gv_lst ?k1 ?k2; (case' k1 => walk_at "gj"); (case' k2 => (simp; try omega))))
/-! ### what the top has written -/
theorem all_mk {P : Program} {w : World} {K : PySem.W.Frag} {h : Heap} {mg : Str → Option Value} {fa : Addr} (X : K.In h) (G : h.Ns mainGlobals mg) (hfa : mg "law" = some (.ref fa))
    {C_BoxError C_BadYard C_NotThere C_Yard f_joints f_beyond f_outs f_look_pieces f_look_signals f_ends_at f_ways_from f_routes f_Yard_init f_Yard_ways f__law_cell f__law_mix f__law_whole f__law_beyond f__law_pieces f__law_signals f__law_outs f__law_ways f__law_routes f__law_is_route f_law : Addr} {od_joints an_joints od_beyond an_beyond od_outs an_outs od_look_pieces an_look_pieces od_look_signals an_look_signals od_ends_at an_ends_at od_ways_from an_ways_from od_routes an_routes od_Yard_init an_Yard_init od_Yard_ways an_Yard_ways od__law_cell an__law_cell od__law_mix an__law_mix od__law_whole an__law_whole od__law_beyond an__law_beyond od__law_pieces an__law_pieces od__law_signals an__law_signals od__law_outs an__law_outs od__law_ways an__law_ways od__law_routes an__law_routes od__law_is_route an__law_is_route od_law an_law : Option Addr} {sl_joints sl_beyond sl_outs sl_look_pieces sl_look_signals sl_ends_at sl_ways_from sl_routes sl_Yard_init sl_Yard_ways sl__law_cell sl__law_mix sl__law_whole sl__law_beyond sl__law_pieces sl__law_signals sl__law_outs sl__law_ways sl__law_routes sl__law_is_route sl_law : Array (Option Value)} {oc_joints kV_joints dc_joints pm_joints cd_joints ct_joints oc_beyond kV_beyond dc_beyond pm_beyond cd_beyond ct_beyond oc_outs kV_outs dc_outs pm_outs cd_outs ct_outs oc_look_pieces kV_look_pieces dc_look_pieces pm_look_pieces cd_look_pieces ct_look_pieces oc_look_signals kV_look_signals dc_look_signals pm_look_signals cd_look_signals ct_look_signals oc_ends_at kV_ends_at dc_ends_at pm_ends_at cd_ends_at ct_ends_at oc_ways_from kV_ways_from dc_ways_from pm_ways_from cd_ways_from ct_ways_from oc_routes kV_routes dc_routes pm_routes cd_routes ct_routes oc_Yard_init kV_Yard_init dc_Yard_init pm_Yard_init cd_Yard_init ct_Yard_init oc_Yard_ways kV_Yard_ways dc_Yard_ways pm_Yard_ways cd_Yard_ways ct_Yard_ways oc__law_cell kV__law_cell dc__law_cell pm__law_cell cd__law_cell ct__law_cell oc__law_mix kV__law_mix dc__law_mix pm__law_mix cd__law_mix ct__law_mix oc__law_whole kV__law_whole dc__law_whole pm__law_whole cd__law_whole ct__law_whole oc__law_beyond kV__law_beyond dc__law_beyond pm__law_beyond cd__law_beyond ct__law_beyond oc__law_pieces kV__law_pieces dc__law_pieces pm__law_pieces cd__law_pieces ct__law_pieces oc__law_signals kV__law_signals dc__law_signals pm__law_signals cd__law_signals ct__law_signals oc__law_outs kV__law_outs dc__law_outs pm__law_outs cd__law_outs ct__law_outs oc__law_ways kV__law_ways dc__law_ways pm__law_ways cd__law_ways ct__law_ways oc__law_routes kV__law_routes dc__law_routes pm__law_routes cd__law_routes ct__law_routes oc__law_is_route kV__law_is_route dc__law_is_route pm__law_is_route cd__law_is_route ct__law_is_route oc_law kV_law dc_law pm_law cd_law ct_law : Value} {t_JOINTS : _} {t_MOST : _} {t_STRAIGHT : _}
    (a_BoxError : PySem.W.nsIn K mainGlobals "BoxError" = some (some (.ref C_BoxError)))
    (a_BadYard : PySem.W.nsIn K mainGlobals "BadYard" = some (some (.ref C_BadYard)))
    (a_NotThere : PySem.W.nsIn K mainGlobals "NotThere" = some (some (.ref C_NotThere)))
    (a_Yard : PySem.W.nsIn K mainGlobals "Yard" = some (some (.ref C_Yard)))
    (x_BoxError : PySem.W.excIn K C_BoxError [.type "ValueError", .type "Exception", .type "BaseException", .type "object"] "ValueError.__new__" = true)
    (k_BoxError : PySem.W.keepIn K (.ref C_BoxError) = true)
    (b_BoxError : PySem.W.subIn K (.ref C_BoxError) (.type "BaseException") = some true)
    (t_BoxError : PySem.W.typeIn K (.ref C_BoxError) = some (.type "type"))
    (h_BoxError : PySem.W.hasDictIn K C_BoxError = true)
    (x_BadYard : PySem.W.excIn K C_BadYard [.type "ValueError", .type "Exception", .type "BaseException", .type "object"] "ValueError.__new__" = true)
    (k_BadYard : PySem.W.keepIn K (.ref C_BadYard) = true)
    (b_BadYard : PySem.W.subIn K (.ref C_BadYard) (.type "BaseException") = some true)
    (t_BadYard : PySem.W.typeIn K (.ref C_BadYard) = some (.type "type"))
    (h_BadYard : PySem.W.hasDictIn K C_BadYard = true)
    (x_NotThere : PySem.W.excIn K C_NotThere [.type "ValueError", .type "Exception", .type "BaseException", .type "object"] "ValueError.__new__" = true)
    (k_NotThere : PySem.W.keepIn K (.ref C_NotThere) = true)
    (b_NotThere : PySem.W.subIn K (.ref C_NotThere) (.type "BaseException") = some true)
    (t_NotThere : PySem.W.typeIn K (.ref C_NotThere) = some (.type "type"))
    (h_NotThere : PySem.W.hasDictIn K C_NotThere = true)
    (pg_Yard : PySem.W.plainGet K C_Yard Str.empty = true)
    (hd_Yard : PySem.W.hasDictIn K C_Yard = true)
    (po_Yard : PySem.W.plainOver K C_Yard = true)
    (sa_Yard : PySem.W.findIn K (.ref C_Yard) "__setattr__" = some (some (.builtin "object.__setattr__")))
    (mk_Yard : PySem.W.makesIn K C_Yard = true)
    (kc_Yard : PySem.W.keepIn K (.ref C_Yard) = true)
    (n_Yard_pieces : PySem.W.findIn K (.ref C_Yard) "pieces" = some none)
    (n_Yard_signals : PySem.W.findIn K (.ref C_Yard) "signals" = some none)
    (n_Yard_wait : PySem.W.findIn K (.ref C_Yard) "wait" = some none)
    (n_Yard_routes : PySem.W.findIn K (.ref C_Yard) "routes" = some none)
    (n_Yard_now : PySem.W.findIn K (.ref C_Yard) "now" = some none)
    (n_Yard_points : PySem.W.findIn K (.ref C_Yard) "points" = some none)
    (n_Yard_locks : PySem.W.findIn K (.ref C_Yard) "locks" = some none)
    (n_Yard_green : PySem.W.findIn K (.ref C_Yard) "green" = some none)
    (n_Yard_falling : PySem.W.findIn K (.ref C_Yard) "falling" = some none)
    (n_Yard_trains : PySem.W.findIn K (.ref C_Yard) "trains" = some none)
    (z_all : PySem.W.nsIn K mainGlobals "all" = some none)
    (z_bool : PySem.W.nsIn K mainGlobals "bool" = some none)
    (z_int : PySem.W.nsIn K mainGlobals "int" = some none)
    (z_isinstance : PySem.W.nsIn K mainGlobals "isinstance" = some none)
    (z_len : PySem.W.nsIn K mainGlobals "len" = some none)
    (z_list : PySem.W.nsIn K mainGlobals "list" = some none)
    (z_min : PySem.W.nsIn K mainGlobals "min" = some none)
    (z_range : PySem.W.nsIn K mainGlobals "range" = some none)
    (z_set : PySem.W.nsIn K mainGlobals "set" = some none)
    (z_tuple : PySem.W.nsIn K mainGlobals "tuple" = some none)
    (g_JOINTS : PySem.W.nsIn K mainGlobals "JOINTS" = some (some (.int 999 t_JOINTS)))
    (g_MOST : PySem.W.nsIn K mainGlobals "MOST" = some (some (.int 16 t_MOST)))
    (g_STRAIGHT : PySem.W.nsIn K mainGlobals "STRAIGHT" = some (some (.str "straight" t_STRAIGHT)))
    (a_joints : PySem.W.nsIn K mainGlobals "joints" = some (some (.ref f_joints)))
    (l_joints : K.lookup f_joints = some ⟨oc_joints, od_joints, .func (PySem.W.fnOf "joints" "joints" (defArgs s_joints) (defBody s_joints) (defScope s_joints) .none kV_joints dc_joints pm_joints an_joints cd_joints ct_joints), sl_joints⟩)
    (c_joints : PySem.W.codeIn K cd_joints "joints" = true)
    (k_joints : PySem.W.keepIn K (.ref f_joints) = true)
    (a_beyond : PySem.W.nsIn K mainGlobals "beyond" = some (some (.ref f_beyond)))
    (l_beyond : K.lookup f_beyond = some ⟨oc_beyond, od_beyond, .func (PySem.W.fnOf "beyond" "beyond" (defArgs s_beyond) (defBody s_beyond) (defScope s_beyond) .none kV_beyond dc_beyond pm_beyond an_beyond cd_beyond ct_beyond), sl_beyond⟩)
    (c_beyond : PySem.W.codeIn K cd_beyond "beyond" = true)
    (k_beyond : PySem.W.keepIn K (.ref f_beyond) = true)
    (a_outs : PySem.W.nsIn K mainGlobals "outs" = some (some (.ref f_outs)))
    (l_outs : K.lookup f_outs = some ⟨oc_outs, od_outs, .func (PySem.W.fnOf "outs" "outs" (defArgs s_outs) (defBody s_outs) (defScope s_outs) .none kV_outs dc_outs pm_outs an_outs cd_outs ct_outs), sl_outs⟩)
    (c_outs : PySem.W.codeIn K cd_outs "outs" = true)
    (k_outs : PySem.W.keepIn K (.ref f_outs) = true)
    (a_look_pieces : PySem.W.nsIn K mainGlobals "look_pieces" = some (some (.ref f_look_pieces)))
    (l_look_pieces : K.lookup f_look_pieces = some ⟨oc_look_pieces, od_look_pieces, .func (PySem.W.fnOf "look_pieces" "look_pieces" (defArgs s_look_pieces) (defBody s_look_pieces) (defScope s_look_pieces) .none kV_look_pieces dc_look_pieces pm_look_pieces an_look_pieces cd_look_pieces ct_look_pieces), sl_look_pieces⟩)
    (c_look_pieces : PySem.W.codeIn K cd_look_pieces "look_pieces" = true)
    (k_look_pieces : PySem.W.keepIn K (.ref f_look_pieces) = true)
    (a_look_signals : PySem.W.nsIn K mainGlobals "look_signals" = some (some (.ref f_look_signals)))
    (l_look_signals : K.lookup f_look_signals = some ⟨oc_look_signals, od_look_signals, .func (PySem.W.fnOf "look_signals" "look_signals" (defArgs s_look_signals) (defBody s_look_signals) (defScope s_look_signals) .none kV_look_signals dc_look_signals pm_look_signals an_look_signals cd_look_signals ct_look_signals), sl_look_signals⟩)
    (c_look_signals : PySem.W.codeIn K cd_look_signals "look_signals" = true)
    (k_look_signals : PySem.W.keepIn K (.ref f_look_signals) = true)
    (a_ends_at : PySem.W.nsIn K mainGlobals "ends_at" = some (some (.ref f_ends_at)))
    (l_ends_at : K.lookup f_ends_at = some ⟨oc_ends_at, od_ends_at, .func (PySem.W.fnOf "ends_at" "ends_at" (defArgs s_ends_at) (defBody s_ends_at) (defScope s_ends_at) .none kV_ends_at dc_ends_at pm_ends_at an_ends_at cd_ends_at ct_ends_at), sl_ends_at⟩)
    (c_ends_at : PySem.W.codeIn K cd_ends_at "ends_at" = true)
    (k_ends_at : PySem.W.keepIn K (.ref f_ends_at) = true)
    (a_ways_from : PySem.W.nsIn K mainGlobals "ways_from" = some (some (.ref f_ways_from)))
    (l_ways_from : K.lookup f_ways_from = some ⟨oc_ways_from, od_ways_from, .func (PySem.W.fnOf "ways_from" "ways_from" (defArgs s_ways_from) (defBody s_ways_from) (defScope s_ways_from) .none kV_ways_from dc_ways_from pm_ways_from an_ways_from cd_ways_from ct_ways_from), sl_ways_from⟩)
    (c_ways_from : PySem.W.codeIn K cd_ways_from "ways_from" = true)
    (k_ways_from : PySem.W.keepIn K (.ref f_ways_from) = true)
    (a_routes : PySem.W.nsIn K mainGlobals "routes" = some (some (.ref f_routes)))
    (l_routes : K.lookup f_routes = some ⟨oc_routes, od_routes, .func (PySem.W.fnOf "routes" "routes" (defArgs s_routes) (defBody s_routes) (defScope s_routes) .none kV_routes dc_routes pm_routes an_routes cd_routes ct_routes), sl_routes⟩)
    (c_routes : PySem.W.codeIn K cd_routes "routes" = true)
    (k_routes : PySem.W.keepIn K (.ref f_routes) = true)
    (a_Yard_init : PySem.W.findIn K (.ref C_Yard) "__init__" = some (some (.ref f_Yard_init)))
    (i_Yard_init : PySem.W.isFn K (.ref f_Yard_init) = true)
    (l_Yard_init : K.lookup f_Yard_init = some ⟨oc_Yard_init, od_Yard_init, .func (PySem.W.fnOf "__init__" "Yard.__init__" (defArgs s_Yard_init) (defBody s_Yard_init) (defScope s_Yard_init) .none kV_Yard_init dc_Yard_init pm_Yard_init an_Yard_init cd_Yard_init ct_Yard_init), sl_Yard_init⟩)
    (c_Yard_init : PySem.W.codeIn K cd_Yard_init "Yard.__init__" = true)
    (k_Yard_init : PySem.W.keepIn K (.ref f_Yard_init) = true)
    (a_Yard_ways : PySem.W.findIn K (.ref C_Yard) "ways" = some (some (.ref f_Yard_ways)))
    (i_Yard_ways : PySem.W.isFn K (.ref f_Yard_ways) = true)
    (l_Yard_ways : K.lookup f_Yard_ways = some ⟨oc_Yard_ways, od_Yard_ways, .func (PySem.W.fnOf "ways" "Yard.ways" (defArgs s_Yard_ways) (defBody s_Yard_ways) (defScope s_Yard_ways) .none kV_Yard_ways dc_Yard_ways pm_Yard_ways an_Yard_ways cd_Yard_ways ct_Yard_ways), sl_Yard_ways⟩)
    (c_Yard_ways : PySem.W.codeIn K cd_Yard_ways "Yard.ways" = true)
    (k_Yard_ways : PySem.W.keepIn K (.ref f_Yard_ways) = true)
    (a__law_cell : PySem.W.nsIn K mainGlobals "_law_cell" = some (some (.ref f__law_cell)))
    (l__law_cell : K.lookup f__law_cell = some ⟨oc__law_cell, od__law_cell, .func (PySem.W.fnOf "_law_cell" "_law_cell" (defArgs s__law_cell) (defBody s__law_cell) (defScope s__law_cell) .none kV__law_cell dc__law_cell pm__law_cell an__law_cell cd__law_cell ct__law_cell), sl__law_cell⟩)
    (c__law_cell : PySem.W.codeIn K cd__law_cell "_law_cell" = true)
    (k__law_cell : PySem.W.keepIn K (.ref f__law_cell) = true)
    (a__law_mix : PySem.W.nsIn K mainGlobals "_law_mix" = some (some (.ref f__law_mix)))
    (l__law_mix : K.lookup f__law_mix = some ⟨oc__law_mix, od__law_mix, .func (PySem.W.fnOf "_law_mix" "_law_mix" (defArgs s__law_mix) (defBody s__law_mix) (defScope s__law_mix) .none kV__law_mix dc__law_mix pm__law_mix an__law_mix cd__law_mix ct__law_mix), sl__law_mix⟩)
    (c__law_mix : PySem.W.codeIn K cd__law_mix "_law_mix" = true)
    (k__law_mix : PySem.W.keepIn K (.ref f__law_mix) = true)
    (a__law_whole : PySem.W.nsIn K mainGlobals "_law_whole" = some (some (.ref f__law_whole)))
    (l__law_whole : K.lookup f__law_whole = some ⟨oc__law_whole, od__law_whole, .func (PySem.W.fnOf "_law_whole" "_law_whole" (defArgs s__law_whole) (defBody s__law_whole) (defScope s__law_whole) .none kV__law_whole dc__law_whole pm__law_whole an__law_whole cd__law_whole ct__law_whole), sl__law_whole⟩)
    (c__law_whole : PySem.W.codeIn K cd__law_whole "_law_whole" = true)
    (k__law_whole : PySem.W.keepIn K (.ref f__law_whole) = true)
    (a__law_beyond : PySem.W.nsIn K mainGlobals "_law_beyond" = some (some (.ref f__law_beyond)))
    (l__law_beyond : K.lookup f__law_beyond = some ⟨oc__law_beyond, od__law_beyond, .func (PySem.W.fnOf "_law_beyond" "_law_beyond" (defArgs s__law_beyond) (defBody s__law_beyond) (defScope s__law_beyond) .none kV__law_beyond dc__law_beyond pm__law_beyond an__law_beyond cd__law_beyond ct__law_beyond), sl__law_beyond⟩)
    (c__law_beyond : PySem.W.codeIn K cd__law_beyond "_law_beyond" = true)
    (k__law_beyond : PySem.W.keepIn K (.ref f__law_beyond) = true)
    (a__law_pieces : PySem.W.nsIn K mainGlobals "_law_pieces" = some (some (.ref f__law_pieces)))
    (l__law_pieces : K.lookup f__law_pieces = some ⟨oc__law_pieces, od__law_pieces, .func (PySem.W.fnOf "_law_pieces" "_law_pieces" (defArgs s__law_pieces) (defBody s__law_pieces) (defScope s__law_pieces) .none kV__law_pieces dc__law_pieces pm__law_pieces an__law_pieces cd__law_pieces ct__law_pieces), sl__law_pieces⟩)
    (c__law_pieces : PySem.W.codeIn K cd__law_pieces "_law_pieces" = true)
    (k__law_pieces : PySem.W.keepIn K (.ref f__law_pieces) = true)
    (a__law_signals : PySem.W.nsIn K mainGlobals "_law_signals" = some (some (.ref f__law_signals)))
    (l__law_signals : K.lookup f__law_signals = some ⟨oc__law_signals, od__law_signals, .func (PySem.W.fnOf "_law_signals" "_law_signals" (defArgs s__law_signals) (defBody s__law_signals) (defScope s__law_signals) .none kV__law_signals dc__law_signals pm__law_signals an__law_signals cd__law_signals ct__law_signals), sl__law_signals⟩)
    (c__law_signals : PySem.W.codeIn K cd__law_signals "_law_signals" = true)
    (k__law_signals : PySem.W.keepIn K (.ref f__law_signals) = true)
    (a__law_outs : PySem.W.nsIn K mainGlobals "_law_outs" = some (some (.ref f__law_outs)))
    (l__law_outs : K.lookup f__law_outs = some ⟨oc__law_outs, od__law_outs, .func (PySem.W.fnOf "_law_outs" "_law_outs" (defArgs s__law_outs) (defBody s__law_outs) (defScope s__law_outs) .none kV__law_outs dc__law_outs pm__law_outs an__law_outs cd__law_outs ct__law_outs), sl__law_outs⟩)
    (c__law_outs : PySem.W.codeIn K cd__law_outs "_law_outs" = true)
    (k__law_outs : PySem.W.keepIn K (.ref f__law_outs) = true)
    (a__law_ways : PySem.W.nsIn K mainGlobals "_law_ways" = some (some (.ref f__law_ways)))
    (l__law_ways : K.lookup f__law_ways = some ⟨oc__law_ways, od__law_ways, .func (PySem.W.fnOf "_law_ways" "_law_ways" (defArgs s__law_ways) (defBody s__law_ways) (defScope s__law_ways) .none kV__law_ways dc__law_ways pm__law_ways an__law_ways cd__law_ways ct__law_ways), sl__law_ways⟩)
    (c__law_ways : PySem.W.codeIn K cd__law_ways "_law_ways" = true)
    (k__law_ways : PySem.W.keepIn K (.ref f__law_ways) = true)
    (a__law_routes : PySem.W.nsIn K mainGlobals "_law_routes" = some (some (.ref f__law_routes)))
    (l__law_routes : K.lookup f__law_routes = some ⟨oc__law_routes, od__law_routes, .func (PySem.W.fnOf "_law_routes" "_law_routes" (defArgs s__law_routes) (defBody s__law_routes) (defScope s__law_routes) .none kV__law_routes dc__law_routes pm__law_routes an__law_routes cd__law_routes ct__law_routes), sl__law_routes⟩)
    (c__law_routes : PySem.W.codeIn K cd__law_routes "_law_routes" = true)
    (k__law_routes : PySem.W.keepIn K (.ref f__law_routes) = true)
    (a__law_is_route : PySem.W.nsIn K mainGlobals "_law_is_route" = some (some (.ref f__law_is_route)))
    (l__law_is_route : K.lookup f__law_is_route = some ⟨oc__law_is_route, od__law_is_route, .func (PySem.W.fnOf "_law_is_route" "_law_is_route" (defArgs s__law_is_route) (defBody s__law_is_route) (defScope s__law_is_route) .none kV__law_is_route dc__law_is_route pm__law_is_route an__law_is_route cd__law_is_route ct__law_is_route), sl__law_is_route⟩)
    (c__law_is_route : PySem.W.codeIn K cd__law_is_route "_law_is_route" = true)
    (k__law_is_route : PySem.W.keepIn K (.ref f__law_is_route) = true)
    (a_law : PySem.W.nsIn K mainGlobals "law" = some (some (.ref f_law)))
    (l_law : K.lookup f_law = some ⟨oc_law, od_law, .func (PySem.W.fnOf "law" "law" (defArgs s_law) (defBody s_law) (defScope s_law) .none kV_law dc_law pm_law an_law cd_law ct_law), sl_law⟩)
    (c_law : PySem.W.codeIn K cd_law "law" = true)
    (k_law : PySem.W.keepIn K (.ref f_law) = true) :
    ∃ fd : FuncData, (∀ (s : Shared) (v : Value), BindsTo s fd ⟨[v], []⟩ [("_law_script", v)]) ∧ ∀ base : Heap, K.In base → base.Ns mainGlobals mg → FnOk P w K mg base CX0 25 fa fd ["_law_script"] (spLaw K) := by
  have e := hfa.symm.trans (PySem.W.mg_of X G a_law)
  cases e
  have F_joints := fun_mk (st := s_joints) l_joints c_joints k_joints
  have b_joints := F_joints.binds (ps := ["piece"]) fun _ _ _ _ _ _ us hl => match us, hl with | [_], _ => rfl
  have F_beyond := fun_mk (st := s_beyond) l_beyond c_beyond k_beyond
  have b_beyond := F_beyond.binds (ps := ["pieces", "at", "joint"]) fun _ _ _ _ _ _ us hl => match us, hl with | [_, _, _], _ => rfl
  have F_outs := fun_mk (st := s_outs) l_outs c_outs k_outs
  have b_outs := F_outs.binds (ps := ["piece", "joint"]) fun _ _ _ _ _ _ us hl => match us, hl with | [_, _], _ => rfl
  have F_look_pieces := fun_mk (st := s_look_pieces) l_look_pieces c_look_pieces k_look_pieces
  have b_look_pieces := F_look_pieces.binds (ps := ["pieces"]) fun _ _ _ _ _ _ us hl => match us, hl with | [_], _ => rfl
  have F_look_signals := fun_mk (st := s_look_signals) l_look_signals c_look_signals k_look_signals
  have b_look_signals := F_look_signals.binds (ps := ["pieces", "signals"]) fun _ _ _ _ _ _ us hl => match us, hl with | [_, _], _ => rfl
  have F_ends_at := fun_mk (st := s_ends_at) l_ends_at c_ends_at k_ends_at
  have b_ends_at := F_ends_at.binds (ps := ["pieces", "signals", "at", "joint"]) fun _ _ _ _ _ _ us hl => match us, hl with | [_, _, _, _], _ => rfl
  have F_ways_from := fun_mk (st := s_ways_from) l_ways_from c_ways_from k_ways_from
  have b_ways_from := F_ways_from.binds (ps := ["pieces", "signals", "way", "joint", "at"]) fun _ _ _ _ _ _ us hl => match us, hl with | [_, _, _, _, _], _ => rfl
  have F_routes := fun_mk (st := s_routes) l_routes c_routes k_routes
  have b_routes := F_routes.binds (ps := ["pieces", "signals"]) fun _ _ _ _ _ _ us hl => match us, hl with | [_, _], _ => rfl
  have F_Yard_init := fun_mk (st := s_Yard_init) l_Yard_init c_Yard_init k_Yard_init
  have b_Yard_init := F_Yard_init.binds (ps := ["self", "pieces", "signals", "wait"]) fun _ _ _ _ _ _ us hl => match us, hl with | [_, _, _, _], _ => rfl
  have F_Yard_ways := fun_mk (st := s_Yard_ways) l_Yard_ways c_Yard_ways k_Yard_ways
  have b_Yard_ways := F_Yard_ways.binds (ps := ["self"]) fun _ _ _ _ _ _ us hl => match us, hl with | [_], _ => rfl
  have F__law_cell := fun_mk (st := s__law_cell) l__law_cell c__law_cell k__law_cell
  have b__law_cell := F__law_cell.binds (ps := ["_law_script", "_law_k"]) fun _ _ _ _ _ _ us hl => match us, hl with | [_, _], _ => rfl
  have F__law_mix := fun_mk (st := s__law_mix) l__law_mix c__law_mix k__law_mix
  have b__law_mix := F__law_mix.binds (ps := ["_law_script", "_law_k"]) fun _ _ _ _ _ _ us hl => match us, hl with | [_, _], _ => rfl
  have F__law_whole := fun_mk (st := s__law_whole) l__law_whole c__law_whole k__law_whole
  have b__law_whole := F__law_whole.binds (ps := ["_law_found"]) fun _ _ _ _ _ _ us hl => match us, hl with | [_], _ => rfl
  have F__law_beyond := fun_mk (st := s__law_beyond) l__law_beyond c__law_beyond k__law_beyond
  have b__law_beyond := F__law_beyond.binds (ps := ["_law_pieces_here", "_law_at", "_law_joint"]) fun _ _ _ _ _ _ us hl => match us, hl with | [_, _, _], _ => rfl
  have F__law_pieces := fun_mk (st := s__law_pieces) l__law_pieces c__law_pieces k__law_pieces
  have b__law_pieces := F__law_pieces.binds (ps := ["_law_script", "_law_base"]) fun _ _ _ _ _ _ us hl => match us, hl with | [_, _], _ => rfl
  have F__law_signals := fun_mk (st := s__law_signals) l__law_signals c__law_signals k__law_signals
  have b__law_signals := F__law_signals.binds (ps := ["_law_script", "_law_base", "_law_pieces_here"]) fun _ _ _ _ _ _ us hl => match us, hl with | [_, _, _], _ => rfl
  have F__law_outs := fun_mk (st := s__law_outs) l__law_outs c__law_outs k__law_outs
  have b__law_outs := F__law_outs.binds (ps := ["_law_piece", "_law_joint"]) fun _ _ _ _ _ _ us hl => match us, hl with | [_, _], _ => rfl
  have F__law_ways := fun_mk (st := s__law_ways) l__law_ways c__law_ways k__law_ways
  have b__law_ways := F__law_ways.binds (ps := ["_law_pieces_here", "_law_signals_here", "_law_way", "_law_at", "_law_joint"]) fun _ _ _ _ _ _ us hl => match us, hl with | [_, _, _, _, _], _ => rfl
  have F__law_routes := fun_mk (st := s__law_routes) l__law_routes c__law_routes k__law_routes
  have b__law_routes := F__law_routes.binds (ps := ["_law_pieces_here", "_law_signals_here"]) fun _ _ _ _ _ _ us hl => match us, hl with | [_, _], _ => rfl
  have F__law_is_route := fun_mk (st := s__law_is_route) l__law_is_route c__law_is_route k__law_is_route
  have b__law_is_route := F__law_is_route.binds (ps := ["_law_pieces_here", "_law_signals_here", "_law_one"]) fun _ _ _ _ _ _ us hl => match us, hl with | [_, _, _], _ => rfl
  have F_law := fun_mk (st := s_law) l_law c_law k_law
  have b_law := F_law.binds (ps := ["_law_script"]) fun _ _ _ _ _ _ us hl => match us, hl with | [_], _ => rfl
  have T : Txt K mg ⟨C_BoxError, C_BadYard, C_NotThere, C_Yard⟩ := ⟨PySem.W.mg_none_of X G z_all, PySem.W.mg_none_of X G z_bool, PySem.W.mg_none_of X G z_int, PySem.W.mg_none_of X G z_isinstance, PySem.W.mg_none_of X G z_len, PySem.W.mg_none_of X G z_list, PySem.W.mg_none_of X G z_min, PySem.W.mg_none_of X G z_range, PySem.W.mg_none_of X G z_set, PySem.W.mg_none_of X G z_tuple, ⟨_, PySem.W.mg_of X G g_JOINTS⟩, ⟨_, PySem.W.mg_of X G g_MOST⟩, ⟨_, PySem.W.mg_of X G g_STRAIGHT⟩, ⟨PySem.W.mg_of X G a_BoxError, x_BoxError, k_BoxError, b_BoxError, t_BoxError⟩, ⟨PySem.W.mg_of X G a_BadYard, x_BadYard, k_BadYard, b_BadYard, t_BadYard⟩, ⟨PySem.W.mg_of X G a_NotThere, x_NotThere, k_NotThere, b_NotThere, t_NotThere⟩, ⟨pg_Yard, hd_Yard, po_Yard, sa_Yard⟩, PySem.W.mg_of X G a_Yard, n_Yard_pieces, n_Yard_signals, n_Yard_wait, n_Yard_routes, n_Yard_now, n_Yard_points, n_Yard_locks, n_Yard_green, n_Yard_falling, n_Yard_trains⟩
  refine ⟨PySem.W.fnOf "law" "law" (defArgs s_law) (defBody s_law) (defScope s_law) .none kV_law dc_law pm_law an_law cd_law ct_law, fun s v => .of_eq rfl, fun base _ _ => ?_⟩
  have G1 := SB.Fun.cal F_joints (PySem.W.mg_of X G a_joints) b_joints (ok_joints (P := P) (w := w) (base := base) T F_joints)
  have G2 := SB.Fun.cal F_beyond (PySem.W.mg_of X G a_beyond) b_beyond (ok_beyond (P := P) (w := w) (base := base) T F_beyond G1)
  have G3 := SB.Fun.cal F_outs (PySem.W.mg_of X G a_outs) b_outs (ok_outs (P := P) (w := w) (base := base) T F_outs G1)
  have G4 := SB.Fun.cal F_ends_at (PySem.W.mg_of X G a_ends_at) b_ends_at (ok_ends (P := P) (w := w) (base := base) T F_ends_at G2)
  have G5 := ok_ways (P := P) (w := w) (base := base) T F_ways_from b_ways_from (PySem.W.mg_of X G a_ways_from) G2 G3 G4 17
  have G6 := SB.Fun.cal F_look_pieces (PySem.W.mg_of X G a_look_pieces) b_look_pieces (ok_lookP (P := P) (w := w) (base := base) T F_look_pieces G1)
  have G7 := SB.Fun.cal F_look_signals (PySem.W.mg_of X G a_look_signals) b_look_signals (ok_lookS (P := P) (w := w) (base := base) T F_look_signals G1)
  have G8 := SB.Fun.cal F_routes (PySem.W.mg_of X G a_routes) b_routes (ok_routes (P := P) (w := w) (base := base) T F_routes G6 G7 G5)
  have G9 : Mak P w K mg base (L2.CX P w) 22 "Yard" C_Yard (spYard _) := ⟨f_Yard_init, _, _, ok_yard (P := P) (w := w) (base := base) T F_Yard_init G8, PySem.W.mg_of X G a_Yard, ⟨mk_Yard, a_Yard_init, i_Yard_init, kc_Yard⟩, b_Yard_init⟩
  have G10 := SB.Fun.cal F__law_cell (PySem.W.mg_of X G a__law_cell) b__law_cell (ok_cell (P := P) (w := w) (base := base) T F__law_cell)
  have G11 := SB.Fun.cal F__law_mix (PySem.W.mg_of X G a__law_mix) b__law_mix (ok_mix (P := P) (w := w) (base := base) T F__law_mix G10)
  have G12 : Met P w K mg base CX0 1 C_Yard "ways" (spWY _) := ⟨f_Yard_ways, _, _, ok_waysY (P := P) (w := w) (base := base) T F_Yard_ways, ⟨a_Yard_ways, i_Yard_ways, k_Yard_ways⟩, b_Yard_ways⟩
  have G13 := SB.Fun.cal F__law_whole (PySem.W.mg_of X G a__law_whole) b__law_whole (ok_whole (P := P) (w := w) (base := base) T F__law_whole)
  have G14 := SB.Fun.cal F__law_beyond (PySem.W.mg_of X G a__law_beyond) b__law_beyond (ok_Lbeyond (P := P) (w := w) (base := base) T F__law_beyond)
  have G15 := SB.Fun.cal F__law_outs (PySem.W.mg_of X G a__law_outs) b__law_outs (ok_Louts (P := P) (w := w) (base := base) T F__law_outs)
  have G16 := SB.Fun.cal F__law_pieces (PySem.W.mg_of X G a__law_pieces) b__law_pieces (ok_pieces (P := P) (w := w) (base := base) T F__law_pieces G11)
  have G17 := SB.Fun.cal F__law_signals (PySem.W.mg_of X G a__law_signals) b__law_signals (ok_signals (P := P) (w := w) (base := base) T F__law_signals G11 G14)
  have G18 := ok_Lways (P := P) (w := w) (base := base) T F__law_ways b__law_ways (PySem.W.mg_of X G a__law_ways) G14 G15 17
  have G19 := SB.Fun.cal F__law_routes (PySem.W.mg_of X G a__law_routes) b__law_routes (ok_Lroutes (P := P) (w := w) (base := base) T F__law_routes G18)
  have G20 := SB.Fun.cal F__law_is_route (PySem.W.mg_of X G a__law_is_route) b__law_is_route (ok_is_route (P := P) (w := w) (base := base) T F__law_is_route G13 G14)
  exact ok_law (P := P) (w := w) (base := base) T F_law G16 G17 G8 G20 G19 G9 G12
theorem walk {l : PySem.W.OpenLaw} {q : Program} {loose : List Str} {XP : (Str → Option Value) → Heap → Prop} {YP : World → Heap → Prop} {d : DefRec} {K : Params → PySem.W.Frag} (hn : l.most = some 63) (hdf : d.params.defaults = [])
    (hY : ∀ (w : World) (h : Heap), YP w h → (K w.params).In h)
    (F : ∀ (w : World) (mg : Str → Option Value) (fa : Addr) (h : Heap), (K w.params).In h → h.Ns mainGlobals mg → mg d.name = some (.ref fa) →
      ∃ fd : FuncData, (∀ (s : Shared) (u : Value), BindsTo s fd ⟨[u], []⟩ [("_law_script", u)]) ∧ ∀ base : Heap, (K w.params).In base → base.Ns mainGlobals mg → FnOk l.prog w (K w.params) mg base CX0 25 fa fd ["_law_script"] (spLaw (K w.params))) :
    PySem.W.WalkO q loose XP YP l.row.toRowW d [] (fun f vs => PySem.call f vs) :=
  L2.walk_of (n := 63) (k := 25) (x := "_law_script") (CX := fun _ => CX0) (sp := fun w => spLaw (K w.params)) hn (by decide) hdf ⟨rfl, by decide, by decide⟩ hY F (fun _ _ a ns hl _ hS => ⟨a, ns, rfl, hS, hl, fun _ => rfl⟩) fun _ _ _ _ _ z => z
end SB
open PySem PySem.W PyProof.Rows
set_option maxRecDepth 100000 in
set_option maxHeartbeats 0 in
theorem PySem.Challenge.cw_signalbox_k02_whole_routes_holds : PySem.Challenge.rw_signalbox_k02_whole_routes.Holds := by
  w_on; o_law; k_head; (case hw => w_witness2)
  k_fill
  refine SB.walk (l := PySem.Challenge.rw_signalbox_k02_whole_routes) rfl rfl (fun w h Y => PySem.W.kIn_of Y) ?F
  case F =>
    intro w mg fa h KX G hmg
    refine' SB.all_mk KX G hmg ?a_BoxError ?a_BadYard ?a_NotThere ?a_Yard ?x_BoxError ?k_BoxError ?b_BoxError ?t_BoxError ?h_BoxError ?x_BadYard ?k_BadYard ?b_BadYard ?t_BadYard ?h_BadYard ?x_NotThere ?k_NotThere ?b_NotThere ?t_NotThere ?h_NotThere ?pg_Yard ?hd_Yard ?po_Yard ?sa_Yard ?mk_Yard ?kc_Yard ?n_Yard_pieces ?n_Yard_signals ?n_Yard_wait ?n_Yard_routes ?n_Yard_now ?n_Yard_points ?n_Yard_locks ?n_Yard_green ?n_Yard_falling ?n_Yard_trains ?z_all ?z_bool ?z_int ?z_isinstance ?z_len ?z_list ?z_min ?z_range ?z_set ?z_tuple ?g_JOINTS ?g_MOST ?g_STRAIGHT ?a_joints ?l_joints ?c_joints ?k_joints ?a_beyond ?l_beyond ?c_beyond ?k_beyond ?a_outs ?l_outs ?c_outs ?k_outs ?a_look_pieces ?l_look_pieces ?c_look_pieces ?k_look_pieces ?a_look_signals ?l_look_signals ?c_look_signals ?k_look_signals ?a_ends_at ?l_ends_at ?c_ends_at ?k_ends_at ?a_ways_from ?l_ways_from ?c_ways_from ?k_ways_from ?a_routes ?l_routes ?c_routes ?k_routes ?a_Yard_init ?i_Yard_init ?l_Yard_init ?c_Yard_init ?k_Yard_init ?a_Yard_ways ?i_Yard_ways ?l_Yard_ways ?c_Yard_ways ?k_Yard_ways ?a__law_cell ?l__law_cell ?c__law_cell ?k__law_cell ?a__law_mix ?l__law_mix ?c__law_mix ?k__law_mix ?a__law_whole ?l__law_whole ?c__law_whole ?k__law_whole ?a__law_beyond ?l__law_beyond ?c__law_beyond ?k__law_beyond ?a__law_pieces ?l__law_pieces ?c__law_pieces ?k__law_pieces ?a__law_signals ?l__law_signals ?c__law_signals ?k__law_signals ?a__law_outs ?l__law_outs ?c__law_outs ?k__law_outs ?a__law_ways ?l__law_ways ?c__law_ways ?k__law_ways ?a__law_routes ?l__law_routes ?c__law_routes ?k__law_routes ?a__law_is_route ?l__law_is_route ?c__law_is_route ?k__law_is_route ?a_law ?l_law ?c_law ?k_law
    (case a_BoxError => k_is)
    (case a_BadYard => k_is)
    (case a_NotThere => k_is)
    (case a_Yard => k_is)
    (case x_BoxError => k_exc)
    (case k_BoxError => k_is)
    (case b_BoxError => k_is)
    (case t_BoxError => k_is)
    (case h_BoxError => k_is)
    (case x_BadYard => k_exc)
    (case k_BadYard => k_is)
    (case b_BadYard => k_is)
    (case t_BadYard => k_is)
    (case h_BadYard => k_is)
    (case x_NotThere => k_exc)
    (case k_NotThere => k_is)
    (case b_NotThere => k_is)
    (case t_NotThere => k_is)
    (case h_NotThere => k_is)
    (case pg_Yard => k_is)
    (case hd_Yard => k_is)
    (case po_Yard => k_is)
    (case sa_Yard => k_is)
    (case mk_Yard => k_is)
    (case kc_Yard => k_is)
    (case n_Yard_pieces => k_is)
    (case n_Yard_signals => k_is)
    (case n_Yard_wait => k_is)
    (case n_Yard_routes => k_is)
    (case n_Yard_now => k_is)
    (case n_Yard_points => k_is)
    (case n_Yard_locks => k_is)
    (case n_Yard_green => k_is)
    (case n_Yard_falling => k_is)
    (case n_Yard_trains => k_is)
    (case z_all => k_is)
    (case z_bool => k_is)
    (case z_int => k_is)
    (case z_isinstance => k_is)
    (case z_len => k_is)
    (case z_list => k_is)
    (case z_min => k_is)
    (case z_range => k_is)
    (case z_set => k_is)
    (case z_tuple => k_is)
    (case g_JOINTS => k_is)
    (case g_MOST => k_is)
    (case g_STRAIGHT => k_is)
    (case a_joints => k_is)
    (case l_joints => k_is)
    (case c_joints => k_is)
    (case k_joints => k_is)
    (case a_beyond => k_is)
    (case l_beyond => k_is)
    (case c_beyond => k_is)
    (case k_beyond => k_is)
    (case a_outs => k_is)
    (case l_outs => k_is)
    (case c_outs => k_is)
    (case k_outs => k_is)
    (case a_look_pieces => k_is)
    (case l_look_pieces => k_is)
    (case c_look_pieces => k_is)
    (case k_look_pieces => k_is)
    (case a_look_signals => k_is)
    (case l_look_signals => k_is)
    (case c_look_signals => k_is)
    (case k_look_signals => k_is)
    (case a_ends_at => k_is)
    (case l_ends_at => k_is)
    (case c_ends_at => k_is)
    (case k_ends_at => k_is)
    (case a_ways_from => k_is)
    (case l_ways_from => k_is)
    (case c_ways_from => k_is)
    (case k_ways_from => k_is)
    (case a_routes => k_is)
    (case l_routes => k_is)
    (case c_routes => k_is)
    (case k_routes => k_is)
    (case a_Yard_init => k_is)
    (case i_Yard_init => k_is)
    (case l_Yard_init => k_is)
    (case c_Yard_init => k_is)
    (case k_Yard_init => k_is)
    (case a_Yard_ways => k_is)
    (case i_Yard_ways => k_is)
    (case l_Yard_ways => k_is)
    (case c_Yard_ways => k_is)
    (case k_Yard_ways => k_is)
    (case a__law_cell => k_is)
    (case l__law_cell => k_is)
    (case c__law_cell => k_is)
    (case k__law_cell => k_is)
    (case a__law_mix => k_is)
    (case l__law_mix => k_is)
    (case c__law_mix => k_is)
    (case k__law_mix => k_is)
    (case a__law_whole => k_is)
    (case l__law_whole => k_is)
    (case c__law_whole => k_is)
    (case k__law_whole => k_is)
    (case a__law_beyond => k_is)
    (case l__law_beyond => k_is)
    (case c__law_beyond => k_is)
    (case k__law_beyond => k_is)
    (case a__law_pieces => k_is)
    (case l__law_pieces => k_is)
    (case c__law_pieces => k_is)
    (case k__law_pieces => k_is)
    (case a__law_signals => k_is)
    (case l__law_signals => k_is)
    (case c__law_signals => k_is)
    (case k__law_signals => k_is)
    (case a__law_outs => k_is)
    (case l__law_outs => k_is)
    (case c__law_outs => k_is)
    (case k__law_outs => k_is)
    (case a__law_ways => k_is)
    (case l__law_ways => k_is)
    (case c__law_ways => k_is)
    (case k__law_ways => k_is)
    (case a__law_routes => k_is)
    (case l__law_routes => k_is)
    (case c__law_routes => k_is)
    (case k__law_routes => k_is)
    (case a__law_is_route => k_is)
    (case l__law_is_route => k_is)
    (case c__law_is_route => k_is)
    (case k__law_is_route => k_is)
    (case a_law => k_is)
    (case l_law => k_is)
    (case c_law => k_is)
    (case k_law => k_is)
#print axioms PySem.Challenge.cw_signalbox_k02_whole_routes_holds
