import PyProof.Rows.All
import Wide.All
import OpenK.AllK
import Wide.FinOn
import HandS.ForMost
import HandS.ForExc
import HandS.Evl
import HandS.Walk
import HandS.Steps
import HandS.IsInst
import HandS.FStr
import HandS.ExcCtx
import HandS.Text
import HandS.ExcIs
import HandS.HotCalls
import HandS.Conv
import HandS.SetFor
import HandS.Style
import PySem.Challenge.RW_onebell_k03_a_desk_hands_over
set_option Elab.async false
set_option linter.all false
set_option maxRecDepth 100000
set_option maxHeartbeats 4000000
set_option Elab.async false
set_option linter.all false
set_option maxRecDepth 100000
set_option maxHeartbeats 2000000
namespace Ob
open PySem L2 Evl
abbrev D := PyData
/-! ## data and heaps that grow -/
mutual
theorem dp_ex {K : PySem.W.Frag} {H H' : Hp} (e : Ex H H') : ∀ {v : V} {d : D}, Dp K H v d → Dp K H' v d
  | _, _, .non => .non
  | _, _, .bl b => .bl b
  | _, _, .int i => .int i
  | _, _, .str x => .str x
  | _, _, .lst s a => .lst (ex_l e s) (dpa_ex e a)
  | _, _, .tup s a => .tup (ex_t e s) (dpa_ex e a)
theorem dpa_ex {K : PySem.W.Frag} {H H' : Hp} (e : Ex H H') : ∀ {v : List V} {d : List D}, DpAll K H v d → DpAll K H' v d
  | _, _, .nil => .nil
  | _, _, .cons h t => .cons (dp_ex e h) (dpa_ex e t)
end
section
variable {K : PySem.W.Frag} {H H' H1 H2 : Hp} {σ : L2.St} {v : V} {vs xs : List V} {d d' e : D} {ds es : List D}
theorem dpa_len : ∀ {vs : List V} {ds : List D}, DpAll K H vs ds → vs.length = ds.length
  | _, _, .nil => rfl
  | _, _, .cons _ t => by simp [dpa_len t]
theorem dpa_get : ∀ {vs : List V} {ds : List D} {i : Nat} {d : D}, DpAll K H vs ds → ds[i]? = some d → ∃ v, vs[i]? = some v ∧ Dp K H v d
  | _, _, _, _, .nil, h => by simp at h
  | _, _, 0, _, .cons a _, h => by simp at h; subst h; exact ⟨_, rfl, a⟩
  | _, _, i + 1, _, .cons _ t, h => by
    obtain ⟨v, h1, h2⟩ := dpa_get (i := i) t (by simpa using h)
    exact ⟨v, by simpa using h1, h2⟩
theorem dpa_getV : ∀ {vs : List V} {ds : List D} {i : Nat} {v : V}, DpAll K H vs ds → vs[i]? = some v → ∃ d, ds[i]? = some d ∧ Dp K H v d
  | _, _, _, _, .nil, h => by simp at h
  | _, _, 0, _, .cons a _, h => by simp at h; subst h; exact ⟨_, rfl, a⟩
  | _, _, i + 1, _, .cons _ t, h => by
    obtain ⟨v, h1, h2⟩ := dpa_getV (i := i) t (by simpa using h)
    exact ⟨v, by simpa using h1, h2⟩
theorem dpa_app : ∀ {vs : List V} {ds : List D} {ws : List V} {es : List D}, DpAll K H vs ds → DpAll K H ws es → DpAll K H (vs ++ ws) (ds ++ es)
  | _, _, _, _, .nil, h => h
  | _, _, _, _, .cons a t, h => .cons a (dpa_app t h)
theorem dpa_take : ∀ (n : Nat) {vs : List V} {ds : List D}, DpAll K H vs ds → DpAll K H (vs.take n) (ds.take n)
  | 0, _, _, _ => .nil
  | _ + 1, _, _, .nil => .nil
  | n + 1, _, _, .cons a t => .cons a (dpa_take n t)
theorem dpa_drop : ∀ (n : Nat) {vs : List V} {ds : List D}, DpAll K H vs ds → DpAll K H (vs.drop n) (ds.drop n)
  | 0, _, _, h => h
  | _ + 1, _, _, .nil => .nil
  | n + 1, _, _, .cons _ t => dpa_drop n t
theorem dpa_ints : ∀ {ns : List Int}, DpAll K H (ns.map V.int) (ns.map PyData.int)
  | [] => .nil
  | _ :: _ => .cons (.int _) dpa_ints
theorem dpa_ints_inv : ∀ {vs : List V} {ns : List Int}, DpAll K H vs (ns.map PyData.int) → vs = ns.map V.int
  | [], [], _ => rfl
  | _, _ :: _, .cons a t => by cases a; rw [List.map_cons, dpa_ints_inv t]
theorem dpa_bls_inv : ∀ {vs : List V} {ns : List Bool}, DpAll K H vs (ns.map PyData.bool) → vs = ns.map V.bl
  | [], [], _ => rfl
  | _, _ :: _, .cons a t => by cases a; rw [List.map_cons, dpa_bls_inv t]
theorem dpa1 (h : DpAll K H vs [d]) : ∃ v, vs = [v] ∧ Dp K H v d := by
  cases h with | cons a t => cases t; exact ⟨_, rfl, a⟩
theorem dpa2 {d1 d2 : D} (h : DpAll K H vs [d1, d2]) : ∃ v1 v2, vs = [v1, v2] ∧ Dp K H v1 d1 ∧ Dp K H v2 d2 := by
  cases h with | cons a t => obtain ⟨v, rfl, b⟩ := dpa1 t; exact ⟨_, _, rfl, a, b⟩
theorem dpa3 {d1 d2 d3 : D} (h : DpAll K H vs [d1, d2, d3]) : ∃ v1 v2 v3, vs = [v1, v2, v3] ∧ Dp K H v1 d1 ∧ Dp K H v2 d2 ∧ Dp K H v3 d3 := by
  cases h with | cons a t => obtain ⟨v, w, rfl, b, c⟩ := dpa2 t; exact ⟨_, _, _, rfl, a, b, c⟩
/-- a slice's items, of any list -/
def cutL {α : Type} (xs : List α) (lo hi : Option Int) : List α := (xs.drop (HT.sIx xs.length 0 lo)).take (HT.sIx xs.length xs.length hi - HT.sIx xs.length 0 lo)
theorem dpa_cut {lo hi : Option Int} (h : DpAll K H vs ds) : DpAll K H (cutV vs lo hi) (cutL ds lo hi) := by
  unfold cutV cutL
  rw [dpa_len h]
  exact dpa_take _ (dpa_drop _ h)
theorem cutL_map {α β : Type} (f : α → β) (xs : List α) (lo hi : Option Int) : cutL (xs.map f) lo hi = (cutL xs lo hi).map f := by
  unfold cutL
  rw [List.length_map, List.map_take, List.map_drop]
theorem cutL_len {α : Type} (xs : List α) (lo hi : Option Int) : (cutL xs lo hi).length ≤ xs.length := by
  unfold cutL
  rw [List.length_take, List.length_drop]
  omega
theorem cutL_mem {α : Type} {xs : List α} {lo hi : Option Int} {x : α} (h : x ∈ cutL xs lo hi) : x ∈ xs := List.mem_of_mem_drop (List.mem_of_mem_take h)
theorem atI_some {α : Type} {xs : List α} {i : Int} {x : α} (h : atI xs i = some x) : ∃ j, ixN xs.length i = some j ∧ xs[j]? = some x := by
  unfold atI at h
  cases q : ixN xs.length i with
  | none => rw [q] at h; cases h
  | some j => rw [q] at h; exact ⟨j, rfl, h⟩
theorem dpa_at {i : Int} (h : DpAll K H vs ds) (ha : atI ds i = some d) : ∃ v, atI vs i = some v ∧ Dp K H v d := by
  obtain ⟨j, h1, h2⟩ := atI_some ha
  obtain ⟨v, h3, h4⟩ := dpa_get h h2
  refine ⟨v, ?_, h4⟩
  unfold atI
  rw [dpa_len h, h1]
  exact h3
theorem dp_list (h : Dp K H v (.list ds)) : ∃ a xs, v = .ref a ∧ SqL K H a xs ∧ DpAll K H xs ds := by
  cases h with | lst s a => exact ⟨_, _, rfl, s, a⟩
theorem dp_tuple (h : Dp K H v (.tuple ds)) : ∃ a xs, v = .ref a ∧ SqT K H a xs ∧ DpAll K H xs ds := by
  cases h with | tup s a => exact ⟨_, _, rfl, s, a⟩

/-! ## what evaluates to which data: A the heap of the data, B the whole heap -/
structure Pr (A B A' B' : Hp) : Prop where
  a : Ex A A'
  b : Ex B B'
  s : Ex A' B'
  n : ∀ x, A x = none → B x ≠ none → A' x = none
theorem Pr.refl {A B : Hp} (h : Ex A B) : Pr A B A B := ⟨Ex.refl _, Ex.refl _, h, fun _ q _ => q⟩
theorem Pr.trans {A B A' B' A'' B'' : Hp} (h : Pr A B A' B') (k : Pr A' B' A'' B'') : Pr A B A'' B'' :=
  ⟨h.a.trans k.a, h.b.trans k.b, k.s, fun x q r => k.n x (h.n x q r) fun z => r (fresh_back h.b z)⟩
theorem Ex.upd2 {A B : Hp} {p : Addr} {o : HO} (h : Ex A B) : Ex (upd A p o) (upd B p o) := fun a u e => by
  by_cases q : a = p
  · subst q; rw [upd_same] at e; rw [upd_same]; exact e
  · rw [upd_ne q] at e; rw [upd_ne q]; exact h a u e
theorem Pr.new {A B : Hp} {p : Addr} {o : HO} (h : Ex A B) (hp : B p = none) : Pr A B (upd A p o) (upd B p o) :=
  ⟨Ex.new (fresh_back h hp), Ex.new hp, Ex.upd2 h, fun x q r => by rw [upd_ne (fun (z : x = p) => r (by rw [z]; exact hp))]; exact q⟩
theorem Pr.priv {A B : Hp} {p : Addr} {o : HO} (h : Ex A B) (hp : B p = none) : Pr A B A (upd B p o) :=
  ⟨Ex.refl _, Ex.new hp, h.trans (Ex.new hp), fun _ q _ => q⟩
theorem Pr.up {A B B' : Hp} (h : Ex A B) (e : Ex B B') : Pr A B A B' := ⟨Ex.refl _, e, h.trans e, fun _ q _ => q⟩
/-- the whole heap alone has grown -/
structure Pu (A B B' : Hp) : Prop where
  z : Ex A B
  e : Ex B B'
theorem Pu.s {A B B' : Hp} (h : Pu A B B') : Ex A B' := h.z.trans h.e
theorem Pu.pr {A B B' : Hp} (h : Pu A B B') : Pr A B A B' := Pr.up h.z h.e
theorem Pr.whole {B A' B' : Hp} (h : Pr B B A' B') : Ex B B' := h.b
def EvD (K : PySem.W.Frag) (te : TE) (σ : L2.St) (H : Hp) (d : D) : Prop := ∀ A B, Ex H A → Ex A B → ∀ Q : VK, (∀ v A' B', Pr A B A' B' → Dp K A' v d → Q v B') → te σ B Q
/-- a new list of such data -/
def EvN (K : PySem.W.Frag) (te : TE) (σ : L2.St) (H : Hp) (ds : List D) : Prop := ∀ A B, Ex H A → Ex A B → ∀ Q : VK, (∀ p xs A' B', B p = none → Pr A B A' B' → A' p = none → B' p = some (.lst xs) → DpAll K A' xs ds → Q (.ref p) B') → te σ B Q
/-- a list that is tracked -/
def EvK (K : PySem.W.Frag) (te : TE) (σ : L2.St) (H : Hp) (ds : List D) : Prop := ∀ A B, Ex H A → Ex A B → ∀ Q : VK, (∀ p xs A' B', Pr A B A' B' → B' p = some (.lst xs) → DpAll K A' xs ds → Q (.ref p) B') → te σ B Q
def EvAD (K : PySem.W.Frag) (ta : TA) (σ : L2.St) (H : Hp) (ds : List D) : Prop := ∀ A B, Ex H A → Ex A B → ∀ Q : List V → Hp → Prop, (∀ vs A' B', Pr A B A' B' → DpAll K A' vs ds → Q vs B') → ta σ B Q
variable {ta tb te tl : TE} {t u : TT} {tr : TA}
theorem EvD.mono (e : Ex H H') (h : EvD K te σ H d) : EvD K te σ H' d := fun A B a => h A B (e.trans a)
theorem EvN.mono (e : Ex H H') (h : EvN K te σ H ds) : EvN K te σ H' ds := fun A B a => h A B (e.trans a)
theorem ed_is (h : EvD K te σ H d) (q : d = d') : EvD K te σ H d' := q ▸ h
theorem en_is (h : EvN K te σ H ds) (q : ds = es) : EvN K te σ H es := q ▸ h
theorem ed_n (h : EvN K te σ H ds) : EvD K te σ H (.list ds) := fun A B e s Q q => h A B e s Q fun p xs A' B' hp P hA h2 a =>
  q (.ref p) (upd A' p (.lst xs)) B' ⟨P.a.trans (Ex.new hA), P.b, fun x o z => by
    by_cases w : x = p
    · subst w; rw [upd_same] at z; rw [h2]; exact z
    · rw [upd_ne w] at z; exact P.s x o z, fun x y z => by rw [upd_ne (fun (w : x = p) => z (by rw [w]; exact hp))]; exact P.n x y z⟩ (.lst (sq_of upd_same) (dpa_ex (Ex.new hA) a))
theorem ek_n (h : EvN K te σ H ds) : EvK K te σ H ds := fun A B e s Q q => h A B e s Q fun p xs A' B' _ P _ => q p xs A' B' P
theorem ek_var {i : Nat} {p : Addr} (h : σ[i]? = some (some (.ref p))) (hp : H p = some (.lst xs)) (ha : DpAll K H xs ds) : EvK K (tVar i) σ H ds := fun A B e s Q q => ⟨_, h, q p xs A B (Pr.refl s) (s _ _ (e _ _ hp)) (dpa_ex e ha)⟩
theorem ed_v (h : Ev te σ H v) (hd : Dp K H v d) : EvD K te σ H d := fun A B e s Q q => h B (e.trans s) Q fun B' e2 => q v A B' (Pr.up s e2) (dp_ex e hd)
theorem ed_var {i : Nat} (h : σ[i]? = some (some v)) (hd : Dp K H v d) : EvD K (tVar i) σ H d := ed_v (ev_var h) hd
theorem ed_int {i : Int} : EvD K (tC (.int i)) σ H (.int i) := ed_v ev_c (.int i)
theorem ed_str {i : Str} : EvD K (tC (.str i)) σ H (.str i) := ed_v ev_c (.str i)
theorem ed_bl {i : Bool} : EvD K (tC (.bl i)) σ H (.bool i) := ed_v ev_c (.bl i)
theorem ed_non : EvD K (tC .non) σ H .none := ed_v ev_c .non
theorem v_int {i : Int} (h : EvD K te σ H (.int i)) : Ev te σ H (.int i) := fun H1 e Q q => h H1 H1 e (Ex.refl _) Q fun v _ H2 P hv => by cases hv; exact q H2 P.b
theorem v_bl {i : Bool} (h : EvD K te σ H (.bool i)) : Ev te σ H (.bl i) := fun H1 e Q q => h H1 H1 e (Ex.refl _) Q fun v _ H2 P hv => by cases hv; exact q H2 P.b
theorem v_str {i : Str} (h : EvD K te σ H (.str i)) : Ev te σ H (.str i) := fun H1 e Q q => h H1 H1 e (Ex.refl _) Q fun v _ H2 P hv => by cases hv; exact q H2 P.b
theorem v_non (h : EvD K te σ H .none) : Ev te σ H .non := fun H1 e Q q => h H1 H1 e (Ex.refl _) Q fun v _ H2 P hv => by cases hv; exact q H2 P.b
/-- two operands -/
theorem ed_op {r : R2} {d1 d2 : D} (ha : EvD K ta σ H d1) (hb : EvD K tb σ H d2) (hr : ∀ x y A B, Ex H A → Ex A B → Dp K A x d1 → Dp K A y d2 → ∀ Q : VK, (∀ v A' B', Pr A B A' B' → Dp K A' v d → Q v B') → r x y B Q) : EvD K (tOp r ta tb) σ H d := fun A B e s Q q =>
  ha A B e s _ fun x A2 B2 P2 hx => hb A2 B2 (e.trans P2.a) P2.s _ fun y A3 B3 P3 hy => hr x y A3 B3 ((e.trans P2.a).trans P3.a) P3.s (dp_ex P3.a hx) hy Q fun v A4 B4 P4 => q v A4 B4 ((P2.trans P3).trans P4)
/-- the answer is no new thing -/
theorem ed_opB {r : R2} {d1 d2 : D} (ha : EvD K ta σ H d1) (hb : EvD K tb σ H d2) (hr : ∀ x y B, Dp K B x d1 → Dp K B y d2 → ∀ Q : VK, (∀ v, (∀ A, Ex A B → Dp K A x d1 → Dp K A y d2 → Dp K A v d) → Q v B) → r x y B Q) : EvD K (tOp r ta tb) σ H d :=
  ed_op ha hb fun x y A B _ s hx hy Q q => hr x y B (dp_ex s hx) (dp_ex s hy) Q fun v hv => q v A B (Pr.refl s) (hv A s hx hy)
theorem ed_Ii {f : Int → Int → Int} {i j : Int} (ha : EvD K ta σ H (.int i)) (hb : EvD K tb σ H (.int j)) : EvD K (tOp (rI0 fun i j => .int (f i j)) ta tb) σ H (.int (f i j)) :=
  ed_v (ev_op (v_int ha) (v_int hb) rv_I0) (.int _)
theorem ed_Ib {f : Int → Int → Bool} {i j : Int} (ha : EvD K ta σ H (.int i)) (hb : EvD K tb σ H (.int j)) : EvD K (tOp (rI0 fun i j => .bl (f i j)) ta tb) σ H (.bool (f i j)) :=
  ed_v (ev_op (v_int ha) (v_int hb) rv_I0) (.bl _)
theorem ed_Ic {C : Int → Int → Prop} {f : Int → Int → Int} {i j : Int} (ha : EvD K ta σ H (.int i)) (hb : EvD K tb σ H (.int j)) (hc : C i j) : EvD K (tOp (rI C fun i j => .int (f i j)) ta tb) σ H (.int (f i j)) :=
  ed_v (ev_op (v_int ha) (v_int hb) (rv_I hc)) (.int _)
theorem ed_eqi {i j : Int} (ha : EvD K ta σ H (.int i)) (hb : EvD K tb σ H (.int j)) : EvD K (tOp rEq ta tb) σ H (.bool (i == j)) :=
  ed_v (ev_op (v_int ha) (v_int hb) (rv_eq rfl)) (by rw [dec_int]; exact .bl _)
theorem ed_nei {i j : Int} (ha : EvD K ta σ H (.int i)) (hb : EvD K tb σ H (.int j)) : EvD K (tOp rNe ta tb) σ H (.bool (!(i == j))) :=
  ed_v (ev_op (v_int ha) (v_int hb) (rv_ne rfl)) (by rw [dec_int]; exact .bl _)
theorem ed_eqs {i j : Str} (ha : EvD K ta σ H (.str i)) (hb : EvD K tb σ H (.str j)) : EvD K (tOp rEq ta tb) σ H (.bool (i == j)) :=
  ed_v (ev_op (v_str ha) (v_str hb) (rv_eq rfl)) (by rw [dec_str]; exact .bl _)
theorem ed_nes {i j : Str} (ha : EvD K ta σ H (.str i)) (hb : EvD K tb σ H (.str j)) : EvD K (tOp rNe ta tb) σ H (.bool (!(i == j))) :=
  ed_v (ev_op (v_str ha) (v_str hb) (rv_ne rfl)) (by rw [dec_str]; exact .bl _)
theorem ed_eqb {i j : Bool} (ha : EvD K ta σ H (.bool i)) (hb : EvD K tb σ H (.bool j)) : EvD K (tOp rEq ta tb) σ H (.bool (i == j)) :=
  ed_v (ev_op (v_bl ha) (v_bl hb) (rv_eq rfl)) (by rw [dec_bl]; exact .bl _)
theorem ed_neb {i j : Bool} (ha : EvD K ta σ H (.bool i)) (hb : EvD K tb σ H (.bool j)) : EvD K (tOp rNe ta tb) σ H (.bool (!(i == j))) :=
  ed_v (ev_op (v_bl ha) (v_bl hb) (rv_ne rfl)) (by rw [dec_bl]; exact .bl _)
theorem ed_eqD {d1 d2 : D} (ha : EvD K ta σ H d1) (hb : EvD K tb σ H d2) (s1 : SeqAt.shaped d1 = true) (s2 : SeqAt.shaped d2 = true) : EvD K (tOp (rEqD K) ta tb) σ H (.bool (PyData.eqv d1 d2)) :=
  ed_opB ha hb fun _ _ _ hx hy _ q => ⟨d1, d2, hx, hy, s1, s2, q _ fun _ _ _ _ => .bl _⟩
theorem ed_neD {d1 d2 : D} (ha : EvD K ta σ H d1) (hb : EvD K tb σ H d2) (s1 : SeqAt.shaped d1 = true) (s2 : SeqAt.shaped d2 = true) : EvD K (tOp (rNeD K) ta tb) σ H (.bool (!PyData.eqv d1 d2)) :=
  ed_opB ha hb fun _ _ _ hx hy _ q => ⟨d1, d2, hx, hy, s1, s2, q _ fun _ _ _ _ => .bl _⟩
theorem ed_ixL {i : Int} (ha : EvD K ta σ H (.list ds)) (hb : EvD K tb σ H (.int i)) (h : atI ds i = some d) : EvD K (tOp (rIxL K) ta tb) σ H d :=
  ed_op ha hb fun _ _ A B _ s hx hy _ q => by
    obtain ⟨a, xs, rfl, sq, al⟩ := dp_list hx
    cases hy
    obtain ⟨v, h1, h2⟩ := dpa_at al h
    exact ⟨a, xs, i, v, rfl, rfl, ex_l s sq, h1, q v A B (Pr.refl s) h2⟩
theorem ed_ixT {i : Int} (ha : EvD K ta σ H (.tuple ds)) (hb : EvD K tb σ H (.int i)) (h : atI ds i = some d) : EvD K (tOp (rIxT K) ta tb) σ H d :=
  ed_op ha hb fun _ _ A B _ s hx hy _ q => by
    obtain ⟨a, xs, rfl, sq, al⟩ := dp_tuple hx
    cases hy
    obtain ⟨v, h1, h2⟩ := dpa_at al h
    exact ⟨a, xs, i, v, rfl, rfl, ex_t s sq, h1, q v A B (Pr.refl s) h2⟩
theorem ed_ixS {w : Str} {i : Int} {c : Nat} (ha : EvD K ta σ H (.str w)) (hb : EvD K tb σ H (.int i)) (hl : w.length ≤ 100000) (h : atI w.cps.toList i = some c) : EvD K (tOp rIxS ta tb) σ H (.str ⟨#[c]⟩) :=
  ed_v (ev_op (v_str ha) (v_int hb) (rv_ixS hl h)) (.str _)
theorem ea_nilD : EvAD K tNil σ H [] := fun A B _ s _ q => q [] A B (Pr.refl s) .nil
theorem ea_consD (h : EvD K ta σ H d) (hr : EvAD K tr σ H ds) : EvAD K (tCons ta tr) σ H (d :: ds) := fun A B e s _ q =>
  h A B e s _ fun v A2 B2 P2 hv => hr A2 B2 (e.trans P2.a) P2.s _ fun vs A3 B3 P3 ha => q _ A3 B3 (P2.trans P3) (.cons (dp_ex P3.a hv) ha)
theorem ed_tup (h : EvAD K tr σ H ds) (hl : ds.length ≤ 100000) : EvD K (tTup tr) σ H (.tuple ds) := fun A B e s _ q =>
  h A B e s _ fun vs A2 B2 P2 ha => ⟨sz_of (by rw [dpa_len ha]; exact hl), fun p hp => q _ (upd A2 p (.tup vs)) _ (P2.trans (Pr.new P2.s hp)) (.tup (st_of upd_same) (dpa_ex (Ex.new (fresh_back P2.s hp)) ha))⟩
theorem en_lst (h : EvAD K tr σ H ds) (hl : ds.length ≤ 100000) : EvN K (tLst tr) σ H ds := fun A B e s _ q =>
  h A B e s _ fun vs A2 B2 P2 ha => ⟨sz_of (by rw [dpa_len ha]; exact hl), fun p hp => q p vs A2 _ (fresh_back P2.b hp) (P2.trans (Pr.priv P2.s hp)) (fresh_back P2.s hp) upd_same ha⟩
theorem en_cat (ha : EvK K ta σ H ds) (hb : EvK K tb σ H es) (hl : ds.length + es.length ≤ 100000) : EvN K (tOp rCat ta tb) σ H (ds ++ es) := fun A B e s Q q =>
  ha A B e s _ fun p xs A2 B2 P2 hp h1 => hb A2 B2 (e.trans P2.a) P2.s _ fun r ys A3 B3 P3 hr h2 => ⟨p, r, xs, ys, rfl, rfl, P3.b _ _ hp, hr, sz_of (by rw [dpa_len h1, dpa_len h2]; exact hl), fun z hz =>
    q z _ A3 _ (fresh_back (P2.b.trans P3.b) hz) ((P2.trans P3).trans (Pr.priv P3.s hz)) (fresh_back P3.s hz) upd_same (dpa_app (dpa_ex P3.a h1) h2)⟩
/-- a slice's bound; the written part stands by -/
def EvOK (_ : PySem.W.Frag) (to : TO) (σ : L2.St) (H : Hp) (o : Option Int) : Prop := EvO to σ H o
theorem eo_noneD : EvOK K tNoPart σ H none := fun H1 _ _ q => q H1 (Ex.refl H1)
theorem eo_someD {i : Int} (h : EvD K te σ H (.int i)) : EvOK K (tPart te) σ H (some i) := fun H1 e _ q => v_int h H1 e _ fun H2 e2 => ⟨i, rfl, q H2 e2⟩
theorem en_slice {lo hi : Option Int} {t1 t2 : TO} (h : EvD K te σ H (.list ds)) (h1 : EvOK K t1 σ H lo) (h2 : EvOK K t2 σ H hi) : EvN K (tSl (rSlL K) te t1 t2) σ H (cutL ds lo hi) := fun A B e s Q q =>
  h A B e s _ fun v A2 B2 P2 hv => h1 B2 ((e.trans P2.a).trans P2.s) _ fun B3 e3 => h2 B3 (((e.trans P2.a).trans P2.s).trans e3) _ fun B4 e4 => by
    obtain ⟨a, xs, rfl, sq, al⟩ := dp_list hv
    have s4 := (P2.s.trans e3).trans e4
    exact ⟨a, xs, rfl, ex_l s4 sq, fun p hp => q p _ A2 _ (fresh_back ((P2.b.trans e3).trans e4) hp) (P2.trans ((Pr.up P2.s (e3.trans e4)).trans (Pr.priv s4 hp))) (fresh_back s4 hp) upd_same (dpa_cut al)⟩
theorem ed_sliceS {x : Str} {lo hi : Option Int} {t1 t2 : TO} (h : EvD K te σ H (.str x)) (hl : x.length ≤ 100000) (h1 : EvOK K t1 σ H lo) (h2 : EvOK K t2 σ H hi) : EvD K (tSl rSlS te t1 t2) σ H (.str (cutS x lo hi)) :=
  ed_v (v := .str (cutS x lo hi)) (fun H1 e Q q => v_str h H1 e _ fun H2 e2 => h1 H2 (e.trans e2) _ fun H3 e3 => h2 H3 ((e.trans e2).trans e3) _ fun H4 e4 => ⟨x, rfl, sz_of hl, q H4 ((e2.trans e3).trans e4)⟩) (.str _)
theorem ed_call1 {r : List V → Hp → VK → Prop} (h : EvD K ta σ H d) (hr : ∀ v B, Dp K B v d → ∀ Q : VK, (∀ w, (∀ A, Dp K A w e) → Q w B) → r [v] B Q) : EvD K (tCB r (tCons ta tNil)) σ H e := fun A B a s Q q =>
  h A B a s _ fun v A2 B2 P2 hv => hr v B2 (dp_ex P2.s hv) Q fun w hw => q w A2 B2 P2 (hw A2)
theorem ed_len (h : EvD K ta σ H (.list ds)) : EvD K (tCB (rLenS K) (tCons ta tNil)) σ H (.int (ds.length : Int)) := ed_call1 h fun _ B hv _ q => by
  obtain ⟨a, xs, rfl, s, al⟩ := dp_list hv
  refine ⟨a, xs, rfl, .inl s, ?_⟩
  rw [dpa_len al]
  exact q _ fun _ => .int _
theorem ed_lenT (h : EvD K ta σ H (.tuple ds)) : EvD K (tCB (rLenS K) (tCons ta tNil)) σ H (.int (ds.length : Int)) := ed_call1 h fun _ B hv _ q => by
  obtain ⟨a, xs, rfl, s, al⟩ := dp_tuple hv
  refine ⟨a, xs, rfl, .inr s, ?_⟩
  rw [dpa_len al]
  exact q _ fun _ => .int _
theorem en_listof (h : EvD K ta σ H (.list ds)) : EvN K (tCB (rListS K) (tCons ta tNil)) σ H ds := fun A B e s Q q =>
  h A B e s _ fun v A2 B2 P2 hv => by
    obtain ⟨a, xs, rfl, sq, al⟩ := dp_list hv
    exact ⟨a, xs, rfl, .inl (ex_l P2.s sq), fun p hp => q p xs A2 _ (fresh_back P2.b hp) (P2.trans (Pr.priv P2.s hp)) (fresh_back P2.s hp) upd_same al⟩
/-- the name of a datum's type -/
def tyN : D → String
  | .none => "NoneType" | .bool _ => "bool" | .int _ => "int" | .str _ => "str" | .list _ => "list" | .tuple _ => "tuple" | .dict _ => "dict"
theorem tyX_dp (h : Dp K H v d) : TyX K H v (.type (tyN d)) := by
  cases h with
  | non => exact .base .non
  | bl b => exact .base (.bl b)
  | int b => exact .base (.int b)
  | str b => exact .base (.str b)
  | lst s a =>
    rcases s with (s | ⟨o, s⟩) | ⟨ob, vs, n, e, c, _⟩
    · exact .base (.lst s)
    · exact .base (.frz s)
    · exact .kList e c
  | tup s a =>
    rcases s with (s | ⟨o, s⟩) | ⟨ob, vs, n, e, c, _⟩
    · exact .base (.tup s)
    · exact .fTuple s
    · exact .kTuple e c
theorem ed_isi {n : String} {b : Bool} (h : EvD K ta σ H d) (hk : kitB (tyN d) n = some b) : EvD K (tCB (rIsi K) (tCons ta (tCons (tC (.ty n)) tNil))) σ H (.bool b) := fun A B e s Q q =>
  h A B e s _ fun v A2 B2 P2 hv => ⟨v, .ty n, _, _, b, rfl, .ty n, tyX_dp (dp_ex P2.s hv), kit_ty hk, q _ A2 B2 P2 (.bl b)⟩
theorem ki_ii : kitB "int" "int" = some true := by decide +kernel
theorem ki_ib : kitB "int" "bool" = some false := by decide +kernel
theorem ki_bb : kitB "bool" "bool" = some true := by decide +kernel
theorem ki_bi : kitB "bool" "int" = some true := by decide +kernel
theorem ki_nb : kitB "NoneType" "bool" = some false := by decide +kernel
theorem ki_sb : kitB "str" "bool" = some false := by decide +kernel
theorem ki_lb : kitB "list" "bool" = some false := by decide +kernel
theorem ki_tb : kitB "tuple" "bool" = some false := by decide +kernel
theorem ki_ni : kitB "NoneType" "int" = some false := by decide +kernel
theorem ki_si : kitB "str" "int" = some false := by decide +kernel
theorem ki_li : kitB "list" "int" = some false := by decide +kernel
theorem ki_ti : kitB "tuple" "int" = some false := by decide +kernel
theorem ki_di : kitB "dict" "int" = some false := by decide +kernel
theorem ki_tt : kitB "tuple" "tuple" = some true := by decide +kernel
theorem ki_lt : kitB "list" "tuple" = some false := by decide +kernel
theorem ki_st : kitB "str" "tuple" = some false := by decide +kernel
theorem ki_it : kitB "int" "tuple" = some false := by decide +kernel
theorem ki_bt : kitB "bool" "tuple" = some false := by decide +kernel
theorem ki_nt : kitB "NoneType" "tuple" = some false := by decide +kernel
theorem ki_ll : kitB "list" "list" = some true := by decide +kernel
theorem ki_tl : kitB "tuple" "list" = some false := by decide +kernel
theorem ki_sl : kitB "str" "list" = some false := by decide +kernel
theorem ki_nl : kitB "NoneType" "list" = some false := by decide +kernel
theorem ki_il : kitB "int" "list" = some false := by decide +kernel
theorem ki_bl : kitB "bool" "list" = some false := by decide +kernel
theorem ki_ss : kitB "str" "str" = some true := by decide +kernel
theorem ki_ts : kitB "tuple" "str" = some false := by decide +kernel
theorem ki_ls : kitB "list" "str" = some false := by decide +kernel
theorem ki_ns : kitB "NoneType" "str" = some false := by decide +kernel
theorem ki_is : kitB "int" "str" = some false := by decide +kernel
theorem ki_bs : kitB "bool" "str" = some false := by decide +kernel
/-- a test; the written part stands by -/
def EvB (_ : PySem.W.Frag) (t : TT) (σ : L2.St) (H : Hp) (b : Bool) : Prop := EvT t σ H b
theorem eb_D {b : Bool} (h : EvD K te σ H (.bool b)) : EvB K (tTest te) σ H b := et_test (v_bl h)
theorem eb_DB {b : Bool} (h : EvD K te σ H (.bool b)) : EvB K (tB te) σ H b := et_B (v_bl h)
theorem eb_yes : EvB K tYes σ H true := fun H1 _ _ q => q H1 (Ex.refl H1)
theorem eb_not {a : Bool} (h : EvB K t σ H a) : EvB K (tNot t) σ H (!a) := et_not h
theorem eb_and {a b : Bool} (h1 : EvB K t σ H a) (h2 : a = true → EvB K u σ H b) : EvB K (tAnd t u) σ H (a && b) := Evl.et_and h1 h2
theorem eb_or {a b : Bool} (h1 : EvB K t σ H a) (h2 : a = false → EvB K u σ H b) : EvB K (tOr t u) σ H (a || b) := Evl.et_or h1 h2
theorem eb_is {a b : Bool} (h : EvB K t σ H a) (e : a = b) : EvB K t σ H b := e ▸ h
theorem ed_and {a b : Bool} (h1 : EvD K ta σ H (.bool a)) (h2 : a = true → EvD K tb σ H (.bool b)) : EvD K (tAndV ta tb) σ H (.bool (a && b)) := ed_v (ev_andV (v_bl h1) fun q => v_bl (h2 q)) (.bl _)
theorem ed_or {a b : Bool} (h1 : EvD K ta σ H (.bool a)) (h2 : a = false → EvD K tb σ H (.bool b)) : EvD K (tOrV ta tb) σ H (.bool (a || b)) := ed_v (ev_orV (v_bl h1) fun q => v_bl (h2 q)) (.bl _)
theorem ed_not {a : Bool} (h1 : EvD K ta σ H (.bool a)) : EvD K (tNotV ta) σ H (.bool (!a)) := ed_v (ev_notV (v_bl h1)) (.bl _)
/-- max of ints, all of bools -/
def maxI (ns : List Int) : Int := ns.foldl max (ns.headD 0)
theorem foldl_max_ge : ∀ (ns : List Int) (a : Int), a ≤ ns.foldl max a ∧ ∀ n ∈ ns, n ≤ ns.foldl max a
  | [], a => ⟨Int.le_refl _, fun _ h => by simp at h⟩
  | n :: ns, a => by
    obtain ⟨h1, h2⟩ := foldl_max_ge ns (max a n)
    refine ⟨?_, fun m hm => ?_⟩
    · simp only [List.foldl_cons]; omega
    · simp only [List.foldl_cons]
      rcases List.mem_cons.mp hm with rfl | hm
      · omega
      · exact h2 m hm
theorem foldl_max_mem : ∀ (ns : List Int) (a : Int), ns.foldl max a = a ∨ ns.foldl max a ∈ ns
  | [], a => .inl rfl
  | n :: ns, a => by
    simp only [List.foldl_cons]
    rcases foldl_max_mem ns (max a n) with h | h
    · by_cases q : a ≤ n
      · right; rw [h]; simp; left; omega
      · left; rw [h]; omega
    · right; exact List.mem_cons_of_mem _ h
theorem maxI_mem {ns : List Int} (h : ns ≠ []) : maxI ns ∈ ns := by
  cases ns with
  | nil => exact absurd rfl h
  | cons n ns =>
    unfold maxI
    rcases foldl_max_mem (n :: ns) n with q | q
    · simp only [List.headD_cons]; rw [q]; exact List.mem_cons_self
    · exact q
theorem maxI_ge {ns : List Int} : ∀ n ∈ ns, n ≤ maxI ns := (foldl_max_ge ns _).2
theorem maxI_uniq {ns : List Int} {m : Int} (h1 : m ∈ ns) (h2 : ∀ y, y ∈ ns → y ≤ m) : m = maxI ns := by
  have a := maxI_ge m h1
  have b := h2 _ (maxI_mem (List.ne_nil_of_mem h1))
  omega
theorem ed_max {ns : List Int} (h : EvD K ta σ H (.list (ns.map .int))) (hn : ns ≠ []) : EvD K (tCB (rMax K) (tCons ta tNil)) σ H (.int (maxI ns)) := ed_call1 h fun _ B hv _ q => by
  obtain ⟨a, xs, rfl, s, al⟩ := dp_list hv
  rw [dpa_ints_inv al] at s
  refine ⟨a, ns, rfl, s, List.length_pos_iff.mpr hn, fun m h1 h2 => ?_⟩
  rw [maxI_uniq h1 h2]
  exact q _ fun _ => .int _
theorem ed_all {bs : List Bool} (h : EvD K ta σ H (.list (bs.map .bool))) : EvD K (tCB (rAll K) (tCons ta tNil)) σ H (.bool (bs.all id)) := ed_call1 h fun _ B hv _ q => by
  obtain ⟨a, xs, rfl, s, al⟩ := dp_list hv
  rw [dpa_bls_inv al] at s
  exact ⟨a, bs, rfl, s, q _ fun _ => .bl _⟩
/-! ## comprehensions -/
/-- between two turns: the list at L holds what is made, the data lean on A' -/
structure LcI (K : PySem.W.Frag) (A B : Hp) (L : Addr) (es : List D) (H' : Hp) : Prop where
  ex : ∃ A' ys, Ex A A' ∧ Ex A' H' ∧ A' L = none ∧ H' L = some (.lst ys) ∧ DpAll K A' ys es ∧ (∀ x, A x = none → B x ≠ none → A' x = none)
  b : Ex B H'
theorem lci_start {A B : Hp} {L : Addr} (s : Ex A B) (hL : B L = none) : LcI K A B L [] (upd B L (.lst [])) :=
  ⟨⟨A, [], Ex.refl _, s.trans (Ex.new hL), fresh_back s hL, upd_same, .nil, fun _ q _ => q⟩, Ex.new hL⟩
theorem lci_turn {A B H1 : Hp} {L : Addr} {g : D} {f : Bool} (hB : B L = none) (p : LcI K A B L es H1) (hz : es.length < 100000)
    (ht : ∀ A', Ex A A' → EvB K t σ A' f) (he : f = true → ∀ A', Ex A A' → EvD K te σ A' g) :
    t σ H1 fun b H3 => if b = true then te σ H3 fun y H4 => ∃ acc, H4 L = some (.lst acc) ∧ acc.length < sizeLine ∧ LcI K A B L (if f then es ++ [g] else es) (upd H4 L (.lst (acc ++ [y]))) else LcI K A B L (if f then es ++ [g] else es) H3 := by
  obtain ⟨⟨A', ys, a1, a2, a3, a4, a5, a6⟩, a7⟩ := p
  refine ht A' a1 H1 a2 _ fun H3 e3 => ?_
  cases f with
  | true =>
    refine iteT ?_
    refine he rfl A' a1 A' H3 (Ex.refl _) (a2.trans e3) _ fun y A4 H4 P4 hy => ?_
    have e4 : H4 L = some (.lst ys) := P4.b _ _ (e3 _ _ a4)
    have n4 : A4 L = none := P4.n L a3 (by rw [e3 _ _ a4]; simp)
    refine ⟨ys, e4, sz_lt (by rw [dpa_len a5]; exact hz), ⟨⟨A4, ys ++ [y], a1.trans P4.a, ?_, n4, upd_same, dpa_app (dpa_ex P4.a a5) (.cons hy .nil), fun x q r => ?_⟩, ?_⟩⟩
    · exact Ex.mut P4.s n4
    · exact P4.n x (a6 x q r) fun z => r (fresh_back (a7.trans e3) z)
    · exact Ex.mut ((a7.trans e3).trans P4.b) hB
  | false =>
    refine iteF ?_
    exact ⟨⟨A', ys, a1, a2.trans e3, a3, e3 _ _ a4, a5, a6⟩, a7.trans e3⟩
theorem lci_end {A B H' : Hp} {L : Addr} {Q : VK} (hB : B L = none) (p : LcI K A B L es H') (q : ∀ p xs A' B', B p = none → Pr A B A' B' → A' p = none → B' p = some (.lst xs) → DpAll K A' xs es → Q (.ref p) B') : Q (.ref L) H' := by
  obtain ⟨⟨A', ys, a1, a2, a3, a4, a5, a6⟩, a7⟩ := p
  exact q L ys A' H' hB ⟨a1, a7, a2, a6⟩ a3 a4 a5
theorem take_f (f : D → Bool) (g : D → D) {i : Nat} (h : ds[i]? = some d) : ((ds.take (i + 1)).filter f).map g = if f d = true then ((ds.take i).filter f).map g ++ [g d] else ((ds.take i).filter f).map g := by
  have tk : ds.take (i + 1) = ds.take i ++ [d] := by rw [List.take_succ, h]; rfl
  rw [tk, List.filter_append, List.map_append]
  cases hf : f d with
  | true => simp [hf]
  | false => simp [hf]
theorem en_lcL {j : Nat} {ws : List Nat} (f : D → Bool) (g : D → D) (h : EvD K tl σ H (.list ds)) (hz : ds.length ≤ 40000) (hw : ∀ x, wipe ((wipe σ ws).set j (some x)) ws = wipe σ ws)
    (ht : ∀ d ∈ ds, ∀ v H1, Ex H H1 → Dp K H1 v d → EvB K t ((wipe σ ws).set j (some v)) H1 (f d)) (he : ∀ d ∈ ds, f d = true → ∀ v H1, Ex H H1 → Dp K H1 v d → EvD K te ((wipe σ ws).set j (some v)) H1 (g d)) :
    EvN K (tLc (iList K tl) (gName j) t te ws) σ H ((ds.filter f).map g) := fun A B e s Q q => h A B e s _ fun v A1 B1 P1 hv => by
  obtain ⟨a, xs, rfl, sq, al⟩ := dp_list hv
  refine ⟨a, rfl, ⟨xs, ex_l P1.s sq⟩, fun L hL => lc_list (xs := xs) (fun i H' => LcI K A1 B1 L (((ds.take i).filter f).map g) H') (lci_start P1.s hL) (fun i H' _ p => ex_l (P1.s.trans p.b) sq) ?_ ?_⟩
  · intro i x H' hi p
    obtain ⟨d, hd, hx⟩ := dpa_getV al hi
    have hm : d ∈ ds := List.mem_of_getElem? hd
    have hil : i < ds.length := (List.getElem?_eq_some_iff.mp hd).1
    refine ⟨hw x, ?_⟩
    rw [take_f f g hd]
    refine lci_turn hL p ?_ (fun A' ea => ht d hm x A' ((e.trans P1.a).trans ea) (dp_ex ea hx)) (fun hf A' ea => he d hm hf x A' ((e.trans P1.a).trans ea) (dp_ex ea hx))
    have q2 := List.length_filter_le f (ds.take i)
    rw [List.length_take] at q2
    rw [List.length_map]
    omega
  · intro H' p
    rw [dpa_len al, List.take_length] at p
    exact lci_end hL p fun p xs A' B' hp P => q p xs A' B' (fresh_back P1.b hp) (P1.trans P)
/-- without a test -/
theorem en_lcL1 {j : Nat} {ws : List Nat} (g : D → D) (h : EvD K tl σ H (.list ds)) (hz : ds.length ≤ 40000) (hw : ∀ x, wipe ((wipe σ ws).set j (some x)) ws = wipe σ ws)
    (he : ∀ d ∈ ds, ∀ v H1, Ex H H1 → Dp K H1 v d → EvD K te ((wipe σ ws).set j (some v)) H1 (g d)) :
    EvN K (tLc (iList K tl) (gName j) tYes te ws) σ H (ds.map g) := by
  have := en_lcL (t := tYes) (te := te) (j := j) (ws := ws) (fun _ => true) g h hz hw (fun _ _ _ _ _ _ => eb_yes) (fun d hm _ => he d hm)
  rwa [List.filter_eq_self.mpr (by simp)] at this
/-- over range(n) -/
theorem en_lcR {j : Nat} {m : Int} {ws : List Nat} (g : Nat → D) (h : EvD K te σ H (.int m)) (hz : 0 ≤ m ∧ m ≤ 40000) (hw : ∀ x, wipe ((wipe σ ws).set j (some x)) ws = wipe σ ws)
    (he : ∀ i : Nat, (i : Int) < m → ∀ H1, Ex H H1 → EvD K tb ((wipe σ ws).set j (some (.int (i : Int)))) H1 (g i)) :
    EvN K (tLc (iRng1 (tCons te tNil)) (gName j) tYes tb ws) σ H ((List.range m.toNat).map g) := fun A B e s Q q => h A B e s _ fun v A1 B1 P1 hv => by
  cases hv
  refine ⟨m, rfl, by omega, by omega, fun L hL => lc_range (lo := 0) (n := m.toNat) (fun i H' => LcI K A1 B1 L ((List.range i).map g) H') (lci_start P1.s hL) ?_ ?_⟩
  · intro i H' hi p
    have e0 : (0 : Int) + (i : Int) = (i : Int) := Int.zero_add _
    show wipe ((wipe σ ws).set j (some (.int ((0 : Int) + (i : Int))))) ws = wipe σ ws ∧ tYes ((wipe σ ws).set j (some (.int ((0 : Int) + (i : Int))))) H' fun b H3 => if b = true then tb ((wipe σ ws).set j (some (.int ((0 : Int) + (i : Int))))) H3 fun y H4 => ∃ acc, H4 L = some (.lst acc) ∧ acc.length < sizeLine ∧ LcI K A1 B1 L ((List.range (i + 1)).map g) (upd H4 L (.lst (acc ++ [y]))) else LcI K A1 B1 L ((List.range (i + 1)).map g) H3
    rw [e0]
    refine ⟨hw _, ?_⟩
    have z : (List.range (i + 1)).map g = if true = true then (List.range i).map g ++ [g i] else (List.range i).map g := by rw [if_pos rfl, List.range_succ, List.map_append]; rfl
    rw [z]
    refine lci_turn (f := true) hL p ?_ (fun A' _ => eb_yes) (fun _ A' ea => he i (by omega) A' ((e.trans P1.a).trans ea))
    rw [List.length_map, List.length_range]
    omega
  · intro H' p
    exact lci_end hL p fun p xs A' B' hp P => q p xs A' B' (fresh_back P1.b hp) (P1.trans P)
/-! ## statements -/
variable (K) {Dd : Ends} {ts tw tz : TS} {A A0 H0 B : Hp}
theorem s_asgD {i : Nat} (s : Ex A H) (h : EvD K te σ A d) (k : ∀ v A' B', Pr A H A' B' → Dp K A' v d → Dd.nx (σ.set i (some v)) B') : tAsg te (gName i) Dd σ H := h A H (Ex.refl _) s _ k
theorem s_asgN {i : Nat} (s : Ex A H) (h : EvN K te σ A ds) (k : ∀ p xs A' B', H p = none → Pr A H A' B' → A' p = none → B' p = some (.lst xs) → DpAll K A' xs ds → Dd.nx (σ.set i (some (.ref p))) B') : tAsg te (gName i) Dd σ H := h A H (Ex.refl _) s _ k
theorem s_retD (s : Ex A H) (h : EvD K te σ A d) (k : ∀ v A' B', Pr A H A' B' → Dp K A' v d → Dd.rt v B') : tRet te Dd σ H := h A H (Ex.refl _) s _ k
theorem q_appD {i : Nat} {l : Addr} {t2 : TS} (s : Ex A H) (hi : σ[i]? = some (some (.ref l))) (hl : H l = some (.lst xs)) (hz : xs.length < 100000) (h : EvD K te σ A d)
    (k : ∀ v A' B', Pr A H A' B' → Dp K A' v d → t2 Dd σ (upd B' l (.lst (xs ++ [v])))) : tSeq (tDrop (tBM K "list" rAppend (tVar i) (tCons te tNil))) t2 Dd σ H :=
  ⟨.ref l, hi, .inl ⟨rfl, xs, sq_of hl⟩, h A H (Ex.refl _) s _ fun v A' B' P hv => ⟨l, xs, v, rfl, rfl, P.b _ _ hl, sz_lt hz, k v A' B' P hv⟩⟩
theorem s_retK (s : Ex A H) (h : EvD K te σ A d) (q : d = d') (k : ∀ v A' B', Pr A H A' B' → Dp K A' v d' → Dd.rt v B') : tRet te Dd σ H := by
  subst q
  exact h A H (Ex.refl _) s _ k
/-- the ends of a statement that another one follows -/
def go (Dd : Ends) (t2 : TS) : Ends := { Dd with nx := t2 Dd }
theorem s_seq {t1 t2 : TS} (h : t1 (go Dd t2) σ H) : tSeq t1 t2 Dd σ H := h
theorem go_nx {t2 : TS} (h : t2 Dd σ H) : (go Dd t2).nx σ H := h
theorem s_next (h : Dd.nx σ H) : tNext Dd σ H := h
theorem q_next {t2 : TS} (h : t2 Dd σ H) : tNext (go Dd t2) σ H := h
theorem q_asgD {i : Nat} {t2 : TS} (s : Ex A H) (h : EvD K te σ A d) (k : ∀ v A' B', Pr A H A' B' → Dp K A' v d → t2 Dd (σ.set i (some v)) B') : tSeq (tAsg te (gName i)) t2 Dd σ H := h A H (Ex.refl _) s _ k
theorem q_asgN {i : Nat} {t2 : TS} (s : Ex A H) (h : EvN K te σ A ds) (k : ∀ p xs A' B', H p = none → Pr A H A' B' → A' p = none → B' p = some (.lst xs) → DpAll K A' xs ds → t2 Dd (σ.set i (some (.ref p))) B') : tSeq (tAsg te (gName i)) t2 Dd σ H := h A H (Ex.refl _) s _ k
theorem s_ifD {b : Bool} (s : Ex A H) (h : EvB K t σ A b) (h1 : b = true → ∀ B', Pu A H B' → tw Dd σ B') (h2 : b = false → ∀ B', Pu A H B' → tz Dd σ B') : tIfS t tw tz Dd σ H := h H s _ fun B' e => by
  cases b with
  | true => exact iteT (h1 rfl B' ⟨s, e⟩)
  | false => exact iteF (h2 rfl B' ⟨s, e⟩)
theorem q_ifD {b : Bool} {t2 : TS} (s : Ex A H) (h : EvB K t σ A b) (h1 : b = true → ∀ B', Pu A H B' → tw (go Dd t2) σ B') (h2 : b = false → ∀ B', Pu A H B' → tz (go Dd t2) σ B') : tSeq (tIfS t tw tz) t2 Dd σ H := s_ifD K (Dd := go Dd t2) s h h1 h2
theorem q_ifE {b b' : Bool} {t2 : TS} (s : Ex A H) (h : EvB K t σ A b') (q : b' = b) (h1 : b = true → ∀ B', Pu A H B' → tw (go Dd t2) σ B') (h2 : b = false → ∀ B', Pu A H B' → tz (go Dd t2) σ B') : tSeq (tIfS t tw tz) t2 Dd σ H := s_ifD K (Dd := go Dd t2) s (q ▸ h) h1 h2
theorem s_ifE {b b' : Bool} (s : Ex A H) (h : EvB K t σ A b') (q : b' = b) (h1 : b = true → ∀ B', Pu A H B' → tw Dd σ B') (h2 : b = false → ∀ B', Pu A H B' → tz Dd σ B') : tIfS t tw tz Dd σ H := s_ifD K s (q ▸ h) h1 h2
theorem ed_abs {K : PySem.W.Frag} {p : Prop} (h : p) (hn : ¬ p) : EvD K te σ H (.bool false) := absurd h hn
theorem eb_abs {K : PySem.W.Frag} {p : Prop} (h : p) (hn : ¬ p) : EvB K t σ H false := absurd h hn
/-- a for over a list of data: J of the turn, the slots, the data's heap, the whole heap -/
theorem s_forD {g : TG} (s : Ex A H) (h : EvD K tl σ A (.list ds)) (J : Nat → L2.St → Hp → Hp → Prop) (h0 : ∀ A1 B1, Pr A H A1 B1 → J 0 σ A1 B1)
    (hs : ∀ A1 B1, Pr A H A1 B1 → ∀ i d v σ' A' B', ds[i]? = some d → Pr A1 B1 A' B' → Dp K A' v d → J i σ' A' B' →
      g v σ' B' fun σ2 H2 => ts { Dd with nx := fun σ3 H3 => ∃ A3, Pr A1 B1 A3 H3 ∧ J (i + 1) σ3 A3 H3, ct := fun σ3 H3 => ∃ A3, Pr A1 B1 A3 H3 ∧ J (i + 1) σ3 A3 H3, bk := Dd.nx } σ2 H2)
    (hd : ∀ A1 B1 σ' A' B', Pr A H A1 B1 → Pr A1 B1 A' B' → J ds.length σ' A' B' → Dd.nx σ' B') : tFor (iList K tl) g ts Dd σ H := h A H (Ex.refl _) s _ fun v A1 B1 P1 hv => by
  obtain ⟨a, xs, rfl, sq, al⟩ := dp_list hv
  have hlen := dpa_len al
  refine ⟨a, rfl, ⟨xs, ex_l P1.s sq⟩, for_list (xs := xs) (fun i σ' H' => ∃ A', Pr A1 B1 A' H' ∧ J i σ' A' H') ⟨A1, Pr.refl P1.s, h0 A1 B1 P1⟩ (fun i σ' H' _ ⟨A', P, _⟩ => ex_l (P.a.trans P.s) sq) ?_ ?_⟩
  · rintro i x σ' H' hi' ⟨A', P, p⟩
    obtain ⟨d, hdd, hx⟩ := dpa_getV al hi'
    exact hs A1 B1 P1 i d x σ' A' H' hdd P (dp_ex P.a hx) p
  · rintro σ' H' ⟨A', P, p⟩
    rw [hlen] at p
    exact hd A1 B1 σ' A' H' P1 P p
/-- .. over range(n) -/
theorem s_forR {j : Nat} {n : Int} (s : Ex A H) (h : EvAD K tr σ A [.int n]) (hn : -100000 ≤ n ∧ n ≤ 100000) (J : Nat → L2.St → Hp → Hp → Prop) (h0 : ∀ A1 B1, Pr A H A1 B1 → J 0 σ A1 B1)
    (hs : ∀ A1 B1, Pr A H A1 B1 → ∀ (i : Nat) σ' A' B', (i : Int) < n → Pr A1 B1 A' B' → J i σ' A' B' →
      ts { Dd with nx := fun σ3 H3 => ∃ A3, Pr A1 B1 A3 H3 ∧ J (i + 1) σ3 A3 H3, ct := fun σ3 H3 => ∃ A3, Pr A1 B1 A3 H3 ∧ J (i + 1) σ3 A3 H3, bk := Dd.nx } (σ'.set j (some (.int (i : Int)))) B')
    (hd : ∀ A1 B1 σ' A' B', Pr A H A1 B1 → Pr A1 B1 A' B' → J n.toNat σ' A' B' → Dd.nx σ' B') : tFor (iRng1 tr) (gName j) ts Dd σ H := h A H (Ex.refl _) s _ fun vs A1 B1 P1 hv => by
  obtain ⟨v, rfl, hv1⟩ := dpa1 hv
  cases hv1
  refine ⟨n, rfl, by omega, by omega, for_range (lo := 0) (n := n.toNat) (fun i σ' H' => ∃ A', Pr A1 B1 A' H' ∧ J i σ' A' H') ⟨A1, Pr.refl P1.s, h0 A1 B1 P1⟩ ?_ ?_⟩
  · rintro i σ' H' hi ⟨A', P, p⟩
    have e0 : (0 : Int) + (i : Int) = (i : Int) := Int.zero_add _
    show ts _ (σ'.set j (some (.int ((0 : Int) + (i : Int))))) H'
    rw [e0]
    exact hs A1 B1 P1 i σ' A' H' (by omega) P p
  · rintro σ' H' ⟨A', P, p⟩
    exact hd A1 B1 σ' A' H' P1 P p
/-- the turns of range(lo, hi, c) -/
def rgN (lo hi c : Int) : Nat := (if lo < hi then (hi - lo - 1) / c + 1 else 0).toNat
theorem rgN_lt {lo hi c : Int} (hc : 0 < c) {i : Nat} (h : i < rgN lo hi c) : lo + i * c < hi := by
  unfold rgN at h
  split at h
  · rename_i q
    have z0 : 0 ≤ (hi - lo - 1) / c := Int.ediv_nonneg (by omega) (by omega)
    have z1 : (i : Int) ≤ (hi - lo - 1) / c := by omega
    have z3 : (i : Int) * c ≤ hi - lo - 1 := (Int.le_ediv_iff_mul_le hc).mp z1
    omega
  · simp at h
theorem rgc_up {lo hi c : Int} (hc : 0 < c) (hc2 : c < 1000) (h1 : -100000 ≤ lo ∧ lo ≤ 100000) (h2 : -100000 ≤ hi ∧ hi ≤ 100000) : RgC lo hi c (rgN lo hi c) := by
  have e : Builtin.Range.rangeSize lo hi c = (rgN lo hi c : Int) := by
    unfold Builtin.Range.rangeSize rgN
    rw [if_pos (by omega)]
    split
    · have z0 : 0 ≤ (hi - lo - 1) / c := Int.ediv_nonneg (by omega) (by omega)
      omega
    · rfl
  have hn : (rgN lo hi c : Int) ≤ 200000 := by
    unfold rgN
    split
    · have z0 : 0 ≤ (hi - lo - 1) / c := Int.ediv_nonneg (by omega) (by omega)
      have z1 : (hi - lo - 1) / c ≤ hi - lo - 1 := Int.ediv_le_self _ (by omega)
      omega
    · simp
  refine ⟨by omega, by omega, ?_, e⟩
  unfold Builtin.Range.small
  rw [e]
  simp only [Builtin.Range.rangeFitsLong, Bool.and_eq_true, Bool.or_eq_true, decide_eq_true_eq, beq_iff_eq]
  refine ⟨⟨⟨⟨⟨by omega, by omega⟩, by omega, by omega⟩, by omega, by omega⟩, by omega, by omega⟩, .inr ?_⟩
  rw [if_pos hc, Bool.and_eq_true, decide_eq_true_eq, decide_eq_true_eq]
  omega
/-- .. over range(lo, hi, c), c a small positive number -/
theorem s_forR3 {j : Nat} {lo hi c : Int} (s : Ex A H) (h : EvAD K tr σ A [.int lo, .int hi, .int c]) (hc : 0 < c ∧ c < 1000) (hn : -100000 ≤ lo ∧ lo ≤ 100000 ∧ -100000 ≤ hi ∧ hi ≤ 100000) (J : Nat → L2.St → Hp → Hp → Prop) (h0 : ∀ A1 B1, Pr A H A1 B1 → J 0 σ A1 B1)
    (hs : ∀ A1 B1, Pr A H A1 B1 → ∀ (i : Nat) σ' A' B', lo + i * c < hi → Pr A1 B1 A' B' → J i σ' A' B' →
      ts { Dd with nx := fun σ3 H3 => ∃ A3, Pr A1 B1 A3 H3 ∧ J (i + 1) σ3 A3 H3, ct := fun σ3 H3 => ∃ A3, Pr A1 B1 A3 H3 ∧ J (i + 1) σ3 A3 H3, bk := Dd.nx } (σ'.set j (some (.int (lo + (i : Nat) * c)))) B')
    (hd : ∀ A1 B1 σ' A' B', Pr A H A1 B1 → Pr A1 B1 A' B' → J (rgN lo hi c) σ' A' B' → Dd.nx σ' B') : tFor (iRng3 tr) (gName j) ts Dd σ H := h A H (Ex.refl _) s _ fun vs A1 B1 P1 hv => by
  obtain ⟨v1, v2, v3, rfl, hv1, hv2, hv3⟩ := dpa3 hv
  cases hv1; cases hv2; cases hv3
  refine ⟨lo, hi, c, _, rfl, rgc_up hc.1 hc.2 ⟨by omega, by omega⟩ ⟨by omega, by omega⟩, for_it (walk_rangeC (lo := lo) (c := c) (n := rgN lo hi c)) (fun i σ' H' => ∃ A', Pr A1 B1 A' H' ∧ J i σ' A' H') ⟨A1, Pr.refl P1.s, h0 A1 B1 P1⟩ (fun _ _ _ _ _ => trivial) ?_ ?_⟩
  · rintro i x σ' H' H'' hi' ⟨A', P, p⟩ ⟨rfl, rfl⟩
    exact hs A1 B1 P1 i σ' A' H'' (rgN_lt hc.1 hi') P p
  · rintro σ' H' ⟨A', P, p⟩
    exact hd A1 B1 σ' A' H' P1 P p
/-! ### lists that grow: owned ones, not yet data -/
theorem Pr.mut {A B A' B' : Hp} {l : Addr} {o : HO} (P : Pr A B A' B') (hB : B l = none) (hA : A' l = none) : Pr A B A' (upd B' l o) :=
  ⟨P.a, Ex.mut P.b hB, Ex.mut P.s hA, P.n⟩
theorem Ex.frz {A B : Hp} {l : Addr} {o : HO} (s : Ex A B) (hB : B l = some o) : Ex (upd A l o) B := fun x u z => by
  by_cases w : x = l
  · subst w; rw [upd_same] at z; rw [hB]; exact z
  · rw [upd_ne w] at z; exact s x u z
/-- an owned list becomes a datum -/
theorem Pr.frz {A B A' B' : Hp} {l : Addr} {o : HO} (P : Pr A B A' B') (hB : B l = none) (hA : A' l = none) (h : B' l = some o) : Pr A B (upd A' l o) B' :=
  ⟨P.a.trans (Ex.new hA), P.b, Ex.frz P.s h, fun x y z => by rw [upd_ne (fun (w : x = l) => z (by rw [w]; exact hB))]; exact P.n x y z⟩
theorem Pr.owned {A B A' B' : Hp} {l : Addr} (P : Pr A B A' B') (hA : A l = none) {o : HO} (h : B l = some o) : A' l = none ∧ B' l = some o :=
  ⟨P.n l hA (by rw [h]; simp), P.b _ _ h⟩
theorem s_appD {i : Nat} {l : Addr} (s : Ex A H) (hi : σ[i]? = some (some (.ref l))) (hl : H l = some (.lst xs)) (hz : xs.length < 100000) (h : EvD K te σ A d)
    (k : ∀ v A' B', Pr A H A' B' → Dp K A' v d → Dd.nx σ (upd B' l (.lst (xs ++ [v])))) : tDrop (tBM K "list" rAppend (tVar i) (tCons te tNil)) Dd σ H :=
  ⟨.ref l, hi, .inl ⟨rfl, xs, sq_of hl⟩, h A H (Ex.refl _) s _ fun v A' B' P hv => ⟨l, xs, v, rfl, rfl, P.b _ _ hl, sz_lt hz, k v A' B' P hv⟩⟩
/-- loops with an owned list: J tells all -/
theorem s_forR3x {j : Nat} {lo hi c : Int} (s : Ex A H) (h : EvAD K tr σ A [.int lo, .int hi, .int c]) (hc : 0 < c ∧ c < 1000) (hn : -100000 ≤ lo ∧ lo ≤ 100000 ∧ -100000 ≤ hi ∧ hi ≤ 100000) (J : Nat → L2.St → Hp → Prop) (h0 : ∀ A1 B1, Pr A H A1 B1 → J 0 σ B1)
    (hs : ∀ (i : Nat) σ' B', lo + i * c < hi → J i σ' B' → ts { Dd with nx := J (i + 1), ct := J (i + 1), bk := Dd.nx } (σ'.set j (some (.int (lo + (i : Nat) * c)))) B')
    (hd : ∀ σ' B', J (rgN lo hi c) σ' B' → Dd.nx σ' B') : tFor (iRng3 tr) (gName j) ts Dd σ H := h A H (Ex.refl _) s _ fun vs A1 B1 P1 hv => by
  obtain ⟨v1, v2, v3, rfl, hv1, hv2, hv3⟩ := dpa3 hv
  cases hv1; cases hv2; cases hv3
  refine ⟨lo, hi, c, _, rfl, rgc_up hc.1 hc.2 ⟨by omega, by omega⟩ ⟨by omega, by omega⟩, for_it (walk_rangeC (lo := lo) (c := c) (n := rgN lo hi c)) J (h0 A1 B1 P1) (fun _ _ _ _ _ => trivial) ?_ hd⟩
  rintro i x σ' H' H'' hi' p ⟨rfl, rfl⟩
  exact hs i σ' H'' (rgN_lt hc.1 hi') p
/-- for a, b in zip(list, list) -/
theorem s_forZ {i j : Nat} (s : Ex A H) (h : EvAD K tr σ A [.list ds, .list es]) (J : Nat → L2.St → Hp → Hp → Prop) (h0 : ∀ A1 B1, Pr A H A1 B1 → J 0 σ A1 B1)
    (hs : ∀ A1 B1, Pr A H A1 B1 → ∀ t d e v w σ' A' B', ds[t]? = some d → es[t]? = some e → Pr A1 B1 A' B' → Dp K A' v d → Dp K A' w e → J t σ' A' B' →
      ∀ B2, Pu A' B' B2 → ts { Dd with nx := fun σ3 H3 => ∃ A3, Pr A1 B1 A3 H3 ∧ J (t + 1) σ3 A3 H3, ct := fun σ3 H3 => ∃ A3, Pr A1 B1 A3 H3 ∧ J (t + 1) σ3 A3 H3, bk := Dd.nx } ((σ'.set i (some v)).set j (some w)) B2)
    (hd : ∀ A1 B1 σ' A' B', Pr A H A1 B1 → Pr A1 B1 A' B' → J (min ds.length es.length) σ' A' B' → Dd.nx σ' B') : tFor (iZip K tr) (gTup K 2 (gCons (gName i) (gCons (gName j) gNil))) ts Dd σ H := h A H (Ex.refl _) s _ fun vs A1 B1 P1 hv => by
  obtain ⟨v1, v2, rfl, hv1, hv2⟩ := dpa2 hv
  obtain ⟨a, xs, rfl, sq, al⟩ := dp_list hv1
  obtain ⟨b, ys, rfl, sq2, al2⟩ := dp_list hv2
  refine ⟨a, b, xs, ys, rfl, ex_l P1.s sq, ex_l P1.s sq2, for_it (walk_zip (xs := xs) (ys := ys) (n := min ds.length es.length) (by rw [dpa_len al, dpa_len al2])) (fun i σ' H' => ∃ A', Pr A1 B1 A' H' ∧ J i σ' A' H') ⟨A1, Pr.refl P1.s, h0 A1 B1 P1⟩ (fun i σ' H' _ ⟨A', P, _⟩ => ⟨ex_l (P.a.trans P.s) sq, ex_l (P.a.trans P.s) sq2⟩) ?_ ?_⟩
  · rintro t v σ' H' H'' ht ⟨A', P, p⟩ ⟨T, x, y, rfl, hT, rfl, hx, hy⟩
    obtain ⟨d, hd1, hd2⟩ := dpa_getV al hx
    obtain ⟨e, he1, he2⟩ := dpa_getV al2 hy
    exact ⟨T, [x, y], rfl, st_of upd_same, rfl, x, [y], rfl, y, [], rfl, rfl, hs A1 B1 P1 t d e x y σ' A' H' hd1 he1 P (dp_ex P.a hd2) (dp_ex P.a he2) p _ ⟨P.s, Ex.new hT⟩⟩
  · rintro σ' H' ⟨A', P, p⟩
    exact hd A1 B1 σ' A' H' P1 P p
theorem q_forD {t2 : TS} {g : TG} (s : Ex A H) (h : EvD K tl σ A (.list ds)) (J : Nat → L2.St → Hp → Hp → Prop) (h0 : ∀ A1 B1, Pr A H A1 B1 → J 0 σ A1 B1)
    (hs : ∀ A1 B1, Pr A H A1 B1 → ∀ i d v σ' A' B', ds[i]? = some d → Pr A1 B1 A' B' → Dp K A' v d → J i σ' A' B' →
      g v σ' B' fun σ2 H2 => ts { (go Dd t2) with nx := fun σ3 H3 => ∃ A3, Pr A1 B1 A3 H3 ∧ J (i + 1) σ3 A3 H3, ct := fun σ3 H3 => ∃ A3, Pr A1 B1 A3 H3 ∧ J (i + 1) σ3 A3 H3, bk := t2 Dd } σ2 H2)
    (hd : ∀ A1 B1 σ' A' B', Pr A H A1 B1 → Pr A1 B1 A' B' → J ds.length σ' A' B' → t2 Dd σ' B') : tSeq (tFor (iList K tl) g ts) t2 Dd σ H := s_forD K (Dd := go Dd t2) s h J h0 hs hd
theorem q_forR {t2 : TS} {j : Nat} {n : Int} (s : Ex A H) (h : EvAD K tr σ A [.int n]) (hn : -100000 ≤ n ∧ n ≤ 100000) (J : Nat → L2.St → Hp → Hp → Prop) (h0 : ∀ A1 B1, Pr A H A1 B1 → J 0 σ A1 B1)
    (hs : ∀ A1 B1, Pr A H A1 B1 → ∀ (i : Nat) σ' A' B', (i : Int) < n → Pr A1 B1 A' B' → J i σ' A' B' →
      ts { (go Dd t2) with nx := fun σ3 H3 => ∃ A3, Pr A1 B1 A3 H3 ∧ J (i + 1) σ3 A3 H3, ct := fun σ3 H3 => ∃ A3, Pr A1 B1 A3 H3 ∧ J (i + 1) σ3 A3 H3, bk := t2 Dd } (σ'.set j (some (.int (i : Int)))) B')
    (hd : ∀ A1 B1 σ' A' B', Pr A H A1 B1 → Pr A1 B1 A' B' → J n.toNat σ' A' B' → t2 Dd σ' B') : tSeq (tFor (iRng1 tr) (gName j) ts) t2 Dd σ H := s_forR K (Dd := go Dd t2) s h hn J h0 hs hd
theorem q_forR3 {t2 : TS} {j : Nat} {lo hi c : Int} (s : Ex A H) (h : EvAD K tr σ A [.int lo, .int hi, .int c]) (hc : 0 < c ∧ c < 1000) (hn : -100000 ≤ lo ∧ lo ≤ 100000 ∧ -100000 ≤ hi ∧ hi ≤ 100000) (J : Nat → L2.St → Hp → Hp → Prop) (h0 : ∀ A1 B1, Pr A H A1 B1 → J 0 σ A1 B1)
    (hs : ∀ A1 B1, Pr A H A1 B1 → ∀ (i : Nat) σ' A' B', lo + i * c < hi → Pr A1 B1 A' B' → J i σ' A' B' →
      ts { (go Dd t2) with nx := fun σ3 H3 => ∃ A3, Pr A1 B1 A3 H3 ∧ J (i + 1) σ3 A3 H3, ct := fun σ3 H3 => ∃ A3, Pr A1 B1 A3 H3 ∧ J (i + 1) σ3 A3 H3, bk := t2 Dd } (σ'.set j (some (.int (lo + (i : Nat) * c)))) B')
    (hd : ∀ A1 B1 σ' A' B', Pr A H A1 B1 → Pr A1 B1 A' B' → J (rgN lo hi c) σ' A' B' → t2 Dd σ' B') : tSeq (tFor (iRng3 tr) (gName j) ts) t2 Dd σ H := s_forR3 K (Dd := go Dd t2) s h hc hn J h0 hs hd
theorem q_forR3x {t2 : TS} {j : Nat} {lo hi c : Int} (s : Ex A H) (h : EvAD K tr σ A [.int lo, .int hi, .int c]) (hc : 0 < c ∧ c < 1000) (hn : -100000 ≤ lo ∧ lo ≤ 100000 ∧ -100000 ≤ hi ∧ hi ≤ 100000) (J : Nat → L2.St → Hp → Prop) (h0 : ∀ A1 B1, Pr A H A1 B1 → J 0 σ B1)
    (hs : ∀ (i : Nat) σ' B', lo + i * c < hi → J i σ' B' → ts { (go Dd t2) with nx := J (i + 1), ct := J (i + 1), bk := t2 Dd } (σ'.set j (some (.int (lo + (i : Nat) * c)))) B')
    (hd : ∀ σ' B', J (rgN lo hi c) σ' B' → t2 Dd σ' B') : tSeq (tFor (iRng3 tr) (gName j) ts) t2 Dd σ H := s_forR3x K (Dd := go Dd t2) s h hc hn J h0 hs hd
theorem q_forZ {t2 : TS} {i j : Nat} (s : Ex A H) (h : EvAD K tr σ A [.list ds, .list es]) (J : Nat → L2.St → Hp → Hp → Prop) (h0 : ∀ A1 B1, Pr A H A1 B1 → J 0 σ A1 B1)
    (hs : ∀ A1 B1, Pr A H A1 B1 → ∀ t d e v w σ' A' B', ds[t]? = some d → es[t]? = some e → Pr A1 B1 A' B' → Dp K A' v d → Dp K A' w e → J t σ' A' B' →
      ∀ B2, Pu A' B' B2 → ts { (go Dd t2) with nx := fun σ3 H3 => ∃ A3, Pr A1 B1 A3 H3 ∧ J (t + 1) σ3 A3 H3, ct := fun σ3 H3 => ∃ A3, Pr A1 B1 A3 H3 ∧ J (t + 1) σ3 A3 H3, bk := t2 Dd } ((σ'.set i (some v)).set j (some w)) B2)
    (hd : ∀ A1 B1 σ' A' B', Pr A H A1 B1 → Pr A1 B1 A' B' → J (min ds.length es.length) σ' A' B' → t2 Dd σ' B') : tSeq (tFor (iZip K tr) (gTup K 2 (gCons (gName i) (gCons (gName j) gNil))) ts) t2 Dd σ H := s_forZ K (Dd := go Dd t2) s h J h0 hs hd
variable {K}
/-! ### shapes of data -/
def ShN (n : Nat) (d : D) : Prop := d.canLay0 = true ∧ d.depth ≤ n
theorem shn_int {n : Nat} {i : Int} : ShN n (.int i) := ⟨rfl, Nat.zero_le _⟩
theorem shn_bl {n : Nat} {i : Bool} : ShN n (.bool i) := ⟨rfl, Nat.zero_le _⟩
theorem shn_non {n : Nat} : ShN n .none := ⟨rfl, Nat.zero_le _⟩
theorem shn_all {n : Nat} : ∀ {ds : List D}, (∀ d ∈ ds, ShN n d) → PyData.canLayAll0 ds = true ∧ PyData.depthAll ds ≤ n
  | [], _ => ⟨rfl, Nat.zero_le _⟩
  | d :: ds, h => by
    obtain ⟨a, b⟩ := h d List.mem_cons_self
    obtain ⟨c, e⟩ := shn_all (ds := ds) fun x hx => h x (List.mem_cons_of_mem _ hx)
    refine ⟨?_, ?_⟩
    · show (d.canLay0 && PyData.canLayAll0 ds) = true
      rw [a, c]; rfl
    · show max d.depth (PyData.depthAll ds) ≤ n
      omega
theorem shn_tup {n : Nat} (h : ∀ d ∈ ds, ShN n d) : ShN (n + 1) (.tuple ds) := by
  obtain ⟨a, b⟩ := shn_all h
  exact ⟨a, Nat.succ_le_succ b⟩
theorem shn_list {n : Nat} (h : ∀ d ∈ ds, ShN n d) : ShN (n + 1) (.list ds) := by
  obtain ⟨a, b⟩ := shn_all h
  exact ⟨a, Nat.succ_le_succ b⟩
theorem ShN.sh {n : Nat} (h : ShN n d) (hn : n ≤ 64) : SeqAt.shaped d = true := by
  unfold SeqAt.shaped
  rw [h.1, decide_eq_true (Nat.le_trans h.2 hn)]
  rfl
theorem eqv_refl (h : SeqAt.shaped d = true) : PyData.eqv d d = true := by
  have := (Bool.and_eq_true_iff.mp h).1
  exact SeqAt.eqv_refl d this
/-! ## promises over data -/
/-- to such arguments such an answer -/
def SpD (K : PySem.W.Frag) (sp : Sp) (ds : List D) (d : D) : Prop := ∀ A B vs Q E, Ex A B → DpAll K A vs ds → (∀ v A' B', Pr A B A' B' → Dp K A' v d → Q v B') → sp vs B Q E
theorem ed_call {sp : Sp} {E : XK} (h : EvAD K tr σ H ds) (hs : SpD K sp ds d) : EvD K (tCall sp [] E tr) σ H d := fun A B e s Q q => h A B e s _ fun vs A2 B2 P2 ha => by
  show sp (vs ++ []) B2 Q E
  rw [List.append_nil]
  exact hs A2 B2 vs Q E P2.s ha fun v A3 B3 P3 => q v A3 B3 (P2.trans P3)
end
/-- the promise of a def whose answer is the datum res x, to the arguments args x -/
def spF (K : PySem.W.Frag) {α : Type} (args : α → List D) (ok : α → Prop) (res : α → D) : Sp := fun vs H Q _ => ∃ A x, ok x ∧ Ex A H ∧ DpAll K A vs (args x) ∧ ∀ v A' B', Pr A H A' B' → Dp K A' v (res x) → Q v B'
theorem spF_len {K : PySem.W.Frag} {α : Type} {args : α → List D} {ok : α → Prop} {res : α → D} {vs : List V} {H : Hp} {Q : VK} {E : XK} {n : Nat} (h : spF K args ok res vs H Q E) (hl : ∀ x, (args x).length = n) : vs.length = n := by
  obtain ⟨A, x, _, _, ha, _⟩ := h
  rw [dpa_len ha, hl x]
theorem spF_at {K : PySem.W.Frag} {α : Type} {args : α → List D} {ok : α → Prop} {res : α → D} (x : α) (h : ok x) : SpD K (spF K args ok res) (args x) (res x) := fun A _ _ _ _ s ha k => ⟨A, x, h, s, ha, k⟩
theorem cx_K {CX : CXT} {P : Program} {w : World} {K : PySem.W.Frag} {mg : Str → Option Value} {base : Heap} {N : List Str} {qual : Str} {scope : Scope} {f : Addr} {cd : Value} {A : Around} {outer : List Env} {s : Shared} {H : Hp} {E : XK} :
    (cxOf CX P w K mg base N qual scope f cd A outer s H E).nox.K = K := rfl
/-- one def of the text, ready to be called by its name -/
def DefOk (P : Program) (w : World) (K : PySem.W.Frag) (mg : Str → Option Value) (base : Heap) (CX : CXT) (k : Nat) (x : Str) (ps : List Str) (sp : Sp) : Prop :=
  ∃ f fd, mg x = some (.ref f) ∧ PySem.W.keepIn K (.ref f) = true ∧ Binds K fd ps [] ∧ FnOk P w K mg base CX k f fd ps sp
/-- what the top says of a def -/
structure DefAt (K : PySem.W.Frag) (mg : Str → Option Value) (x : Str) (st : Stmt) (ps : List Str) (f : Addr) (fd : FuncData) : Prop where
  F : Fun K x x st f fd
  g : mg x = some (.ref f)
  b : Binds K fd ps []
theorem DefAt.ok {P : Program} {w : World} {K : PySem.W.Frag} {mg : Str → Option Value} {base : Heap} {CX : CXT} {k : Nat} {x : Str} {st : Stmt} {ps : List Str} {f : Addr} {fd : FuncData} {sp : Sp} (d : DefAt K mg x st ps f fd) (h : FnOk P w K mg base CX k f fd ps sp) : DefOk P w K mg base CX k x ps sp :=
  ⟨f, fd, d.g, d.F.kp, d.b, h⟩
section
variable {X : Cx} {CX : CXT} {k : Nat} {x : Str} {ps : List Str} {sp : Sp} {E : XK} {p pos : Pos} {e : Expr} {es : List Expr} {t : TA}
theorem pe_cd (G : DefOk X.prog X.w X.K X.mg X.base CX k x ps sp) (hr : Room k X.A) (hg : Gl X x) (hx : Passes CX X E) (ha : PA X (e :: es) t) (hdb : (x == ("__debug__" : Str)) = false := by decide)
    (he : starEach (e :: es) X.env = (false, eval e X.env) :: starEach es X.env := by rfl) (hpl : (backTo pos (starEach es X.env)).any (·.1) = false := by rfl) : PE X (.Call (.Name x p) (e :: es) [] pos) (tCall sp [] E t) := by
  obtain ⟨f, fd, h1, h2, h3, h4⟩ := G
  exact pe_call h4 hr hg h1 h2 h3 .nil hx ha hdb he hpl
theorem pe_ty {T : String} (hg : Gl X x) (hm : X.mg x = none) (hv : bootBuiltins x = some (.type T)) (hn : x ≠ "__name__" := by decide) (hd : (x == ("__debug__" : Str)) = false := by decide) : PE X (.Name x p) (tC (.ty T)) :=
  pe_bltn (v := .ty T) hg hm hv rfl hn hd
/-! built-in words, the written part a letter -/
section
variable {K : PySem.W.Frag}
theorem ixT (h : X.K = K) : IxR X (rIxT K) := h ▸ ix_tup
theorem ixL (h : X.K = K) : IxR X (rIxL K) := h ▸ ix_list
theorem slL (h : X.K = K) : SlR X (rSlL K) := h ▸ sl_list
theorem o_eqD (h : X.K = K) (hu : X.A.units + 64 < cLine) : OpR X (compareOp .Eq) (rEqD K) := h ▸ op_eqD hu
theorem o_neD (h : X.K = K) (hu : X.A.units + 64 < cLine) : OpR X (compareOp .NotEq) (rNeD K) := h ▸ op_neD hu
theorem o_in (h : X.K = K) : OpR X (compareOp .In) (rIn K false) := h ▸ op_in_seq
theorem o_notIn (h : X.K = K) : OpR X (compareOp .NotIn) (rIn K true) := h ▸ op_notIn_seq
theorem c_len (h : X.K = K) : CallR X (.builtin "len") (rLenS K) := h ▸ call_len_seq
theorem c_list (h : X.K = K) : CallR X (.type "list") (rListS K) := h ▸ call_list_of
theorem c_isi (h : X.K = K) : CallR X (.builtin "isinstance") (rIsi K) := h ▸ call_isi
theorem c_max (h : X.K = K) (hc : X.calm = true) : CallR X (.builtin "max") (rMax K) := h ▸ cr_max hc
theorem c_all (h : X.K = K) (hc : X.calm = true) : CallR X (.builtin "all") (rAll K) := h ▸ cr_all hc
end
end
end Ob

set_option Elab.async false
set_option linter.all false
set_option maxRecDepth 100000
set_option maxHeartbeats 2000000
namespace Ob
open PySem L2 Evl
section
variable {X : Cx} {K : PySem.W.Frag} {H H' H1 : Hp} {σ : L2.St} {v : V} {ds es : List D} {d d' : D} {ta tb te to tl : TE} {tr : TA}
/-! ## texts -/
theorem o_addS : OpR X (binaryOp .Add) rAddS := op_add_str
theorem ed_addS {x y : Str} (ha : EvD K ta σ H (.str x)) (hb : EvD K tb σ H (.str y)) (hl : x.length + y.length ≤ 100000) : EvD K (tOp rAddS ta tb) σ H (.str (x ++ y)) :=
  ed_v (ev_op (v_str ha) (v_str hb) (rv_val fun _ _ _ q => ⟨x, y, rfl, rfl, sz_of hl, q⟩)) (.str _)
/-- the figures of a whole number -/
def numS (i : Int) : Str := Str.ofString (toString i)
def rStrI : List V → Hp → VK → Prop := fun xs H Q => ∃ i : Int, xs = [.int i] ∧ i.natAbs.log2 < 1920 ∧ Q (.str (numS i)) H
theorem c_strI : CallR X (.type "str") rStrI := call_str_int
theorem ed_strI {i : Int} (h : EvD K ta σ H (.int i)) (hl : i.natAbs.log2 < 1920) : EvD K (tCB rStrI (tCons ta tNil)) σ H (.str (numS i)) := ed_call1 h fun _ B hv _ q => by
  cases hv
  exact ⟨i, rfl, hl, q _ fun _ => .str _⟩
def rIntS : List V → Hp → VK → Prop := fun xs H Q => ∃ a n, xs = [.str a] ∧ PySem.intText? a = some n ∧ a.length ≤ 640 ∧ Q (.int n) H
theorem c_intS : CallR X (.type "int") rIntS := call_int_str
theorem ed_intS {w : Str} {n : Int} (h : EvD K ta σ H (.str w)) (hn : PySem.intText? w = some n) (hl : w.length ≤ 640) : EvD K (tCB rIntS (tCons ta tNil)) σ H (.int n) := ed_call1 h fun _ B hv _ q => by
  cases hv
  exact ⟨w, n, rfl, hn, hl, q _ fun _ => .int _⟩
def rLenT : List V → Hp → VK → Prop := fun xs H Q => ∃ z : Str, xs = [.str z] ∧ z.length ≤ sizeLine ∧ Q (.int z.length) H
theorem c_lenS : CallR X (.builtin "len") rLenT := call_len_str
theorem ed_lenS {w : Str} (h : EvD K ta σ H (.str w)) (hl : w.length ≤ 100000) : EvD K (tCB rLenT (tCons ta tNil)) σ H (.int (w.length : Int)) := ed_call1 h fun _ B hv _ q => by
  cases hv
  exact ⟨w, rfl, sz_of hl, q _ fun _ => .int _⟩
theorem ed_fmtI {i : Int} (h : EvD K te σ H (.int i)) (hl : i.natAbs.log2 < 1920) : EvD K (tFmt te) σ H (.str (numS i)) :=
  ed_v (v := .str (numS i)) (fun H1 e Q q => v_int h H1 e _ fun H2 e2 => .inr ⟨i, rfl, hl, q H2 e2⟩) (.str _)
/-- the parts of an f-string -/
def tJn (ts : List TE) : TE := fun σ H Q => tJs ts Str.empty σ H fun out H1 => Q (.str out) H1
theorem pe_jn {v1 v2 : Expr} {rest : List Expr} {ts : List TE} {pos : Pos} (h : PJ X (v1 :: v2 :: rest) ts) : PE X (.JoinedStr (v1 :: v2 :: rest) pos) (tJn ts) := pe_joined h
def EvJ (_ : PySem.W.Frag) (ts : List TE) (acc : Str) (σ : L2.St) (H : Hp) (out : Str) : Prop := ∀ H1, Ex H H1 → ∀ Q : Str → Hp → Prop, (∀ H2, Ex H1 H2 → Q out H2) → tJs ts acc σ H1 Q
theorem ej_nil {acc : Str} : EvJ K [] acc σ H acc := fun H1 _ _ q => q H1 (Ex.refl _)
theorem ej_cons {t : TE} {ts : List TE} {acc y out : Str} (h : EvD K t σ H (.str y)) (hl : acc.length + y.length ≤ 100000) (r : EvJ K ts (acc ++ y) σ H out) : EvJ K (t :: ts) acc σ H out := fun H1 e Q q =>
  v_str h H1 e _ fun H2 e2 => ⟨y, rfl, sz_of (by rw [show (acc ++ y).length = acc.length + y.length from Str.length_append _ _]; exact hl), r H2 (e.trans e2) Q fun H3 e3 => q H3 (e2.trans e3)⟩
theorem ed_jn {ts : List TE} {out : Str} (h : EvJ K ts Str.empty σ H out) : EvD K (tJn ts) σ H (.str out) :=
  ed_v (v := .str out) (fun H1 e Q q => h H1 e _ fun H2 e2 => q H2 e2) (.str _)
def rSplit : V → List V → Hp → VK → Prop := fun x xs H Q => ∃ a b, x = .str a ∧ xs = [.str b] ∧ (b.length == 0) = false ∧ a.length + 2 ≤ sizeLine ∧ rNewStrs (Txt.split a b) H Q
theorem pe_splitN {o e : Expr} {apos pos : Pos} (ho : PE X o to) (he : PE X e te) (hs : starEach [e] X.env = [(false, eval e X.env)] := by rfl) (hbase : attributeBase o "split" X.env (eval o X.env) = eval o X.env := by rfl) (hline : (apos.endLine == pos.line) = true := by rfl) :
    PE X (.Call (.Attribute o "split" apos) [e] [] pos) (tM1 rSplit to te) := pe_split ho he hs hbase hline
theorem dpa_strs : ∀ {ns : List Str}, DpAll K H (ns.map V.str) (ns.map PyData.str)
  | [] => .nil
  | _ :: _ => .cons (.str _) dpa_strs
theorem en_split {a b : Str} (h1 : EvD K to σ H (.str a)) (h2 : EvD K te σ H (.str b)) (hb : (b.length == 0) = false) (hl : a.length ≤ 100000) : EvN K (tM1 rSplit to te) σ H ((Txt.split a b).map PyData.str) := fun A B e s Q q =>
  v_str h1 B (e.trans s) _ fun B2 e2 => ⟨⟨a, rfl⟩, v_str h2 B2 ((e.trans s).trans e2) _ fun B3 e3 => ⟨a, b, rfl, rfl, hb, Nat.le_trans (show a.length + 2 ≤ 100002 by omega) (by decide), fun p hp =>
    q p _ A _ (fresh_back (e2.trans e3) hp) ((Pr.up s (e2.trans e3)).trans (Pr.priv (s.trans (e2.trans e3)) hp)) (fresh_back (s.trans (e2.trans e3)) hp) upd_same dpa_strs⟩⟩
theorem shn_str {n : Nat} {x : Str} (h : PyData.strOk x = true) : ShN n (.str x) := ⟨h, Nat.zero_le _⟩
/-! ## in -/
def flatD : D → Bool
  | .none => true | .bool _ => true | .int _ => true | .str _ => true | _ => false
theorem flat_V (h : Dp K H v d) (hf : flatD d = true) : flatV v = true := by
  cases h <;> first | rfl | cases hf
theorem eqv_V {w : V} {e : D} (h : Dp K H v d) (h' : Dp K H w e) (hf : flatD d = true) (hf' : flatD e = true) : eqV v w = PyData.eqv d e := by
  cases h <;> first | (cases hf; done) | (cases h' <;> first | (cases hf'; done) | rfl | (simp [eqV, PyData.eqv]))
theorem flat_all : ∀ {vs : List V} {ds : List D}, DpAll K H vs ds → ds.all flatD = true → vs.all flatV = true
  | _, _, .nil, _ => rfl
  | _, _, .cons a t, h => by
    rw [List.all_cons, Bool.and_eq_true] at h
    rw [List.all_cons, flat_V a h.1, flat_all t h.2]
    rfl
theorem inV_D {w : V} {e : D} (h : Dp K H w e) (hf : flatD e = true) : ∀ {vs : List V} {ds : List D}, DpAll K H vs ds → ds.all flatD = true → inV w vs = ds.any fun y => PyData.eqv y e
  | _, _, .nil, _ => rfl
  | _, _, .cons a t, q => by
    rw [List.all_cons, Bool.and_eq_true] at q
    unfold inV
    rw [List.any_cons, List.any_cons, eqv_V a h q.1 hf]
    have := inV_D h hf t q.2
    unfold inV at this
    rw [this]
theorem ed_inT (ha : EvD K ta σ H d) (hb : EvD K tb σ H (.tuple ds)) (hf : flatD d = true) (hs : ds.all flatD = true) : EvD K (tOp (rIn K false) ta tb) σ H (.bool (ds.any fun y => PyData.eqv y d)) :=
  ed_opB ha hb fun _ _ _ hx hy _ q => by
    obtain ⟨a, xs, rfl, s, al⟩ := dp_tuple hy
    refine ⟨a, xs, rfl, .inr s, flat_V hx hf, flat_all al hs, q _ fun _ _ _ _ => ?_⟩
    rw [← inV_D hx hf al hs]
    exact .bl _
theorem ed_niT (ha : EvD K ta σ H d) (hb : EvD K tb σ H (.tuple ds)) (hf : flatD d = true) (hs : ds.all flatD = true) : EvD K (tOp (rIn K true) ta tb) σ H (.bool (!ds.any fun y => PyData.eqv y d)) :=
  ed_opB ha hb fun _ _ _ hx hy _ q => by
    obtain ⟨a, xs, rfl, s, al⟩ := dp_tuple hy
    refine ⟨a, xs, rfl, .inr s, flat_V hx hf, flat_all al hs, q _ fun _ _ _ _ => ?_⟩
    rw [← inV_D hx hf al hs]
    exact .bl _
theorem ed_inL (ha : EvD K ta σ H d) (hb : EvD K tb σ H (.list ds)) (hf : flatD d = true) (hs : ds.all flatD = true) : EvD K (tOp (rIn K false) ta tb) σ H (.bool (ds.any fun y => PyData.eqv y d)) :=
  ed_opB ha hb fun _ _ _ hx hy _ q => by
    obtain ⟨a, xs, rfl, s, al⟩ := dp_list hy
    refine ⟨a, xs, rfl, .inl s, flat_V hx hf, flat_all al hs, q _ fun _ _ _ _ => ?_⟩
    rw [← inV_D hx hf al hs]
    exact .bl _
theorem ed_niL (ha : EvD K ta σ H d) (hb : EvD K tb σ H (.list ds)) (hf : flatD d = true) (hs : ds.all flatD = true) : EvD K (tOp (rIn K true) ta tb) σ H (.bool (!ds.any fun y => PyData.eqv y d)) :=
  ed_opB ha hb fun _ _ _ hx hy _ q => by
    obtain ⟨a, xs, rfl, s, al⟩ := dp_list hy
    refine ⟨a, xs, rfl, .inl s, flat_V hx hf, flat_all al hs, q _ fun _ _ _ _ => ?_⟩
    rw [← inV_D hx hf al hs]
    exact .bl _
theorem c_max2 (hc : X.calm = true) : CallR X (.builtin "max") rMax2 := call_max2 hc
theorem ed_max2 {i j : Int} (ha : EvD K ta σ H (.int i)) (hb : EvD K tb σ H (.int j)) : EvD K (tCB rMax2 (tCons ta (tCons tb tNil))) σ H (.int (if j > i then j else i)) := ed_v (ev_max2 (v_int ha) (v_int hb)) (.int _)
theorem ed_neg {i : Int} (h : EvD K ta σ H (.int i)) : EvD K (tUn (rU fun i => .int (-i)) ta) σ H (.int (-i)) := ed_v (ev_un (v_int h) ru_neg) (.int _)
/-- one sign in a text -/
theorem ed_inSg {c : Nat} {z : Str} (ha : EvD K ta σ H (.str ⟨#[c]⟩)) (hb : EvD K tb σ H (.str z)) : EvD K (tOp rInS ta tb) σ H (.bool (decide (c ∈ z.cps.toList))) :=
  ed_v (ev_op (v_str ha) (v_str hb) (rv_val fun _ _ _ q => ⟨c, z, rfl, rfl, q⟩)) (.bl _)
theorem ed_niSg {c : Nat} {z : Str} (ha : EvD K ta σ H (.str ⟨#[c]⟩)) (hb : EvD K tb σ H (.str z)) : EvD K (tOp rNotInS ta tb) σ H (.bool (!decide (c ∈ z.cps.toList))) :=
  ed_v (ev_op (v_str ha) (v_str hb) (rv_val fun _ _ _ q => ⟨c, z, rfl, rfl, q⟩)) (.bl _)
/-- is None -/
def isNone : D → Bool
  | .none => true
  | _ => false
theorem dec_non (h : Dp K H v d) : decide (v = .non) = isNone d := by
  cases h <;> first | rfl | (rw [decide_eq_false]; rfl; intro z; cases z)
theorem ed_isN (h : EvD K ta σ H d) : EvD K (tOp rIsN ta (tC .non)) σ H (.bool (isNone d)) := fun A B e s Q q => h A B e s _ fun v A2 B2 P2 hv => ⟨rfl, by rw [dec_non hv]; exact q _ A2 B2 P2 (.bl _)⟩
theorem ed_notN (h : EvD K ta σ H d) : EvD K (tOp rNotN ta (tC .non)) σ H (.bool (!isNone d)) := fun A B e s Q q => h A B e s _ fun v A2 B2 P2 hv => ⟨rfl, by rw [dec_non hv]; exact q _ A2 B2 P2 (.bl _)⟩
/-- two names at once -/
theorem q_asg2 (K : PySem.W.Frag) {Dd : Ends} {A : Hp} {t2 : TS} {i j : Nat} {d1 d2 : D} (s : Ex A H) (h : EvD K te σ A (.tuple [d1, d2])) (k : ∀ v1 v2 A' B', Pr A H A' B' → Dp K A' v1 d1 → Dp K A' v2 d2 → t2 Dd ((σ.set i (some v1)).set j (some v2)) B') :
    tSeq (tAsg te (gTup K 2 (gCons (gName i) (gCons (gName j) gNil)))) t2 Dd σ H := h A H (Ex.refl _) s _ fun v A' B' P hv => by
  obtain ⟨a, xs, rfl, sq, al⟩ := dp_tuple hv
  obtain ⟨v1, v2, rfl, h1, h2⟩ := dpa2 al
  exact ⟨a, [v1, v2], rfl, ex_t P.s sq, rfl, v1, [v2], rfl, v2, [], rfl, rfl, k v1 v2 A' B' P h1 h2⟩
/-- a for over a text's signs -/
theorem q_forS (K : PySem.W.Frag) {Dd : Ends} {A : Hp} {g : TG} {ts t2 : TS} {z : Str} (s : Ex A H) (h : EvD K tl σ A (.str z)) (J : Nat → L2.St → Hp → Hp → Prop) (h0 : ∀ A1 B1, Pr A H A1 B1 → J 0 σ A1 B1)
    (hs : ∀ A1 B1, Pr A H A1 B1 → ∀ i c σ' A' B', z.cps.toList[i]? = some c → Pr A1 B1 A' B' → J i σ' A' B' →
      g (.str ⟨#[c]⟩) σ' B' fun σ2 H2 => ts { (go Dd t2) with nx := fun σ3 H3 => ∃ A3, Pr A1 B1 A3 H3 ∧ J (i + 1) σ3 A3 H3, ct := fun σ3 H3 => ∃ A3, Pr A1 B1 A3 H3 ∧ J (i + 1) σ3 A3 H3, bk := t2 Dd } σ2 H2)
    (hd : ∀ A1 B1 σ' A' B', Pr A H A1 B1 → Pr A1 B1 A' B' → J z.cps.toList.length σ' A' B' → t2 Dd σ' B') : tSeq (tFor (iStr tl) g ts) t2 Dd σ H := h A H (Ex.refl _) s _ fun v A1 B1 P1 hv => by
  cases hv
  refine ⟨z, rfl, for_it walk_str (fun i σ' H' => ∃ A', Pr A1 B1 A' H' ∧ J i σ' A' H') ⟨A1, Pr.refl P1.s, h0 A1 B1 P1⟩ (fun _ _ _ _ _ => trivial) ?_ ?_⟩
  · rintro i x σ' H' H'' hi ⟨A', P, p⟩ ⟨rfl, c, hc, rfl⟩
    exact hs A1 B1 P1 i c σ' A' H'' (by rw [Array.getElem?_toList]; exact hc) P p
  · rintro σ' H' ⟨A', P, p⟩
    exact hd A1 B1 σ' A' H' P1 P (by rw [Array.length_toList]; exact p)
/-! ## what may raise: r = none -/
def EvX (K : PySem.W.Frag) (te : TE) (σ : L2.St) (H : Hp) (r : Option D) (R : Hp → Prop) : Prop :=
  ∀ A B, Ex H A → Ex A B → ∀ Q : VK, (∀ d, r = some d → ∀ v A' B', Pr A B A' B' → Dp K A' v d → Q v B') → (r = none → ∀ B', Ex B B' → R B') → te σ B Q
def EvAX (K : PySem.W.Frag) (ta : TA) (σ : L2.St) (H : Hp) (r : Option (List D)) (R : Hp → Prop) : Prop :=
  ∀ A B, Ex H A → Ex A B → ∀ Q : List V → Hp → Prop, (∀ ds, r = some ds → ∀ vs A' B', Pr A B A' B' → DpAll K A' vs ds → Q vs B') → (r = none → ∀ B', Ex B B' → R B') → ta σ B Q
variable {r r1 : Option D} {R : Hp → Prop}
theorem ex_d (h : EvD K te σ H d) : EvX K te σ H (some d) R := fun A B e s Q q _ => h A B e s Q fun v A' B' P hv => q d rfl v A' B' P hv
theorem ex_is (h : EvX K te σ H r R) (q : r = r1) : EvX K te σ H r1 R := q ▸ h
theorem eax_nil : EvAX K tNil σ H (some []) R := fun A B _ s _ q _ => q [] rfl [] A B (Pr.refl s) .nil
def consO (r : Option D) (q : Option (List D)) : Option (List D) := match r, q with
  | some d, some ds => some (d :: ds)
  | _, _ => none
theorem eax_cons {q : Option (List D)} (h : EvX K ta σ H r R) (hr : EvAX K tr σ H q R) : EvAX K (tCons ta tr) σ H (consO r q) R := fun A B e s Q k x =>
  h A B e s _ (fun d hd v A2 B2 P2 hv => hr A2 B2 (e.trans P2.a) P2.s _ (fun ds hds vs A3 B3 P3 ha => k (d :: ds) (by rw [hd, hds]; rfl) _ A3 B3 (P2.trans P3) (.cons (dp_ex P3.a hv) ha)) fun hn B3 e3 => x (by rw [hd, hn]; rfl) B3 (P2.b.trans e3)) fun hn B2 e2 => x (by rw [hn]; rfl) B2 e2
theorem ex_tup {q : Option (List D)} (h : EvAX K tr σ H q R) (hl : ∀ ds, q = some ds → ds.length ≤ 100000) : EvX K (tTup tr) σ H (q.map .tuple) R := fun A B e s Q k x =>
  h A B e s _ (fun ds hds vs A2 B2 P2 ha => ⟨sz_of (by rw [dpa_len ha]; exact hl ds hds), fun p hp => k (.tuple ds) (by rw [hds]; rfl) _ (upd A2 p (.tup vs)) _ (P2.trans (Pr.new P2.s hp)) (.tup (st_of upd_same) (dpa_ex (Ex.new (fresh_back P2.s hp)) ha))⟩) fun hn B2 e2 => x (by rw [hn]; rfl) B2 e2
/-- to such arguments such an answer, or C is raised -/
def SpX (K : PySem.W.Frag) (sp : Sp) (C : Addr) (ds : List D) (r : Option D) : Prop := ∀ A B vs Q E, Ex A B → DpAll K A vs ds → (∀ d, r = some d → ∀ v A' B', Pr A B A' B' → Dp K A' v d → Q v B') → (r = none → ∀ B', Ex B B' → E (.ref C) none B') → sp vs B Q E
theorem ex_callS {sp : Sp} {C : Addr} {E : L2.St → XK} (h : EvAD K tr σ H ds) (hs : SpX K sp C ds r) (hR : ∀ B', R B' → E σ (.ref C) none B') : EvX K (tCallS sp E tr) σ H r R := fun A B e s Q q x => h A B e s _ fun vs A2 B2 P2 ha =>
  hs A2 B2 vs Q (E σ) P2.s ha (fun d hd v A3 B3 P3 => q d hd v A3 B3 (P2.trans P3)) fun hn B3 e3 => hR B3 (x hn B3 (P2.b.trans e3))
def spX (K : PySem.W.Frag) (C : Addr) {α : Type} (args : α → List D) (ok : α → Prop) (res : α → Option D) : Sp := fun vs H Q E => ∃ A x, ok x ∧ Ex A H ∧ DpAll K A vs (args x) ∧ (∀ d, res x = some d → ∀ v A' B', Pr A H A' B' → Dp K A' v d → Q v B') ∧ (res x = none → ∀ B', Ex H B' → E (.ref C) none B')
theorem spX_len {C : Addr} {α : Type} {args : α → List D} {ok : α → Prop} {res : α → Option D} {vs : List V} {Q : VK} {E : XK} {n : Nat} (h : spX K C args ok res vs H Q E) (hl : ∀ x, (args x).length = n) : vs.length = n := by
  obtain ⟨A, x, _, _, ha, _⟩ := h
  rw [dpa_len ha, hl x]
theorem spX_at {C : Addr} {α : Type} {args : α → List D} {ok : α → Prop} {res : α → Option D} (x : α) (h : ok x) : SpX K (spX K C args ok res) C (args x) (res x) := fun A _ _ _ _ s ha k q => ⟨A, x, h, s, ha, k, q⟩
/-- a call that raises nothing -/
theorem spX_ok {C : Addr} {α : Type} {args : α → List D} {ok : α → Prop} {res : α → Option D} (x : α) (h : ok x) (hd : res x = some d) : SpD K (spX K C args ok res) (args x) d := fun A _ _ _ _ s ha k =>
  ⟨A, x, h, s, ha, fun d' h' => by rw [hd] at h'; cases h'; exact k, fun h' => by rw [hd] at h'; cases h'⟩
/-! statements -/
variable (K) {Dd : Ends} {t2 : TS} {A : Hp}
theorem q_asgX {i : Nat} (s : Ex A H) (h : EvX K te σ A r R) (k : ∀ d, r = some d → ∀ v A' B', Pr A H A' B' → Dp K A' v d → t2 Dd (σ.set i (some v)) B') (x : r = none → ∀ B', Ex H B' → R B') : tSeq (tAsg te (gName i)) t2 Dd σ H := h A H (Ex.refl _) s _ k x
theorem s_retX (s : Ex A H) (h : EvX K te σ A r R) (k : ∀ d, r = some d → ∀ v A' B', Pr A H A' B' → Dp K A' v d → Dd.rt v B') (x : r = none → ∀ B', Ex H B' → R B') : tRet te Dd σ H := h A H (Ex.refl _) s _ k x
end
/-! ## defs that raise -/
section
variable {X : Cx}
/-- a module's whole number -/
theorem pe_gi {x : Str} {i : Int} {pos : Pos} (hg : Gl X x) (h : ∃ t, X.mg x = some (.int i t)) (hd : (x == ("__debug__" : Str)) = false := by decide) : PE X (.Name x pos) (tC (.int i)) := by
  obtain ⟨t, e⟩ := h
  exact pe_glob (v := .int i) hg e ⟨t, rfl⟩ hd
/-- what the top says of an own class of errors -/
structure ExcCl (K : PySem.W.Frag) (mg : Str → Option Value) (x : Str) (C : Addr) : Prop where
  g : mg x = some (.ref C)
  k : PySem.W.keepIn K (.ref C) = true
  x : PySem.W.excIn K C [.type "ValueError", .type "Exception", .type "BaseException", .type "object"] "ValueError.__new__" = true
  b : PySem.W.subIn K (.ref C) (.type "BaseException") = some true
  t : PySem.W.typeIn K (.ref C) = some (.type "type")
def tRaiseC (C : Addr) (W : WX) : TS := fun _ σ H => W (.ref C) none σ H
theorem ps_rs {x m : Str} {C : Addr} {W : WX} {j : Nat} {p p2 pos pos2 : Pos} (hc : X.calm = true) (tk : L2N.Takes X W) (T : ExcCl X.K X.mg x C) (hg : Gl X x) (hdb : (x == ("__debug__" : Str)) = false := by decide) :
    PS X (.Raise (some (.Call (.Name x p) [.Constant (.str m) j p2] [] pos)) none pos2) (tRaiseC C W) :=
  L2N.ps_raise hc tk (L2N.pmk_own PySem.F.excBase_ValueError T.x T.g T.k (raises_own T.b T.t) hg hdb)
/-- nothing is wished of an error: none comes -/
theorem passN {X : Cx} : Passes (L2N.CX X.prog X.w) X E0 := fun _ _ _ _ _ _ _ c =>
  let ⟨_, _, _, _, _, _, _, _, _, _, _, _, z⟩ := c
  z.elim
theorem okN {P : Program} {w : World} {K : PySem.W.Frag} {mg : Str → Option Value} {base : Heap} {x qual : Str} {st : Stmt} {f : Addr} {fd : FuncData} {N ps : List Str} {k : Nat} {sp : Sp} (F : Fun K x qual st f fd) (S : FnScope N ps (defScope st))
    (len : ∀ vs H Q E, sp vs H Q E → vs.length = ps.length)
    (body : ∀ cdv A outer s H vs Q E, Room k (A.deeper (PyProof.Rows.envOfC qual (defScope st) s.heap.objs.size f cdv)) → sp vs H Q E →
      ∃ t, PSs (cxOf (L2N.CX P w) P w K mg base N qual (defScope st) f cdv A outer s H E) (defBody st) t ∧ t ⟨fun _ H' => Q .non H', Q, fun _ _ => False, fun _ _ => False⟩ (L2.start N vs) H) : FnOk P w K mg base (L2N.CX P w) (k + 1) f fd ps sp := by
  obtain ⟨_, _, _, _, _, _, _, _, _, e, lk, hc⟩ := F.ex
  subst e
  exact fn_of lk hc S len fun A outer s H vs Q E hr hs => body _ A outer s H vs Q E hr hs
variable {CX : CXT} {k : Nat} {x : Str} {ps : List Str} {sp : Sp} {E : L2.St → XK} {p pos : Pos} {e : Expr} {es : List Expr} {t : TA}
theorem pe_cs (G : DefOk X.prog X.w X.K X.mg X.base CX k x ps sp) (hr : Room k X.A) (hg : Gl X x) (hx : ∀ σ, PassesAt CX X σ (E σ)) (ha : PA X (e :: es) t) (hdb : (x == ("__debug__" : Str)) = false := by decide)
    (he : starEach (e :: es) X.env = (false, eval e X.env) :: starEach es X.env := by rfl) (hpl : (backTo pos (starEach es X.env)).any (·.1) = false := by rfl) : PE X (.Call (.Name x p) (e :: es) [] pos) (tCallS sp E t) := by
  obtain ⟨f, fd, h1, h2, h3, h4⟩ := G
  exact pe_callS h4 hr hg h1 h2 h3 hx ha hdb he hpl
theorem cx_K2 {CX : CXT} {P : Program} {w : World} {K : PySem.W.Frag} {mg : Str → Option Value} {base : Heap} {N : List Str} {qual : Str} {scope : Scope} {f : Addr} {cd : Value} {A : Around} {outer : List Env} {s : Shared} {H : Hp} {E : XK} :
    (cxOf CX P w K mg base N qual scope f cd A outer s H E).K = K := rfl
end
end Ob

set_option Elab.async false
set_option linter.all false
set_option maxRecDepth 100000
set_option maxHeartbeats 2000000
namespace Ob
open PySem PySem.Spec PyProof.Rows L2 L2H HotX
/-! ## within an except suite -/
section
variable {prog : Program} {w : World} {A : Around} {E : Value → Shared → Prop} {z : Shared}
/-- a list's iterator ends while an error is handled -/
theorem nx_endH {it l x1 : Addr} {i : Nat} {its : Array Value} {Q : Option Value → Shared → Prop} (hot : HotAt A x1 z.heap) (hI : z.heap.IsListIter it l i) (hL : z.heap.IsList l its) (hx : its[i]? = none)
    (hQ : ∀ g, (∀ b o, b ≠ it → z.heap.get? b = some o → g.get? b = some o) → Q none { z with heap := g }) : wpAny (model prog w) A (pyNext (.ref it)) Q E z := by
  obtain ⟨oI, eI, cI, dI⟩ := id hI
  obtain ⟨oL, eL, _, nL, dL⟩ := hL
  obtain ⟨hh, o1, vs1, e1, d1, c1⟩ := hot
  have n1 : x1 ≠ it := fun y => by
    rw [y, eI] at e1
    cases e1
    rw [dI] at d1
    cases d1
    simp at c1
  unfold pyNext
  refine wpAny_bind (wpAny_attempt (wpAny_callSpecial?_slot (name := Str.ofString "__next__") hI.typeIs slot_listiter_next (wpAny_call_entry slot_listiter_next hI.typeIs entry_listiter_next ?_ (args_listiter_next _))))
  show wpAny _ _ (field (.ref it) 0 >>= _) _ _ z
  refine wpAny_bind (wpAny_field eI dI (x := .ref l) rfl ?_)
  show wpAny _ _ (if (Value.ref l == Value.none) = true then _ else _) _ _ z
  rw [if_neg (by intro y; cases y)]
  show wpAny _ _ (field (.ref it) 1 >>= _) _ _ z
  refine wpAny_bind (wpAny_field eI dI (x := .int i 0) rfl ?_)
  show wpAny _ _ (seqItems? (.ref l) >>= _) _ _ z
  refine wpAny_bind (wpAny_seqItems eL dL ?_)
  simp only [Int.toNat_natCast, hx]
  refine wpAny_bind (wpAny_rule (wpAny_bind (wpAny_setField eI dI (by simp) ?_)))
  have g1 := (Heap.get?_update_other z.heap (Obj.mapFields (·.setIfInBounds 0 Value.none)) (Ne.symm n1)).trans e1
  have kp : ∀ b o, b ≠ it → z.heap.get? b = some o → (z.heap.update it (Obj.mapFields (·.setIfInBounds 0 Value.none))).get? b = some o := fun b o nb e => (Heap.get?_update_other _ _ (Ne.symm nb)).trans e
  generalize (z.heap.update it (Obj.mapFields (·.setIfInBounds 0 Value.none))) = h2 at g1 kp ⊢
  show wpAny _ _ (newExc (.type "StopIteration") [] >>= _) _ _ _
  refine wpAny_bind ?_
  simp only [newExc, newTuple]
  refine wpAny_bind (wpAny_newObj_type ?_ (by size_fits))
  refine wpAny_bind (m := firstArgMember _ _) (wpAny_of_eq (a := Value.none) (by first | rfl | (simp only [firstArgMember]; rfl)) ?_)
  refine wpAny_newObj_type ?_ (by size_fits)
  refine raiseNew_hot ⟨hh, o1, vs1, Heap.get?_push_of_some _ (Heap.get?_push_of_some _ g1), d1, c1⟩ (Nat.ne_of_lt (Heap.lt_size (Heap.get?_push_of_some _ g1))) (Heap.get?_push_size _ rfl) rfl (by first | (simp; done) | (simp; omega) | (simp only [Array.size_append]; simp; omega)) ?_
  refine wpAny_bind (wpAny_isInstance (T := "StopIteration") (b := true) ⟨_, Heap.get?_update_self _ (Heap.get?_push_size _ rfl) rfl, rfl⟩ isSubtype_stop ?_)
  refine wpAny_pure (hQ _ fun b o nb e => ?_)
  have e2 := kp b o nb e
  rw [Heap.get?_update_other _ _ (Nat.ne_of_gt (Heap.lt_size (Heap.get?_push_of_some _ e2)))]
  exact Heap.get?_push_of_some _ (Heap.get?_push_of_some _ e2)
end
/-- what a turn over a list asks, an error handled somewhere in the state -/
theorem list_doneH {X : Cx} {pins : List (Addr × Obj)} {σ : L2.St} {H : Hp} {z : Shared} {E : Value → Shared → Prop} {a it : Addr} {i : Nat} (hot : ∃ x1, HotAt X.A x1 z.heap) (I : Inv X pins σ H z) (hf : FpOk X pins H it) (st : z.heap.IsListIter it a i) (hs : (Itl X.K a).stop i H) :
    wpAny (model X.prog X.w) X.A (pyNext (.ref it)) (fun r s1 => r = none ∧ Inv X pins σ H s1) E z := by
  obtain ⟨xs, hq, hx⟩ := hs
  obtain ⟨its, rv, p, hz⟩ := I.list hq
  obtain ⟨f0, f1, f2, f3, f4, f5⟩ := hf
  obtain ⟨x1, hot⟩ := hot
  have hl := rv.length
  exact nx_endH hot st p.isList (by simp; omega) fun g eb => ⟨rfl, I.turned (t' := z.toks) (fun b o hb e => eb b o hb e) f0 f1 f3 f4 f5⟩
theorem list_itemH {X : Cx} {tg : Expr} {pins : List (Addr × Obj)} {σ : L2.St} {H : Hp} {z : Shared} {E : Value → Shared → Prop} {a it : Addr} {i : Nat} (I : Inv X pins σ H z) (hf : FpOk X pins H it) (st : z.heap.IsListIter it a i) (hg : (Itl X.K a).go i H) :
    wpAny (model X.prog X.w) X.A (pyNext (.ref it)) (fun r s1 => ∃ u, r = some u ∧
      wpAny (model X.prog X.w) X.A (letOwnedTupleGo tg (.ref it) u) (fun _ s2 => ∃ x H', Inv X pins σ H' s2 ∧ RelV x u ∧ (Itl X.K a).yld i H x H' ∧ s2.heap.IsListIter it a (i + 1) ∧ ∀ b ∈ [it], H' b = none) E s1) E z := by
  obtain ⟨xs, x, hq, hx⟩ := hg
  obtain ⟨its, rv, p, hz⟩ := I.list hq
  obtain ⟨u, hu, ru⟩ := rv.get hx
  obtain ⟨f0, f1, f2, f3, f4, f5⟩ := hf
  refine wpAny_pyNext_list_item st p.isList (x := u) (by simpa using hu) fun g st' sb => ?_
  have I1 : Inv X pins σ H { z with heap := g } := I.turned (t' := z.toks) (fun b o hb e => (sb.2 b hb).trans e) f0 f1 f3 f4 f5
  obtain ⟨o, e, c, d⟩ := id st'
  refine ⟨u, rfl, go_of (s := { z with heap := g }) e c d (by decide) ⟨x, H, I1, ru, ⟨rfl, fun ys hy => ?_⟩, st', fun b hb => ?_⟩⟩
  · rw [I.list_inj hy hq]; exact hx
  · rw [List.mem_singleton.mp hb]; exact f0
theorem turn_listH {P : Program} {w : World} {K : PySem.W.Frag} {tg : Expr} (a it : Addr) : TurnH P w K tg (Itl K a) [it] it (fun i h => h.IsListIter it a i) where
  mem := by simp
  obj := fun i h st b hb => by
    rw [List.mem_singleton.mp hb]
    obtain ⟨o, e, _, d⟩ := st
    exact ⟨o, e, fun v y => by rw [d] at y; cases y⟩
  keep := fun i h h' st k => st.at fun o e => k it (by simp) o e
  item := by
    intro Y hP hw hK hc i pins z σ H E I hf st hg
    subst hP hw hK
    exact list_itemH I (hf it (by simp)) st hg
  done := by
    intro Y hP hw hK hc i pins z σ H E I hf st hg
    subst hP hw hK
    exact list_doneH (hc.at I) I (hf it (by simp)) st hg
  self := fun _ _ _ _ _ st h => wpAny_pyIter_listiter st h
theorem pi_listH {X : Cx} {tg l : Expr} {tl : TE} (hl : PE X l tl) : PIH X tg l (iList X.K tl) := by
  refine ⟨fun pins z σ H R I h => thn (hl.run pins z σ H _ I h) fun v z1 ⟨x, H1, I1, r1, q1⟩ => ?_⟩
  obtain ⟨a, e, ⟨xs, hq⟩, q⟩ := q1
  subst e
  cases r1
  obtain ⟨its, rv, p, hz⟩ := I1.list hq
  refine wpAny_pyIter_list p.isList ⟨z1.heap.objs.size, [z1.heap.objs.size], _, _, H1, rfl, I1.kept (t' := z1.toks) fun b o e => Heap.get?_push_of_some _ e, turn_listH a _, ⟨_, Heap.get?_push_size _ rfl, rfl, rfl⟩, fun b hb => ?_, q⟩
  rw [List.mem_singleton.mp hb]
  exact I1.fpOk (Nat.le_refl _) (I1.hok.fresh (Nat.le_refl _))
/-! ### a list comprehension there -/
section
variable {X : Cx}
theorem pe_lcH {elt tg iter : Expr} {ifs : List Expr} {scope : Scope} {own : List (Str × Nat)} {pos : Pos} {tl : TE} {g : TG} {tt : TT} {te : TE} (hot : HotC X) (hN : X.N.Nodup) (hl : PE X iter tl) (ok : BlkOk X.N X.env.scope scope own)
    (hg : ∀ (y : Shared) (H : Hp) (C : Addr) (cl : List (Str × Addr)) (fp : List Addr), PG (X.blk y H scope (compEnvC scope cl C X.env) fp) tg g) (ht : ∀ (y : Shared) (H : Hp) (C : Addr) (cl : List (Str × Addr)) (fp : List Addr), PTs (X.blk y H scope (compEnvC scope cl C X.env) fp) ifs tt)
    (he : ∀ (y : Shared) (H : Hp) (C : Addr) (cl : List (Str × Addr)) (fp : List Addr), PE (X.blk y H scope (compEnvC scope cl C X.env) fp) elt te) (hs : ∀ x, foldedSetIterable iter X.env x = pure x := by intro _; rfl) :
    PE X (.ListComp elt [⟨tg, iter, ifs, 0⟩] scope pos) (tLc (iList X.K tl) g tt te (own.map (·.2))) := by
  refine ⟨fun pins z σ H Q I hw => ?_⟩
  rw [eval_ListComp]
  have hfree : ∀ y ∈ scope.names, y.2 = .free → ∃ c, X.env.cells.lookup y.1 = some c := fun y hy e => (ok.free y hy e).elim (fun k => I.ok.has _ (.inl k)) fun k => I.ok.has _ (.inr k)
  refine wpAny_comprehension_free (use := none) rfl hs (closure_ok hfree) ok.kind (fun y hy e => by rw [ok.uniq y hy, e]) (thn (hl.run pins z σ H _ I hw) fun v z1 ⟨x, H1, I1, r1, q1⟩ => ?_)
  obtain ⟨a, e, ⟨xs, hq⟩, q⟩ := q1
  subst e
  cases r1
  obtain ⟨its, rv, p, hz⟩ := I1.list hq
  refine wpAny_pyIter_list p.isList ?_
  generalize hz2 : ({ z1 with heap := z1.heap.push { cls := .type "list_iterator", data := .fields #[.ref a, .int 0 0] } } : Shared) = z2
  have I2 : Inv X pins σ H1 z2 := by rw [← hz2]; exact I1.kept (t' := z1.toks) fun b o e => Heap.get?_push_of_some _ e
  generalize hit : z1.heap.objs.size = it
  have st2 : z2.heap.IsListIter it a 0 := by rw [← hz2, ← hit]; exact ⟨_, Heap.get?_push_size _ rfl, rfl, rfl⟩
  have f2 : FpOk X pins H1 it := by rw [← hit]; exact I1.fpOk (Nat.le_refl _) (I1.hok.fresh (Nat.le_refl _))
  refine wpAny_newObj_type (newEnv_comp ?_) (by show 0 ≤ sizeLine; decide)
  generalize hD : z2.heap.objs.size = D
  have hDn : H1 D = none := I2.hok.fresh (Nat.le_of_eq hD)
  obtain ⟨W, ⟨m0, w0⟩, turn⟩ := q D hDn
  generalize hz3 : ({ z2 with heap := z2.heap.push { cls := .type "list", data := .seq ([] : List Value).toArray } } : Shared) = z3
  have I3 : Inv X pins σ (upd H1 D (.lst [])) z3 := by
    rw [← hz3]
    refine I2.laid (t' := z2.toks) (fun b o e => Heap.get?_push_of_some _ e) (Nat.le_of_eq hD) ⟨Nat.zero_le _, [], 0, .nil, ?_⟩
    rw [← hD]
    exact Heap.get?_push_size _ rfl
  have h3 : z3.heap = z2.heap.push { cls := .type "list", data := .seq ([] : List Value).toArray } := by rw [← hz3]
  have hlt : it < z2.heap.objs.size := by obtain ⟨o, e, _⟩ := id st2; exact Heap.lt_size e
  have f3 : ∀ b ∈ [it], FpOk X pins (upd H1 D (.lst [])) b ∧ b < z3.heap.objs.size := fun b hb => by
    rw [List.mem_singleton.mp hb]
    refine ⟨⟨?_, f2.2⟩, by rw [h3, Heap.size_push]; exact Nat.lt_succ_of_lt hlt⟩
    rw [upd_ne (by rw [← hD]; exact Nat.ne_of_lt hlt)]
    exact f2.1
  have st3 : z3.heap.IsListIter it a 0 := st2.at fun o e => by rw [h3]; exact Heap.get?_push_of_some _ e
  have I4 := block_start I3 ok hN f3
  have pg := hg z3 (upd H1 D (.lst [])) z3.heap.objs.size (cellsFrom (z3.heap.objs.size + 1) scope.names (cloFrom X.env.cells scope.names [])) [it]
  have pt := ht z3 (upd H1 D (.lst [])) z3.heap.objs.size (cellsFrom (z3.heap.objs.size + 1) scope.names (cloFrom X.env.cells scope.names [])) [it]
  have pe := he z3 (upd H1 D (.lst [])) z3.heap.objs.size (cellsFrom (z3.heap.objs.size + 1) scope.names (cloFrom X.env.cells scope.names [])) [it]
  -- the handled error stands at the block's entry
  obtain ⟨px, ⟨hh, v1, ed, ec⟩, hpx⟩ := hot
  obtain ⟨p1, p2, p3, p4, p5⟩ := I3.pin px (List.mem_append_left _ hpx)
  have p6 : px.1 ∉ frs X.stack := fun y => (List.mem_cons.mp (I3.stkSub _ y)).elim p3 p4
  have p7 : px.1 ∉ [it] := fun y => (f3 it (by simp)).1.2.2.2.2.2 px (List.mem_append_left _ hpx) (List.mem_singleton.mp y)
  show codeAny _ _ (.compStart (.ListComp elt [⟨tg, iter, ifs, 0⟩] scope pos) 0 (.ref it) (.ref D) (compEnvC scope (cellsFrom (z3.heap.objs.size + 1) scope.names (cloFrom X.env.cells scope.names [])) z3.heap.objs.size X.env)) (compPost (model X.prog X.w) X.A X.xe none (EP X pins σ Q) (.ref D) z3.heap.objs.size) { z3 with heap := pushCells (z3.heap.push { cls := .type "dict", data := .dict #[] }) scope.names }
  generalize hce : compEnvC scope (cellsFrom (z3.heap.objs.size + 1) scope.names (cloFrom X.env.cells scope.names [])) z3.heap.objs.size X.env = ce at I4 pg pt pe ⊢
  have cL : ce.locals = z3.heap.objs.size := by subst hce; rfl
  have nfp : ∀ b ∈ [it], (upd H1 D (.lst [])) b = none := fun b hb => (f3 b hb).1.1
  generalize hH3 : upd H1 D (.lst []) = H3 at I3 I4 pg pt pe w0 nfp f3 p2
  have st4 : ({ z3 with heap := pushCells (z3.heap.push { cls := .type "dict", data := .dict #[] }) scope.names } : Shared).heap.IsListIter it a 0 := st3.at fun o e => pushCells_keeps _ _ _ _ (Heap.get?_push_of_some _ e)
  generalize hz4 : ({ z3 with heap := pushCells (z3.heap.push { cls := .type "dict", data := .dict #[] }) scope.names } : Shared) = z4 at I4 st4 ⊢
  have stat : ∀ {σ' : L2.St} {H' : Hp} {z' : Shared}, Inv (X.blk z3 H3 scope ce [it]) [] σ' H' z' → (∀ b ∈ [it], H' b = none) → ∀ b ∈ [it], FpOk (X.blk z3 H3 scope ce [it]) [] H' b := fun {σ' H' z'} J hn b hb =>
    ⟨hn b hb, (J.ok.exf b hb).1, J.ok.exfs b hb, .inl hb, fun x c e => (J.ok.exf b hb).2 x c e, fun p hp => absurd (show p ∈ ([] : List (Addr × Obj)) ++ [] from hp) (by simp)⟩
  have loop : codeAny (model X.prog X.w) X.A (.compLoop (.ListComp elt [⟨tg, iter, ifs, 0⟩] scope pos) 0 (.ref it) (.ref D) ce) (compPost (model X.prog X.w) X.A X.xe none (EP X pins σ Q) (.ref D) z3.heap.objs.size) z4 := by
    refine compLoop_any (fun n z' => ∃ i H', Inv (X.blk z3 H3 scope ce [it]) [] (wipe σ (own.map (·.2))) H' z' ∧ z'.heap.IsListIter it a i ∧ (∀ b ∈ [it], H' b = none) ∧ W i n H') ?_ m0 ⟨0, H3, I4, st4, nfp, w0⟩
    rintro n z5 ⟨i, H5, I5, st5, n5, w5⟩
    have hot5 : ∃ x1, HotAt X.A x1 z5.heap := ⟨px.1, hh, px.2, v1, I5.base.keep px.1 px.2 p1 p2 p6 p7, ed, ec⟩
    rcases turn i n H5 w5 with ⟨stop, qq⟩ | ⟨go, Nx, hNx, step⟩
    · refine thnF (list_doneH (X := X.blk z3 H3 scope ce [it]) hot5 I5 (stat I5 n5 it (by simp)) st5 stop) fun r z6 ⟨hr, I6⟩ => ?_
      subst hr
      have I7 : Inv X pins σ H5 z6 := I3.call' (ch := [it]) I6.os I6.base I6.hok I6.bare fun b hb => ⟨(f3 b hb).1.2.2.2.1, (f3 b hb).1.2.1, (f3 b hb).1.2.2.2.2.1, (f3 b hb).1.2.2.2.2.2⟩
      have nC : H5 z3.heap.objs.size = none := by
        have y : H5 ce.locals = none := I6.free
        rw [cL] at y
        exact y
      obtain ⟨m, hn, _⟩ := I6.loc
      have hn : z6.heap.Ns ce.locals m := hn
      rw [cL] at hn
      refine ⟨m, hn, fun g sb => ?_⟩
      obtain ⟨g0, g1, g2, g3, g4, g5⟩ := I3.fpOk (H' := H5) (Nat.le_refl _) nC
      exact ⟨.ref D, H5, I7.turned (t' := z6.toks) (fun b o hb e => (sb.2 b hb).trans e) g0 g1 g3 g4 g5, rfl, qq⟩
    · refine thnF (list_itemH (X := X.blk z3 H3 scope ce [it]) (tg := tg) I5 (stat I5 n5 it (by simp)) st5 go) fun r z6 ⟨u, hr, h6⟩ => ?_
      subst hr
      refine thnF h6 fun _ z7 ⟨x, H7, I7, r7, y7, st7, n7⟩ => ?_
      obtain ⟨o7, e7, c7, d7⟩ := id st7
      have ob7 : ∀ b ∈ [it], ∃ o, z7.heap.get? b = some o ∧ ∀ v, o.data ≠ .cell v := fun b hb => by
        rw [List.mem_singleton.mp hb]
        exact ⟨o7, e7, fun v y => by rw [d7] at y; cases y⟩
      have I7' := I7.pinned (stat I7 n7) ob7
      refine thnF (pg.run _ z7 _ H7 x u _ I7' r7 (step x H7 y7)) fun _ z8 ⟨σ8, H8, I8, hw8, q8⟩ => ?_
      refine thnF (pt.run _ z8 σ8 H8 _ I8 q8) fun b z9 ⟨H9, I9, q9⟩ => ?_
      have fin : ∀ {z' : Shared} {H' : Hp}, Inv (X.blk z3 H3 scope ce [it]) ([] ++ pinsAt [it] z7.heap) σ8 H' z' → Nx H' → ∃ m, m < n ∧ ∃ i H', Inv (X.blk z3 H3 scope ce [it]) [] (wipe σ (own.map (·.2))) H' z' ∧ z'.heap.IsListIter it a i ∧ (∀ b ∈ [it], H' b = none) ∧ W i m H' := fun {z' H'} J nx => by
        obtain ⟨m', hm, w'⟩ := hNx H' nx
        have pin' : ∀ b ∈ [it], ∀ o, z7.heap.get? b = some o → z'.heap.get? b = some o ∧ H' b = none := fun b hb o e =>
          let y := J.pin (b, o) (List.mem_append_right _ (List.mem_append_right _ (mem_pinsAt hb e)))
          ⟨y.1, y.2.1⟩
        have hln : (wipe σ (own.map (·.2))).length = σ8.length := by rw [← hw8, wipe_length]
        refine ⟨m', hm, i + 1, H', (J.unpinned (pins := [])).weak hln (fun j v e => ?_), st7.at fun o e => (pin' it (by simp) o e).1, fun b hb => ?_, w'⟩
        · rw [← hw8] at e
          exact (wipe_some e).1
        · obtain ⟨o, e, _⟩ := ob7 b hb
          exact (pin' b hb o e).2
      cases b with
      | false =>
        simp only [Bool.false_eq_true, if_false] at q9 ⊢
        exact fin I9 q9
      | true =>
        simp only [if_true] at q9 ⊢
        refine thnF (pe.run _ z9 σ8 H9 _ I9 q9) fun y z10 ⟨yv, H10, I10, r10, acc, hD10, hz10, nx⟩ => ?_
        exact app_ok (X := X.blk z3 H3 scope ce [it]) I10 hD10 hz10 r10 fun z11 I11 => fin I11 nx
  exact codeAny_compStart_list loop (wpAny_pyIter_listiter st4 loop)
end
/-! ### defs called there, whose promise sees the error that is handled -/
structure FnP (P : Program) (w : World) (K : PySem.W.Frag) (mg : Str → Option Value) (base : Heap) (CX : CXT) (k : Nat) (f : Addr) (fd : FuncData) (ps : List Str) (sp : Addr → Value → Option Addr → Sp) : Prop where
  len : ∀ a cls d vs H Q E, sp a cls d vs H Q E → vs.length = ps.length
  go : ∀ (p : Addr × Obj) (A : Around) (outer : List Env) (z : Shared) (H : Hp) (args : Args) (us : List Value) (vs : List V) (Q : VK) (E : XK), RoomH k A → Hot1 A p → PinOk outer H z p → Env0 P w K mg base A outer z H → BindsTo z fd args (ps.zip us) → Vals vs us → sp p.1 p.2.cls p.2.dict vs H Q E →
    codeAny (model P w) A (.call (.ref f) args) (CR CX outer P w H z Q E) z
theorem fnP {CX : CXT} {P : Program} {w : World} {K : PySem.W.Frag} {mg : Str → Option Value} {base : Heap} {x qual : Str} {st : Stmt} {f : Addr} {fd : FuncData} {N ps : List Str} {k : Nat} {sp : Addr → Value → Option Addr → Sp} (F : Fun K x qual st f fd) (S : FnScope N ps (defScope st))
    (len : ∀ a cls d vs H Q E, sp a cls d vs H Q E → vs.length = ps.length)
    (body : ∀ cdv (A : Around) (outer : List Env) (z : Shared) (H : Hp) (vs : List V) (Q : VK) (E : XK) (p : Addr × Obj), Hot1 (A.deeper (envOfC qual (defScope st) z.heap.objs.size f cdv)) p → RoomH k (A.deeper (envOfC qual (defScope st) z.heap.objs.size f cdv)) → sp p.1 p.2.cls p.2.dict vs H Q E →
      ∃ t, PSs (cxH CX P w K mg base N qual (defScope st) f cdv A outer z H E p) (defBody st) t ∧ t ⟨fun _ H' => Q .non H', Q, fun _ _ => False, fun _ _ => False⟩ (L2.start N vs) H) : FnP P w K mg base CX (k + 1) f fd ps sp := by
  obtain ⟨oc, od, kV, doc, pm, an, cdv, ct, osl, e, lk, hc⟩ := F.ex
  subst e
  refine ⟨len, fun p A outer z H args us vs Q E hr hot hp e0 hb r hsp => ?_⟩
  have hl := len _ _ _ _ _ _ _ hsp
  have kI : K.In z.heap := e0.mod.kin.keeps fun b o e => (e0.bs b o e).1
  have nL : z.heap.NoLimit := e0.mod.nolimit.keeps fun b o e => (e0.bs b o e).1
  have hkind : ∀ y ∈ ps.zip us, (defScope st).names.lookup y.1 = some .local ∨ ((defScope st).names.lookup y.1 = some .cell ∧ ((cellsFrom (z.heap.objs.size + 1) (defScope st).names []).lookup y.1).isSome = true) := fun ⟨n, v⟩ hy =>
    (S.par n (List.of_mem_zip hy).1).elim .inl fun q => .inr ⟨q, PySem.W.cellsFrom_some _ _ _ (.inl q)⟩
  refine codeAny_call_function hr.depth (kI _ _ lk) rfl S.co S.gen rfl (PySem.W.codeRec_of kI hc) (hb _ _ _ _ (wpAny_newFunctionEnv_cells S.kind hkind fun env he z1 x => ?_))
  subst he
  refine ⟨nL.keeps x.toInCall.keep, codeAny_func ?_⟩
  obtain ⟨t, ht, hq⟩ := body cdv A outer z H vs Q E p hot (hr.deeper _) hsp
  have I : Inv (cxH CX P w K mg base N qual (defScope st) f cdv A outer z H E p) [] (L2.start N vs) H z1 := inv_startH S hp e0 hl r x
  refine wpAny_mono (ht.run [] z1 (L2.start N vs) H _ I hq) (fun fl z' h' => ?_) fun e z' h' => h'
  cases fl with
  | ret u => obtain ⟨v, σ', H', J, rv, q⟩ := h'; exact ⟨v, H', J.os, J.bare, J.base, J.hok, rv, q⟩
  | next => obtain ⟨σ', H', J, q⟩ := h'; exact ⟨V.non, H', J.os, J.bare, J.base, J.hok, rfl, q⟩
  | brk => obtain ⟨_, _, _, q⟩ := h'; exact q.elim
  | cont => obtain ⟨_, _, _, q⟩ := h'; exact q.elim
structure DefP (P : Program) (w : World) (K : PySem.W.Frag) (mg : Str → Option Value) (base : Heap) (CX : CXT) (k : Nat) (x : Str) (ps : List Str) (sp : Addr → Value → Option Addr → Sp) : Prop where
  ex : ∃ f fd, FnP P w K mg base CX k f fd ps sp ∧ mg x = some (.ref f) ∧ PySem.W.keepIn K (.ref f) = true ∧ Binds K fd ps []
theorem DefAt.okP {P : Program} {w : World} {K : PySem.W.Frag} {mg : Str → Option Value} {base : Heap} {x : Str} {st : Stmt} {ps : List Str} {f : Addr} {fd : FuncData} {CX : CXT} {k : Nat} {sp : Addr → Value → Option Addr → Sp} (d : DefAt K mg x st ps f fd) (h : FnP P w K mg base CX k f fd ps sp) : DefP P w K mg base CX k x ps sp :=
  ⟨f, fd, h, d.g, d.F.kp, d.b⟩
section
variable {X : Cx} {CX : CXT} {k : Nat} {ps : List Str} {sp : Addr → Value → Option Addr → Sp} {E : L2.St → XK} {x : Str} {q pos : Pos} {e : Expr} {es : List Expr} {t : TA} {p : Addr × Obj}
theorem pe_callP (D : DefP X.prog X.w X.K X.mg X.base CX k x ps sp) (hr : RoomH k X.A) (hot : Hot1 X.A p) (hp : p ∈ X.pn) (hg : Gl X x) (hx : ∀ σ, PassesAt CX X σ (E σ)) (ha : PA X (e :: es) t)
    (hdb : (x == ("__debug__" : Str)) = false := by decide) (he : starEach (e :: es) X.env = (false, eval e X.env) :: starEach es X.env := by rfl) (hpl : (backTo pos (starEach es X.env)).any (·.1) = false := by rfl) : PE X (.Call (.Name x q) (e :: es) [] pos) (tCallS (sp p.1 p.2.cls p.2.dict) E t) := by
  obtain ⟨f, fd, F, hm, hk, hb⟩ := D
  refine ⟨fun pins z σ H Q I h => wpAny_Call_Name_kw (ld_glob I hg hm ?_ hdb)⟩
  refine PySem.W.callWith_K (h₀ := X.base) I.ok.mod.kin hk (thn (ha.run pos pins z σ H _ I h) fun us z1 ⟨vs, H1, I1, r, q1⟩ => ⟨I1.kIn, ?_⟩) he hpl
  have hl : us.length = ps.length := by rw [← r.length]; exact F.len _ _ _ _ _ _ _ q1
  have b := hb z1 us I1.kIn (by rw [List.append_nil]; exact hl)
  rw [List.append_nil] at b
  obtain ⟨p1, p2, p3, p4, p5⟩ := I1.pin p (List.mem_append_left _ hp)
  have pok : PinOk X.stack H1 z1 p := ⟨p1, p2, fun y => (List.mem_cons.mp (I1.stkSub p.1 y)).elim p3 p4, p5⟩
  refine wpAny_call (codeAny_mono (F.go p X.A X.stack z1 H1 ⟨us, []⟩ us vs Q (E σ) hr hot pok I1.env0 b r q1) fun r z' y => ?_)
  cases r with
  | error u => exact hx σ pins H1 z1 u z' I1 y
  | ok fl =>
    cases fl with
    | ret u => exact I1.after y
    | next => exact y.elim
    | brk => exact y.elim
    | cont => exact y.elim
end
/-! ### isinstance of the handled error -/
theorem c_isH {X : Cx} {p : Addr × Obj} {D : Addr} (C : ExcC X.K D) (hp : p ∈ X.pn) (hz : Zc (.ref D) none p.2) (hf : ∃ vs, p.2.data = .fields vs) : CallR X (.builtin "isinstance") (rIsE X.K D p.1) := by
  intro pins z σ H xs us Q I r h
  obtain ⟨c, cv, b, rfl, hcv, e, q⟩ := h
  cases r with
  | cons rx rr =>
    cases rr with
    | cons rt rr =>
      cases rr
      cases rx
      have ec := hcv _ rt
      subst ec
      obtain ⟨hget, _⟩ := I.pin p (List.mem_append_left _ hp)
      obtain ⟨vs, hv⟩ := hf
      have J : PySem.W.InstAt z.heap p.1 p.2 D none := by
        obtain ⟨a, oc, od, oda, osl⟩ := p
        obtain ⟨h1, h2⟩ := hz
        dsimp only at h1 h2 hv
        subst h1 h2 hv
        exact ⟨hget, rfl, rfl, trivial⟩
      exact PySem.W.kia_one (PySem.W.handS_kitx_exc C.hg C.hk C.hs C.hd C.ha C.hn C.ht C.hm) I.kIn J e (fun y => nomatch y) fun tk => ⟨.bl b, H, I.kept (t' := tk) fun _ _ y => y, rfl, q⟩
theorem c_isHK {X : Cx} {K : PySem.W.Frag} {p : Addr × Obj} {D : Addr} (h : X.K = K) (C : ExcC K D) (hp : p ∈ X.pn) (hz : Zc (.ref D) none p.2) (hf : ∃ vs, p.2.data = .fields vs) : CallR X (.builtin "isinstance") (rIsE K D p.1) := by
  subst h
  exact c_isH C hp hz hf
theorem ed_isE {K : PySem.W.Frag} {σ : L2.St} {H : Hp} {D a : Addr} {i : Nat} {cv : V} {u : Value} {b : Bool} (hσ : σ[i]? = some (some (.ref a))) (hc : ClsV cv u) (hk : PySem.W.kitOne K (.ref D) u = some b) : EvD K (tCB (rIsE K D a) (tCons (tVar i) (tCons (tC cv) tNil))) σ H (.bool b) :=
  fun A B e s Q q => ⟨_, hσ, cv, u, b, rfl, fun _ r => hc.eq r, hk, q _ A B (Pr.refl s) (.bl _)⟩
theorem hot_suite {X : Cx} {a : Addr} {oe : Obj} {cls : Value} {d : Option Addr} {pn : List (Addr × Obj)} (hz : L2N.Zn cls d oe) (hf : ∃ vs, oe.data = .fields vs) : Hot1 (X.suite a ((a, oe) :: pn)).A (a, oe) := by
  obtain ⟨vs, e⟩ := hf
  exact ⟨rfl, vs, e, hz.2.2 vs e⟩
theorem passA0 {X : Cx} {E : L2.St → XK} : ∀ σ, PassesAt CX0 X σ (E σ) := fun _ _ _ _ _ _ _ z => z.elim
theorem takes0 {X : Cx} : L2N.Takes X (fun _ _ _ _ => False) := fun _ _ x => by
  obtain ⟨_, _, _, _, _, _, _, _, _, _, _, _, _, _, _, _, z⟩ := x
  exact z.elim
theorem roomHm {k : Nat} {A : Around} {u : Option Value} (r : Room k A) : RoomH k (A.mark u) := ⟨r.dp, r.un⟩
theorem huH {k : Nat} {A : Around} (r : RoomH k A) : A.units + 64 < cLine := by have := r.un; omega
section
variable {X : Cx} {CX : CXT} {k : Nat} {ps : List Str} {sp : Addr → Value → Option Addr → Sp} {E : L2.St → XK} {x : Str} {q pos : Pos} {e : Expr} {es : List Expr} {t : TA} {a : Addr} {oe : Obj} {cls : Value} {d : Option Addr} {pn : List (Addr × Obj)}
/-- a def called in the suite itself -/
theorem pe_callZ (D : DefP X.prog X.w X.K X.mg X.base CX k x ps sp) (hr : Room k X.A) (hz : L2N.Zn cls d oe) (hf : ∃ vs, oe.data = .fields vs) (hg : Gl (X.suite a ((a, oe) :: pn)) x) (hx : ∀ σ, PassesAt CX (X.suite a ((a, oe) :: pn)) σ (E σ)) (ha : PA (X.suite a ((a, oe) :: pn)) (e :: es) t)
    (hdb : (x == ("__debug__" : Str)) = false := by decide) (he : starEach (e :: es) X.env = (false, eval e X.env) :: starEach es X.env := by rfl) (hpl : (backTo pos (starEach es X.env)).any (·.1) = false := by rfl) : PE (X.suite a ((a, oe) :: pn)) (.Call (.Name x q) (e :: es) [] pos) (tCallS (sp a cls d) E t) := by
  have y := pe_callP (X := X.suite a ((a, oe) :: pn)) (p := (a, oe)) (q := q) (pos := pos) D (roomHm hr) (hot_suite hz hf) List.mem_cons_self hg hx ha hdb he hpl
  obtain ⟨h1, h2, _⟩ := hz
  subst h1 h2
  exact y
end
/-- the facts of a class that an error may be of -/
theorem kitF {K : PySem.W.Frag} {t : Value} {C : Addr} {b : Bool} (hd : PySem.W.hasDictIn K C = true) (ht : PySem.W.typeIn K (.ref C) = some (.type "type")) (hs : PySem.W.subIn K t (.ref C) = some b) (hn : (t == .ref C) = true → b = true) : PySem.W.kitOne K t (.ref C) = some b := by
  obtain ⟨cd, hc, _⟩ := PySem.W.any_some hd
  unfold PySem.W.kitOne
  by_cases h : (t == .ref C) = true
  · rw [if_pos h, hn h]
  · rw [if_neg h]
    show (if ((PySem.W.clsIn K C).isSome && PySem.W.typeIn K (.ref C) == some (.type "type")) = true then PySem.W.subIn K t (.ref C) else none) = some b
    rw [if_pos (by rw [hc, ht]; rfl)]
    exact hs
theorem kitR {K : PySem.W.Frag} {C : Addr} : PySem.W.kitOne K (.ref C) (.ref C) = some true := by
  unfold PySem.W.kitOne
  rw [if_pos (beq_self_eq_true _)]
theorem kitV {K : PySem.W.Frag} {t : Value} (hs : PySem.W.subIn K t (.type "ValueError") = some true) : PySem.W.kitOne K t (.type "ValueError") = some true := by
  unfold PySem.W.kitOne
  by_cases h : (t == .type "ValueError") = true
  · rw [if_pos h]
  · rw [if_neg h]
    show (if PySem.W.kitMeta "ValueError" = true then PySem.W.subIn K t (.type "ValueError") else none) = some true
    rw [if_pos (by decide +kernel)]
    exact hs
theorem kitN {C D : Addr} (hn : (C == D) = false) : ((Value.ref C : Value) == .ref D) = true → false = true := fun h => by
  have e : C = D := Value.ref.inj (beq_iff_eq.mp h)
  rw [e] at hn
  simp at hn
theorem hotC_mk {X : Cx} {p : Addr × Obj} (hot : Hot1 X.A p) (hp : p ∈ X.pn) : HotC X := ⟨p, hot, hp⟩
theorem cx_KH {CX : CXT} {P : Program} {w : World} {K : PySem.W.Frag} {mg : Str → Option Value} {base : Heap} {N : List Str} {qual : Str} {scope : Scope} {f : Addr} {cd : Value} {A : Around} {outer : List Env} {z : Shared} {H : Hp} {E : XK} {p : Addr × Obj} :
    (cxH CX P w K mg base N qual scope f cd A outer z H E p).K = K := rfl
theorem Pr.appfrz {A B A' B' : Hp} {l : Addr} {o : HO} (P : Pr A B A' B') (hB : B l = none) (hA : A' l = none) : Pr A B (upd A' l o) (upd B' l o) := (P.mut hB hA).frz hB hA upd_same
section
open Evl
variable {K : PySem.W.Frag} {H : Hp} {σ : L2.St} {tl te : TE}
/-- a list of what a text's signs give -/
theorem en_lcS {j : Nat} {z : Str} {ws : List Nat} (g : Nat → D) (h : EvD K tl σ H (.str z)) (hz : z.length ≤ 40000) (hw : ∀ x, wipe ((wipe σ ws).set j (some x)) ws = wipe σ ws)
    (he : ∀ y ∈ z.cps.toList, ∀ H1, Ex H H1 → EvD K te ((wipe σ ws).set j (some (.str ⟨#[y]⟩))) H1 (g y)) :
    EvN K (tLc (iStr tl) (gName j) tYes te ws) σ H (z.cps.toList.map g) := fun A B e s Q q => h A B e s _ fun v A1 B1 P1 hv => by
  cases hv
  refine ⟨z, rfl, fun L hL => lc_it walk_str (fun i H' => LcI K A1 B1 L ((z.cps.toList.take i).map g) H') (lci_start P1.s hL) (fun _ _ _ _ => trivial) ?_ ?_⟩
  · rintro i x H' H'' hi p ⟨rfl, y, hy, rfl⟩
    have hy' : z.cps.toList[i]? = some y := by rw [Array.getElem?_toList]; exact hy
    refine ⟨hw _, ?_⟩
    have tk : (z.cps.toList.take (i + 1)).map g = if true = true then (z.cps.toList.take i).map g ++ [g y] else (z.cps.toList.take i).map g := by rw [if_pos rfl, List.take_succ, hy', List.map_append]; rfl
    rw [tk]
    refine lci_turn (f := true) hL p ?_ (fun A' _ => eb_yes) (fun _ A' ea => he y (List.mem_of_getElem? hy') A' ((e.trans P1.a).trans ea))
    rw [List.length_map, List.length_take, Array.length_toList]
    have : z.cps.size ≤ 40000 := hz
    omega
  · intro H' p
    have e1 : z.cps.toList.take z.cps.size = z.cps.toList := by rw [← Array.length_toList, List.take_length]
    rw [e1] at p
    exact lci_end hL p fun p xs A' B' hp P => q p xs A' B' (fresh_back P1.b hp) (P1.trans P)
/-- one of some texts -/
def pickS (ws : List Str) (i : Int) : Str := ws.getD i.toNat ""
theorem at_pickS (ws : List Str) {i : Int} (h0 : 0 ≤ i) (h1 : i < ws.length) : atI (ws.map PyData.str) i = some (.str (pickS ws i)) := by
  obtain ⟨n, rfl⟩ : ∃ n : Nat, i = (n : Int) := ⟨i.toNat, by omega⟩
  have hn : n < ws.length := by omega
  unfold atI
  rw [List.length_map, ixN_nat hn]
  show (ws.map PyData.str)[n]? = _
  rw [List.getElem?_map]
  unfold pickS
  rw [show ((n : Int).toNat) = n from rfl, List.getD_eq_getElem?_getD, List.getElem?_eq_getElem hn]
  rfl
theorem pickS_mem {ws : List Str} {i : Int} (h0 : 0 ≤ i) (h1 : i < ws.length) : pickS ws i ∈ ws := by
  have hn : i.toNat < ws.length := by omega
  unfold pickS
  rw [List.getD_eq_getElem?_getD, List.getElem?_eq_getElem hn]
  exact List.getElem_mem hn
theorem pickS_len {ws : List Str} {n : Nat} (h : ∀ x ∈ ws, x.length ≤ n) (i : Int) : (pickS ws i).length ≤ n := by
  unfold pickS
  rw [List.getD_eq_getElem?_getD]
  cases e : ws[i.toNat]? with
  | none => exact Nat.zero_le _
  | some x => exact h x (List.mem_of_getElem? e)
end
end Ob

set_option Elab.async false
set_option linter.all false
set_option maxRecDepth 100000
set_option maxHeartbeats 2000000
namespace Ob
open PySem L2 Evl
/-! ## what may change -/
/-- data A in the heap B grew to A' in B'; what stood at F may have changed -/
structure PrM (F : Addr → Prop) (A B A' B' : Hp) : Prop where
  a : Ex A A'
  b : ∀ x u, ¬ F x → B x = some u → B' x = some u
  s : Ex A' B'
  n : ∀ x, A x = none → B x ≠ none → A' x = none
  f : ∀ x, B x ≠ none → B' x ≠ none
section
variable {F G : Addr → Prop} {A B A' B' A'' B'' : Hp} {l p : Addr} {o : HO}
theorem ex_some {H H' : Hp} (e : Ex H H') {x : Addr} (h : H x ≠ none) : H' x ≠ none := by
  cases z : H x with
  | none => exact absurd z h
  | some u => rw [e _ _ z]; simp
theorem Pr.m (h : Pr A B A' B') : PrM F A B A' B' := ⟨h.a, fun x u _ e => h.b x u e, h.s, h.n, fun _ z => ex_some h.b z⟩
theorem PrM.refl (h : Ex A B) : PrM F A B A B := (Pr.refl h).m
theorem PrM.mono (h : PrM F A B A' B') (i : ∀ x, F x → G x) : PrM G A B A' B' := ⟨h.a, fun x u n e => h.b x u (fun z => n (i x z)) e, h.s, h.n, h.f⟩
theorem PrM.trans (h : PrM F A B A' B') (k : PrM F A' B' A'' B'') : PrM F A B A'' B'' :=
  ⟨h.a.trans k.a, fun x u n e => k.b x u n (h.b x u n e), k.s, fun x e n => k.n x (h.n x e n) (h.f x n), fun x n => k.f x (h.f x n)⟩
/-- then something that may change only what is new -/
theorem PrM.then (h : PrM F A B A' B') (k : PrM G A' B' A'' B'') (i : ∀ x, G x → F x ∨ B x = none) : PrM F A B A'' B'' :=
  ⟨h.a.trans k.a, fun x u n e => k.b x u (fun z => (i x z).elim n fun y => by rw [y] at e; cases e) (h.b x u n e), k.s, fun x e n => k.n x (h.n x e n) (h.f x n), fun x n => k.f x (h.f x n)⟩
theorem PrM.up (h : PrM F A B A' B') (e : Ex B' B'') : PrM F A B A' B'' := h.trans (Pr.up h.s e).m
theorem PrM.pr (h : PrM F A B A' B') (k : Pr A' B' A'' B'') : PrM F A B A'' B'' := h.trans k.m
/-- a thing of F, or a new one, is written -/
theorem PrM.put (h : PrM F A B A' B') (i : F l ∨ B l = none) (hA : A' l = none) : PrM F A B A' (upd B' l o) :=
  ⟨h.a, fun x u n e => by
    have ne : x ≠ l := fun z => i.elim (fun y => n (z ▸ y)) fun y => by rw [z, y] at e; cases e
    rw [upd_ne ne]
    exact h.b x u n e, Ex.mut h.s hA, h.n, fun x n => by
    by_cases z : x = l
    · rw [z, upd_same]; simp
    · rw [upd_ne z]; exact h.f x n⟩
theorem PrM.fresh (h : PrM F A B A' B') (hp : B' p = none) : B p = none := by
  cases z : B p with
  | none => rfl
  | some u => exact absurd hp (h.f p (by rw [z]; simp))
/-- a new thing that is no datum -/
theorem PrM.new (h : PrM F A B A' B') (hp : B' p = none) : PrM F A B A' (upd B' p o) := h.put (.inr (h.fresh hp)) (fresh_back h.s hp)
/-- a new datum -/
theorem PrM.newD (h : PrM F A B A' B') (hp : B' p = none) : PrM F A B (upd A' p o) (upd B' p o) := h.trans (Pr.new h.s hp).m
/-- a thing that was made here becomes a datum -/
theorem PrM.frz (h : PrM F A B A' B') (hB : B l = none) (hA : A' l = none) (hl : B' l = some o) : PrM F A B (upd A' l o) B' :=
  ⟨h.a.trans (Ex.new hA), h.b, Ex.frz h.s hl, fun x e n => by rw [upd_ne (fun z : x = l => n (z ▸ hB))]; exact h.n x e n, h.f⟩
theorem Pu.of {H : Hp} (s : Ex A B) (e : Ex B H) : Pu A B H := ⟨s, e⟩
end
/-! ## evaluation beside what may change -/
section
variable {X : Cx} {K : PySem.W.Frag} {A B H H' : Hp} {σ : L2.St} {v : V} {ds es : List D} {d d' d1 d2 : D} {ta tb te to td ty tl : TE} {tr : TA} {a l m : Addr}
def EvP (K : PySem.W.Frag) (te : TE) (σ : L2.St) (A B : Hp) (d : D) : Prop := ∀ A1 B1, Pr A B A1 B1 → ∀ Q : VK, (∀ v A' B', Pr A1 B1 A' B' → Dp K A' v d → Q v B') → te σ B1 Q
def EvPA (K : PySem.W.Frag) (ta : TA) (σ : L2.St) (A B : Hp) (ds : List D) : Prop := ∀ A1 B1, Pr A B A1 B1 → ∀ Q : List V → Hp → Prop, (∀ vs A' B', Pr A1 B1 A' B' → DpAll K A' vs ds → Q vs B') → ta σ B1 Q
theorem ep_ed (h : EvD K te σ A d) : EvP K te σ A B d := fun A1 B1 P Q q => h A1 B1 P.a P.s Q q
theorem ep_v (h : Ev te σ B v) (hd : Dp K A v d) : EvP K te σ A B d := fun A1 B1 P Q q => h B1 P.b Q fun B' e => q v A1 B' (Pr.up P.s e) (dp_ex P.a hd)
theorem ep_is (h : EvP K te σ A B d) (e : d = d') : EvP K te σ A B d' := e ▸ h
/-- a number, a truth, a text: read with all that stands there -/
theorem ep_i {i : Int} (h : EvD K te σ B (.int i)) : EvP K te σ A B (.int i) := ep_v (v_int h) (.int i)
theorem ep_b {i : Bool} (h : EvD K te σ B (.bool i)) : EvP K te σ A B (.bool i) := ep_v (v_bl h) (.bl i)
theorem ep_s {i : Str} (h : EvD K te σ B (.str i)) : EvP K te σ A B (.str i) := ep_v (v_str h) (.str i)
theorem ep_n (h : EvD K te σ B .none) : EvP K te σ A B .none := ep_v (v_non h) .non
theorem epa_nil : EvPA K tNil σ A B [] := fun A1 B1 P _ q => q [] A1 B1 (Pr.refl P.s) .nil
theorem epa_cons (h : EvP K ta σ A B d) (hr : EvPA K tr σ A B ds) : EvPA K (tCons ta tr) σ A B (d :: ds) := fun A1 B1 P _ q =>
  h A1 B1 P _ fun v A2 B2 P2 hv => hr A2 B2 (P.trans P2) _ fun vs A3 B3 P3 hs => q _ A3 B3 (P2.trans P3) (.cons (dp_ex P3.a hv) hs)
theorem ep_tup (h : EvPA K tr σ A B ds) (hl : ds.length ≤ 100000) : EvP K (tTup tr) σ A B (.tuple ds) := fun A1 B1 P Q q =>
  h A1 B1 P _ fun vs A2 B2 P2 hs => ⟨sz_of (by rw [dpa_len hs]; exact hl), fun p hp => q _ (upd A2 p (.tup vs)) _ (P2.trans (Pr.new P2.s hp)) (.tup (st_of upd_same) (dpa_ex (Ex.new (fresh_back P2.s hp)) hs))⟩
theorem ep_call {sp : Sp} {E : XK} (h : EvPA K tr σ A B ds) (hs : SpD K sp ds d) : EvP K (tCall sp [] E tr) σ A B d := fun A1 B1 P Q q => h A1 B1 P _ fun vs A2 B2 P2 ha => by
  rw [List.append_nil]
  exact hs A2 B2 vs Q E P2.s ha fun v A3 B3 P3 => q v A3 B3 (P2.trans P3)
/-! fields, dicts -/
theorem ev_fld {C dx : Addr} {fs : List (Str × V)} {f : Str} (h : Ev ta σ H (.ref a)) (ha : H a = some (.ins C dx fs)) (c : Cls K C) (n : NoAttr K C f) (hv : fs.lookup f = some v) : Ev (tFld K ta f) σ H v := fun H1 e Q q =>
  h H1 e _ fun H2 e2 => ⟨a, C, dx, fs, v, rfl, e2 _ _ (e _ _ ha), c, n, hv, q H2 e2⟩
theorem ed_ev (h : Ev te σ H v) (hd : Dp K H v d) : EvD K te σ H d := ed_v h hd
theorem ex_rd {u : HO} (e : Ex H H') (h : Rd H a u) : Rd H' a u := h.elim (fun z => .inl (e _ _ z)) fun ⟨o, z⟩ => .inr ⟨o, e _ _ z⟩
theorem ev_dget {kvs : List (Key × V)} {i : Int} (h : Ev td σ H (.ref m)) (hm : Rd H m (.dK kvs)) (hi : EvD K ty σ H (.int i)) (hv : valV kvs (.inl i) = some v) : Ev (tDGet td ty) σ H v := fun H1 e Q q =>
  h H1 e _ fun H2 e2 => v_int hi H2 (e.trans e2) _ fun H3 e3 => ⟨m, v, rfl, .inl ⟨kvs, .inl i, ex_rd ((e.trans e2).trans e3) hm, rfl, hv.symm⟩, q H3 (e2.trans e3)⟩
theorem ev_dgetS {kvs : List (Key × V)} {i : Str} (h : Ev td σ H (.ref m)) (hm : Rd H m (.dK kvs)) (hi : EvD K ty σ H (.str i)) (hv : valV kvs (.inr i) = some v) : Ev (tDGet td ty) σ H v := fun H1 e Q q =>
  h H1 e _ fun H2 e2 => v_str hi H2 (e.trans e2) _ fun H3 e3 => ⟨m, v, rfl, .inl ⟨kvs, .inr i, ex_rd ((e.trans e2).trans e3) hm, rfl, hv.symm⟩, q H3 (e2.trans e3)⟩
theorem ed_din {kvs : List (Key × V)} {i : Int} (hi : EvD K ty σ H (.int i)) (h : Ev td σ H (.ref m)) (hm : Rd H m (.dK kvs)) : EvD K (tDIn ty td) σ H (.bool (valV kvs (.inl i)).isSome) :=
  ed_v (v := .bl (valV kvs (.inl i)).isSome) (fun H1 e Q q => v_int hi H1 e _ fun H2 e2 => h H2 (e.trans e2) _ fun H3 e3 => ⟨m, _, rfl, .inl ⟨kvs, .inl i, ex_rd ((e.trans e2).trans e3) hm, rfl, rfl⟩, q H3 (e2.trans e3)⟩) (.bl _)
theorem ed_dnin {kvs : List (Key × V)} {i : Int} (hi : EvD K ty σ H (.int i)) (h : Ev td σ H (.ref m)) (hm : Rd H m (.dK kvs)) : EvD K (tDNotIn ty td) σ H (.bool (!(valV kvs (.inl i)).isSome)) :=
  ed_v (v := .bl (!(valV kvs (.inl i)).isSome)) (fun H1 e Q q => v_int hi H1 e _ fun H2 e2 => h H2 (e.trans e2) _ fun H3 e3 => ⟨m, _, rfl, .inl ⟨kvs, .inl i, ex_rd ((e.trans e2).trans e3) hm, rfl, rfl⟩, q H3 (e2.trans e3)⟩) (.bl _)
/-- a place of a list, its thing itself -/
theorem ev_ixL {xs : List V} {i : Int} (h : Ev ta σ H (.ref l)) (hl : SqL K H l xs) (hi : EvD K tb σ H (.int i)) (hv : atI xs i = some v) : Ev (tOp (rIxL K) ta tb) σ H v := fun H1 e Q q =>
  h H1 e _ fun H2 e2 => v_int hi H2 (e.trans e2) _ fun H3 e3 => ⟨l, xs, i, v, rfl, rfl, ex_l ((e.trans e2).trans e3) hl, hv, q H3 (e2.trans e3)⟩
theorem ed_isB {a b : Bool} (ha : EvD K ta σ H (.bool a)) (hb : EvD K tb σ H (.bool b)) : EvD K (tOp rIsB ta tb) σ H (.bool (decide (a = b))) :=
  ed_v (ev_op (v_bl ha) (v_bl hb) (rv_val fun _ _ _ q => ⟨a, b, rfl, rfl, q⟩)) (.bl _)
theorem ed_notB {a b : Bool} (ha : EvD K ta σ H (.bool a)) (hb : EvD K tb σ H (.bool b)) : EvD K (tOp rNotB ta tb) σ H (.bool (!decide (a = b))) :=
  ed_v (ev_op (v_bl ha) (v_bl hb) (rv_val fun _ _ _ q => ⟨a, b, rfl, rfl, q⟩)) (.bl _)
theorem Ev.mono {H' : Hp} (h : Ev te σ H v) (e : Ex H H') : Ev te σ H' v := fun H1 e1 => h H1 (e.trans e1)
/-! ## statements -/
variable (K) {Dd : Ends} {t : TT} {tw tz t2 ts : TS}
theorem q_asgP {i : Nat} (s : Ex A H) (h : EvP K te σ A H d) (k : ∀ v A' B', Pr A H A' B' → Dp K A' v d → t2 Dd (σ.set i (some v)) B') : tSeq (tAsg te (gName i)) t2 Dd σ H := h A H (Pr.refl s) _ k
theorem s_asgP {i : Nat} (s : Ex A H) (h : EvP K te σ A H d) (k : ∀ v A' B', Pr A H A' B' → Dp K A' v d → Dd.nx (σ.set i (some v)) B') : tAsg te (gName i) Dd σ H := h A H (Pr.refl s) _ k
/-- a name for a thing itself -/
theorem q_asgV {i : Nat} (h : Ev te σ H v) (k : ∀ B', Ex H B' → t2 Dd (σ.set i (some v)) B') : tSeq (tAsg te (gName i)) t2 Dd σ H := h H (Ex.refl _) _ k
theorem s_asgV {i : Nat} (h : Ev te σ H v) (k : ∀ B', Ex H B' → Dd.nx (σ.set i (some v)) B') : tAsg te (gName i) Dd σ H := h H (Ex.refl _) _ k
/-- a name for a new list -/
theorem q_asgL {i : Nat} (k : ∀ p, H p = none → t2 Dd (σ.set i (some (.ref p))) (upd H p (.lst []))) : tSeq (tAsg (tLst tNil) (gName i)) t2 Dd σ H := ⟨sz_of (by decide), k⟩
theorem s_retP (s : Ex A H) (h : EvP K te σ A H d) (k : ∀ v A' B', Pr A H A' B' → Dp K A' v d → Dd.rt v B') : tRet te Dd σ H := h A H (Pr.refl s) _ k
theorem s_retV (h : Ev te σ H v) (k : ∀ B', Ex H B' → Dd.rt v B') : tRet te Dd σ H := h H (Ex.refl _) _ k
theorem q_ifM {b b' : Bool} (h : EvB K t σ H b') (q : b' = b) (h1 : b = true → ∀ B', Ex H B' → tw (go Dd t2) σ B') (h2 : b = false → ∀ B', Ex H B' → tz (go Dd t2) σ B') : tSeq (tIfS t tw tz) t2 Dd σ H :=
  q_ifE K (Ex.refl H) h q (fun z B' P => h1 z B' P.e) (fun z B' P => h2 z B' P.e)
theorem s_ifM {b b' : Bool} (h : EvB K t σ H b') (q : b' = b) (h1 : b = true → ∀ B', Ex H B' → tw Dd σ B') (h2 : b = false → ∀ B', Ex H B' → tz Dd σ B') : tIfS t tw tz Dd σ H :=
  s_ifE K (Ex.refl H) h q (fun z B' P => h1 z B' P.e) (fun z B' P => h2 z B' P.e)
/-- a field is set -/
theorem s_fld {C dx : Addr} {fs : List (Str × V)} {f : Str} (s : Ex A H) (hv : EvP K te σ A H d) (ha : Ev ta σ H (.ref a)) (hB : H a = some (.ins C dx fs)) (c : Cls K C) (n : NoAttr K C f) (hl : fs.length < 1000)
    (k : ∀ v A' B', Pr A H A' B' → Dp K A' v d → Dd.nx σ (upd B' a (.ins C dx (putF f v fs)))) : sFld K ta te f Dd σ H := hv A H (Pr.refl s) _ fun v A1 B1 P hd =>
  ha B1 P.b _ fun B2 e2 => ⟨a, C, dx, fs, rfl, e2 _ _ (P.b _ _ hB), c, n, hl, k v A1 B2 (P.trans (Pr.up P.s e2)) hd⟩
theorem s_fldD {C dx : Addr} {fs : List (Str × V)} {f : Str} (ha : Ev ta σ H (.ref a)) (hB : H a = some (.ins C dx fs)) (c : Cls K C) (n : NoAttr K C f) (hl : fs.length < 1000)
    (k : ∀ p B', H p = none → Ex (upd H p (.dK [])) B' → Dd.nx σ (upd B' a (.ins C dx (putF f (.ref p) fs)))) : sFld K ta tDNewK f Dd σ H := fun p hp =>
  ha (upd H p (.dK [])) (Ex.new hp) _ fun B2 e2 => ⟨a, C, dx, fs, rfl, e2 _ _ (Ex.new hp _ _ hB), c, n, hl, k p B2 hp e2⟩
theorem s_fldL {C dx : Addr} {fs : List (Str × V)} {f : Str} (ha : Ev ta σ H (.ref a)) (hB : H a = some (.ins C dx fs)) (c : Cls K C) (n : NoAttr K C f) (hl : fs.length < 1000)
    (k : ∀ p B', H p = none → Ex (upd H p (.lst [])) B' → Dd.nx σ (upd B' a (.ins C dx (putF f (.ref p) fs)))) : sFld K ta (tLst tNil) f Dd σ H := ⟨sz_of (by decide), fun p hp =>
  ha (upd H p (.lst [])) (Ex.new hp) _ fun B2 e2 => ⟨a, C, dx, fs, rfl, e2 _ _ (Ex.new hp _ _ hB), c, n, hl, k p B2 hp e2⟩⟩
/-- a field is set to a thing itself -/
theorem s_fldV {C dx : Addr} {fs : List (Str × V)} {f : Str} (hv : Ev te σ H v) (ha : Ev ta σ H (.ref a)) (hB : H a = some (.ins C dx fs)) (c : Cls K C) (n : NoAttr K C f) (hl : fs.length < 1000)
    (k : ∀ B', Ex H B' → Dd.nx σ (upd B' a (.ins C dx (putF f v fs)))) : sFld K ta te f Dd σ H := hv H (Ex.refl _) _ fun B1 e1 =>
  ha B1 e1 _ fun B2 e2 => ⟨a, C, dx, fs, rfl, e2 _ _ (e1 _ _ hB), c, n, hl, k B2 (e1.trans e2)⟩
/-- a dict's key is set -/
theorem s_dput {kvs : List (Key × V)} {i : Int} (s : Ex A H) (hv : EvP K te σ A H d) (hd : Ev td σ H (.ref m)) (hi : EvD K ty σ H (.int i)) (hm : H m = some (.dK kvs)) (hl : kvs.length < 100000)
    (k : ∀ v A' B', Pr A H A' B' → Dp K A' v d → Dd.nx σ (upd B' m (.dK (putK kvs (.inl i) v)))) : sDPut td ty te Dd σ H := hv A H (Pr.refl s) _ fun v A1 B1 P hd' =>
  hd B1 P.b _ fun B2 e2 => v_int hi B2 (P.b.trans e2) _ fun B3 e3 => ⟨m, _, rfl, .inl ⟨kvs, .inl i, e3 _ _ (e2 _ _ (P.b _ _ hm)), rfl, sz_lt hl, rfl⟩, k v A1 B3 (P.trans (Pr.up P.s (e2.trans e3))) hd'⟩
theorem s_dputS {kvs : List (Key × V)} {i : Str} (hv : Ev te σ H v) (hd : Ev td σ H (.ref m)) (hi : EvD K ty σ H (.str i)) (hm : H m = some (.dK kvs)) (hl : kvs.length < 100000)
    (k : ∀ B', Ex H B' → Dd.nx σ (upd B' m (.dK (putK kvs (.inr i) v)))) : sDPut td ty te Dd σ H := hv H (Ex.refl _) _ fun B1 e1 =>
  hd B1 e1 _ fun B2 e2 => v_str hi B2 (e1.trans e2) _ fun B3 e3 => ⟨m, _, rfl, .inl ⟨kvs, .inr i, e3 _ _ (e2 _ _ (e1 _ _ hm)), rfl, sz_lt hl, rfl⟩, k B3 ((e1.trans e2).trans e3)⟩
/-- a key is taken out -/
theorem s_dpop {kvs : List (Key × V)} {i : Int} {v : V} (hd : Ev td σ H (.ref m)) (hi : EvD K ty σ H (.int i)) (hm : H m = some (.dK kvs)) (hv : valV kvs (.inl i) = some v)
    (k : ∀ B', Ex H B' → Dd.nx σ (upd B' m (.dK (dropK kvs (.inl i))))) : tDrop (tDPop1 td ty) Dd σ H := hd H (Ex.refl _) _ fun B1 e1 =>
  ⟨m, rfl, .inl ⟨kvs, .inl (e1 _ _ hm)⟩, v_int hi B1 e1 _ fun B2 e2 => ⟨kvs, .inl i, v, e2 _ _ (e1 _ _ hm), rfl, hv, k B2 (e1.trans e2)⟩⟩
/-- a datum is appended to a list -/
theorem s_app {xs : List V} (s : Ex A H) (ho : Ev to σ H (.ref l)) (h : EvP K te σ A H d) (hl : H l = some (.lst xs)) (hz : xs.length < 100000)
    (k : ∀ v A' B', Pr A H A' B' → Dp K A' v d → Dd.nx σ (upd B' l (.lst (xs ++ [v])))) : tDrop (tBM K "list" rAppend to (tCons te tNil)) Dd σ H := ho H (Ex.refl _) _ fun B1 e1 =>
  ⟨.inl ⟨rfl, xs, sq_of (e1 _ _ hl)⟩, h A B1 (Pr.up s e1) _ fun v A' B' P hv => ⟨l, xs, v, rfl, rfl, P.b _ _ (e1 _ _ hl), sz_lt hz, k v A' B' ((Pr.up s e1).trans P) hv⟩⟩
/-- a thing itself is appended -/
theorem s_appV {xs : List V} (ho : Ev to σ H (.ref l)) (h : Ev te σ H v) (hl : H l = some (.lst xs)) (hz : xs.length < 100000)
    (k : ∀ B', Ex H B' → Dd.nx σ (upd B' l (.lst (xs ++ [v])))) : tDrop (tBM K "list" rAppend to (tCons te tNil)) Dd σ H := ho H (Ex.refl _) _ fun B1 e1 =>
  ⟨.inl ⟨rfl, xs, sq_of (e1 _ _ hl)⟩, h B1 e1 _ fun B2 e2 => ⟨l, xs, v, rfl, rfl, e2 _ _ (e1 _ _ hl), sz_lt hz, k B2 (e1.trans e2)⟩⟩
theorem s_clear {xs : List V} (ho : Ev to σ H (.ref l)) (hl : H l = some (.lst xs)) (k : ∀ B', Ex H B' → Dd.nx σ (upd B' l (.lst []))) : tDrop (tBM0 K "list" rClear to) Dd σ H := ho H (Ex.refl _) _ fun B1 e1 =>
  ⟨.inl ⟨rfl, xs, sq_of (e1 _ _ hl)⟩, ⟨l, xs, rfl, rfl, e1 _ _ hl, k B1 e1⟩⟩
/-- as the first of two -/
theorem q_do {t1 : TS} (h : t1 (go Dd t2) σ H) : tSeq t1 t2 Dd σ H := h
/-- a for over a list that stays, whose body only reads and names -/
theorem s_forL {j : Nat} {xs : List V} (h : Ev tl σ H (.ref l)) (hl : SqL K H l xs) (J : Nat → L2.St → Prop) (h0 : J 0 σ)
    (hs : ∀ i x σ' B', xs[i]? = some x → Ex H B' → J i σ' → ts { Dd with nx := fun σ3 H3 => Ex H H3 ∧ J (i + 1) σ3, ct := fun σ3 H3 => Ex H H3 ∧ J (i + 1) σ3, bk := Dd.nx } (σ'.set j (some x)) B')
    (hd : ∀ σ' B', Ex H B' → J xs.length σ' → Dd.nx σ' B') : tFor (iList K tl) (gName j) ts Dd σ H := h H (Ex.refl _) _ fun B1 e1 =>
  ⟨l, rfl, ⟨xs, ex_l e1 hl⟩, for_it (walk_list (xs := xs)) (fun i σ' H' => Ex H H' ∧ J i σ') ⟨e1, h0⟩ (fun i σ' H' _ p => ex_l p.1 hl)
    (fun i x σ' H' H'' _ p y => by obtain ⟨rfl, hx⟩ := y; exact hs i x σ' _ hx p.1 p.2) (fun σ' H' p => hd σ' H' p.1 p.2)⟩
/-- for i, x in enumerate(list), whose body only reads and names -/
theorem s_forE {i j : Nat} {xs : List V} (h : Ev tl σ H (.ref l)) (hl : SqL K H l xs) (J : Nat → L2.St → Prop) (h0 : J 0 σ)
    (hs : ∀ (t : Nat) x σ' B', xs[t]? = some x → Ex H B' → J t σ' → ts { Dd with nx := fun σ3 H3 => Ex H H3 ∧ J (t + 1) σ3, ct := fun σ3 H3 => Ex H H3 ∧ J (t + 1) σ3, bk := Dd.nx } ((σ'.set i (some (.int (t : Int)))).set j (some x)) B')
    (hd : ∀ σ' B', Ex H B' → J xs.length σ' → Dd.nx σ' B') : tFor (iEnum K (tCons tl tNil)) (gTup K 2 (gCons (gName i) (gCons (gName j) gNil))) ts Dd σ H := h H (Ex.refl _) _ fun B1 e1 =>
  ⟨l, xs, rfl, ex_l e1 hl, for_it (walk_enum (xs := xs)) (fun t σ' H' => Ex H H' ∧ J t σ') ⟨e1, h0⟩ (fun t σ' H' _ p => ex_l p.1 hl)
    (fun t x σ' H' H'' _ p y => by
      obtain ⟨T, u, z, rfl, hT, rfl, hu, hz⟩ := y
      cases hu
      exact ⟨T, [.int (t : Nat), z], rfl, st_of upd_same, rfl, _, [z], rfl, z, [], rfl, rfl, hs t z σ' _ hz (p.1.trans (Ex.new hT)) p.2⟩) (fun σ' H' p => hd σ' H' p.1 p.2)⟩
/-- for i in range(n), whose body changes things: J tells all -/
theorem s_forRM {j : Nat} {n : Int} (h : EvD K te σ H (.int n)) (hn : 0 ≤ n ∧ n ≤ 40000) (J : Nat → L2.St → Hp → Prop) (h0 : ∀ B', Ex H B' → J 0 σ B')
    (hs : ∀ (i : Nat) σ' B', (i : Int) < n → J i σ' B' → ts { Dd with nx := J (i + 1), ct := J (i + 1), bk := Dd.nx } (σ'.set j (some (.int (i : Int)))) B')
    (hd : ∀ σ' B', J n.toNat σ' B' → Dd.nx σ' B') : tFor (iRng1 (tCons te tNil)) (gName j) ts Dd σ H := v_int h H (Ex.refl _) _ fun B1 e1 =>
  ⟨n, rfl, by omega, by omega, for_it walk_range J (h0 B1 e1) (fun _ _ _ _ _ => trivial)
    (fun i x σ' H' H'' hi p y => by
      obtain ⟨rfl, rfl⟩ := y
      show ts _ (σ'.set j (some (.int (0 + (i : Nat))))) _
      rw [Int.zero_add]
      exact hs i σ' _ (by omega) p) (fun σ' H' p => hd σ' H' p)⟩
/-- a for over a new list, whose body changes things -/
theorem s_forNM {j : Nat} (s : Ex A H) (h : EvN K tl σ A ds) (k : ∀ q xs A1 B1, H q = none → Pr A H A1 B1 → A1 q = none → B1 q = some (.lst xs) → DpAll K A1 xs ds → ∃ J : Nat → L2.St → Hp → Prop, J 0 σ B1 ∧ (∀ i σ' B', J i σ' B' → SqL K B' q xs) ∧
      (∀ i x σ' B', xs[i]? = some x → J i σ' B' → ts { Dd with nx := J (i + 1), ct := J (i + 1), bk := Dd.nx } (σ'.set j (some x)) B') ∧ ∀ σ' B', J xs.length σ' B' → Dd.nx σ' B') : tFor (iList K tl) (gName j) ts Dd σ H := h A H (Ex.refl _) s _ fun q xs A1 B1 hq P nq bq hxs => by
  obtain ⟨J, j0, j1, j2, j3⟩ := k q xs A1 B1 hq P nq bq hxs
  refine ⟨q, rfl, ⟨xs, sq_of bq⟩, for_it (walk_list (xs := xs)) J j0 (fun i σ' H' _ p => j1 i σ' H' p) (fun i x σ' H' H'' _ p y => ?_) j3⟩
  obtain ⟨rfl, hx⟩ := y
  exact j2 i x σ' _ hx p
/-- a for over a dict's keys, whose body only reads and names -/
theorem s_forK {j : Nat} {kvs : List (Key × V)} (h : ∀ H', (∀ x u, x ≠ m → H x = some u → H' x = some u) → Ev tl σ H' (.ref m)) (hm : H m = some (.dK kvs)) (J : Nat → L2.St → Prop) (h0 : J 0 σ)
    (hs : ∀ i kv σ' B', kvs[i]? = some kv → Rd B' m (.dK kvs) → (∀ x u, x ≠ m → H x = some u → B' x = some u) → J i σ' → ∀ N : L2.St → Hp → Prop, (∀ σ3 B3, Ex B' B3 → J (i + 1) σ3 → N σ3 B3) → ∀ Dn : Ends, Dn.nx = N → ts Dn (σ'.set j (some (kV kv.1))) B')
    (hd : ∀ σ' B', Ex H B' → J kvs.length σ' → Dd.nx σ' B') : tLock (tFor (iKeys tl) (gName j) ts) Dd σ H := by
  refine ⟨m, _, hm, trivial, fun od => ?_⟩
  have k0 : ∀ x u, x ≠ m → H x = some u → (upd H m (.frz od (.dK kvs))) x = some u := fun x u n e => by rw [upd_ne n]; exact e
  refine h _ k0 _ (Ex.refl _) _ fun B1 e1 => ⟨m, od, rfl, .inl ⟨kvs, e1 _ _ upd_same, ?_⟩⟩
  refine for_it (walk_keys (kvs := kvs)) (fun i σ' H' => Ex (upd H m (.frz od (.dK kvs))) H' ∧ J i σ') ⟨e1, h0⟩ (fun i σ' H' _ p => p.1 _ _ upd_same) (fun i x σ' H' H'' _ p y => ?_) (fun σ' H' p => ?_)
  · obtain ⟨rfl, k, v, hk, rfl⟩ := y
    exact hs i (k, v) σ' _ hk (.inr ⟨od, p.1 _ _ upd_same⟩) (fun x u n e => p.1 _ _ (k0 x u n e)) p.2 _ (fun σ3 B3 e3 j3 => ⟨p.1.trans e3, j3⟩) _ rfl
  · refine ⟨p.1 _ _ upd_same, hd σ' _ (fun x u e => ?_) p.2⟩
    by_cases n : x = m
    · rw [n] at e ⊢
      rw [hm] at e
      cases e
      exact upd_same
    · rw [upd_ne n]
      exact p.1 _ _ (k0 x u n e)
end
/-! ## methods, and things made of a class -/
/-- where a method stands -/
structure MethAt (K : PySem.W.Frag) (C : Addr) (qual m : Str) (st : Stmt) (ps : List Str) (f : Addr) (fd : FuncData) : Prop where
  F : Fun K m qual st f fd
  m : Meth K C m f
  b : Binds K fd ps []
/-- a method keeps its promise -/
def MethOk (P : Program) (w : World) (K : PySem.W.Frag) (mg : Str → Option Value) (base : Heap) (CX : CXT) (k : Nat) (C : Addr) (m : Str) (ps : List Str) (sp : Sp) : Prop :=
  ∃ f fd, Meth K C m f ∧ Binds K fd ps [] ∧ FnOk P w K mg base CX k f fd ps sp
/-- so does the making -/
def MkOk (P : Program) (w : World) (K : PySem.W.Frag) (mg : Str → Option Value) (base : Heap) (CX : CXT) (k : Nat) (C : Addr) (ps : List Str) (sp : Sp) : Prop :=
  ∃ f fd, Mk K C f ∧ Binds K fd ps [] ∧ FnOk P w K mg base CX k f fd ps sp
theorem MethAt.ok {P : Program} {w : World} {K : PySem.W.Frag} {mg : Str → Option Value} {base : Heap} {CX : CXT} {k : Nat} {C : Addr} {qual m : Str} {st : Stmt} {ps : List Str} {f : Addr} {fd : FuncData} {sp : Sp} (d : MethAt K C qual m st ps f fd) (h : FnOk P w K mg base CX k f fd ps sp) : MethOk P w K mg base CX k C m ps sp :=
  ⟨f, fd, d.m, d.b, h⟩
section
variable {X : Cx} {CX : CXT} {k : Nat} {C : Addr} {ps : List Str} {sp : Sp} {x m : Str} {p pos apos : Pos} {e o : Expr} {es : List Expr} {ta : TE} {t : TA}
theorem pe_md {E : XK} {pl : Sem Bool} (he : PE X o ta) (c : Cls X.K C) (G : MethOk X.prog X.w X.K X.mg X.base CX k C m ps sp) (hr : Room k X.A) (hx : Passes CX X E) (ha : PA X (e :: es) t)
    (hst : starEach (e :: es) X.env = (false, eval e X.env) :: starEach es X.env := by rfl) (hpl : (backTo pos (starEach es X.env)).any (·.1) = false := by rfl)
    (ht : eval (.Call (.Attribute o m apos) (e :: es) [] pos) X.env = (do
      let ov ← eval o X.env
      standAt apos.atName
      let (g, first) ← holding [ov] (getMethod ov m pl)
      callWith pos g first (backTo pos (starEach (e :: es) X.env)) (backToKw pos (keywordEach [] X.env))) := by rfl) :
    PE X (.Call (.Attribute o m apos) (e :: es) [] pos) (tMeth C m sp [] E ta t) := by
  obtain ⟨f, fd, h1, h2, h3⟩ := G
  exact pe_meth (pl := pl) he c h1 h3 hr h2 .nil hx ha hst hpl ht
theorem pe_md0 {E : XK} {pl : Sem Bool} (he : PE X o ta) (c : Cls X.K C) (G : MethOk X.prog X.w X.K X.mg X.base CX k C m ps sp) (hr : Room k X.A) (hx : Passes CX X E)
    (ht : eval (.Call (.Attribute o m apos) [] [] pos) X.env = (do
      let ov ← eval o X.env
      standAt apos.atName
      let (g, first) ← holding [ov] (getMethod ov m pl)
      callWith pos g first (backTo pos (starEach [] X.env)) (backToKw pos (keywordEach [] X.env))) := by rfl) :
    PE X (.Call (.Attribute o m apos) [] [] pos) (tMeth C m sp [] E ta tNil) := by
  obtain ⟨f, fd, h1, h2, h3⟩ := G
  exact pe_meth0 (pl := pl) he c h1 h3 hr h2 .nil hx ht
/-- a method that may raise, what comes of that told by the names' values -/
def tMethX (C : Addr) (m : Str) (sp : Sp) (E : L2.St → XK) (ta : TE) (t : TA) : TE := fun σ H Q => ta σ H fun x H1 => ∃ a dx fs, x = .ref a ∧ H1 a = some (.ins C dx fs) ∧ fs.lookup m = none ∧ t σ H1 fun vs H2 => sp (x :: vs) H2 Q (E σ)
theorem pe_mdX {E : L2.St → XK} {pl : Sem Bool} (he : PE X o ta) (c : Cls X.K C) (G : MethOk X.prog X.w X.K X.mg X.base CX k C m ps sp) (hr : Room k X.A) (hx : ∀ σ, PassesAt CX X σ (E σ)) (ha : PA X (e :: es) t)
    (hst : starEach (e :: es) X.env = (false, eval e X.env) :: starEach es X.env := by rfl) (hpl : (backTo pos (starEach es X.env)).any (·.1) = false := by rfl)
    (ht : eval (.Call (.Attribute o m apos) (e :: es) [] pos) X.env = (do
      let ov ← eval o X.env
      standAt apos.atName
      let (g, first) ← holding [ov] (getMethod ov m pl)
      callWith pos g first (backTo pos (starEach (e :: es) X.env)) (backToKw pos (keywordEach [] X.env))) := by rfl) :
    PE X (.Call (.Attribute o m apos) (e :: es) [] pos) (tMethX C m sp E ta t) := by
  obtain ⟨f, fd, hm, hb, F⟩ := G
  refine ⟨fun pins z σ H Q I h => PySem.W.methodCall_KW (pl := pl) (thn (he.run pins z σ H _ I h) fun u z1 ⟨y, H1, I1, ry, a, dx, fs, ey, ea, l, q⟩ => ?_) ht⟩
  subst ey
  obtain rfl : u = Value.ref a := ry
  refine getmeth_ok I1 ea c hm l (PySem.W.callWith_K (first := [.ref a]) (h₀ := X.base) I.ok.mod.kin hm.kp (thn (ha.run pos pins z1 σ H1 _ I1 q) fun us z2 ⟨vs, H2, I2, r, q2⟩ => ⟨I2.kIn, ?_⟩) hst hpl)
  exact run_fnS (us := .ref a :: us) (vs := .ref a :: vs) F hr hb (hx σ) I2 (.cons rfl r) q2
theorem pe_mk {E : XK} (hg : Gl X x) (hm : X.mg x = some (.ref C)) (G : MkOk X.prog X.w X.K X.mg X.base CX k C ps sp) (hr : Room (k + 1) X.A) (hx : Passes CX X E) (ha : PA X (e :: es) t)
    (hdb : (x == ("__debug__" : Str)) = false := by decide) (he : starEach (e :: es) X.env = (false, eval e X.env) :: starEach es X.env := by rfl) (hpl : (backTo pos (starEach es X.env)).any (·.1) = false := by rfl) :
    PE X (.Call (.Name x p) (e :: es) [] pos) (tMake C sp [] E t) := by
  obtain ⟨f, fd, h1, h2, h3⟩ := G
  exact pe_make h1 h3 hr hg hm h2 .nil hx ha hdb he hpl
end
section
variable {K : PySem.W.Frag} {A B H : Hp} {σ : L2.St} {ds : List D} {C a dx : Addr} {m : Str} {fs : List (Str × V)} {sp : Sp} {E : XK} {EX : L2.St → XK} {ta : TE} {t : TA} {Q : VK}
theorem m_call (s : Ex A H) (ha : Ev ta σ H (.ref a)) (hB : H a = some (.ins C dx fs)) (hl : fs.lookup m = none) (h : EvPA K t σ A H ds) (k : ∀ vs A1 B1, Pr A H A1 B1 → DpAll K A1 vs ds → sp (.ref a :: vs) B1 Q E) : tMeth C m sp [] E ta t σ H Q :=
  ha H (Ex.refl _) _ fun B1 e1 => ⟨a, dx, fs, rfl, e1 _ _ hB, hl, h A B1 (Pr.up s e1) _ fun vs A2 B2 P2 hv => by rw [List.append_nil]; exact k vs A2 B2 ((Pr.up s e1).trans P2) hv⟩
theorem m_callX (s : Ex A H) (ha : Ev ta σ H (.ref a)) (hB : H a = some (.ins C dx fs)) (hl : fs.lookup m = none) (h : EvPA K t σ A H ds) (k : ∀ vs A1 B1, Pr A H A1 B1 → DpAll K A1 vs ds → sp (.ref a :: vs) B1 Q (EX σ)) : tMethX C m sp EX ta t σ H Q :=
  ha H (Ex.refl _) _ fun B1 e1 => ⟨a, dx, fs, rfl, e1 _ _ hB, hl, h A B1 (Pr.up s e1) _ fun vs A2 B2 P2 hv => k vs A2 B2 ((Pr.up s e1).trans P2) hv⟩
end
end Ob

/-! ## the tactics: ed (EvD), ea (EvAD), en (EvN), ek (EvK), eo (EvO), et (EvT), dp (Dp), pr (Pr), at (atI), fn (a def's promise), sz (sizes) -/
open PySem L2 Evl Ob
local macro_rules | `(tactic| tm_at "sz") => `(tactic| first | decide | (simp only [List.length_cons, List.length_nil]; decide) | omega | assumption)
local macro_rules | `(tactic| tm_at "at") => `(tactic| first | assumption | exact rfl)
local macro_rules | `(tactic| tm_at "cc") => `(tactic| first | (exact ⟨by decide, by decide⟩) | (show (0 : Int) < _; decide) | (exact ⟨by decide, by decide, by decide⟩) | assumption)
local macro_rules | `(tactic| tm_at "exa") => `(tactic| first | exact Ex.refl _ | assumption | exact Pr.a (by assumption) | (refine Ex.trans ?_ (Pr.a (by assumption)); tm_at "exa") | (refine Ex.trans ?_ (by assumption); tm_at "exa"))
local macro_rules | `(tactic| tm_at "dp") => `(tactic| first | assumption | exact Dp.int _ | exact Dp.bl _ | exact Dp.str _ | exact Dp.non | (refine dp_ex ?e (by assumption); tm_at "exa"))
local macro_rules | `(tactic| tm_at "pr") => `(tactic| first | assumption | exact Pu.pr (by assumption) | (with_reducible exact Pr.refl (by first | assumption | exact Pr.s (by assumption) | exact Pu.s (by assumption))) | (refine Pr.trans ?_ (by assumption); tm_at "pr") | (refine Pr.trans ?_ (Pu.pr (by assumption)); tm_at "pr"))
local macro_rules | `(tactic| tm_at "exs") => `(tactic| first | assumption | exact Pr.s (by assumption) | exact Pu.s (by assumption))
local macro_rules | `(tactic| tm_at "sh") => `(tactic| first | assumption | exact rfl)
local macro_rules | `(tactic| tm_at "fn") => `(tactic| fail)
local macro_rules | `(tactic| tm_at "ki") => `(tactic| first | exact ki_ii | exact ki_ib | exact ki_bb | exact ki_bi | exact ki_nb | exact ki_sb | exact ki_lb | exact ki_tb | exact ki_ni | exact ki_si | exact ki_li | exact ki_ti | exact ki_tt | exact ki_lt | exact ki_st | exact ki_it | exact ki_bt | exact ki_nt | exact ki_ll | exact ki_tl | exact ki_sl | exact ki_nl | exact ki_il | exact ki_bl | exact ki_ss | exact ki_ts | exact ki_ls | exact ki_ns | exact ki_is | exact ki_bs)
local macro_rules | `(tactic| tm_at "ea") => `(tactic| first | exact ea_nilD | (apply ea_consD; tm_at "ed"; tm_at "ea"))
local macro_rules | `(tactic| tm_at "eo") => `(tactic| first | exact eo_noneD | (apply eo_someD; tm_at "ed"))
local macro_rules | `(tactic| tm_at "le") => `(tactic| first | omega | (simp only [Str.length_append]; omega))
local macro_rules | `(tactic| tm_at "exs2") => `(tactic| first | exact Ex.refl _ | exact Pr.b (by assumption) | exact Pu.e (by assumption) | (refine Ex.trans ?_ (Pr.b (by assumption)); tm_at "exs2") | (refine Ex.trans ?_ (Pu.e (by assumption)); tm_at "exs2"))
local macro_rules | `(tactic| tm_at "l2") => `(tactic| first | assumption | decide)
local macro_rules | `(tactic| tm_at "ej") => `(tactic| first | exact ej_nil | (apply ej_cons; tm_at "ed"; tm_at "sz"; tm_at "ej"))
local macro_rules | `(tactic| tm_at "ek") => `(tactic| first | (apply ek_n; tm_at "en") | (apply ek_var; exact rfl; assumption; assumption))
local macro_rules | `(tactic| tm_at "en") => `(tactic| first
  | ((with_reducible apply en_lst); tm_at "ea"; tm_at "sz")
  | ((with_reducible apply en_cat); tm_at "ek"; tm_at "ek"; tm_at "sz")
  | ((with_reducible apply en_slice); tm_at "ed"; tm_at "eo"; tm_at "eo")
  | ((with_reducible apply en_split); tm_at "ed"; tm_at "ed"; exact rfl; tm_at "sz")
  | ((with_reducible apply en_listof); tm_at "ed"))
local macro_rules | `(tactic| tm_at "et") => `(tactic| first
  | ((with_reducible exact eb_yes))
  | ((with_reducible apply eb_D); tm_at "ed")
  | ((with_reducible apply eb_DB); tm_at "ed")
  | ((with_reducible apply eb_not); tm_at "et")
  | ((with_reducible apply eb_and); tm_at "et"; intro h; first | (exact eb_abs h (by decide)) | tm_at "et")
  | ((with_reducible apply eb_or); tm_at "et"; intro h; first | (exact eb_abs h (by decide)) | tm_at "et"))
local macro_rules | `(tactic| tm_at "ed") => `(tactic| first
  | ((with_reducible apply ed_var); exact rfl; tm_at "dp")
  | ((with_reducible exact ed_int))
  | ((with_reducible exact ed_str))
  | ((with_reducible exact ed_bl))
  | ((with_reducible exact ed_non))
  | ((with_reducible apply ed_Ii); tm_at "ed"; tm_at "ed")
  | ((with_reducible apply ed_Ib); tm_at "ed"; tm_at "ed")
  | ((with_reducible apply ed_Ic); tm_at "ed"; tm_at "ed"; tm_at "cc")
  | ((with_reducible apply ed_ixT); tm_at "ed"; tm_at "ed"; tm_at "at")
  | ((with_reducible apply ed_ixL); tm_at "ed"; tm_at "ed"; tm_at "at")
  | ((with_reducible apply ed_eqi); tm_at "ed"; tm_at "ed")
  | ((with_reducible apply ed_nei); tm_at "ed"; tm_at "ed")
  | ((with_reducible apply ed_eqs); tm_at "ed"; tm_at "ed")
  | ((with_reducible apply ed_nes); tm_at "ed"; tm_at "ed")
  | ((with_reducible apply ed_eqb); tm_at "ed"; tm_at "ed")
  | ((with_reducible apply ed_neb); tm_at "ed"; tm_at "ed")
  | ((with_reducible apply ed_eqD); tm_at "ed"; tm_at "ed"; tm_at "sh"; tm_at "sh")
  | ((with_reducible apply ed_neD); tm_at "ed"; tm_at "ed"; tm_at "sh"; tm_at "sh")
  | ((with_reducible apply ed_and); tm_at "ed"; intro h; first | (exact ed_abs h (by decide)) | tm_at "ed")
  | ((with_reducible apply ed_or); tm_at "ed"; intro h; first | (exact ed_abs h (by decide)) | tm_at "ed")
  | ((with_reducible apply ed_not); tm_at "ed")
  | ((with_reducible apply ed_isi); tm_at "ed"; tm_at "ki")
  | ((with_reducible apply ed_tup); tm_at "ea"; tm_at "sz")
  | ((with_reducible apply ed_call); tm_at "ea"; tm_at "fn")
  | ((with_reducible apply ed_len); tm_at "ed")
  | ((with_reducible apply ed_lenT); tm_at "ed")
  | ((with_reducible apply ed_all); tm_at "ed")
  | ((with_reducible apply ed_addS); tm_at "ed"; tm_at "ed"; tm_at "sz")
  | ((with_reducible apply ed_strI); tm_at "ed"; tm_at "l2")
  | ((with_reducible apply ed_lenS); tm_at "ed"; tm_at "sz")
  | ((with_reducible apply ed_jn); tm_at "ej")
  | ((with_reducible apply ed_fmtI); tm_at "ed"; tm_at "l2")
  | ((with_reducible apply ed_isN); tm_at "ed")
  | ((with_reducible apply ed_notN); tm_at "ed")
  | ((with_reducible apply ed_ixS); tm_at "ed"; tm_at "ed"; tm_at "sz"; tm_at "at")
  | ((with_reducible apply ed_sliceS); tm_at "ed"; tm_at "sz"; tm_at "eo"; tm_at "eo")
  | ((with_reducible apply ed_inT); tm_at "ed"; tm_at "ed"; exact rfl; exact rfl)
  | ((with_reducible apply ed_niT); tm_at "ed"; tm_at "ed"; exact rfl; exact rfl)
  | ((with_reducible apply ed_inSg); tm_at "ed"; tm_at "ed")
  | ((with_reducible apply ed_niSg); tm_at "ed"; tm_at "ed")
  | ((with_reducible apply ed_neg); tm_at "ed")
  | ((with_reducible apply ed_max2); tm_at "ed"; tm_at "ed")
  | (apply ed_n; tm_at "en"))

namespace K3
open PySem L2 Evl Ob
def top (i : Nat) : Stmt := PySem.Challenge.pw_onebell_k03_a_desk_hands_over.main.body.getD i (.Pass ⟨0, 0, 0, 0⟩)
abbrev Mk := Int × Int
abbrev mkD (m : Mk) : D := .tuple [.int m.1, .int m.2]

-- less  slots: 0=one 1=other
abbrev s_less : Stmt := top 11
theorem sc_less : FnScope ["one", "other"] ["one", "other"] (defScope s_less) := ⟨rfl, rfl, rfl, by decide +kernel, rfl, by decide +kernel, by decide +kernel⟩
-- Desk.__init__  slots: 0=self 1=hand
abbrev s_Desk___init__ : Stmt := inClass (top 13) 0
theorem sc_Desk___init__ : FnScope ["self", "hand"] ["self", "hand"] (defScope s_Desk___init__) := ⟨rfl, rfl, rfl, by decide +kernel, rfl, by decide +kernel, by decide +kernel⟩
-- Desk.clock  slots: 0=self
abbrev s_Desk_clock : Stmt := inClass (top 13) 1
theorem sc_Desk_clock : FnScope ["self"] ["self"] (defScope s_Desk_clock) := ⟨rfl, rfl, rfl, by decide +kernel, rfl, by decide +kernel, by decide +kernel⟩
-- Desk.propose  slots: 0=self 1=letter
abbrev s_Desk_propose : Stmt := inClass (top 13) 2
theorem sc_Desk_propose : FnScope ["self", "letter"] ["self", "letter"] (defScope s_Desk_propose) := ⟨rfl, rfl, rfl, by decide +kernel, rfl, by decide +kernel, by decide +kernel⟩
-- Desk.settle  slots: 0=self 1=letter 2=mark
abbrev s_Desk_settle : Stmt := inClass (top 13) 3
theorem sc_Desk_settle : FnScope ["self", "letter", "mark"] ["self", "letter", "mark"] (defScope s_Desk_settle) := ⟨rfl, rfl, rfl, by decide +kernel, rfl, by decide +kernel, by decide +kernel⟩
-- Desk.first  slots: 0=self 1=found 2=letter
abbrev s_Desk_first : Stmt := inClass (top 13) 4
theorem sc_Desk_first : FnScope ["self", "found", "letter"] ["self"] (defScope s_Desk_first) := ⟨rfl, rfl, rfl, by decide +kernel, rfl, by decide +kernel, by decide +kernel⟩
-- Desk.hand_over  slots: 0=self 1=found 2=letter
abbrev s_Desk_hand_over : Stmt := inClass (top 13) 5
theorem sc_Desk_hand_over : FnScope ["self", "found", "letter"] ["self"] (defScope s_Desk_hand_over) := ⟨rfl, rfl, rfl, by decide +kernel, rfl, by decide +kernel, by decide +kernel⟩
-- Desk.waiting  slots: 0=self 1=left 2=found 3=best 4=letter
abbrev s_Desk_waiting : Stmt := inClass (top 13) 6
theorem sc_Desk_waiting : FnScope ["self", "left", "found", "best", "letter"] ["self"] (defScope s_Desk_waiting) := ⟨rfl, rfl, rfl, by decide +kernel, rfl, by decide +kernel, by decide +kernel⟩
-- Desk.handed  slots: 0=self
abbrev s_Desk_handed : Stmt := inClass (top 13) 7
theorem sc_Desk_handed : FnScope ["self"] ["self"] (defScope s_Desk_handed) := ⟨rfl, rfl, rfl, by decide +kernel, rfl, by decide +kernel, by decide +kernel⟩
-- _law_whole  slots: 0=_law_found
abbrev s_law_whole : Stmt := top 15
theorem sc_law_whole : FnScope ["_law_found"] ["_law_found"] (defScope s_law_whole) := ⟨rfl, rfl, rfl, by decide +kernel, rfl, by decide +kernel, by decide +kernel⟩
-- _law_cell_at  slots: 0=_law_script 1=_law_k
abbrev s_law_cell_at : Stmt := top 16
theorem sc_law_cell_at : FnScope ["_law_script", "_law_k"] ["_law_script", "_law_k"] (defScope s_law_cell_at) := ⟨rfl, rfl, rfl, by decide +kernel, rfl, by decide +kernel, by decide +kernel⟩
-- _law_mark  slots: 0=_law_found
abbrev s_law_mark : Stmt := top 17
theorem sc_law_mark : FnScope ["_law_found"] ["_law_found"] (defScope s_law_mark) := ⟨rfl, rfl, rfl, by decide +kernel, rfl, by decide +kernel, by decide +kernel⟩
-- _law_desk  slots: 0=_law_hand
abbrev s_law_desk : Stmt := top 18
theorem sc_law_desk : FnScope ["_law_hand"] ["_law_hand"] (defScope s_law_desk) := ⟨rfl, rfl, rfl, by decide +kernel, rfl, by decide +kernel, by decide +kernel⟩
-- _law_first  slots: 0=_law_d 1=_law_found 2=_law_letter
abbrev s_law_first : Stmt := top 19
theorem sc_law_first : FnScope ["_law_d", "_law_found", "_law_letter"] ["_law_d"] (defScope s_law_first) := ⟨rfl, rfl, rfl, by decide +kernel, rfl, by decide +kernel, by decide +kernel⟩
-- _law_proposed  slots: 0=_law_d 1=_law_letter
abbrev s_law_proposed : Stmt := top 20
theorem sc_law_proposed : FnScope ["_law_d", "_law_letter"] ["_law_d", "_law_letter"] (defScope s_law_proposed) := ⟨rfl, rfl, rfl, by decide +kernel, rfl, by decide +kernel, by decide +kernel⟩
-- _law_settled  slots: 0=_law_d 1=_law_letter 2=_law_mark_here 3=_law_found
abbrev s_law_settled : Stmt := top 21
theorem sc_law_settled : FnScope ["_law_d", "_law_letter", "_law_mark_here", "_law_found"] ["_law_d", "_law_letter", "_law_mark_here"] (defScope s_law_settled) := ⟨rfl, rfl, rfl, by decide +kernel, rfl, by decide +kernel, by decide +kernel⟩
-- _law_only  slots: 0=_law_error 1=_law_word_here 2=_law_kinds 3=_law_names 4=_law_name
abbrev s_law_only : Stmt := top 22
theorem sc_law_only : FnScope ["_law_error", "_law_word_here", "_law_kinds", "_law_names", "_law_name"] ["_law_error", "_law_word_here"] (defScope s_law_only) := ⟨rfl, rfl, rfl, by decide +kernel, rfl, by decide +kernel, by decide +kernel⟩
-- _law_word  slots: 0=_law_error 1=_law_word_here
abbrev s_law_word : Stmt := top 23
theorem sc_law_word : FnScope ["_law_error", "_law_word_here"] ["_law_error"] (defScope s_law_word) := ⟨rfl, rfl, rfl, by decide +kernel, rfl, by decide +kernel, by decide +kernel⟩
-- _law_told  slots: 0=_law_desk_here 1=_law_letter 2=_law_mark_here 3=_law_error
abbrev s_law_told : Stmt := top 24
theorem sc_law_told : FnScope ["_law_desk_here", "_law_letter", "_law_mark_here", "_law_error"] ["_law_desk_here", "_law_letter", "_law_mark_here"] (defScope s_law_told) := ⟨rfl, rfl, rfl, by decide +kernel, rfl, by decide +kernel, by decide +kernel⟩
-- _law_due  slots: 0=_law_d 1=_law_letter 2=_law_mark_here
abbrev s_law_due : Stmt := top 25
theorem sc_law_due : FnScope ["_law_d", "_law_letter", "_law_mark_here"] ["_law_d", "_law_letter", "_law_mark_here"] (defScope s_law_due) := ⟨rfl, rfl, rfl, by decide +kernel, rfl, by decide +kernel, by decide +kernel⟩
-- _law_alike  slots: 0=_law_found 1=_law_due_here 2=_law_one 3=_law_good
abbrev s_law_alike : Stmt := top 26
theorem sc_law_alike : FnScope ["_law_found", "_law_due_here", "_law_one", "_law_good"] ["_law_found", "_law_due_here"] (defScope s_law_alike) := ⟨rfl, rfl, rfl, by decide +kernel, rfl, by decide +kernel, by decide +kernel⟩
-- _law_stands  slots: 0=_law_desk_here 1=_law_d 2=_law_found 3=_law_left 4=_law_due_here 5=_law_letter 6=_law_one 7=_law_other 8=_law_row 9=_law_time
abbrev s_law_stands : Stmt := top 27
theorem sc_law_stands : FnScope ["_law_desk_here", "_law_d", "_law_found", "_law_left", "_law_due_here", "_law_letter", "_law_one", "_law_other", "_law_row", "_law_time"] ["_law_desk_here", "_law_d"] (defScope s_law_stands) := ⟨rfl, rfl, rfl, by decide +kernel, rfl, by decide +kernel, by decide +kernel⟩
-- _law_drawn  slots: 0=_law_d 1=_law_letter 2=_law_cell 3=_law_more 4=_law_mark_here
abbrev s_law_drawn : Stmt := top 28
theorem sc_law_drawn : FnScope ["_law_d", "_law_letter", "_law_cell", "_law_more", "_law_mark_here"] ["_law_d", "_law_letter", "_law_cell", "_law_more"] (defScope s_law_drawn) := ⟨rfl, rfl, rfl, by decide +kernel, rfl, by decide +kernel, by decide +kernel⟩
-- law  slots: 0=_law_script 1=_law_hand 2=_law_desk_here 3=_law_d 4=_law_k 5=_law_letter 6=_law_mark_here 7=_law_found
abbrev s_law : Stmt := top 29
theorem sc_law : FnScope ["_law_script", "_law_hand", "_law_desk_here", "_law_d", "_law_k", "_law_letter", "_law_mark_here", "_law_found"] ["_law_script"] (defScope s_law) := ⟨rfl, rfl, rfl, by decide +kernel, rfl, by decide +kernel, by decide +kernel⟩
structure Cs where
  BellError : Addr
  BadCount : Addr
  NoHand : Addr
  NoLetter : Addr
  NoMail : Addr
  Twice : Addr
  NotOpen : Addr
  BadMark : Addr
  NoNote : Addr
  Desk : Addr
/-- an error's class D, the j-th kind -/
structure ExcD (K : PySem.W.Frag) (c : Cs) (D : Addr) (j : Nat) : Prop where
  i : ExcC K D
  v : PySem.W.kitOne K (.ref D) (.type "ValueError") = some true
  e : PySem.W.exmOne K (.ref D) (.ref c.BellError) = some true
  k0 : PySem.W.kitOne K (.ref D) (.ref c.BadCount) = some (0 == j)
  k1 : PySem.W.kitOne K (.ref D) (.ref c.NoHand) = some (1 == j)
  k2 : PySem.W.kitOne K (.ref D) (.ref c.NoLetter) = some (2 == j)
  k3 : PySem.W.kitOne K (.ref D) (.ref c.NoMail) = some (3 == j)
  k4 : PySem.W.kitOne K (.ref D) (.ref c.Twice) = some (4 == j)
  k5 : PySem.W.kitOne K (.ref D) (.ref c.NotOpen) = some (5 == j)
  k6 : PySem.W.kitOne K (.ref D) (.ref c.BadMark) = some (6 == j)
  k7 : PySem.W.kitOne K (.ref D) (.ref c.NoNote) = some (7 == j)
structure Tx (K : PySem.W.Frag) (mg : Str → Option Value) (c : Cs) : Prop where
  x_BellError : ExcCl K mg "BellError" c.BellError
  x_BadCount : ExcCl K mg "BadCount" c.BadCount
  x_NoHand : ExcCl K mg "NoHand" c.NoHand
  x_NoLetter : ExcCl K mg "NoLetter" c.NoLetter
  x_NoMail : ExcCl K mg "NoMail" c.NoMail
  x_Twice : ExcCl K mg "Twice" c.Twice
  x_NotOpen : ExcCl K mg "NotOpen" c.NotOpen
  x_BadMark : ExcCl K mg "BadMark" c.BadMark
  x_NoNote : ExcCl K mg "NoNote" c.NoNote
  i_Twice : ExcD K c c.Twice 4
  i_NotOpen : ExcD K c c.NotOpen 5
  i_BadMark : ExcD K c c.BadMark 6
  d_less : ∃ f fd, DefAt K mg "less" s_less ["one", "other"] f fd
  d_law_whole : ∃ f fd, DefAt K mg "_law_whole" s_law_whole ["_law_found"] f fd
  d_law_cell_at : ∃ f fd, DefAt K mg "_law_cell_at" s_law_cell_at ["_law_script", "_law_k"] f fd
  d_law_mark : ∃ f fd, DefAt K mg "_law_mark" s_law_mark ["_law_found"] f fd
  d_law_desk : ∃ f fd, DefAt K mg "_law_desk" s_law_desk ["_law_hand"] f fd
  d_law_first : ∃ f fd, DefAt K mg "_law_first" s_law_first ["_law_d"] f fd
  d_law_proposed : ∃ f fd, DefAt K mg "_law_proposed" s_law_proposed ["_law_d", "_law_letter"] f fd
  d_law_settled : ∃ f fd, DefAt K mg "_law_settled" s_law_settled ["_law_d", "_law_letter", "_law_mark_here"] f fd
  d_law_only : ∃ f fd, DefAt K mg "_law_only" s_law_only ["_law_error", "_law_word_here"] f fd
  d_law_word : ∃ f fd, DefAt K mg "_law_word" s_law_word ["_law_error"] f fd
  d_law_told : ∃ f fd, DefAt K mg "_law_told" s_law_told ["_law_desk_here", "_law_letter", "_law_mark_here"] f fd
  d_law_due : ∃ f fd, DefAt K mg "_law_due" s_law_due ["_law_d", "_law_letter", "_law_mark_here"] f fd
  d_law_alike : ∃ f fd, DefAt K mg "_law_alike" s_law_alike ["_law_found", "_law_due_here"] f fd
  d_law_stands : ∃ f fd, DefAt K mg "_law_stands" s_law_stands ["_law_desk_here", "_law_d"] f fd
  d_law_drawn : ∃ f fd, DefAt K mg "_law_drawn" s_law_drawn ["_law_d", "_law_letter", "_law_cell", "_law_more"] f fd
  g_Desk : mg "Desk" = some (.ref c.Desk)
  c_Desk : Cls K c.Desk
  k_Desk : ∃ f fd, L2.Mk K c.Desk f ∧ Fun K "__init__" "Desk.__init__" s_Desk___init__ f fd ∧ Binds K fd ["self", "hand"] []
  m_Desk_clock : ∃ f fd, MethAt K c.Desk "Desk.clock" "clock" s_Desk_clock ["self"] f fd
  m_Desk_propose : ∃ f fd, MethAt K c.Desk "Desk.propose" "propose" s_Desk_propose ["self", "letter"] f fd
  m_Desk_settle : ∃ f fd, MethAt K c.Desk "Desk.settle" "settle" s_Desk_settle ["self", "letter", "mark"] f fd
  m_Desk_first : ∃ f fd, MethAt K c.Desk "Desk.first" "first" s_Desk_first ["self"] f fd
  m_Desk_hand_over : ∃ f fd, MethAt K c.Desk "Desk.hand_over" "hand_over" s_Desk_hand_over ["self"] f fd
  m_Desk_waiting : ∃ f fd, MethAt K c.Desk "Desk.waiting" "waiting" s_Desk_waiting ["self"] f fd
  m_Desk_handed : ∃ f fd, MethAt K c.Desk "Desk.handed" "handed" s_Desk_handed ["self"] f fd
  na_Desk_hand : NoAttr K c.Desk "hand"
  na_Desk_time : NoAttr K c.Desk "time"
  na_Desk_known : NoAttr K c.Desk "known"
  na_Desk_marked : NoAttr K c.Desk "marked"
  na_Desk_done : NoAttr K c.Desk "done"
  na_Desk_row : NoAttr K c.Desk "row"
  mn_max : mg "max" = none
  mn_list : mg "list" = none
  mn_isinstance : mg "isinstance" = none
  mn_int : mg "int" = none
  mn_bool : mg "bool" = none
  mn_len : mg "len" = none
  mn_tuple : mg "tuple" = none
  mn_ValueError : mg "ValueError" = none
  mn_all : mg "all" = none
  mn_dict : mg "dict" = none
  mn_zip : mg "zip" = none
  mn_range : mg "range" = none

/-! ## shapes -/
theorem shn_mk {m : Mk} {n : Nat} : ShN (n + 1) (mkD m) := shn_tup fun d hd => by
  rcases List.mem_cons.mp hd with rfl | hd
  · exact shn_int
  · rcases List.mem_cons.mp hd with rfl | hd
    · exact shn_int
    · cases hd
theorem sh_mk {m : Mk} : SeqAt.shaped (mkD m) = true := (shn_mk (n := 0)).sh (by decide)
theorem sh_mks {ms : List Mk} : SeqAt.shaped (.list (ms.map mkD)) = true := ShN.sh (n := 2) (shn_list fun d hd => by
  obtain ⟨m, _, rfl⟩ := List.mem_map.mp hd
  exact shn_mk) (by decide)
theorem sh_bls {bs : List Bool} : SeqAt.shaped (.list (bs.map PyData.bool)) = true := ShN.sh (n := 1) (shn_list fun d hd => by
  obtain ⟨m, _, rfl⟩ := List.mem_map.mp hd
  exact shn_bl) (by decide)
theorem sh_b3 {a b c : Bool} : SeqAt.shaped (.list [.bool a, .bool b, .bool c]) = true := sh_bls (bs := [a, b, c])
local macro_rules | `(tactic| tm_at "sh") => `(tactic| first | exact sh_mk | exact sh_mks | exact sh_b3)

section
variable {P : Program} {w : World} {K : PySem.W.Frag} {mg : Str → Option Value} {base : Heap} {c : Cs}
def mless (a b : Mk) : Bool := decide (a.1 < b.1) || (a.1 == b.1 && decide (a.2 < b.2))
def sp_less (K : PySem.W.Frag) : Sp := spF K (fun x : Mk × Mk => [mkD x.1, mkD x.2]) (fun _ => True) (fun x => .bool (mless x.1 x.2))
theorem at_less (a b : Mk) : SpD K (sp_less K) [mkD a, mkD b] (.bool (mless a b)) := spF_at (a, b) trivial
theorem ok_less (T : Tx K mg c) : DefOk P w K mg base CX0 1 "less" ["one", "other"] (sp_less K) := by
  obtain ⟨f, fd, d⟩ := T.d_less
  refine d.ok (d.F.ok sc_less (fun vs H Q E h => spF_len h fun _ => rfl) fun cdv A outer s H vs Q E hr h => ?_)
  obtain ⟨A0, ⟨a, b⟩, _, s0, ha, k⟩ := h
  obtain ⟨v1, v2, rfl, h1, h2⟩ := dpa2 ha
  have nd := sc_less.nd
  refine ⟨_, (pss_one (ps_ret (pe_or (pe_cmpR op_lt (pe_ix (ixT (K := K) rfl) (pv 0) pe_int (fun _ _ => rfl)) (pe_ix (ixT (K := K) rfl) (pv 1) pe_int (fun _ _ => rfl)) (nomark _)) (pe_one (pe_and (pe_cmpR op_eq (pe_ix (ixT (K := K) rfl) (pv 0) pe_int (fun _ _ => rfl)) (pe_ix (ixT (K := K) rfl) (pv 1) pe_int (fun _ _ => rfl)) (nomark _)) (pe_one (pe_cmpR op_lt (pe_ix (ixT (K := K) rfl) (pv 0) pe_int (fun _ _ => rfl)) (pe_ix (ixT (K := K) rfl) (pv 1) pe_int (fun _ _ => rfl)) (nomark _)))))))), ?_⟩
  try dsimp only [cx_K]
  exact s_retK K s0 (by tm_at "ed") (by rfl) k
end
local macro_rules | `(tactic| tm_at "fn") => `(tactic| exact at_less _ _)

/-! ## of what kind an error is -/
def kindNames : List Str := ["BadCount",
  "NoHand", "NoLetter", "NoMail", "Twice",
  "NotOpen", "BadMark", "NoNote"]
def onlyB (j : Nat) (x : Str) : Bool := PyData.eqv (.list ([0, 1, 2, 3, 4, 5, 6, 7].map fun q : Nat => PyData.bool (q == j))) (.list (kindNames.map fun n => .bool (n == x)))
def isSF (x : Str) : D → D
  | .str n => .bool (n == x)
  | d => d
section
variable {P : Program} {w : World} {K : PySem.W.Frag} {mg : Str → Option Value} {base : Heap} {c : Cs}
def sp_only (K : PySem.W.Frag) (c : Cs) : Addr → Value → Option Addr → Sp := fun a cls d vs H Q _ => ∃ A D j x, cls = .ref D ∧ d = none ∧ ExcD K c D j ∧ vs = [.ref a, .str x] ∧ Ex A H ∧ ∀ v A' B', Pr A H A' B' → Dp K A' v (.bool (onlyB j x)) → Q v B'
theorem ed_only {a D : Addr} {j : Nat} {x : Str} {σ : L2.St} {i : Nat} {tw : TE} {E : L2.St → XK} {H : Hp} (hD : ExcD K c D j) (hσ : σ[i]? = some (some (.ref a))) (hw : EvD K tw σ H (.str x)) : EvD K (tCallS (sp_only K c a (.ref D) none) E (tCons (tVar i) (tCons tw tNil))) σ H (.bool (onlyB j x)) :=
  fun A B e s Q q => ⟨_, hσ, hw A B e s _ fun v A1 B1 P1 hv => by
    cases hv
    exact ⟨A1, D, j, x, rfl, rfl, hD, rfl, P1.s, fun v A' B' P => q v A' B' (P1.trans P)⟩⟩
local macro_rules | `(tactic| tm_at "ed") => `(tactic| ((with_reducible apply ed_isE); exact rfl; (first | exact ClsV.own _ | exact ClsV.ty _); assumption))
theorem ok_only (T : Tx K mg c) : DefP P w K mg base CX0 1 "_law_only" ["_law_error", "_law_word_here"] (sp_only K c) := by
  obtain ⟨f, fd, dd⟩ := T.d_law_only
  refine dd.okP (fnP dd.F sc_law_only (fun a cls d vs H Q E h => ?_) fun cdv A outer z H vs Q E p hot hr h => ?_)
  · obtain ⟨_, _, _, _, _, _, _, e, _⟩ := h
    rw [e]
    rfl
  obtain ⟨A0, D, j, x, h1, h2, hD, rfl, s0, k⟩ := h
  have nd := sc_law_only.nd
  have hz : Zc (.ref D) none p.2 := ⟨h1, h2⟩
  have hf : ∃ vs, p.2.data = .fields vs := let ⟨u, e, _⟩ := hot.2; ⟨u, e⟩
  have hC := hD.i
  refine ⟨_, (pss_cons (ps_set (i := 2) nd rfl (Or.inl rfl) (pe_lst (pa_cons (pe_callB (c_isHK (K := K) (p := p) rfl hC List.mem_cons_self hz hf) rfl T.mn_isinstance (by decide +kernel) (pa_cons (pv 0) (pa_cons (pe_glob (v := .ref c.BadCount) rfl T.x_BadCount.g rfl) pa_nil))) (pa_cons (pe_callB (c_isHK (K := K) (p := p) rfl hC List.mem_cons_self hz hf) rfl T.mn_isinstance (by decide +kernel) (pa_cons (pv 0) (pa_cons (pe_glob (v := .ref c.NoHand) rfl T.x_NoHand.g rfl) pa_nil))) (pa_cons (pe_callB (c_isHK (K := K) (p := p) rfl hC List.mem_cons_self hz hf) rfl T.mn_isinstance (by decide +kernel) (pa_cons (pv 0) (pa_cons (pe_glob (v := .ref c.NoLetter) rfl T.x_NoLetter.g rfl) pa_nil))) pa_nil)))))
      (pss_cons (ps_expr (pe_bm PySem.F.plainAttrs_list PySem.F.slot_list_append PySem.F.type_list_append mt_append (pv 2) (pa_cons (pe_callB (c_isHK (K := K) (p := p) rfl hC List.mem_cons_self hz hf) rfl T.mn_isinstance (by decide +kernel) (pa_cons (pv 0) (pa_cons (pe_glob (v := .ref c.NoMail) rfl T.x_NoMail.g rfl) pa_nil))) pa_nil)))
      (pss_cons (ps_set (i := 2) nd rfl (Or.inl rfl) (pe_op op_cat (pv 2) (pe_lst (pa_cons (pe_callB (c_isHK (K := K) (p := p) rfl hC List.mem_cons_self hz hf) rfl T.mn_isinstance (by decide +kernel) (pa_cons (pv 0) (pa_cons (pe_glob (v := .ref c.Twice) rfl T.x_Twice.g rfl) pa_nil))) (pa_cons (pe_callB (c_isHK (K := K) (p := p) rfl hC List.mem_cons_self hz hf) rfl T.mn_isinstance (by decide +kernel) (pa_cons (pv 0) (pa_cons (pe_glob (v := .ref c.NotOpen) rfl T.x_NotOpen.g rfl) pa_nil))) (pa_cons (pe_callB (c_isHK (K := K) (p := p) rfl hC List.mem_cons_self hz hf) rfl T.mn_isinstance (by decide +kernel) (pa_cons (pv 0) (pa_cons (pe_glob (v := .ref c.BadMark) rfl T.x_BadMark.g rfl) pa_nil))) pa_nil))))))
      (pss_cons (ps_set (i := 3) nd rfl (Or.inl rfl) (pe_lst (pa_cons pe_str (pa_cons pe_str (pa_cons pe_str (pa_cons pe_str (pa_cons pe_str (pa_cons pe_str (pa_cons pe_str (pa_cons pe_str pa_nil))))))))))
      (pss_cons (ps_expr (pe_bm PySem.F.plainAttrs_list PySem.F.slot_list_append PySem.F.type_list_append mt_append (pv 2) (pa_cons (pe_callB (c_isHK (K := K) (p := p) rfl hC List.mem_cons_self hz hf) rfl T.mn_isinstance (by decide +kernel) (pa_cons (pv 0) (pa_cons (pe_glob (v := .ref c.NoNote) rfl T.x_NoNote.g rfl) pa_nil))) pa_nil)))
      (pss_one (ps_ret (pe_and (pe_callB (c_isHK (K := K) (p := p) rfl hC List.mem_cons_self hz hf) rfl T.mn_isinstance (by decide +kernel) (pa_cons (pv 0) (pa_cons (pe_ty (T := "ValueError") rfl T.mn_ValueError (by decide +kernel)) pa_nil))) (pe_one (pe_cmpR (o_eqD (K := K) rfl (huH hr)) (pv 2) (pe_lcH (own := [("_law_name", 4)]) (g := gName 4) (hotC_mk hot List.mem_cons_self) nd (pv 3) (blkOk_by (own := [("_law_name", 4)]) (N := ["_law_error", "_law_word_here", "_law_kinds", "_law_names", "_law_name"]) (sc := defScope s_law_only) (by decide +kernel)) (fun _ _ _ _ _ => pg_name (i := 4) nd rfl (Or.inl rfl)) (fun _ _ _ _ _ => pts_nil) (fun _ _ _ _ _ => (pe_cmpR op_eq (pv 4) (pv 1) (nomark _)))) (nomark _))))))))))), ?_⟩
  try dsimp only [cx_KH]
  have k0 := hD.k0; have k1 := hD.k1; have k2 := hD.k2; have k3 := hD.k3; have k4 := hD.k4; have k5 := hD.k5; have k6 := hD.k6; have k7 := hD.k7; have kv := hD.v
  refine q_asgN K s0 (by tm_at "en") fun p1 xs1 A1 B1 hn1 P1 hA1 hB1 ha1 => ?_
  have z1 : xs1.length = 3 := dpa_len ha1
  refine q_appD K P1.s rfl hB1 (by omega) (by tm_at "ed") fun v2 A2 B2 P2 hv2 => ?_
  have n2 := (P2.owned hA1 hB1).1
  have Q2 := (P1.trans P2).appfrz (o := .lst (xs1 ++ [v2])) hn1 n2
  have a2 := dpa_ex (Ex.new n2 (o := .lst (xs1 ++ [v2]))) (dpa_app (dpa_ex P2.a ha1) (.cons hv2 .nil))
  refine q_asgN K Q2.s (en_cat (ek_var rfl upd_same a2) (ek_n (by tm_at "en")) (by show 4 + 3 ≤ 100000; decide)) fun p3 xs3 A3 B3 hn3 P3 hA3 hB3 ha3 => ?_
  have z3 : xs3.length = 7 := dpa_len ha3
  refine q_asgD K P3.s (by tm_at "ed") fun v4 A4 B4 P4 hv4 => ?_
  obtain ⟨o4, b4⟩ := P4.owned hA3 hB3
  refine q_appD K P4.s rfl b4 (by omega) (by tm_at "ed") fun v5 A5 B5 P5 hv5 => ?_
  have n5 := (P5.owned o4 b4).1
  have Q5 := (((Q2.trans P3).trans P4).trans P5).appfrz (o := .lst (xs3 ++ [v5])) (fresh_back Q2.b hn3) n5
  have e5 := Ex.new n5 (o := .lst (xs3 ++ [v5]))
  have a5 := dpa_ex e5 (dpa_app (dpa_ex (P4.a.trans P5.a) ha3) (.cons hv5 .nil))
  have hv4' := dp_ex (P5.a.trans e5) hv4
  refine s_retK K (d' := .bool (onlyB j x)) Q5.s (ed_and (a := true) (by tm_at "ed") fun _ => ed_eqD (ed_var rfl (Dp.lst (sq_of upd_same) a5)) (ed_n (en_lcL1 (isSF x) (ed_var rfl hv4') (by decide) (fun _ => rfl) fun d hd v H1 ex hv => ?e)) ?s1 ?s2) (by rfl) fun v A' B' P hv => k v A' B' (Q5.trans P) hv
  case e =>
    simp only [List.mem_cons, List.not_mem_nil, or_false] at hd
    rcases hd with rfl | rfl | rfl | rfl | rfl | rfl | rfl | rfl <;> exact ed_eqs (ed_var rfl hv) (ed_var rfl (.str _))
  case s1 => exact sh_bls (bs := [_, _, _, _, _, _, _, _])
  case s2 => exact sh_bls (bs := [_, _, _, _, _, _, _, _])
end

/-! ## a desk -/
/-- where a desk's things stand -/
structure DP where
  a : Addr
  dx : Addr
  k : Addr
  m : Addr
  d : Addr
  r : Addr
def DP.foot (p : DP) : List Addr := [p.a, p.k, p.m, p.d, p.r]
/-- what it holds -/
structure DS where
  hand : Int
  time : Int
  known : List Int
  marked : List (Int × Mk)
  done : List Int
  row : List Int
def deskFs (p : DP) (s : DS) : List (Str × V) := [("hand", .int s.hand), ("time", .int s.time), ("known", .ref p.k), ("marked", .ref p.m), ("done", .ref p.d), ("row", .ref p.r)]
def flags (l : List Int) : List (Key × V) := l.map fun i => (.inl i, .bl true)
def MkKvs (K : PySem.W.Frag) (A : Hp) (kvs : List (Key × V)) (l : List (Int × Mk)) : Prop := Paired (fun kv e => kv.1 = .inl e.1 ∧ Dp K A kv.2 (mkD e.2)) kvs l
structure DeskAt (K : PySem.W.Frag) (C : Addr) (A B : Hp) (p : DP) (s : DS) : Prop where
  ia : B p.a = some (.ins C p.dx (deskFs p s))
  ik : B p.k = some (.dK (flags s.known))
  im : ∃ kvs, B p.m = some (.dK kvs) ∧ MkKvs K A kvs s.marked
  id : B p.d = some (.dK (flags s.done))
  ir : B p.r = some (.lst (s.row.map V.int))
  nd : p.foot.Nodup
  na : ∀ x ∈ p.foot, A x = none
/-! its dicts -/
theorem flags_val (i : Int) : ∀ l : List Int, (valV (flags l) (.inl i)).isSome = decide (i ∈ l)
  | [] => rfl
  | x :: r => by
    have ih := flags_val i r
    by_cases h : x = i
    · subst h
      rw [show flags (x :: r) = (Sum.inl x, V.bl true) :: flags r from rfl, valV_pos rfl]
      simp
    · rw [show flags (x :: r) = (Sum.inl x, V.bl true) :: flags r from rfl, valV_neg (fun z => h (Sum.inl.inj z)), ih]
      simp [List.mem_cons, Ne.symm h]
theorem flags_put {i : Int} {l : List Int} (h : i ∉ l) : putK (flags l) (.inl i) (.bl true) = flags (l ++ [i]) := by
  have e := valV_any (.inl i) (flags l)
  rw [flags_val, decide_eq_false h] at e
  unfold putK
  rw [e]
  simp [flags]
/-- the mark of a letter -/
def lkM (l : List (Int × Mk)) (i : Int) : Option Mk := (l.find? fun e => decide (e.1 = i)).map (·.2)
def putM (l : List (Int × Mk)) (i : Int) (m : Mk) : List (Int × Mk) := if (l.any fun e => decide (e.1 = i)) = true then l.map (fun e => if e.1 = i then (e.1, m) else e) else l ++ [(i, m)]
def dropM (l : List (Int × Mk)) (i : Int) : List (Int × Mk) := l.filter fun e => decide (e.1 ≠ i)
theorem MkKvs.mono {K : PySem.W.Frag} {A A' : Hp} (e : Ex A A') : ∀ {kvs : List (Key × V)} {l : List (Int × Mk)}, MkKvs K A kvs l → MkKvs K A' kvs l
  | _, _, .nil => .nil
  | _, _, .cons h t => .cons ⟨h.1, dp_ex e h.2⟩ (MkKvs.mono e t)
theorem MkKvs.lk {K : PySem.W.Frag} {A : Hp} {i : Int} : ∀ {kvs : List (Key × V)} {l : List (Int × Mk)}, MkKvs K A kvs l → ∀ {m : Mk}, lkM l i = some m → ∃ v, valV kvs (.inl i) = some v ∧ Dp K A v (mkD m)
  | _, _, .nil, m, h => by cases h
  | _, _, .cons (a := kv) (b := e) (l₁ := r) (l₂ := s) hh t, m, h => by
    obtain ⟨k, v⟩ := kv
    obtain ⟨h1, h2⟩ := hh
    dsimp only at h1 h2
    subst h1
    by_cases q : e.1 = i
    · refine ⟨v, by rw [valV_pos (by rw [q])], ?_⟩
      have : lkM (e :: s) i = some e.2 := by simp [lkM, List.find?_cons, q]
      rw [this] at h
      cases h
      exact h2
    · have : lkM (e :: s) i = lkM s i := by simp [lkM, List.find?_cons, q]
      rw [this] at h
      obtain ⟨v', e1, e2⟩ := MkKvs.lk t h
      exact ⟨v', by rw [valV_neg (fun z => q (Sum.inl.inj z))]; exact e1, e2⟩
theorem MkKvs.some {K : PySem.W.Frag} {A : Hp} {i : Int} : ∀ {kvs : List (Key × V)} {l : List (Int × Mk)}, MkKvs K A kvs l → (valV kvs (.inl i)).isSome = (lkM l i).isSome
  | _, _, .nil => rfl
  | _, _, .cons (a := kv) (b := e) (l₁ := r) (l₂ := s) hh t => by
    obtain ⟨k, v⟩ := kv
    obtain ⟨h1, h2⟩ := hh
    dsimp only at h1 h2
    subst h1
    by_cases q : e.1 = i
    · rw [valV_pos (by rw [q])]
      simp [lkM, List.find?_cons, q]
    · rw [valV_neg (fun z => q (Sum.inl.inj z)), MkKvs.some t]
      simp [lkM, List.find?_cons, q]
theorem MkKvs.any {K : PySem.W.Frag} {A : Hp} {i : Int} : ∀ {kvs : List (Key × V)} {l : List (Int × Mk)}, MkKvs K A kvs l → (kvs.any fun kv => decide (kv.1 = Sum.inl i)) = (l.any fun e => decide (e.1 = i))
  | _, _, .nil => rfl
  | _, _, .cons hh t => by
    rw [List.any_cons, List.any_cons, MkKvs.any t, hh.1]
    congr 1
    exact decide_eq_decide.mpr ⟨fun z => Sum.inl.inj z, fun z => by rw [z]⟩
theorem MkKvs.len {K : PySem.W.Frag} {A : Hp} {kvs : List (Key × V)} {l : List (Int × Mk)} (h : MkKvs K A kvs l) : kvs.length = l.length := Paired.length h
theorem lk_put (i : Int) (m : Mk) : ∀ l : List (Int × Mk), lkM (putM l i m) i = some m := by
  intro l
  unfold putM
  by_cases q : (l.any fun e => decide (e.1 = i)) = true
  · rw [if_pos q]
    induction l with
    | nil => cases q
    | cons e r ih =>
      rw [List.map_cons]
      by_cases z : e.1 = i
      · simp [lkM, z]
      · rw [List.any_cons, decide_eq_false z, Bool.false_or] at q
        have := ih q
        simp only [lkM, if_neg z, List.find?_cons, decide_eq_false z] at this ⊢
        exact this
  · rw [if_neg q]
    have hn : l.find? (fun e => decide (e.1 = i)) = none := by
      rw [List.find?_eq_none]
      intro x hx h
      exact q (List.any_eq_true.mpr ⟨x, hx, h⟩)
    simp [lkM, List.find?_append, hn]
theorem paired_snoc {α β : Type} {R : α → β → Prop} {x : α} {y : β} (hr : R x y) : ∀ {xs : List α} {ys : List β}, Paired R xs ys → Paired R (xs ++ [x]) (ys ++ [y])
  | _, _, .nil => .cons hr .nil
  | _, _, .cons h t => .cons h (paired_snoc hr t)
theorem MkKvs.put {K : PySem.W.Frag} {A : Hp} {i : Int} {v : V} {m : Mk} {kvs : List (Key × V)} {l : List (Int × Mk)} (h : MkKvs K A kvs l) (hv : Dp K A v (mkD m)) : MkKvs K A (putK kvs (.inl i) v) (putM l i m) := by
  unfold putK putM
  rw [h.any]
  by_cases q : (l.any fun e => decide (e.1 = i)) = true
  · rw [if_pos q, if_pos q]
    clear q
    induction h with
    | nil => exact .nil
    | @cons kv e r s hh t ih =>
      refine .cons ?_ ih
      show (if kv.1 = Sum.inl i then (kv.1, v) else kv).1 = Sum.inl (if e.1 = i then (e.1, m) else e).1 ∧ Dp K A (if kv.1 = Sum.inl i then (kv.1, v) else kv).2 (mkD (if e.1 = i then (e.1, m) else e).2)
      by_cases z : e.1 = i
      · rw [if_pos (by rw [hh.1, z]), if_pos z]
        exact ⟨hh.1, hv⟩
      · rw [if_neg (by rw [hh.1]; exact fun y => z (Sum.inl.inj y)), if_neg z]
        exact hh
  · rw [if_neg q, if_neg q]
    exact paired_snoc ⟨rfl, hv⟩ h
theorem MkKvs.drop {K : PySem.W.Frag} {A : Hp} {i : Int} {kvs : List (Key × V)} {l : List (Int × Mk)} (h : MkKvs K A kvs l) : MkKvs K A (dropK kvs (.inl i)) (dropM l i) := by
  unfold dropK dropM
  induction h with
  | nil => exact .nil
  | @cons kv e r s hh t ih =>
    by_cases z : e.1 = i
    · rw [List.filter_cons_of_neg (by rw [hh.1, z]; simp), List.filter_cons_of_neg (by simp [z])]
      exact ih
    · rw [List.filter_cons_of_pos (by rw [hh.1]; simpa using z), List.filter_cons_of_pos (by simpa using z)]
      exact .cons hh ih
theorem MkKvs.keys {K : PySem.W.Frag} {A : Hp} : ∀ {kvs : List (Key × V)} {l : List (Int × Mk)}, MkKvs K A kvs l → (kvs.map fun kv => kV kv.1) = (l.map (·.1)).map V.int
  | _, _, .nil => rfl
  | _, _, .cons hh t => by
    rw [List.map_cons, List.map_cons, List.map_cons, MkKvs.keys t, hh.1]
    rfl
section
variable {K : PySem.W.Frag} {C : Addr} {A B A' B' : Hp} {p : DP} {s : DS} {F : Addr → Prop}
theorem DeskAt.mono (D : DeskAt K C A B p s) (P : PrM F A B A' B') (h : ∀ x ∈ p.foot, ¬ F x) : DeskAt K C A' B' p s := by
  have f1 : p.a ∈ p.foot := by simp [DP.foot]
  have f2 : p.k ∈ p.foot := by simp [DP.foot]
  have f3 : p.m ∈ p.foot := by simp [DP.foot]
  have f4 : p.d ∈ p.foot := by simp [DP.foot]
  have f5 : p.r ∈ p.foot := by simp [DP.foot]
  obtain ⟨kvs, e3, hk⟩ := D.im
  refine ⟨P.b _ _ (h _ f1) D.ia, P.b _ _ (h _ f2) D.ik, ⟨kvs, P.b _ _ (h _ f3) e3, hk.mono P.a⟩, P.b _ _ (h _ f4) D.id, P.b _ _ (h _ f5) D.ir, D.nd, fun x hx => P.n x (D.na x hx) ?_⟩
  simp only [DP.foot, List.mem_cons, List.not_mem_nil, or_false] at hx
  rcases hx with rfl | rfl | rfl | rfl | rfl
  · rw [D.ia]; simp
  · rw [D.ik]; simp
  · rw [e3]; simp
  · rw [D.id]; simp
  · rw [D.ir]; simp
theorem DeskAt.pr (D : DeskAt K C A B p s) (P : Pr A B A' B') : DeskAt K C A' B' p s := D.mono (F := fun _ => False) P.m fun _ _ z => z
theorem DeskAt.up (D : DeskAt K C A B p s) (e : Ex A B) (h : Ex B B') : DeskAt K C A B' p s := D.pr (Pr.up e h)
theorem DeskAt.ne (D : DeskAt K C A B p s) : p.a ≠ p.k ∧ p.a ≠ p.m ∧ p.a ≠ p.d ∧ p.a ≠ p.r ∧ p.k ≠ p.m ∧ p.k ≠ p.d ∧ p.k ≠ p.r ∧ p.m ≠ p.d ∧ p.m ≠ p.r ∧ p.d ≠ p.r := by
  have h := D.nd
  simp only [DP.foot, List.nodup_cons, List.mem_cons, List.not_mem_nil, or_false, not_or, not_false_eq_true, List.nodup_nil, and_true] at h
  obtain ⟨⟨h1, h2, h3, h4⟩, ⟨h5, h6, h7⟩, ⟨h8, h9⟩, h10⟩ := h
  exact ⟨h1, h2, h3, h4, h5, h6, h7, h8, h9, h10⟩
end

end K3

namespace K3
open PySem L2 Evl Ob

local macro_rules | `(tactic| tm_at "sh") => `(tactic| first | exact sh_mk | exact sh_mks | exact sh_b3)

section
variable {P : Program} {w : World} {K : PySem.W.Frag} {mg : Str → Option Value} {base : Heap} {c : Cs}
/-! a new desk -/
def sp_mkDesk (K : PySem.W.Frag) (C : Addr) : Sp := fun vs H Q _ => ∃ A a dx h, vs = [.ref a, .int h] ∧ Ex A H ∧ H a = some (.ins C dx []) ∧ A a = none ∧
  ∀ p H', p.a = a → PrM (fun x => x = a) A H A H' → (∀ x ∈ p.foot, x = a ∨ H x = none) → DeskAt K C A H' p ⟨h, 0, [], [], [], []⟩ → Q .non H'
theorem ok_Desk_init (T : Tx K mg c) : MkOk P w K mg base (L2N.CX P w) 1 c.Desk ["self", "hand"] (sp_mkDesk K c.Desk) := by
  obtain ⟨f, fd, mk, F, b⟩ := T.k_Desk
  refine ⟨f, fd, mk, b, okN F sc_Desk___init__ (fun vs H Q E h => ?_) fun cdv A outer s H vs Q E hr h => ?_⟩
  · obtain ⟨_, _, _, _, e, _⟩ := h
    rw [e]
    rfl
  obtain ⟨A0, a, dx, hh, rfl, s0, hB, nA, k⟩ := h
  have nd := sc_Desk___init__.nd
  refine ⟨_, (pss_cons (ps_fld (pv 0) (pv 1) rfl)
      (pss_cons (ps_fld (pv 0) pe_int rfl)
      (pss_cons (ps_fld (pv 0) pe_dnewK rfl)
      (pss_cons (ps_fld (pv 0) pe_dnewK rfl)
      (pss_cons (ps_fld (pv 0) pe_dnewK rfl)
      (pss_one (ps_fld (pv 0) (pe_lst pa_nil) rfl))))))), ?_⟩
  try dsimp only [cx_K2]
  have P0 : PrM (fun x => x = a) A0 H A0 H := PrM.refl s0
  refine q_do (s_fldV K (ev_var rfl) (ev_var rfl) hB T.c_Desk T.na_Desk_hand (by decide) fun B1 e1 => go_nx ?_)
  have P1 := (P0.up e1).put (l := a) (o := .ins c.Desk dx (putF "hand" (.int hh) [])) (.inl rfl) nA
  generalize hH1 : upd B1 a (.ins c.Desk dx (putF "hand" (.int hh) [])) = H1 at P1 ⊢
  have g1 : H1 a = some (.ins c.Desk dx (putF "hand" (.int hh) [])) := by rw [← hH1]; exact upd_same
  refine q_do (s_fldV K ev_c (ev_var rfl) g1 T.c_Desk T.na_Desk_time (by show 1 < 1000; decide) fun B2 e2 => go_nx ?_)
  have P2 := (P1.up e2).put (l := a) (o := .ins c.Desk dx (putF "time" (.int 0) (putF "hand" (.int hh) []))) (.inl rfl) nA
  generalize hH2 : upd B2 a (.ins c.Desk dx (putF "time" (.int 0) (putF "hand" (.int hh) []))) = H2 at P2 ⊢
  have g2 : H2 a = some (.ins c.Desk dx (putF "time" (.int 0) (putF "hand" (.int hh) []))) := by rw [← hH2]; exact upd_same
  refine q_do (s_fldD K (ev_var rfl) g2 T.c_Desk T.na_Desk_known (by show 2 < 1000; decide) fun p3 B3 hp3 e3 => go_nx ?_)
  have n3 : p3 ≠ a := fun z => by rw [z, g2] at hp3; cases hp3
  have P3 := ((P2.new (o := .dK []) hp3).up e3).put (l := a) (o := .ins c.Desk dx (putF "known" (.ref p3) (putF "time" (.int 0) (putF "hand" (.int hh) [])))) (.inl rfl) nA
  have f3 : (upd B3 a (.ins c.Desk dx (putF "known" (.ref p3) (putF "time" (.int 0) (putF "hand" (.int hh) []))))) p3 = some (.dK []) := by rw [upd_ne n3]; exact e3 _ _ upd_same
  generalize hH3 : upd B3 a (.ins c.Desk dx (putF "known" (.ref p3) (putF "time" (.int 0) (putF "hand" (.int hh) [])))) = H3 at P3 f3 ⊢
  have g3 : H3 a = some (.ins c.Desk dx (putF "known" (.ref p3) (putF "time" (.int 0) (putF "hand" (.int hh) [])))) := by rw [← hH3]; exact upd_same
  refine q_do (s_fldD K (ev_var rfl) g3 T.c_Desk T.na_Desk_marked (by show 3 < 1000; decide) fun p4 B4 hp4 e4 => go_nx ?_)
  have n4 : p4 ≠ a := fun z => by rw [z, g3] at hp4; cases hp4
  have n43 : p4 ≠ p3 := fun z => by rw [z, f3] at hp4; cases hp4
  have P4 := ((P3.new (o := .dK []) hp4).up e4).put (l := a) (o := .ins c.Desk dx (putF "marked" (.ref p4) (putF "known" (.ref p3) (putF "time" (.int 0) (putF "hand" (.int hh) []))))) (.inl rfl) nA
  have f4 : (upd B4 a (.ins c.Desk dx (putF "marked" (.ref p4) (putF "known" (.ref p3) (putF "time" (.int 0) (putF "hand" (.int hh) [])))))) p4 = some (.dK []) := by rw [upd_ne n4]; exact e4 _ _ upd_same
  have f43 : (upd B4 a (.ins c.Desk dx (putF "marked" (.ref p4) (putF "known" (.ref p3) (putF "time" (.int 0) (putF "hand" (.int hh) [])))))) p3 = some (.dK []) := by rw [upd_ne n3]; exact e4 _ _ (by rw [upd_ne (Ne.symm n43)]; exact f3)
  generalize hH4 : upd B4 a (.ins c.Desk dx (putF "marked" (.ref p4) (putF "known" (.ref p3) (putF "time" (.int 0) (putF "hand" (.int hh) []))))) = H4 at P4 f4 f43 ⊢
  have g4 : H4 a = some (.ins c.Desk dx (putF "marked" (.ref p4) (putF "known" (.ref p3) (putF "time" (.int 0) (putF "hand" (.int hh) []))))) := by rw [← hH4]; exact upd_same
  refine q_do (s_fldD K (ev_var rfl) g4 T.c_Desk T.na_Desk_done (by show 4 < 1000; decide) fun p5 B5 hp5 e5 => go_nx ?_)
  have n5 : p5 ≠ a := fun z => by rw [z, g4] at hp5; cases hp5
  have n53 : p5 ≠ p3 := fun z => by rw [z, f43] at hp5; cases hp5
  have n54 : p5 ≠ p4 := fun z => by rw [z, f4] at hp5; cases hp5
  have P5 := ((P4.new (o := .dK []) hp5).up e5).put (l := a) (o := .ins c.Desk dx (putF "done" (.ref p5) (putF "marked" (.ref p4) (putF "known" (.ref p3) (putF "time" (.int 0) (putF "hand" (.int hh) [])))))) (.inl rfl) nA
  have up5 : ∀ x u, x ≠ a → x ≠ p5 → H4 x = some u → (upd B5 a (.ins c.Desk dx (putF "done" (.ref p5) (putF "marked" (.ref p4) (putF "known" (.ref p3) (putF "time" (.int 0) (putF "hand" (.int hh) []))))))) x = some u := fun x u na np e => by
    rw [upd_ne na]; exact e5 _ _ (by rw [upd_ne np]; exact e)
  have f5 : (upd B5 a (.ins c.Desk dx (putF "done" (.ref p5) (putF "marked" (.ref p4) (putF "known" (.ref p3) (putF "time" (.int 0) (putF "hand" (.int hh) []))))))) p5 = some (.dK []) := by rw [upd_ne n5]; exact e5 _ _ upd_same
  have f53 := up5 p3 _ n3 (Ne.symm n53) f43
  have f54 := up5 p4 _ n4 (Ne.symm n54) f4
  generalize hH5 : upd B5 a (.ins c.Desk dx (putF "done" (.ref p5) (putF "marked" (.ref p4) (putF "known" (.ref p3) (putF "time" (.int 0) (putF "hand" (.int hh) [])))))) = H5 at P5 f5 f53 f54 ⊢
  have g5 : H5 a = some (.ins c.Desk dx (putF "done" (.ref p5) (putF "marked" (.ref p4) (putF "known" (.ref p3) (putF "time" (.int 0) (putF "hand" (.int hh) [])))))) := by rw [← hH5]; exact upd_same
  refine s_fldL K (ev_var rfl) g5 T.c_Desk T.na_Desk_row (by show 5 < 1000; decide) fun p6 B6 hp6 e6 => ?_
  have n6 : p6 ≠ a := fun z => by rw [z, g5] at hp6; cases hp6
  have n63 : p6 ≠ p3 := fun z => by rw [z, f53] at hp6; cases hp6
  have n64 : p6 ≠ p4 := fun z => by rw [z, f54] at hp6; cases hp6
  have n65 : p6 ≠ p5 := fun z => by rw [z, f5] at hp6; cases hp6
  have P6 := ((P5.new (o := .lst []) hp6).up e6).put (l := a) (o := .ins c.Desk dx (putF "row" (.ref p6) (putF "done" (.ref p5) (putF "marked" (.ref p4) (putF "known" (.ref p3) (putF "time" (.int 0) (putF "hand" (.int hh) []))))))) (.inl rfl) nA
  have up6 : ∀ x u, x ≠ a → x ≠ p6 → H5 x = some u → (upd B6 a (.ins c.Desk dx (putF "row" (.ref p6) (putF "done" (.ref p5) (putF "marked" (.ref p4) (putF "known" (.ref p3) (putF "time" (.int 0) (putF "hand" (.int hh) [])))))))) x = some u := fun x u na np e => by
    rw [upd_ne na]; exact e6 _ _ (by rw [upd_ne np]; exact e)
  have fr3 := P2.fresh hp3
  have fr4 := P3.fresh hp4
  have fr5 := P4.fresh hp5
  have fr6 := P5.fresh hp6
  refine k ⟨a, dx, p3, p4, p5, p6⟩ _ rfl P6 (fun x hx => ?_) ⟨upd_same, up6 p3 _ n3 (Ne.symm n63) f53, ⟨[], up6 p4 _ n4 (Ne.symm n64) f54, .nil⟩, up6 p5 _ n5 (Ne.symm n65) f5, ?_, ?_, fun x hx => ?_⟩
  · simp only [DP.foot, List.mem_cons, List.not_mem_nil, or_false] at hx
    rcases hx with rfl | rfl | rfl | rfl | rfl
    · exact .inl rfl
    · exact .inr fr3
    · exact .inr fr4
    · exact .inr fr5
    · exact .inr fr6
  · show (upd B6 a _) p6 = _
    rw [upd_ne n6]
    exact e6 _ _ upd_same
  · simp only [DP.foot, List.nodup_cons, List.mem_cons, List.not_mem_nil, or_false, not_or, not_false_eq_true, List.nodup_nil, and_true]
    exact ⟨⟨Ne.symm n3, Ne.symm n4, Ne.symm n5, Ne.symm n6⟩, ⟨Ne.symm n43, Ne.symm n53, Ne.symm n63⟩, ⟨Ne.symm n54, Ne.symm n64⟩, Ne.symm n65⟩
  · have nH : ∀ y, H y = none → A0 y = none := fun y e => fresh_back s0 e
    simp only [DP.foot, List.mem_cons, List.not_mem_nil, or_false] at hx
    rcases hx with rfl | rfl | rfl | rfl | rfl
    · exact nA
    · exact nH _ fr3
    · exact nH _ fr4
    · exact nH _ fr5
    · exact nH _ fr6
/-! its clock, its row -/
def sp_clock (K : PySem.W.Frag) (C : Addr) : Sp := fun vs H Q _ => ∃ A p s, vs = [.ref p.a] ∧ DeskAt K C A H p s ∧ ∀ H', Ex H H' → Q (.int s.time) H'
theorem ok_clock (T : Tx K mg c) : MethOk P w K mg base (L2N.CX P w) 1 c.Desk "clock" ["self"] (sp_clock K c.Desk) := by
  obtain ⟨f, fd, d⟩ := T.m_Desk_clock
  refine d.ok (okN d.F sc_Desk_clock (fun vs H Q E h => ?_) fun cdv A outer s H vs Q E hr h => ?_)
  · obtain ⟨_, _, _, e, _⟩ := h
    rw [e]
    rfl
  obtain ⟨A0, p, st, rfl, hD, k⟩ := h
  have nd := sc_Desk_clock.nd
  refine ⟨_, (pss_one (ps_ret (pe_fld (pv 0) rfl))), ?_⟩
  try dsimp only [cx_K2]
  exact s_retV (ev_fld (ev_var rfl) hD.ia T.c_Desk T.na_Desk_time rfl) k
def sp_row (K : PySem.W.Frag) (C : Addr) : Sp := fun vs H Q _ => ∃ A p s, vs = [.ref p.a] ∧ DeskAt K C A H p s ∧ ∀ q H', H q = none → Ex H H' → H' q = some (.lst (s.row.map V.int)) → Q (.ref q) H'
theorem ok_row (T : Tx K mg c) : MethOk P w K mg base (L2N.CX P w) 1 c.Desk "handed" ["self"] (sp_row K c.Desk) := by
  obtain ⟨f, fd, d⟩ := T.m_Desk_handed
  refine d.ok (okN d.F sc_Desk_handed (fun vs H Q E h => ?_) fun cdv A outer s H vs Q E hr h => ?_)
  · obtain ⟨_, _, _, e, _⟩ := h
    rw [e]
    rfl
  obtain ⟨A0, p, st, rfl, hD, k⟩ := h
  have nd := sc_Desk_handed.nd
  refine ⟨_, (pss_one (ps_ret (pe_callTy (c_list (K := K) rfl) rfl T.mn_list (by decide +kernel) (pa_cons (pe_fld (pv 0) rfl) pa_nil)))), ?_⟩
  try dsimp only [cx_K2]
  have e : Ev (tFld K (tVar 0) "row") (L2.start ["self"] [V.ref p.a]) H (.ref p.r) := ev_fld (ev_var rfl) hD.ia T.c_Desk T.na_Desk_row rfl
  exact e H (Ex.refl _) _ fun B1 e1 => ⟨p.r, _, rfl, .inl (sq_of (e1 _ _ hD.ir)), fun q hq => k q _ (fresh_back e1 hq) (e1.trans (Ex.new hq)) upd_same⟩
/-! a letter is met -/
def DS.prop (s : DS) (l : Int) : DS := ⟨s.hand, s.time + 1, s.known ++ [l], putM s.marked l (s.time + 1, s.hand), s.done, s.row⟩
def sp_propose (K : PySem.W.Frag) (C Tw : Addr) : Sp := fun vs H Q E => ∃ A p s l, vs = [.ref p.a, .int l] ∧ Ex A H ∧ DeskAt K C A H p s ∧ s.known.length < 90000 ∧ s.marked.length < 90000 ∧
  (l ∉ s.known → ∀ v A' H', PrM (fun x => x ∈ p.foot) A H A' H' → DeskAt K C A' H' p (s.prop l) → Dp K A' v (mkD (s.time + 1, s.hand)) → Q v H') ∧ (l ∈ s.known → ∀ H', Ex H H' → E (.ref Tw) none H')
theorem ok_propose (T : Tx K mg c) : MethOk P w K mg base (L2N.CX P w) 1 c.Desk "propose" ["self", "letter"] (sp_propose K c.Desk c.Twice) := by
  obtain ⟨f, fd, d⟩ := T.m_Desk_propose
  refine d.ok (okN d.F sc_Desk_propose (fun vs H Q E h => ?_) fun cdv A outer s H vs Q E hr h => ?_)
  · obtain ⟨_, _, _, _, e, _⟩ := h
    rw [e]
    rfl
  obtain ⟨A0, p, st, l, rfl, s0, hD, hl1, hl2, k, kx⟩ := h
  have nd := sc_Desk_propose.nd
  refine ⟨_, (pss_cons (ps_if (pt_cmp (pc_din (hu_of hr) (pv 1) (pe_fld (pv 0) rfl))) (pss_one (ps_rs rfl (L2N.takes_of rfl rfl rfl rfl) T.x_Twice rfl)) pss_nil)
      (pss_cons (ps_dput (hu_of hr) (pe_fld (pv 0) rfl) (pv 1) pe_bl rfl)
      (pss_cons (ps_fld (pv 0) (pe_op op_add (pe_fld (pv 0) rfl) pe_int) rfl)
      (pss_cons (ps_dput (hu_of hr) (pe_fld (pv 0) rfl) (pv 1) (pe_tup (pa_cons (pe_fld (pv 0) rfl) (pa_cons (pe_fld (pv 0) rfl) pa_nil))) rfl)
      (pss_one (ps_ret (pe_dget (hu_of hr) (pe_fld (pv 0) rfl) (pv 1) (fun _ _ => rfl)))))))), ?_⟩
  try dsimp only [cx_K2]
  obtain ⟨ne1, ne2, ne3, ne4, ne5, ne6, ne7, ne8, ne9, ne10⟩ := hD.ne
  have f1 : p.a ∈ p.foot := by simp [DP.foot]
  have f2 : p.k ∈ p.foot := by simp [DP.foot]
  have f3 : p.m ∈ p.foot := by simp [DP.foot]
  have hself : ∀ B fs, B p.a = some (.ins c.Desk p.dx fs) → ∀ (f : Str) (v : V), NoAttr K c.Desk f → fs.lookup f = some v → Ev (tFld K (tVar 0) f) (L2.start ["self", "letter"] [V.ref p.a, V.int l]) B v := fun B fs hB f v na hv => ev_fld (ev_var rfl) hB T.c_Desk na hv
  refine q_ifM K (b := decide (l ∈ st.known)) (eb_DB (ed_din (ed_var rfl (.int l)) (hself H _ hD.ia "known" _ T.na_Desk_known rfl) (.inl hD.ik))) (flags_val _ _) (fun hb B1 e1 => ?_) (fun hb B1 e1 => q_next ?_)
  · exact kx (of_decide_eq_true hb) B1 e1
  have hk := of_decide_eq_false hb
  have P1 : PrM (fun x => x ∈ p.foot) A0 H A0 B1 := (PrM.refl s0).up e1
  have D1 := hD.up s0 e1
  refine q_do (s_dput K P1.s (ep_ed ed_bl) (hself B1 _ D1.ia "known" _ T.na_Desk_known rfl) (ed_var rfl (.int l)) D1.ik (by rw [flags, List.length_map]; omega) fun v2 A2 B2 Q2 hv2 => go_nx ?_)
  cases hv2
  rw [flags_put hk]
  have P2 := (P1.pr Q2).put (l := p.k) (o := .dK (flags (st.known ++ [l]))) (.inl f2) ((D1.pr Q2).na _ f2)
  have D2 := D1.pr Q2
  generalize hH2 : upd B2 p.k (.dK (flags (st.known ++ [l]))) = H2 at P2 ⊢
  have i2 : H2 p.a = some (.ins c.Desk p.dx (deskFs p st)) := by rw [← hH2, upd_ne ne1]; exact D2.ia
  have k2 : H2 p.k = some (.dK (flags (st.known ++ [l]))) := by rw [← hH2]; exact upd_same
  obtain ⟨kvs, m2', hm2⟩ := D2.im
  have m2 : H2 p.m = some (.dK kvs) := by rw [← hH2, upd_ne (Ne.symm ne5)]; exact m2'
  have d2 : H2 p.d = some (.dK (flags st.done)) := by rw [← hH2, upd_ne (Ne.symm ne6)]; exact D2.id
  have r2 : H2 p.r = some (.lst (st.row.map V.int)) := by rw [← hH2, upd_ne (Ne.symm ne7)]; exact D2.ir
  refine q_do (s_fldV K (v := .int (st.time + 1)) (v_int (K := K) (ed_Ii (ed_ev (hself H2 _ i2 "time" _ T.na_Desk_time rfl) (.int _)) ed_int)) (ev_var rfl) i2 T.c_Desk T.na_Desk_time (by show 6 < 1000; decide) fun B3 e3 => go_nx ?_)
  have P3 := (P2.up e3).put (l := p.a) (o := .ins c.Desk p.dx (deskFs p { st with time := st.time + 1 })) (.inl f1) (D2.na _ f1)
  have hpf : putF "time" (V.int (st.time + 1)) (deskFs p st) = deskFs p { st with time := st.time + 1 } := rfl
  rw [hpf]
  generalize hH3 : upd B3 p.a (.ins c.Desk p.dx (deskFs p { st with time := st.time + 1 })) = H3 at P3 ⊢
  have i3 : H3 p.a = some (.ins c.Desk p.dx (deskFs p { st with time := st.time + 1 })) := by rw [← hH3]; exact upd_same
  have up3 : ∀ x u, x ≠ p.a → H2 x = some u → H3 x = some u := fun x u n e => by rw [← hH3, upd_ne n]; exact e3 _ _ e
  have k3 := up3 _ _ (Ne.symm ne1) k2
  have m3 := up3 _ _ (Ne.symm ne2) m2
  have d3 := up3 _ _ (Ne.symm ne3) d2
  have r3 := up3 _ _ (Ne.symm ne4) r2
  refine q_do (s_dput K P3.s (ep_tup (epa_cons (ep_i (ed_ev (hself H3 _ i3 "time" _ T.na_Desk_time rfl) (.int _))) (epa_cons (ep_i (ed_ev (hself H3 _ i3 "hand" _ T.na_Desk_hand rfl) (.int _))) epa_nil)) (by show 2 ≤ 100000; decide)) (hself H3 _ i3 "marked" _ T.na_Desk_marked rfl) (ed_var rfl (.int l)) m3 (by rw [hm2.len]; omega) fun v4 A4 B4 Q4 hv4 => go_nx ?_)
  have nm : A4 p.m = none := Q4.n _ (D2.na _ f3) (by rw [m3]; simp)
  have P4 := (P3.pr Q4).put (l := p.m) (o := .dK (putK kvs (.inl l) v4)) (.inl f3) nm
  have hm4 := (hm2.mono Q4.a).put (i := l) (m := (st.time + 1, st.hand)) hv4
  generalize hH4 : upd B4 p.m (.dK (putK kvs (.inl l) v4)) = H4 at P4 ⊢
  have m4 : H4 p.m = some (.dK (putK kvs (.inl l) v4)) := by rw [← hH4]; exact upd_same
  have up4 : ∀ x u, x ≠ p.m → H3 x = some u → H4 x = some u := fun x u n e => by rw [← hH4, upd_ne n]; exact Q4.b _ _ e
  have i4 := up4 _ _ ne2 i3
  have D4 : DeskAt K c.Desk A4 H4 p (st.prop l) := ⟨i4, up4 _ _ ne5 k3, ⟨_, m4, hm4⟩, up4 _ _ (Ne.symm ne8) d3, up4 _ _ (Ne.symm ne9) r3, hD.nd, fun x hx => Q4.n x (D2.na x hx) (P3.f x (by
    simp only [DP.foot, List.mem_cons, List.not_mem_nil, or_false] at hx
    obtain ⟨kv0, e0, _⟩ := hD.im
    rcases hx with rfl | rfl | rfl | rfl | rfl
    · rw [hD.ia]; simp
    · rw [hD.ik]; simp
    · rw [e0]; simp
    · rw [hD.id]; simp
    · rw [hD.ir]; simp))⟩
  have hlk : lkM (putM st.marked l (st.time + 1, st.hand)) l = some (st.time + 1, st.hand) := lk_put _ _ _
  obtain ⟨v5, hv5, hd5⟩ := hm4.lk hlk
  refine s_retV (ev_dget (K := K) (hself H4 _ i4 "marked" _ T.na_Desk_marked rfl) (.inl m4) (ed_var rfl (.int l)) hv5) fun B5 e5 => ?_
  exact k hk v5 A4 B5 (P4.up e5) (D4.up P4.s e5) hd5
end

end K3

namespace K3
open PySem L2 Evl Ob

local macro_rules | `(tactic| tm_at "sh") => `(tactic| first | exact sh_mk | exact sh_mks | exact sh_b3)

/-! ## those that wait, the least mark first -/
/-- the least of some letters by their marks, the first of like ones -/
def bestF (mk : Int → Mk) : Int → List Int → Int
  | b, [] => b
  | b, x :: r => bestF mk (if mless (mk x) (mk b) = true then x else b) r
def bestL (mk : Int → Mk) (l : List Int) : Int := bestF mk (l.headD 0) l
theorem bestF_mem (mk : Int → Mk) : ∀ (l : List Int) (b : Int), bestF mk b l = b ∨ bestF mk b l ∈ l
  | [], _ => .inl rfl
  | x :: r, b => by
    unfold bestF
    by_cases h : mless (mk x) (mk b) = true
    · rw [if_pos h]
      rcases bestF_mem mk r x with e | e
      · rw [e]; exact .inr (by simp)
      · exact .inr (List.mem_cons_of_mem _ e)
    · rw [if_neg h]
      rcases bestF_mem mk r b with e | e
      · exact .inl e
      · exact .inr (List.mem_cons_of_mem _ e)
theorem bestL_mem {mk : Int → Mk} {l : List Int} (h : l ≠ []) : bestL mk l ∈ l := by
  cases l with
  | nil => exact absurd rfl h
  | cons x r =>
    rcases bestF_mem mk (x :: r) x with e | e
    · unfold bestL
      show bestF mk x (x :: r) ∈ _
      rw [e]
      simp
    · exact e
theorem bestF_take (mk : Int → Mk) : ∀ (l : List Int) (b : Int) (i : Nat) (x : Int), l[i]? = some x → bestF mk b (l.take (i + 1)) = (if mless (mk x) (mk (bestF mk b (l.take i))) = true then x else bestF mk b (l.take i))
  | [], _, _, _, h => by simp at h
  | y :: r, b, 0, x, h => by
    simp at h
    subst h
    rfl
  | y :: r, b, i + 1, x, h => bestF_take mk r _ i x (by simpa using h)
/-- the letters by their marks; n: at most so many -/
def orderL (mk : Int → Mk) : Nat → List Int → List Int
  | 0, _ => []
  | n + 1, l => if l = [] then [] else bestL mk l :: orderL mk n (l.erase (bestL mk l))
theorem orderL_succ (mk : Int → Mk) (n : Nat) (l : List Int) : orderL mk (n + 1) l = if l = [] then [] else bestL mk l :: orderL mk n (l.erase (bestL mk l)) := rfl
def mkOf (s : DS) (i : Int) : Mk := (lkM s.marked i).getD (0, 0)
def DS.keys (s : DS) : List Int := s.marked.map (·.1)
def waitD (s : DS) (i : Int) : D := .tuple [mkD (mkOf s i), .int i, .bool (decide (i ∈ s.done))]
def DS.wait (s : DS) : List D := (orderL (mkOf s) s.marked.length s.keys).map (waitD s)
theorem lk_mem {i : Int} : ∀ {l : List (Int × Mk)}, i ∈ l.map (·.1) → ∃ m, lkM l i = some m
  | [], h => by simp at h
  | e :: r, h => by
    by_cases z : e.1 = i
    · exact ⟨e.2, by simp [lkM, List.find?_cons, z]⟩
    · have : i ∈ r.map (·.1) := by
        rw [List.map_cons, List.mem_cons] at h
        exact h.elim (fun q => absurd q.symm z) id
      obtain ⟨m, hm⟩ := lk_mem this
      exact ⟨m, by simpa [lkM, List.find?_cons, z] using hm⟩
theorem first_ix {α : Type} [DecidableEq α] : ∀ {l : List α} {x : α}, x ∈ l → ∃ j, l[j]? = some x ∧ (∀ m, m < j → l[m]? ≠ some x) ∧ l.eraseIdx j = l.erase x
  | [], _, h => by simp at h
  | y :: r, x, h => by
    by_cases e : y = x
    · subst e
      exact ⟨0, rfl, fun m hm => absurd hm (Nat.not_lt_zero m), by simp⟩
    · have hr : x ∈ r := (List.mem_cons.mp h).elim (fun q => absurd q.symm e) id
      obtain ⟨j, h1, h2, h3⟩ := first_ix hr
      refine ⟨j + 1, by simpa using h1, fun m hm => ?_, ?_⟩
      · cases m with
        | zero => simpa using e
        | succ m => simpa using h2 m (by omega)
      · rw [List.eraseIdx_cons_succ, h3, List.erase_cons_tail (by simpa using e)]
section
variable {P : Program} {w : World} {K : PySem.W.Frag} {mg : Str → Option Value} {base : Heap} {c : Cs}
def sp_wait (K : PySem.W.Frag) (C : Addr) : Sp := fun vs H Q _ => ∃ A p s, vs = [.ref p.a] ∧ Ex A H ∧ DeskAt K C A H p s ∧ s.marked.length < 90000 ∧
  ∀ q xs A' H', H q = none → Pr A H A' H' → A' q = none → H' q = some (.lst xs) → DpAll K A' xs s.wait → Q (.ref q) H'
theorem ok_wait (T : Tx K mg c) : MethOk P w K mg base (L2N.CX P w) 2 c.Desk "waiting" ["self"] (sp_wait K c.Desk) := by
  obtain ⟨f, fd, d⟩ := T.m_Desk_waiting
  refine d.ok (okN d.F sc_Desk_waiting (fun vs H Q E h => ?_) fun cdv A outer s H vs Q E hr h => ?_)
  · obtain ⟨_, _, _, e, _⟩ := h
    rw [e]
    rfl
  obtain ⟨A0, p, st, rfl, s0, hD, hl, k⟩ := h
  have nd := sc_Desk_waiting.nd
  have G_less := ok_less (P := P) (w := w) (base := base) T
  refine ⟨_, (pss_cons (ps_set (i := 1) nd rfl (Or.inl rfl) (pe_callTy (call_list_dK rfl) rfl T.mn_list (by decide +kernel) (pa_cons (pe_fld (pv 0) rfl) pa_nil)))
      (pss_cons (ps_set (i := 2) nd rfl (Or.inl rfl) (pe_lst pa_nil))
      (pss_cons (ps_while (passes_of rfl) (pt_cmpR (o_neD (K := K) rfl hr.units) (pv 1) (pe_lst pa_nil) (nomark _)) (pss_cons (ps_set (i := 3) nd rfl (Or.inl rfl) (pe_ix (ixL (K := K) rfl) (pv 1) pe_int (fun _ _ => rfl)))
        (pss_cons (ps_for (passes_of rfl) rfl (pi_list (pv 1)) (pg_name (i := 4) nd rfl (Or.inl rfl)) (pss_one (ps_if (pt_val (pe_cd G_less (hr.mono (by decide)) rfl pass0 (pa_cons (pe_dget (hu_of hr) (pe_fld (pv 0) rfl) (pv 4) (fun _ _ => rfl)) (pa_cons (pe_dget (hu_of hr) (pe_fld (pv 0) rfl) (pv 3) (fun _ _ => rfl)) pa_nil)))) (pss_one (ps_set (i := 3) nd rfl (Or.inl rfl) (pv 4))) pss_nil)))
        (pss_cons (ps_expr (pe_bm PySem.F.plainAttrs_list PySem.F.slot_list_remove PySem.F.type_list_remove mt_remove (pv 1) (pa_cons (pv 3) pa_nil)))
        (pss_one (ps_expr (pe_bm PySem.F.plainAttrs_list PySem.F.slot_list_append PySem.F.type_list_append mt_append (pv 2) (pa_cons (pe_tup (pa_cons (pe_dget (hu_of hr) (pe_fld (pv 0) rfl) (pv 3) (fun _ _ => rfl)) (pa_cons (pv 3) (pa_cons (pe_cmp (pc_din (hu_of hr) (pv 3) (pe_fld (pv 0) rfl))) pa_nil)))) pa_nil))))))))
      (pss_one (ps_ret (pv 2)))))), ?_⟩
  try dsimp only [cx_K2]
  have hself : ∀ B (σ : L2.St), Ex H B → σ[0]? = some (some (.ref p.a)) → ∀ (f : Str) (v : V), NoAttr K c.Desk f → (deskFs p st).lookup f = some v → Ev (tFld K (tVar 0) f) σ B v := fun B σ e hσ f v na hv => ev_fld (ev_var hσ) (e _ _ hD.ia) T.c_Desk na hv
  obtain ⟨kvs, hm, hmk⟩ := hD.im
  have hkeys : (kvs.map fun kv => kV kv.1) = st.keys.map V.int := hmk.keys
  -- the marks, read
  have mark : ∀ A1 B (σ : L2.St) (ti : TE) (i : Int), Ex A0 A1 → Ex H B → σ[0]? = some (some (.ref p.a)) → EvD K ti σ B (.int i) → i ∈ st.keys → ∃ v, Ev (tDGet (tFld K (tVar 0) "marked") ti) σ B v ∧ Dp K A1 v (mkD (mkOf st i)) := fun A1 B σ ti i ea e hσ hi hin => by
    obtain ⟨m, hm'⟩ := lk_mem hin
    obtain ⟨v, h1, h2⟩ := hmk.lk hm'
    refine ⟨v, ev_dget (K := K) (hself B σ e hσ "marked" _ T.na_Desk_marked rfl) (.inl (e _ _ hm)) hi h1, dp_ex ea ?_⟩
    unfold mkOf
    rw [hm']
    exact h2
  -- left
  have hf0 := hself H (L2.start ["self", "left", "found", "best", "letter"] [V.ref p.a]) (Ex.refl _) rfl "marked" _ T.na_Desk_marked rfl
  refine hf0 H (Ex.refl _) _ fun B1 e1 => ⟨p.m, kvs, rfl, e1 _ _ hm, fun q1 hq1 => ?_⟩
  rw [hkeys]
  have eq1 : Ex B1 (upd B1 q1 (.lst (st.keys.map V.int))) := Ex.new hq1
  refine q_asgL fun q2 hq2 => ?_
  have n12 : q2 ≠ q1 := fun z => by rw [z, upd_same] at hq2; cases hq2
  have hq1H : H q1 = none := fresh_back e1 hq1
  have hq2H : H q2 = none := fresh_back (e1.trans eq1) hq2
  have P2 : Pr A0 H A0 (upd (upd B1 q1 (.lst (st.keys.map V.int))) q2 (.lst [])) := Pr.up s0 ((e1.trans eq1).trans (Ex.new hq2))
  -- the loop: what is left, what was found
  let J : Nat → L2.St → Hp → Prop := fun n σ B => ∃ (rest gone : List Int) (xs : List V) (A' : Hp) (w3 w4 : Option V), σ = [some (.ref p.a), some (.ref q1), some (.ref q2), w3, w4] ∧ rest.length = n ∧ (∀ i ∈ rest, i ∈ st.keys) ∧ orderL (mkOf st) st.marked.length st.keys = gone ++ orderL (mkOf st) n rest ∧ gone.length + n = st.marked.length ∧
    PrM (fun _ => False) A0 H A' B ∧ A' q1 = none ∧ A' q2 = none ∧ B q1 = some (.lst (rest.map V.int)) ∧ B q2 = some (.lst xs) ∧ DpAll K A' xs (gone.map (waitD st))
  refine ⟨J, ⟨st.keys.length, st.keys, [], [], A0, none, none, rfl, rfl, fun i h => h, ?_, ?_, P2.m, fresh_back s0 hq1H, fresh_back s0 hq2H, ?_, upd_same, .nil⟩, ?_⟩
  · rw [List.nil_append]
    unfold DS.keys
    rw [List.length_map]
  · simp [DS.keys]
  · rw [upd_ne (Ne.symm n12)]; exact upd_same
  rintro n σ B ⟨rest, gone, xs, A', w3, w4, rfl, hn, hin, hord, hcnt, PB, nq1, nq2, b1, b2, hxs⟩
  have eB : Ex H B := fun x u z => PB.b x u (fun h => h) z
  have hempty : (!PyData.eqv (.list (rest.map PyData.int)) (.list [])) = !decide (rest = []) := by cases rest <;> rfl
  have dl : Dp K B (.ref q1) (.list (rest.map PyData.int)) := .lst (sq_of b1) dpa_ints
  have shl : SeqAt.shaped (.list (rest.map PyData.int)) = true := ShN.sh (n := 1) (shn_list fun d hd => by
    obtain ⟨i, _, rfl⟩ := List.mem_map.mp hd
    exact shn_int) (by decide)
  refine (eb_is (eb_D (ed_neD (ed_var rfl dl) (ed_n (en_lst ea_nilD (by decide))) shl rfl)) hempty : EvB K _ _ B (!decide (rest = []))) B (Ex.refl _) _ fun B3 e3 => ?_
  by_cases hr0 : rest = []
  · rw [hr0]
    refine iteF ?_
    refine s_retV (ev_var rfl) fun B4 e4 => ?_
    have hn0 : n = 0 := by rw [← hn, hr0]; rfl
    have hdone : st.wait = gone.map (waitD st) := by
      unfold DS.wait
      rw [hord, hn0]
      simp [orderL]
    refine k q2 xs A' B4 hq2H ⟨PB.a, eB.trans (e3.trans e4), (PB.s.trans e3).trans e4, PB.n⟩ nq2 ((e3.trans e4) _ _ b2) ?_
    rw [hdone]
    exact hxs
  · rw [decide_eq_false hr0]
    refine iteT ?_
    have hpos : 0 < rest.length := by
      cases rest with
      | nil => exact absurd rfl hr0
      | cons => simp
    obtain ⟨n', rfl⟩ : ∃ n', n = n' + 1 := ⟨n - 1, by omega⟩
    refine ⟨J n', fun σ' B' h => ⟨n', Nat.lt_succ_self _, h⟩, ?_⟩
    -- best = left[0]
    have h0 : atI (rest.map PyData.int) 0 = some (.int (rest.headD 0)) := by
      cases rest with
      | nil => exact absurd rfl hr0
      | cons y r =>
        unfold atI
        rw [show ixN (List.map PyData.int (y :: r)).length (0 : Int) = some 0 from ixN_nat (j := 0) (by simp)]
        rfl
    refine q_asgV (v_int (K := K) (ed_ixL (ed_var rfl (dp_ex e3 dl)) ed_int h0)) fun B4 e4 => ?_
    have e34 : Ex B B4 := e3.trans e4
    -- for letter in left
    refine q_do (s_forL K (ev_var rfl) (sq_of (e34 _ _ b1)) (fun i σ' => ∃ w5, σ' = [some (.ref p.a), some (.ref q1), some (.ref q2), some (.int (bestF (mkOf st) (rest.headD 0) (rest.take i))), w5]) ⟨w4, rfl⟩ ?_ ?_)
    · rintro i x σ' B5 hx e5 ⟨w5, rfl⟩
      rw [List.getElem?_map] at hx
      obtain ⟨y, hy, rfl⟩ := Option.map_eq_some_iff.mp hx
      have hyin : y ∈ st.keys := hin y (List.mem_of_getElem? hy)
      have hbin : bestF (mkOf st) (rest.headD 0) (rest.take i) ∈ st.keys := by
        rcases bestF_mem (mkOf st) (rest.take i) (rest.headD 0) with z | z
        · rw [z]
          cases rest with
          | nil => exact absurd rfl hr0
          | cons a r => exact hin a (by simp)
        · exact hin _ (List.mem_of_mem_take z)
      have eB5 : Ex H B5 := (eB.trans e34).trans e5
      obtain ⟨v1, m1, d1⟩ := mark B5 B5 ([some (.ref p.a), some (.ref q1), some (.ref q2), some (.int (bestF (mkOf st) (rest.headD 0) (rest.take i))), w5].set 4 (some (.int y))) (tVar 4) y (s0.trans eB5) eB5 rfl (ed_var rfl (.int _)) hyin
      obtain ⟨v2, m2, d2⟩ := mark B5 B5 ([some (.ref p.a), some (.ref q1), some (.ref q2), some (.int (bestF (mkOf st) (rest.headD 0) (rest.take i))), w5].set 4 (some (.int y))) (tVar 3) (bestF (mkOf st) (rest.headD 0) (rest.take i)) (s0.trans eB5) eB5 rfl (ed_var rfl (.int _)) hbin
      have step := bestF_take (mkOf st) rest (rest.headD 0) i y hy
      refine s_ifM K (b := mless (mkOf st y) (mkOf st (bestF (mkOf st) (rest.headD 0) (rest.take i)))) (eb_DB (ed_call (ea_consD (ed_v m1 d1) (ea_consD (ed_v m2 d2) ea_nilD)) (at_less _ _))) rfl (fun hb B6 e6 => ?_) (fun hb B6 e6 => ?_)
      · refine s_asgV (ev_var rfl) fun B7 e7 => ⟨e5.trans (e6.trans e7), some (.int y), ?_⟩
        rw [step, if_pos hb]
        rfl
      · refine ⟨e5.trans e6, some (.int y), ?_⟩
        rw [step, if_neg (by rw [hb]; decide)]
        rfl
    · rintro σ' B5 e5 ⟨w5, rfl⟩
      rw [List.length_map, List.take_length]
      have hbest : bestF (mkOf st) (rest.headD 0) rest = bestL (mkOf st) rest := rfl
      rw [hbest]
      have hbm := bestL_mem (mk := mkOf st) hr0
      obtain ⟨j, hj1, hj2, hj3⟩ := first_ix hbm
      have e35 : Ex B B5 := e34.trans e5
      -- left.remove(best)
      refine ⟨.ref q1, rfl, .inl ⟨rfl, _, sq_of (e35 _ _ b1)⟩, _, rfl, q1, rest, _, j, rfl, rfl, e35 _ _ b1, hj1, hj2, ?_⟩
      rw [hj3]
      have PM5 : PrM (fun _ => False) A0 H A' B5 := PB.up e35
      have PM6 := PM5.put (l := q1) (o := .lst ((rest.erase (bestL (mkOf st) rest)).map V.int)) (.inr hq1H) nq1
      generalize hH6 : upd B5 q1 (.lst ((rest.erase (bestL (mkOf st) rest)).map V.int)) = B6 at PM6 ⊢
      have b61 : B6 q1 = some (.lst ((rest.erase (bestL (mkOf st) rest)).map V.int)) := by rw [← hH6]; exact upd_same
      have b62 : B6 q2 = some (.lst xs) := by rw [← hH6, upd_ne n12]; exact e35 _ _ b2
      have eB6 : Ex H B6 := fun x u z => PM6.b x u (fun h => h) z
      have hbin : bestL (mkOf st) rest ∈ st.keys := hin _ hbm
      obtain ⟨v1, m1, d1⟩ := mark A' B6 [some (.ref p.a), some (.ref q1), some (.ref q2), some (.int (bestL (mkOf st) rest)), w5] (tVar 3) (bestL (mkOf st) rest) PM6.a eB6 rfl (ed_var rfl (.int _)) hbin
      have hdn : EvD K (tDIn (tVar 3) (tFld K (tVar 0) "done")) [some (.ref p.a), some (.ref q1), some (.ref q2), some (.int (bestL (mkOf st) rest)), w5] B6 (.bool (decide (bestL (mkOf st) rest ∈ st.done))) :=
        ed_is (ed_din (ed_var rfl (.int _)) (hself B6 _ eB6 rfl "done" _ T.na_Desk_done rfl) (.inl (eB6 _ _ hD.id))) (congrArg PyData.bool (flags_val _ _))
      have hxl : xs.length = gone.length := by rw [dpa_len hxs, List.length_map]
      refine s_app K (d := waitD st (bestL (mkOf st) rest)) PM6.s (ev_var rfl) (ep_tup (epa_cons (ep_v m1 d1) (epa_cons (ep_v (ev_var rfl) (.int _)) (epa_cons (ep_b hdn) epa_nil))) (by show 3 ≤ 100000; decide)) b62 (by omega) fun v7 A7 B7 Q7 hv7 => ?_
      have nq2' : A7 q2 = none := Q7.n _ nq2 (by rw [b62]; simp)
      have nq1' : A7 q1 = none := Q7.n _ nq1 (by rw [b61]; simp)
      refine ⟨rest.erase (bestL (mkOf st) rest), gone ++ [bestL (mkOf st) rest], xs ++ [v7], A7, _, _, rfl, ?_, fun i hi => hin i (List.mem_of_mem_erase hi), ?_, ?_, (PM6.pr Q7).put (.inr hq2H) nq2', nq1', nq2', ?_, upd_same, ?_⟩
      · rw [List.length_erase_of_mem hbm, hn]; rfl
      · rw [hord, List.append_assoc]
        congr 1
        show orderL (mkOf st) (n' + 1) rest = [bestL (mkOf st) rest] ++ orderL (mkOf st) n' (rest.erase (bestL (mkOf st) rest))
        rw [orderL_succ, if_neg hr0]
        rfl
      · rw [List.length_append, List.length_singleton]; omega
      · rw [upd_ne (Ne.symm n12)]; exact Q7.b _ _ b61
      · rw [List.map_append]
        exact dpa_app (dpa_ex Q7.a hxs) (.cons hv7 .nil)
end

end K3

namespace K3
open PySem L2 Evl Ob

local macro_rules | `(tactic| tm_at "sh") => `(tactic| first | exact sh_mk | exact sh_mks | exact sh_b3)

/-! ## the first of those that wait -/
def firstF (mk : Int → Mk) : Option Int → List Int → Option Int
  | b, [] => b
  | none, x :: r => firstF mk (some x) r
  | some b, x :: r => firstF mk (some (if mless (mk x) (mk b) = true then x else b)) r
def DS.first (s : DS) : Option Int := firstF (mkOf s) none s.keys
def optV : Option Int → V
  | none => .non
  | some i => .int i
def optD : Option Int → D
  | none => .none
  | some i => .int i
theorem dp_opt {K : PySem.W.Frag} {A : Hp} (o : Option Int) : Dp K A (optV o) (optD o) := by
  cases o with
  | none => exact .non
  | some i => exact .int i
theorem firstF_mem (mk : Int → Mk) : ∀ (l : List Int) (b : Option Int) (x : Int), firstF mk b l = some x → b = some x ∨ x ∈ l
  | [], b, x, h => .inl h
  | y :: r, none, x, h => by
    rcases firstF_mem mk r (some y) x h with e | e
    · cases e; exact .inr (by simp)
    · exact .inr (List.mem_cons_of_mem _ e)
  | y :: r, some b, x, h => by
    rcases firstF_mem mk r _ x h with e | e
    · cases e
      split
      · exact .inr (by simp)
      · exact .inl rfl
    · exact .inr (List.mem_cons_of_mem _ e)
theorem firstF_take (mk : Int → Mk) : ∀ (l : List Int) (b : Option Int) (i : Nat) (x : Int), l[i]? = some x → firstF mk b (l.take (i + 1)) = some (match firstF mk b (l.take i) with
    | none => x
    | some c => if mless (mk x) (mk c) = true then x else c)
  | [], _, _, _, h => by simp at h
  | y :: r, b, 0, x, h => by
    simp at h
    subst h
    cases b <;> rfl
  | y :: r, none, i + 1, x, h => firstF_take mk r (some y) i x (by simpa using h)
  | y :: r, some b, i + 1, x, h => firstF_take mk r _ i x (by simpa using h)
section
variable {P : Program} {w : World} {K : PySem.W.Frag} {mg : Str → Option Value} {base : Heap} {c : Cs}
def sp_first (K : PySem.W.Frag) (C : Addr) : Sp := fun vs H Q _ => ∃ A p s, vs = [.ref p.a] ∧ Ex A H ∧ DeskAt K C A H p s ∧ ∀ H', Ex H H' → Q (optV s.first) H'
theorem ok_first (T : Tx K mg c) : MethOk P w K mg base (L2N.CX P w) 2 c.Desk "first" ["self"] (sp_first K c.Desk) := by
  obtain ⟨f, fd, d⟩ := T.m_Desk_first
  refine d.ok (okN d.F sc_Desk_first (fun vs H Q E h => ?_) fun cdv A outer s H vs Q E hr h => ?_)
  · obtain ⟨_, _, _, e, _⟩ := h
    rw [e]
    rfl
  obtain ⟨A0, p, st, rfl, s0, hD, k⟩ := h
  have nd := sc_Desk_first.nd
  have G_less := ok_less (P := P) (w := w) (base := base) T
  refine ⟨_, (pss_cons (ps_set (i := 1) nd rfl (Or.inl rfl) pe_non)
      (pss_cons (ps_lock (ps_for (passes_of rfl) rfl (pi_keys (pe_fld (pv 0) rfl)) (pg_name (i := 2) nd rfl (Or.inl rfl)) (pss_one (ps_if (PW.pt (pw_or (pt_cmpR op_isN1 (pv 1) pe_non (nomark _)) (pw_or1 (pt_val (pe_cd G_less (hr.mono (by decide)) rfl pass0 (pa_cons (pe_dget (hu_of hr) (pe_fld (pv 0) rfl) (pv 2) (fun _ _ => rfl)) (pa_cons (pe_dget (hu_of hr) (pe_fld (pv 0) rfl) (pv 1) (fun _ _ => rfl)) pa_nil))))))) (pss_one (ps_set (i := 1) nd rfl (Or.inl rfl) (pv 2))) pss_nil))))
      (pss_one (ps_ret (pv 1))))), ?_⟩
  try dsimp only [cx_K2]
  obtain ⟨ne1, ne2, ne3, ne4, ne5, ne6, ne7, ne8, ne9, ne10⟩ := hD.ne
  obtain ⟨kvs, hm, hmk⟩ := hD.im
  have hkl : kvs.length = st.keys.length := by unfold DS.keys; rw [List.length_map]; exact hmk.len
  have hkey : ∀ (i : Nat) kv, kvs[i]? = some kv → ∃ x, kV kv.1 = .int x ∧ st.keys[i]? = some x := fun i kv e => by
    have h2 : (kvs.map fun kv => kV kv.1)[i]? = some (kV kv.1) := by rw [List.getElem?_map, e]; rfl
    rw [hmk.keys, List.getElem?_map] at h2
    obtain ⟨x, h3, h4⟩ := Option.map_eq_some_iff.mp h2
    exact ⟨x, h4.symm, h3⟩
  refine q_asgV ev_c fun B1 e1 => ?_
  have hm1 := e1 _ _ hm
  have ha1 := e1 _ _ hD.ia
  refine q_do (s_forK (fun H' up => ev_fld (ev_var rfl) (up _ _ ne2 ha1) T.c_Desk T.na_Desk_marked rfl) hm1 (fun i σ' => ∃ w2, σ' = [some (.ref p.a), some (optV (firstF (mkOf st) none (st.keys.take i))), w2]) ⟨none, rfl⟩ ?_ ?_)
  · rintro i kv σ' B2 hkv rd up ⟨w2, rfl⟩ N hN Dn hDn
    obtain ⟨x, hx, hxi⟩ := hkey i kv hkv
    rw [hx]
    have step := firstF_take (mkOf st) st.keys none i x hxi
    have ha2 := up _ _ ne2 ha1
    have sA : ∀ y u, A0 y = some u → B2 y = some u := fun y u e => up y u (fun z => by rw [z, hD.na p.m (by simp [DP.foot])] at e; cases e) (e1 _ _ (s0 _ _ e))
    have mark : ∀ (σ : L2.St) (ti : TE) (j : Int), σ[0]? = some (some (.ref p.a)) → EvD K ti σ B2 (.int j) → j ∈ st.keys → EvD K (tDGet (tFld K (tVar 0) "marked") ti) σ B2 (mkD (mkOf st j)) := fun σ ti j hσ hj hin => by
      obtain ⟨m, hm'⟩ := lk_mem hin
      obtain ⟨v, g1, g2⟩ := hmk.lk hm'
      refine ed_v (ev_dget (K := K) (ev_fld (ev_var hσ) ha2 T.c_Desk T.na_Desk_marked rfl) rd hj g1) (dp_ex sA ?_)
      unfold mkOf
      rw [hm']
      exact g2
    have hxin : x ∈ st.keys := List.mem_of_getElem? hxi
    cases hf : firstF (mkOf st) none (st.keys.take i) with
    | none =>
      rw [hf] at step
      refine s_ifM K (b := true) (eb_or (a := true) (b := true) (eb_is (eb_D (ed_isN (ed_var rfl .non))) rfl) fun z => by cases z) rfl (fun _ B3 e3 => ?_) (fun z => by cases z)
      refine s_asgV (ev_var rfl) fun B4 e4 => ?_
      rw [hDn]
      exact hN _ _ (e3.trans e4) ⟨some (.int x), by rw [step]; rfl⟩
    | some y =>
      rw [hf] at step
      have hyin : y ∈ st.keys := (firstF_mem (mkOf st) _ none y hf).elim (fun z => by cases z) fun z => List.mem_of_mem_take z
      refine s_ifM K (b := mless (mkOf st x) (mkOf st y)) (eb_or (a := false) (b := mless (mkOf st x) (mkOf st y)) (eb_is (eb_D (ed_isN (ed_var rfl (.int y)))) rfl) fun _ => eb_DB (ed_call (ea_consD (mark _ _ x rfl (ed_var rfl (.int x)) hxin) (ea_consD (mark _ _ y rfl (ed_var rfl (.int y)) hyin) ea_nilD)) (at_less _ _))) (by simp) (fun hb B3 e3 => ?_) (fun hb B3 e3 => ?_)
      · refine s_asgV (ev_var rfl) fun B4 e4 => ?_
        rw [hDn]
        refine hN _ _ (e3.trans e4) ⟨some (.int x), ?_⟩
        rw [step]
        simp only [hb, if_true]
        rfl
      · show Dn.nx _ _
        rw [hDn]
        refine hN _ _ e3 ⟨some (.int x), ?_⟩
        rw [step]
        simp only [hb, Bool.false_eq_true, if_false]
        rfl
  · rintro σ' B2 e2 ⟨w2, rfl⟩
    rw [hkl, List.take_length]
    exact go_nx (s_retV (ev_var rfl) fun B3 e3 => k B3 (e1.trans (e2.trans e3)))
end

/-! ## handing over -/
theorem firstF_nil {mk : Int → Mk} : firstF mk none [] = none := rfl
theorem DeskAt.alive {K : PySem.W.Frag} {C : Addr} {A B : Hp} {p : DP} {s : DS} (D : DeskAt K C A B p s) : ∀ x ∈ p.foot, B x ≠ none := fun x hx => by
  simp only [DP.foot, List.mem_cons, List.not_mem_nil, or_false] at hx
  obtain ⟨kv0, e0, _⟩ := D.im
  rcases hx with rfl | rfl | rfl | rfl | rfl
  · rw [D.ia]; simp
  · rw [D.ik]; simp
  · rw [e0]; simp
  · rw [D.id]; simp
  · rw [D.ir]; simp
def DS.hand1 (s : DS) (l : Int) : DS := ⟨s.hand, s.time, s.known, dropM s.marked l, s.done, s.row ++ [l]⟩
def DS.over : Nat → DS → DS × List Int
  | 0, s => (s, [])
  | n + 1, s => match s.first with
    | none => (s, [])
    | some l => if l ∈ s.done then ((DS.over n (s.hand1 l)).1, l :: (DS.over n (s.hand1 l)).2) else (s, [])
def DS.run (s : DS) : DS × List Int := DS.over s.marked.length s
theorem DS.first_mem {s : DS} {l : Int} (h : s.first = some l) : l ∈ s.keys := (firstF_mem _ _ _ _ h).elim (fun z => by cases z) id
theorem drop_lt {m : List (Int × Mk)} {l : Int} (h : l ∈ m.map (·.1)) : (dropM m l).length < m.length := by
  unfold dropM
  rw [List.length_filter_lt_length_iff_exists]
  obtain ⟨e, he, hl⟩ := List.mem_map.mp h
  exact ⟨e, he, by simp [hl]⟩
theorem DS.first_none {s : DS} (h : s.marked.length = 0) : s.first = none := by
  unfold DS.first DS.keys
  rw [List.length_eq_zero_iff.mp h]
  rfl
theorem DS.over_fuel : ∀ (n m : Nat) (s : DS), s.marked.length ≤ n → s.marked.length ≤ m → DS.over n s = DS.over m s
  | 0, 0, _, _, _ => rfl
  | 0, m + 1, s, h, _ => by
    unfold DS.over
    rw [DS.first_none (by omega)]
  | n + 1, 0, s, _, h => by
    unfold DS.over
    rw [DS.first_none (by omega)]
  | n + 1, m + 1, s, h1, h2 => by
    unfold DS.over
    cases e : s.first with
    | none => rfl
    | some l =>
      have hl : (s.hand1 l).marked.length < s.marked.length := drop_lt (DS.first_mem e)
      dsimp only
      rw [DS.over_fuel n m (s.hand1 l) (by omega) (by omega)]
theorem DS.run_none {s : DS} (h : s.first = none) : s.run = (s, []) := by
  unfold DS.run
  cases e : s.marked.length with
  | zero => rfl
  | succ n => unfold DS.over; rw [h]
theorem DS.run_stop {s : DS} {l : Int} (h : s.first = some l) (hd : l ∉ s.done) : s.run = (s, []) := by
  unfold DS.run
  cases e : s.marked.length with
  | zero => rfl
  | succ n =>
    unfold DS.over
    rw [h]
    dsimp only
    rw [if_neg hd]
theorem DS.run_go {s : DS} {l : Int} (h : s.first = some l) (hd : l ∈ s.done) : s.run = ((s.hand1 l).run.1, l :: (s.hand1 l).run.2) := by
  have hl : (s.hand1 l).marked.length < s.marked.length := drop_lt (DS.first_mem h)
  unfold DS.run
  cases e : s.marked.length with
  | zero => omega
  | succ n =>
    rw [show DS.over (n + 1) s = (match s.first with
      | none => (s, [])
      | some l => if l ∈ s.done then ((DS.over n (s.hand1 l)).1, l :: (DS.over n (s.hand1 l)).2) else (s, [])) from rfl, h]
    dsimp only
    rw [if_pos hd, DS.over_fuel n (s.hand1 l).marked.length _ (by omega) (Nat.le_refl _)]
section
variable {P : Program} {w : World} {K : PySem.W.Frag} {mg : Str → Option Value} {base : Heap} {c : Cs}
def sp_over (K : PySem.W.Frag) (C : Addr) : Sp := fun vs H Q _ => ∃ A p s, vs = [.ref p.a] ∧ Ex A H ∧ DeskAt K C A H p s ∧ s.row.length + s.marked.length < 90000 ∧
  ∀ q A' H', H q = none → PrM (fun x => x ∈ p.foot) A H A' H' → DeskAt K C A' H' p s.run.1 → A' q = none → H' q = some (.lst (s.run.2.map V.int)) → Q (.ref q) H'
theorem ok_over (T : Tx K mg c) : MethOk P w K mg base (L2N.CX P w) 3 c.Desk "hand_over" ["self"] (sp_over K c.Desk) := by
  obtain ⟨f, fd, d⟩ := T.m_Desk_hand_over
  refine d.ok (okN d.F sc_Desk_hand_over (fun vs H Q E h => ?_) fun cdv A outer s H vs Q E hr h => ?_)
  · obtain ⟨_, _, _, e, _⟩ := h
    rw [e]
    rfl
  obtain ⟨A0, p, st, rfl, s0, hD, hl, k⟩ := h
  have nd := sc_Desk_hand_over.nd
  have MT_Desk_first := ok_first (P := P) (w := w) (base := base) T
  refine ⟨_, (pss_cons (ps_set (i := 1) nd rfl (Or.inl rfl) (pe_lst pa_nil))
      (pss_cons (ps_set (i := 2) nd rfl (Or.inl rfl) (pe_md0 (pv 0) T.c_Desk MT_Desk_first (hr.mono (by decide)) passN))
      (pss_cons (ps_while (passes_of rfl) (PW.pt (pw_and (pt_cmpR op_notN1 (pv 2) pe_non (nomark _)) (pw_and1 (pt_cmp (pc_din (hu_of hr) (pv 2) (pe_fld (pv 0) rfl)))))) (pss_cons (ps_expr (pe_dpop1 (pe_fld (pv 0) rfl) (pv 2) ⟨rfl, rfl, rfl, rfl⟩))
        (pss_cons (ps_expr (pe_bm PySem.F.plainAttrs_list PySem.F.slot_list_append PySem.F.type_list_append mt_append (pe_fld (pv 0) rfl) (pa_cons (pv 2) pa_nil)))
        (pss_cons (ps_expr (pe_bm PySem.F.plainAttrs_list PySem.F.slot_list_append PySem.F.type_list_append mt_append (pv 1) (pa_cons (pv 2) pa_nil)))
        (pss_one (ps_set (i := 2) nd rfl (Or.inl rfl) (pe_md0 (pv 0) T.c_Desk MT_Desk_first (hr.mono (by decide)) passN)))))))
      (pss_one (ps_ret (pv 1)))))), ?_⟩
  try dsimp only [cx_K2]
  obtain ⟨ne1, ne2, ne3, ne4, ne5, ne6, ne7, ne8, ne9, ne10⟩ := hD.ne
  have f3 : p.m ∈ p.foot := by simp [DP.foot]
  have f5 : p.r ∈ p.foot := by simp [DP.foot]
  refine q_asgL fun q1 hq1 => ?_
  have nq : ∀ x ∈ p.foot, x ≠ q1 := fun x hx z => hD.alive x hx (z ▸ hq1)
  have P1 : PrM (fun x => x ∈ p.foot) A0 H A0 (upd H q1 (.lst [])) := (PrM.refl s0).new hq1
  have D1 : DeskAt K c.Desk A0 (upd H q1 (.lst [])) p st := hD.up s0 (Ex.new hq1)
  refine q_do (m_call (K := K) (A := A0) (ds := []) P1.s (ev_var rfl) D1.ia rfl epa_nil fun vs A2 B2 P2 hv => ?_)
  cases hv
  refine ⟨A2, p, st, rfl, P2.s, D1.pr P2, fun B3 e3 => go_nx ?_⟩
  let J : Nat → L2.St → Hp → Prop := fun n σ B => ∃ (st' : DS) (gone : List Int) (A' : Hp), σ = [some (.ref p.a), some (.ref q1), some (optV st'.first)] ∧ st'.marked.length = n ∧ st.run = (st'.run.1, gone ++ st'.run.2) ∧ st'.row.length + n < 90000 ∧ gone.length + n ≤ st.marked.length ∧
    PrM (fun x => x ∈ p.foot) A0 H A' B ∧ DeskAt K c.Desk A' B p st' ∧ A' q1 = none ∧ B q1 = some (.lst (gone.map V.int))
  have hq12 : A2 q1 = none := P2.n _ (fresh_back s0 hq1) (by rw [upd_same]; simp)
  refine ⟨J, ⟨st.marked.length, st, [], A2, rfl, rfl, ?_, by omega, by simp, (P1.pr P2).up e3, (D1.pr P2).up P2.s e3, hq12, e3 _ _ (P2.b _ _ upd_same)⟩, ?_⟩
  · rw [List.nil_append]
  rintro n σ B ⟨st', gone, A', rfl, hn, hrun, hr1, hg, PB, DB, nq1, b1⟩
  have hself : ∀ B' (σ : L2.St), Ex B B' → σ[0]? = some (some (.ref p.a)) → ∀ (f : Str) (v : V), NoAttr K c.Desk f → (deskFs p st').lookup f = some v → Ev (tFld K (tVar 0) f) σ B' v := fun B' σ e hσ f v na hv => ev_fld (ev_var hσ) (e _ _ DB.ia) T.c_Desk na hv
  cases hf : st'.first with
  | none =>
    refine (eb_is (eb_and (a := false) (b := false) (eb_is (eb_D (ed_notN (ed_var rfl .non))) rfl) fun z => by cases z) rfl : EvB K _ _ B false) B (Ex.refl _) _ fun B3 e3 => iteF ?_
    refine s_retV (ev_var rfl) fun B4 e4 => ?_
    rw [DS.run_none hf, List.append_nil] at hrun
    exact k q1 A' B4 hq1 (PB.up (e3.trans e4)) (by rw [hrun]; exact DB.up PB.s (e3.trans e4)) nq1 (by rw [hrun]; exact (e3.trans e4) _ _ b1)
  | some l =>
    refine (eb_is (eb_and (a := true) (b := decide (l ∈ st'.done)) (eb_is (eb_D (ed_notN (ed_var rfl (.int l)))) rfl) fun _ => eb_is (eb_DB (ed_din (ed_var rfl (.int l)) (hself B _ (Ex.refl _) rfl "done" _ T.na_Desk_done rfl) (.inl DB.id))) (flags_val _ _)) rfl : EvB K _ _ B (decide (l ∈ st'.done))) B (Ex.refl _) _ fun B3 e3 => ?_
    by_cases hd : l ∈ st'.done
    · rw [decide_eq_true hd]
      refine iteT ⟨fun σ' B' => ∃ m', m' < n ∧ J m' σ' B', fun σ' B' h => h, ?_⟩
      have hlt : (st'.hand1 l).marked.length < st'.marked.length := drop_lt (DS.first_mem hf)
      have PB3 := PB.up e3
      have D3 := DB.up PB.s e3
      obtain ⟨kvs, hm, hmk⟩ := D3.im
      obtain ⟨mk, hmk'⟩ := lk_mem (DS.first_mem hf)
      obtain ⟨v, hv1, hv2⟩ := hmk.lk hmk'
      refine q_do (s_dpop K (hself B3 _ e3 rfl "marked" _ T.na_Desk_marked rfl) (ed_var rfl (.int l)) hm hv1 fun B4 e4 => go_nx ?_)
      have P4 := (PB3.up e4).put (l := p.m) (o := .dK (dropK kvs (.inl l))) (.inl f3) (D3.na _ f3)
      have nm : ∀ x, x ≠ p.m → ∀ u, B3 x = some u → (upd B4 p.m (.dK (dropK kvs (.inl l)))) x = some u := fun x n u e => by rw [upd_ne n]; exact e4 _ _ e
      have m4 : (upd B4 p.m (.dK (dropK kvs (.inl l)))) p.m = some (.dK (dropK kvs (.inl l))) := upd_same
      generalize upd B4 p.m (.dK (dropK kvs (.inl l))) = C4 at P4 nm m4 ⊢
      have a4 := nm _ ne2 _ D3.ia
      have k4 := nm _ ne5 _ D3.ik
      have d4 := nm _ (Ne.symm ne8) _ D3.id
      have r4 := nm _ (Ne.symm ne9) _ D3.ir
      have q4 := nm _ (Ne.symm (nq _ f3)) _ (e3 _ _ b1)
      refine q_do (s_app K (d := .int l) P4.s (ev_fld (ev_var rfl) a4 T.c_Desk T.na_Desk_row rfl) (ep_v (ev_var rfl) (.int l)) r4 (by rw [List.length_map]; omega) fun v5 A5 B5 P5 hv5 => go_nx ?_)
      cases hv5
      have hrr : st'.row.map V.int ++ [V.int l] = (st'.hand1 l).row.map V.int := by
        show _ = (st'.row ++ [l]).map V.int
        rw [List.map_append]; rfl
      rw [hrr]
      have P6 := (P4.pr P5).put (l := p.r) (o := .lst ((st'.hand1 l).row.map V.int)) (.inl f5) (P5.n _ (D3.na _ f5) (by rw [r4]; simp))
      have nr : ∀ x, x ≠ p.r → ∀ u, C4 x = some u → (upd B5 p.r (.lst ((st'.hand1 l).row.map V.int))) x = some u := fun x n u e => by rw [upd_ne n]; exact P5.b _ _ e
      have r6 : (upd B5 p.r (.lst ((st'.hand1 l).row.map V.int))) p.r = some (.lst ((st'.hand1 l).row.map V.int)) := upd_same
      generalize upd B5 p.r (.lst ((st'.hand1 l).row.map V.int)) = C6 at P6 nr r6 ⊢
      have D6 : DeskAt K c.Desk A5 C6 p (st'.hand1 l) := ⟨nr _ ne4 _ a4, nr _ ne7 _ k4, ⟨_, nr _ ne9 _ m4, (hmk.mono P5.a).drop⟩, nr _ ne10 _ d4, r6, hD.nd, fun x hx => P6.n x (hD.na x hx) (hD.alive x hx)⟩
      have q6 := nr _ (Ne.symm (nq _ f5)) _ q4
      refine q_do (s_app K (d := .int l) P6.s (ev_var rfl) (ep_v (ev_var rfl) (.int l)) q6 (by rw [List.length_map]; omega) fun v7 A7 B7 P7 hv7 => go_nx ?_)
      cases hv7
      have hgg : gone.map V.int ++ [V.int l] = (gone ++ [l]).map V.int := by rw [List.map_append]; rfl
      rw [hgg]
      have nq7 : A7 q1 = none := P7.n _ (P5.n _ nq1 (by rw [q4]; simp)) (by rw [q6]; simp)
      have PQ := ((PrM.refl (F := fun x => x = q1) P6.s).pr P7).put (l := q1) (o := .lst ((gone ++ [l]).map V.int)) (.inl rfl) nq7
      have P8 := (P6.pr P7).put (l := q1) (o := .lst ((gone ++ [l]).map V.int)) (.inr hq1) nq7
      have D8 := D6.mono PQ fun x hx z => nq x hx z
      have q8 : (upd B7 q1 (.lst ((gone ++ [l]).map V.int))) q1 = some (.lst ((gone ++ [l]).map V.int)) := upd_same
      generalize upd B7 q1 (.lst ((gone ++ [l]).map V.int)) = C8 at P8 PQ D8 q8 ⊢
      refine m_call (K := K) (A := A7) (ds := []) P8.s (ev_var rfl) D8.ia rfl epa_nil fun vs A9 B9 P9 hv => ?_
      cases hv
      refine ⟨A9, p, st'.hand1 l, rfl, P9.s, D8.pr P9, fun B10 e10 => ⟨(st'.hand1 l).marked.length, by omega, st'.hand1 l, gone ++ [l], A9, rfl, rfl, ?_, ?_, ?_, (P8.pr P9).up e10, (D8.pr P9).up P9.s e10, P9.n _ nq7 (by rw [q8]; simp), e10 _ _ (P9.b _ _ q8)⟩⟩
      · rw [hrun, DS.run_go hf hd]
        simp
      · show (st'.row ++ [l]).length + _ < 90000
        rw [List.length_append, List.length_singleton]
        omega
      · rw [List.length_append, List.length_singleton]
        omega
    · rw [decide_eq_false hd]
      refine iteF (s_retV (ev_var rfl) fun B4 e4 => ?_)
      rw [DS.run_stop hf hd, List.append_nil] at hrun
      exact k q1 A' B4 hq1 (PB.up (e3.trans e4)) (by rw [hrun]; exact DB.up PB.s (e3.trans e4)) nq1 (by rw [hrun]; exact (e3.trans e4) _ _ b1)
end

/-! ## settling -/
def DS.set1 (s : DS) (l : Int) (m : Mk) : DS := ⟨s.hand, if m.1 > s.time then m.1 else s.time, s.known, putM s.marked l m, s.done ++ [l], s.row⟩
theorem lk_some (l : List (Int × Mk)) (i : Int) : (lkM l i).isSome = decide (i ∈ l.map (·.1)) := by
  by_cases h : i ∈ l.map (·.1)
  · obtain ⟨m, e⟩ := lk_mem h
    rw [e, decide_eq_true h]
    rfl
  · rw [decide_eq_false h]
    cases e : l.find? fun e => decide (e.1 = i) with
    | none => simp [lkM, e]
    | some x => exact absurd (List.mem_map.mpr ⟨x, List.mem_of_find?_eq_some e, of_decide_eq_true (List.find?_some (p := fun e : Int × Mk => decide (e.1 = i)) e)⟩) h
theorem put_in {l : List (Int × Mk)} {i : Int} {m : Mk} (h : i ∈ l.map (·.1)) : putM l i m = l.map fun e => if e.1 = i then (e.1, m) else e := by
  unfold putM
  rw [if_pos]
  obtain ⟨e, he, hi⟩ := List.mem_map.mp h
  exact List.any_eq_true.mpr ⟨e, he, decide_eq_true hi⟩
theorem put_len {l : List (Int × Mk)} {i : Int} {m : Mk} (h : i ∈ l.map (·.1)) : (putM l i m).length = l.length := by rw [put_in h, List.length_map]
section
variable {P : Program} {w : World} {K : PySem.W.Frag} {mg : Str → Option Value} {base : Heap} {c : Cs}
def sp_settle (K : PySem.W.Frag) (C No Bd : Addr) : Sp := fun vs H Q E => ∃ A p s l vm m, vs = [.ref p.a, .int l, vm] ∧ Ex A H ∧ Dp K A vm (mkD m) ∧ DeskAt K C A H p s ∧ s.row.length + s.marked.length < 90000 ∧ s.done.length < 90000 ∧
  (l ∉ s.keys ∨ l ∈ s.done → ∀ H', Ex H H' → E (.ref No) none H') ∧ (l ∈ s.keys → l ∉ s.done → mless m (mkOf s l) = true → ∀ H', Ex H H' → E (.ref Bd) none H') ∧
  (l ∈ s.keys → l ∉ s.done → mless m (mkOf s l) = false → ∀ q A' H', H q = none → PrM (fun x => x ∈ p.foot) A H A' H' → DeskAt K C A' H' p (s.set1 l m).run.1 → A' q = none → H' q = some (.lst ((s.set1 l m).run.2.map V.int)) → Q (.ref q) H')
theorem ok_settle (T : Tx K mg c) : MethOk P w K mg base (L2N.CX P w) 4 c.Desk "settle" ["self", "letter", "mark"] (sp_settle K c.Desk c.NotOpen c.BadMark) := by
  obtain ⟨f, fd, d⟩ := T.m_Desk_settle
  refine d.ok (okN d.F sc_Desk_settle (fun vs H Q E h => ?_) fun cdv A outer s H vs Q E hr h => ?_)
  · obtain ⟨_, _, _, _, _, _, e, _⟩ := h
    rw [e]
    rfl
  obtain ⟨A0, p, st, l, vm, m, rfl, s0, hvm, hD, hl1, hl2, kn, kb, k⟩ := h
  have nd := sc_Desk_settle.nd
  have G_less := ok_less (P := P) (w := w) (base := base) T
  have MT_Desk_hand_over := ok_over (P := P) (w := w) (base := base) T
  refine ⟨_, (pss_cons (ps_if (PW.pt (pw_or (pt_cmp (pc_dnotin (hu_of hr) (pv 1) (pe_fld (pv 0) rfl))) (pw_or1 (pt_cmp (pc_din (hu_of hr) (pv 1) (pe_fld (pv 0) rfl)))))) (pss_one (ps_rs rfl (L2N.takes_of rfl rfl rfl rfl) T.x_NotOpen rfl)) pss_nil)
      (pss_cons (ps_if (pt_val (pe_cd G_less (hr.mono (by decide)) rfl pass0 (pa_cons (pv 2) (pa_cons (pe_dget (hu_of hr) (pe_fld (pv 0) rfl) (pv 1) (fun _ _ => rfl)) pa_nil)))) (pss_one (ps_rs rfl (L2N.takes_of rfl rfl rfl rfl) T.x_BadMark rfl)) pss_nil)
      (pss_cons (ps_dput (hu_of hr) (pe_fld (pv 0) rfl) (pv 1) (pe_tup (pa_cons (pe_ix (ixT (K := K) rfl) (pv 2) pe_int (fun _ _ => rfl)) (pa_cons (pe_ix (ixT (K := K) rfl) (pv 2) pe_int (fun _ _ => rfl)) pa_nil))) rfl)
      (pss_cons (ps_dput (hu_of hr) (pe_fld (pv 0) rfl) (pv 1) pe_bl rfl)
      (pss_cons (ps_fld (pv 0) (pe_callB (c_max2 rfl) rfl T.mn_max (by decide +kernel) (pa_cons (pe_fld (pv 0) rfl) (pa_cons (pe_ix (ixT (K := K) rfl) (pv 2) pe_int (fun _ _ => rfl)) pa_nil))) rfl)
      (pss_one (ps_ret (pe_md0 (pv 0) T.c_Desk MT_Desk_hand_over (hr.mono (by decide)) passN)))))))), ?_⟩
  try dsimp only [cx_K2]
  obtain ⟨ne1, ne2, ne3, ne4, ne5, ne6, ne7, ne8, ne9, ne10⟩ := hD.ne
  have f1 : p.a ∈ p.foot := by simp [DP.foot]
  have f3 : p.m ∈ p.foot := by simp [DP.foot]
  have f4 : p.d ∈ p.foot := by simp [DP.foot]
  have hself : ∀ B fs, B p.a = some (.ins c.Desk p.dx fs) → ∀ (f : Str) (v : V), NoAttr K c.Desk f → fs.lookup f = some v → Ev (tFld K (tVar 0) f) (L2.start ["self", "letter", "mark"] [V.ref p.a, V.int l, vm]) B v := fun B fs hB f v na hv => ev_fld (ev_var rfl) hB T.c_Desk na hv
  obtain ⟨kvs0, hm0, hmk0⟩ := hD.im
  have hsome : (valV kvs0 (.inl l)).isSome = decide (l ∈ st.keys) := by rw [hmk0.some, lk_some]; rfl
  refine q_ifM K (b := !decide (l ∈ st.keys) || decide (l ∈ st.done)) (eb_or (a := !decide (l ∈ st.keys)) (b := decide (l ∈ st.done)) (eb_is (eb_DB (ed_dnin (ed_var rfl (.int l)) (hself H _ hD.ia "marked" _ T.na_Desk_marked rfl) (.inl hm0))) (by rw [hsome])) fun _ => eb_is (eb_DB (ed_din (ed_var rfl (.int l)) (hself H _ hD.ia "done" _ T.na_Desk_done rfl) (.inl hD.id))) (flags_val _ _)) rfl (fun hb B1 e1 => ?_) (fun hb B1 e1 => q_next ?_)
  · refine kn ?_ B1 e1
    rcases Bool.or_eq_true_iff.mp hb with z | z
    · exact .inl (by simpa using z)
    · exact .inr (of_decide_eq_true z)
  obtain ⟨hb1, hb2⟩ := Bool.or_eq_false_iff.mp hb
  have hin : l ∈ st.keys := by simpa using hb1
  have hnd : l ∉ st.done := of_decide_eq_false hb2
  have D1 := hD.up s0 e1
  have s1 := s0.trans e1
  obtain ⟨mk, hmk'⟩ := lk_mem hin
  obtain ⟨v0, hv1, hv2⟩ := hmk0.lk hmk'
  have hmo : mk = mkOf st l := by unfold mkOf; rw [hmk']; rfl
  rw [hmo] at hv2
  have ed1 : EvD K (tDGet (tFld K (tVar 0) "marked") (tVar 1)) (L2.start ["self", "letter", "mark"] [V.ref p.a, V.int l, vm]) B1 (mkD (mkOf st l)) := ed_v (ev_dget (K := K) (hself B1 _ D1.ia "marked" _ T.na_Desk_marked rfl) (.inl (e1 _ _ hm0)) (ed_var rfl (.int l)) hv1) (dp_ex s1 hv2)
  refine q_ifM K (b := mless m (mkOf st l)) (eb_DB (ed_call (ea_consD (ed_var rfl (dp_ex s1 hvm)) (ea_consD ed1 ea_nilD)) (at_less _ _))) rfl (fun hb B2 e2 => kb hin hnd hb B2 (e1.trans e2)) (fun hb B2 e2 => q_next ?_)
  have D2 := D1.up s1 e2
  have s2 := s1.trans e2
  have P2 : PrM (fun x => x ∈ p.foot) A0 H A0 B2 := (PrM.refl s0).up (e1.trans e2)
  have hx : Dp K B2 vm (.tuple [.int m.1, .int m.2]) := dp_ex s2 hvm
  refine q_do (s_dput K (d := mkD m) s2 (ep_tup (epa_cons (ep_i (ed_ixT (ed_var rfl hx) ed_int rfl)) (epa_cons (ep_i (ed_ixT (ed_var rfl hx) ed_int rfl)) epa_nil)) (by show 2 ≤ 100000; decide)) (hself B2 _ D2.ia "marked" _ T.na_Desk_marked rfl) (ed_var rfl (.int l)) ((e1.trans e2) _ _ hm0) (by rw [hmk0.len]; omega) fun v3 A3 B3 P3 hv3 => go_nx ?_)
  have D3 := D2.pr P3
  have n3 := D3.na
  have P4 := (P2.pr P3).put (l := p.m) (o := .dK (putK kvs0 (.inl l) v3)) (.inl f3) (n3 _ f3)
  have hm4 := (hmk0.mono P3.a).put (i := l) (m := m) hv3
  have nm : ∀ x, x ≠ p.m → ∀ u, B3 x = some u → (upd B3 p.m (.dK (putK kvs0 (.inl l) v3))) x = some u := fun x n u e => by rw [upd_ne n]; exact e
  have m4 : (upd B3 p.m (.dK (putK kvs0 (.inl l) v3))) p.m = some (.dK (putK kvs0 (.inl l) v3)) := upd_same
  generalize upd B3 p.m (.dK (putK kvs0 (.inl l) v3)) = C4 at P4 nm m4 ⊢
  have a4 := nm _ ne2 _ D3.ia
  have k4 := nm _ ne5 _ D3.ik
  have d4 := nm _ (Ne.symm ne8) _ D3.id
  have r4 := nm _ (Ne.symm ne9) _ D3.ir
  refine q_do (s_dput K (d := .bool true) P4.s (ep_ed ed_bl) (hself C4 _ a4 "done" _ T.na_Desk_done rfl) (ed_var rfl (.int l)) d4 (by rw [flags, List.length_map]; omega) fun v5 A5 B5 P5 hv5 => go_nx ?_)
  cases hv5
  rw [flags_put hnd]
  have P6 := (P4.pr P5).put (l := p.d) (o := .dK (flags (st.done ++ [l]))) (.inl f4) (P5.n _ (n3 _ f4) (by rw [d4]; simp))
  have nD : ∀ x, x ≠ p.d → ∀ u, C4 x = some u → (upd B5 p.d (.dK (flags (st.done ++ [l])))) x = some u := fun x n u e => by rw [upd_ne n]; exact P5.b _ _ e
  have d6 : (upd B5 p.d (.dK (flags (st.done ++ [l])))) p.d = some (.dK (flags (st.done ++ [l]))) := upd_same
  generalize upd B5 p.d (.dK (flags (st.done ++ [l]))) = C6 at P6 nD d6 ⊢
  have a6 := nD _ ne3 _ a4
  have k6 := nD _ ne6 _ k4
  have m6 := nD _ ne8 _ m4
  have r6 := nD _ (Ne.symm ne10) _ r4
  have hx6 : Dp K C6 vm (.tuple [.int m.1, .int m.2]) := dp_ex P6.s (dp_ex P6.a hvm)
  refine q_do (s_fldV K (v := .int (if m.1 > st.time then m.1 else st.time)) (v_int (K := K) (ed_max2 (ed_ev (hself C6 _ a6 "time" _ T.na_Desk_time rfl) (.int _)) (ed_ixT (ed_var rfl hx6) ed_int rfl))) (ev_var rfl) a6 T.c_Desk T.na_Desk_time (by show 6 < 1000; decide) fun B7 e7 => go_nx ?_)
  have hpf : putF "time" (V.int (if m.1 > st.time then m.1 else st.time)) (deskFs p st) = deskFs p (st.set1 l m) := rfl
  rw [hpf]
  have P8 := (P6.up e7).put (l := p.a) (o := .ins c.Desk p.dx (deskFs p (st.set1 l m))) (.inl f1) (P6.n _ (hD.na _ f1) (hD.alive _ f1))
  have na : ∀ x, x ≠ p.a → ∀ u, C6 x = some u → (upd B7 p.a (.ins c.Desk p.dx (deskFs p (st.set1 l m)))) x = some u := fun x n u e => by rw [upd_ne n]; exact e7 _ _ e
  have a8 : (upd B7 p.a (.ins c.Desk p.dx (deskFs p (st.set1 l m)))) p.a = some (.ins c.Desk p.dx (deskFs p (st.set1 l m))) := upd_same
  generalize upd B7 p.a (.ins c.Desk p.dx (deskFs p (st.set1 l m))) = C8 at P8 na a8 ⊢
  have D8 : DeskAt K c.Desk A5 C8 p (st.set1 l m) := ⟨a8, na _ (Ne.symm ne1) _ k6, ⟨_, na _ (Ne.symm ne2) _ m6, hm4.mono P5.a⟩, na _ (Ne.symm ne3) _ d6, na _ (Ne.symm ne4) _ r6, hD.nd, fun x hx => P8.n x (hD.na x hx) (hD.alive x hx)⟩
  refine m_call (K := K) (A := A5) (ds := []) P8.s (ev_var rfl) D8.ia rfl epa_nil fun vs A9 B9 P9 hv => ?_
  cases hv
  refine ⟨A9, p, st.set1 l m, rfl, P9.s, D8.pr P9, ?_, fun q A10 H10 hq P10 D10 nq bq => k hin hnd hb q A10 H10 ((P8.pr P9).fresh hq) ((P8.pr P9).trans P10) D10 nq bq⟩
  show st.row.length + (putM st.marked l m).length < 90000
  rw [put_len hin]
  exact hl1
end

end K3

namespace K3
open PySem L2 Evl Ob

local macro_rules | `(tactic| tm_at "sh") => `(tactic| first | exact sh_mk | exact sh_mks | exact sh_b3)

/-! ## the desk's letters, in plain lists -/
def mkM (ms : List (Int × Mk)) (i : Int) : Mk := (lkM ms i).getD (0, 0)
structure Good (s : DS) : Prop where
  nd : s.known.Nodup
  kf : s.known.filter (fun i => decide (i ∈ s.keys)) = s.keys
theorem Good.sub {s : DS} (g : Good s) {l : Int} (h : l ∈ s.keys) : l ∈ s.known := by
  rw [← g.kf] at h
  exact (List.mem_filter.mp h).1
theorem Good.kn {s : DS} (g : Good s) : s.keys.Nodup := by rw [← g.kf]; exact g.nd.filter _
theorem put_keys {l : List (Int × Mk)} {i : Int} {m : Mk} (h : i ∈ l.map (·.1)) : (putM l i m).map (·.1) = l.map (·.1) := by
  rw [put_in h, List.map_map]
  refine List.map_congr_left fun e _ => ?_
  show (if e.1 = i then (e.1, m) else e).1 = e.1
  split <;> rfl
theorem put_new {l : List (Int × Mk)} {i : Int} {m : Mk} (h : i ∉ l.map (·.1)) : putM l i m = l ++ [(i, m)] := by
  unfold putM
  rw [if_neg]
  intro z
  obtain ⟨e, he, hi⟩ := List.any_eq_true.mp z
  exact h (List.mem_map.mpr ⟨e, he, of_decide_eq_true hi⟩)
theorem drop_keys (l : List (Int × Mk)) (i : Int) : (dropM l i).map (·.1) = (l.map (·.1)).filter fun j => decide (j ≠ i) := by
  unfold dropM
  rw [List.filter_map]
  rfl
theorem Good.new (h : Int) : Good ⟨h, 0, [], [], [], []⟩ := ⟨List.nodup_nil, rfl⟩
theorem Good.prop {s : DS} (g : Good s) {l : Int} (h : l ∉ s.known) : Good (s.prop l) := by
  have hk : l ∉ s.marked.map (·.1) := fun z => h (g.sub z)
  have ek : (s.prop l).keys = s.keys ++ [l] := by
    show (putM s.marked l _).map (·.1) = _
    rw [put_new hk, List.map_append]
    rfl
  refine ⟨List.nodup_append.mpr ⟨g.nd, by simp, fun a ha b hb z => h (by rw [List.mem_singleton.mp hb] at z; exact z ▸ ha)⟩, ?_⟩
  rw [ek]
  show (s.known ++ [l]).filter _ = _
  rw [List.filter_append]
  congr 1
  · rw [← g.kf]
    refine List.filter_congr fun x hx => ?_
    have : x ≠ l := fun z => h (z ▸ hx)
    rw [g.kf]
    simp [this]
  · simp
theorem Good.set1 {s : DS} (g : Good s) {l : Int} {m : Mk} (h : l ∈ s.keys) : Good (s.set1 l m) := by
  have ek : (s.set1 l m).keys = s.keys := put_keys h
  exact ⟨g.nd, by rw [ek]; exact g.kf⟩
theorem Good.drop {s : DS} (g : Good s) (l : Int) : Good (s.hand1 l) := by
  have ek : (s.hand1 l).keys = s.keys.filter fun j => decide (j ≠ l) := drop_keys _ _
  refine ⟨g.nd, ?_⟩
  rw [ek]
  show s.known.filter _ = _
  conv => rhs; rw [← g.kf, List.filter_filter]
  refine List.filter_congr fun x _ => ?_
  simp [List.mem_filter, and_comm, Bool.and_comm]
theorem Good.over : ∀ (n : Nat) (s : DS), Good s → Good (DS.over n s).1
  | 0, _, g => g
  | n + 1, s, g => by
    unfold DS.over
    cases s.first with
    | none => exact g
    | some l =>
      dsimp only
      split
      · exact Good.over n _ (g.drop l)
      · exact g
theorem Good.run {s : DS} (g : Good s) : Good s.run.1 := Good.over _ _ g
theorem DS.over_len : ∀ (n : Nat) (s : DS), (DS.over n s).1.row.length + (DS.over n s).1.marked.length ≤ s.row.length + s.marked.length ∧ (DS.over n s).1.done = s.done ∧ (DS.over n s).1.known = s.known
  | 0, _ => ⟨Nat.le_refl _, rfl, rfl⟩
  | n + 1, s => by
    unfold DS.over
    cases e : s.first with
    | none => exact ⟨Nat.le_refl _, rfl, rfl⟩
    | some l =>
      dsimp only
      split
      · obtain ⟨h1, h2, h3⟩ := DS.over_len n (s.hand1 l)
        refine ⟨Nat.le_trans h1 ?_, h2, h3⟩
        have : (dropM s.marked l).length < s.marked.length := drop_lt (DS.first_mem e)
        show (s.row ++ [l]).length + (dropM s.marked l).length ≤ _
        rw [List.length_append, List.length_singleton]
        omega
      · exact ⟨Nat.le_refl _, rfl, rfl⟩
def lfirst (ms : List (Int × Mk)) (met : List Int) : Option Int := firstF (mkM ms) none (met.filter fun i => decide (i ∈ ms.map (·.1)))
theorem lfirst_eq {s : DS} (g : Good s) : lfirst s.marked s.known = s.first := by
  unfold lfirst
  rw [show (s.known.filter fun i => decide (i ∈ s.marked.map (·.1))) = s.keys from g.kf]
  rfl
theorem firstF_app (mk : Int → Mk) (x : Int) : ∀ (l : List Int) (b : Option Int), firstF mk b (l ++ [x]) = some (match firstF mk b l with
    | none => x
    | some c => if mless (mk x) (mk c) = true then x else c)
  | [], none => rfl
  | [], some b => rfl
  | y :: r, none => firstF_app mk x r (some y)
  | y :: r, some b => firstF_app mk x r _
theorem firstF_some (mk : Int → Mk) : ∀ (l : List Int) (b : Int), firstF mk (some b) l = some (bestF mk b l)
  | [], _ => rfl
  | x :: r, b => firstF_some mk r _
theorem bestF_congr {mk mk' : Int → Mk} : ∀ (l : List Int) (b : Int), (∀ i ∈ l, mk i = mk' i) → mk b = mk' b → bestF mk b l = bestF mk' b l
  | [], _, _, _ => rfl
  | x :: r, b, h, hb => by
    unfold bestF
    have hx := h x (by simp)
    rw [hx, hb]
    refine bestF_congr r _ (fun i hi => h i (List.mem_cons_of_mem _ hi)) ?_
    split
    · exact hx
    · exact hb
theorem firstF_best {mk mk' : Int → Mk} {l : List Int} (h : ∀ i ∈ l, mk i = mk' i) (hn : l ≠ []) : firstF mk none l = some (bestL mk' l) := by
  cases l with
  | nil => exact absurd rfl hn
  | cons x r =>
    show firstF mk (some x) r = _
    rw [firstF_some]
    unfold bestL
    show _ = some (bestF mk' x (x :: r))
    have : bestF mk' x (x :: r) = bestF mk' x r := by
      show bestF mk' (if mless (mk' x) (mk' x) = true then x else x) r = _
      split <;> rfl
    rw [this, bestF_congr r x (fun i hi => h i (List.mem_cons_of_mem _ hi)) (h x (by simp))]
theorem lk_drop {l : List (Int × Mk)} {i j : Int} (h : j ≠ i) : lkM (dropM l i) j = lkM l j := by
  induction l with
  | nil => rfl
  | cons e r ih =>
    by_cases z : e.1 = i
    · have h1 : dropM (e :: r) i = dropM r i := by unfold dropM; rw [List.filter_cons_of_neg (by simp [z])]
      have h2 : e.1 ≠ j := fun y => h (y ▸ z)
      rw [h1, ih]
      simp [lkM, List.find?_cons, h2]
    · have h1 : dropM (e :: r) i = e :: dropM r i := by unfold dropM; rw [List.filter_cons_of_pos (by simpa using z)]
      rw [h1]
      unfold lkM at ih ⊢
      rw [List.find?_cons, List.find?_cons]
      split
      · rfl
      · exact ih
/-- what comes of a letter that is told -/
inductive Out
  | mk (m : Mk)
  | lst (l : List Int)
  | str (x : Str)
def DS.told (s : DS) (l : Int) : Option Mk → DS × Out
  | none => if l ∈ s.known then (s, .str "Twice") else (s.prop l, .mk (s.time + 1, s.hand))
  | some m => if l ∉ s.keys ∨ l ∈ s.done then (s, .str "NotOpen") else if mless m (mkOf s l) = true then (s, .str "BadMark") else ((s.set1 l m).run.1, .lst (s.set1 l m).run.2)
theorem DS.told_n (s : DS) (l : Int) : s.told l none = if l ∈ s.known then (s, .str "Twice") else (s.prop l, .mk (s.time + 1, s.hand)) := rfl
theorem DS.told_m (s : DS) (l : Int) (m : Mk) : s.told l (some m) = if l ∉ s.keys ∨ l ∈ s.done then (s, .str "NotOpen") else if mless m (mkOf s l) = true then (s, .str "BadMark") else ((s.set1 l m).run.1, .lst (s.set1 l m).run.2) := rfl
theorem Good.told {s : DS} (g : Good s) (l : Int) (o : Option Mk) : Good (s.told l o).1 := by
  cases o with
  | none =>
    rw [DS.told_n]
    by_cases h : l ∈ s.known
    · rw [if_pos h]; exact g
    · rw [if_neg h]; exact g.prop h
  | some m =>
    rw [DS.told_m]
    by_cases h : l ∉ s.keys ∨ l ∈ s.done
    · rw [if_pos h]; exact g
    · rw [if_neg h]
      by_cases h2 : mless m (mkOf s l) = true
      · rw [if_pos h2]; exact g
      · rw [if_neg h2]
        have : l ∈ s.keys := by
          rw [not_or, Classical.not_not] at h
          exact h.1
        exact (g.set1 this).run
/-- how much it holds -/
def DS.size (s : DS) : Nat := s.known.length + s.row.length + s.marked.length + s.done.length
theorem DS.told_size (s : DS) (l : Int) (o : Option Mk) : (s.told l o).1.size ≤ s.size + 2 := by
  cases o with
  | none =>
    rw [DS.told_n]
    by_cases h : l ∈ s.known
    · rw [if_pos h]; show s.size ≤ _; omega
    · rw [if_neg h]
      show (s.known ++ [l]).length + s.row.length + (putM s.marked l _).length + s.done.length ≤ _
      have hp : (putM s.marked l (s.time + 1, s.hand)).length ≤ s.marked.length + 1 := by
        by_cases hk : l ∈ s.marked.map (·.1)
        · rw [put_len hk]; omega
        · rw [put_new hk, List.length_append]; simp
      rw [List.length_append, List.length_singleton]
      unfold DS.size
      omega
  | some m =>
    rw [DS.told_m]
    by_cases h : l ∉ s.keys ∨ l ∈ s.done
    · rw [if_pos h]; show s.size ≤ _; omega
    · rw [if_neg h]
      by_cases h2 : mless m (mkOf s l) = true
      · rw [if_pos h2]; show s.size ≤ _; omega
      · rw [if_neg h2]
        have hin : l ∈ s.marked.map (·.1) := by
          rw [not_or, Classical.not_not] at h
          exact h.1
        obtain ⟨q1, q2, q3⟩ := DS.over_len (s.set1 l m).marked.length (s.set1 l m)
        show (s.set1 l m).run.1.size ≤ _
        unfold DS.size DS.run
        rw [q2, q3]
        have hp : (s.set1 l m).marked.length = s.marked.length := put_len hin
        have hd : (s.set1 l m).done.length = s.done.length + 1 := by
          show (s.done ++ [l]).length = _
          rw [List.length_append]; rfl
        have hr : (s.set1 l m).row = s.row := rfl
        have hk : (s.set1 l m).known = s.known := rfl
        rw [hp, hr] at q1
        rw [hk, hd]
        rw [hp]
        omega

/-! ## the law's own desk, a dict -/
structure LP where
  a : Addr
  l : Addr
  m : Addr
  d : Addr
  r : Addr
def LP.foot (q : LP) : List Addr := [q.a, q.l, q.m, q.d, q.r]
def ldK (q : LP) (s : DS) (ex : List (Str × Addr)) : List (Key × V) := (.inr "hand", .int s.hand) :: (.inr "time", .int s.time) :: (.inr "met", .ref q.l) :: (.inr "marks", .ref q.m) :: (.inr "done", .ref q.d) :: (.inr "row", .ref q.r) :: ex.map fun e => (.inr e.1, .ref e.2)
def ExKey (k : Str) : Prop := k = "told" ∨ k = "rows" ∨ k = "given"
structure LDAt (K : PySem.W.Frag) (A B : Hp) (q : LP) (ex : List (Str × Addr)) (s : DS) : Prop where
  ia : B q.a = some (.dK (ldK q s ex))
  il : B q.l = some (.lst (s.known.map V.int))
  im : ∃ kvs, B q.m = some (.dK kvs) ∧ MkKvs K A kvs s.marked
  id : B q.d = some (.dK (flags s.done))
  ir : B q.r = some (.lst (s.row.map V.int))
  nd : q.foot.Nodup
  na : ∀ x ∈ q.foot, A x = none
  kx : ∀ e ∈ ex, ExKey e.1
def exP (ex : List (Str × Addr)) (k : Str) (x : Addr) : List (Str × Addr) := if (ex.any fun e => decide (e.1 = k)) = true then ex.map (fun e => if e.1 = k then (e.1, x) else e) else ex ++ [(k, x)]
theorem exP_len (ex : List (Str × Addr)) (k : Str) (x : Addr) : (exP ex k x).length ≤ ex.length + 1 := by
  unfold exP
  split
  · rw [List.length_map]; omega
  · rw [List.length_append]; simp
theorem exP_key {ex : List (Str × Addr)} {k : Str} {x : Addr} (hk : ExKey k) (h : ∀ e ∈ ex, ExKey e.1) : ∀ e ∈ exP ex k x, ExKey e.1 := fun e he => by
  unfold exP at he
  split at he
  · obtain ⟨y, hy, e'⟩ := List.mem_map.mp he
    split at e'
    · rw [← e']; exact h y hy
    · rw [← e']; exact h y hy
  · rcases List.mem_append.mp he with z | z
    · exact h e z
    · rw [List.mem_singleton.mp z]; exact hk
theorem exP_mem {ex : List (Str × Addr)} {k : Str} {x : Addr} {e : Str × Addr} (h : e ∈ exP ex k x) : e ∈ ex ∨ e.2 = x := by
  unfold exP at h
  split at h
  · obtain ⟨y, hy, he⟩ := List.mem_map.mp h
    split at he
    · exact .inr (by rw [← he])
    · exact .inl (he ▸ hy)
  · rcases List.mem_append.mp h with z | z
    · exact .inl z
    · rw [List.mem_singleton.mp z]
      exact .inr rfl
theorem ex_any (k : Str) : ∀ ex : List (Str × Addr), ((ex.map fun e => ((Sum.inr e.1 : Key), V.ref e.2)).any fun kv => decide (kv.1 = Sum.inr k)) = ex.any fun e => decide (e.1 = k)
  | [] => rfl
  | e :: r => by
    rw [List.map_cons, List.any_cons, List.any_cons, ex_any k r]
    congr 1
    exact decide_eq_decide.mpr ⟨fun z => Sum.inr.inj z, fun z => by rw [z]⟩
theorem ex_map (k : Str) (x : Addr) : ∀ ex : List (Str × Addr), ((ex.map fun e => ((Sum.inr e.1 : Key), V.ref e.2)).map fun kv => if kv.1 = Sum.inr k then (kv.1, V.ref x) else kv) = (ex.map fun e => if e.1 = k then (e.1, x) else e).map fun e => ((Sum.inr e.1 : Key), V.ref e.2)
  | [] => rfl
  | e :: r => by
    rw [List.map_cons, List.map_cons, List.map_cons, List.map_cons, ex_map k x r]
    congr 1
    by_cases z : e.1 = k
    · rw [if_pos z, if_pos (by rw [z])]
    · rw [if_neg z, if_neg (fun y => z (Sum.inr.inj y))]
theorem kne {a b : Str} (h : a ≠ b) : (Sum.inr a : Key) ≠ Sum.inr b := fun z => h (Sum.inr.inj z)
theorem ld_put {q : LP} {s : DS} {ex : List (Str × Addr)} {k : Str} {x : Addr} (hk : ExKey k) : putK (ldK q s ex) (.inr k) (.ref x) = ldK q s (exP ex k x) := by
  have key : ∀ (b1 b2 b3 b4 b5 b6 : Key × V) (r : List (Key × V)), b1.1 ≠ Sum.inr k → b2.1 ≠ Sum.inr k → b3.1 ≠ Sum.inr k → b4.1 ≠ Sum.inr k → b5.1 ≠ Sum.inr k → b6.1 ≠ Sum.inr k → putK (b1 :: b2 :: b3 :: b4 :: b5 :: b6 :: r) (.inr k) (.ref x) = b1 :: b2 :: b3 :: b4 :: b5 :: b6 :: putK r (.inr k) (.ref x) := fun b1 b2 b3 b4 b5 b6 r h1 h2 h3 h4 h5 h6 => by
    unfold putK
    simp only [List.any_cons, List.map_cons, decide_eq_false h1, decide_eq_false h2, decide_eq_false h3, decide_eq_false h4, decide_eq_false h5, decide_eq_false h6, Bool.false_or, if_neg h1, if_neg h2, if_neg h3, if_neg h4, if_neg h5, if_neg h6]
    split <;> rfl
  have rest : putK (ex.map fun e => ((Sum.inr e.1 : Key), V.ref e.2)) (.inr k) (.ref x) = (exP ex k x).map fun e => ((Sum.inr e.1 : Key), V.ref e.2) := by
    unfold putK exP
    rw [ex_any]
    split
    · rw [ex_map]
    · rw [List.map_append]; rfl
  unfold ldK
  rw [key, rest]
  all_goals (rcases hk with rfl | rfl | rfl <;> exact kne (by decide))
theorem putK_at {l1 l2 : List (Key × V)} {k : Key} {v v' : V} (h1 : ∀ kv ∈ l1, kv.1 ≠ k) (h2 : ∀ kv ∈ l2, kv.1 ≠ k) : putK (l1 ++ (k, v) :: l2) k v' = l1 ++ (k, v') :: l2 := by
  have same : ∀ l : List (Key × V), (∀ kv ∈ l, kv.1 ≠ k) → l.map (fun kv => if kv.1 = k then (kv.1, v') else kv) = l := fun l h => by
    conv => rhs; rw [← List.map_id l]
    exact List.map_congr_left fun kv hkv => if_neg (h kv hkv)
  unfold putK
  rw [if_pos (by rw [List.any_append, List.any_cons, decide_eq_true rfl]; simp), List.map_append, List.map_cons, same l1 h1, same l2 h2, if_pos rfl]
theorem exm_ne {ex : List (Str × Addr)} (h : ∀ e ∈ ex, ExKey e.1) {k : Str} (hk : ¬ ExKey k) : ∀ kv ∈ ex.map (fun e => ((Sum.inr e.1 : Key), V.ref e.2)), kv.1 ≠ Sum.inr k := fun kv hkv z => by
  obtain ⟨e, he, rfl⟩ := List.mem_map.mp hkv
  exact hk (Sum.inr.inj z ▸ h e he)
theorem exk_time : ¬ ExKey "time" := fun h => by
  rcases h with h | h | h <;> (revert h; decide)
theorem exk_row : ¬ ExKey "row" := fun h => by
  rcases h with h | h | h <;> (revert h; decide)
theorem ld_time {q : LP} {s : DS} {ex : List (Str × Addr)} (h : ∀ e ∈ ex, ExKey e.1) {t : Int} : putK (ldK q s ex) (.inr "time") (.int t) = ldK q ⟨s.hand, t, s.known, s.marked, s.done, s.row⟩ ex :=
  putK_at (k := .inr "time") (v := .int s.time) (v' := .int t) (l1 := [(.inr "hand", .int s.hand)]) (l2 := (.inr "met", .ref q.l) :: (.inr "marks", .ref q.m) :: (.inr "done", .ref q.d) :: (.inr "row", .ref q.r) :: ex.map fun e : Str × Addr => ((Sum.inr e.1 : Key), V.ref e.2)) (fun kv hkv => by
    rw [List.mem_singleton.mp hkv]; exact kne (by decide)) fun kv hkv => by
    rcases List.mem_cons.mp hkv with rfl | hkv
    · exact kne (by decide)
    rcases List.mem_cons.mp hkv with rfl | hkv
    · exact kne (by decide)
    rcases List.mem_cons.mp hkv with rfl | hkv
    · exact kne (by decide)
    rcases List.mem_cons.mp hkv with rfl | hkv
    · exact kne (by decide)
    exact exm_ne h exk_time kv hkv
theorem ld_row {q : LP} {s : DS} {ex : List (Str × Addr)} (h : ∀ e ∈ ex, ExKey e.1) {r : Addr} : putK (ldK q s ex) (.inr "row") (.ref r) = ldK ⟨q.a, q.l, q.m, q.d, r⟩ s ex :=
  putK_at (k := .inr "row") (v := .ref q.r) (v' := .ref r) (l1 := [(.inr "hand", .int s.hand), (.inr "time", .int s.time), (.inr "met", .ref q.l), (.inr "marks", .ref q.m), (.inr "done", .ref q.d)]) (l2 := ex.map fun e : Str × Addr => ((Sum.inr e.1 : Key), V.ref e.2)) (fun kv hkv => by
    rcases List.mem_cons.mp hkv with rfl | hkv
    · exact kne (by decide)
    rcases List.mem_cons.mp hkv with rfl | hkv
    · exact kne (by decide)
    rcases List.mem_cons.mp hkv with rfl | hkv
    · exact kne (by decide)
    rcases List.mem_cons.mp hkv with rfl | hkv
    · exact kne (by decide)
    rw [List.mem_singleton.mp hkv]; exact kne (by decide)) (exm_ne h exk_row)
theorem ld_get {q : LP} {s : DS} {ex : List (Str × Addr)} {k : Str} (hk : ExKey k) : valV (ldK q s ex) (.inr k) = none ∨ ∃ e ∈ ex, valV (ldK q s ex) (.inr k) = some (.ref e.2) := by
  have rest : ∀ ex : List (Str × Addr), valV (ex.map fun e => ((Sum.inr e.1 : Key), V.ref e.2)) (.inr k) = none ∨ ∃ e ∈ ex, valV (ex.map fun e => ((Sum.inr e.1 : Key), V.ref e.2)) (.inr k) = some (.ref e.2) := by
    intro ex
    induction ex with
    | nil => exact .inl rfl
    | cons e r ih =>
      rw [List.map_cons]
      by_cases z : e.1 = k
      · exact .inr ⟨e, by simp, by rw [valV_pos (by rw [z])]⟩
      · rw [valV_neg (fun y => z (Sum.inr.inj y))]
        rcases ih with h | ⟨e', h1, h2⟩
        · exact .inl h
        · exact .inr ⟨e', List.mem_cons_of_mem _ h1, h2⟩
  have eq : valV (ldK q s ex) (.inr k) = valV (ex.map fun e => ((Sum.inr e.1 : Key), V.ref e.2)) (.inr k) := by
    unfold ldK
    rcases hk with rfl | rfl | rfl <;> rfl
  rw [eq]
  exact rest ex
section
variable {K : PySem.W.Frag} {A B A' B' : Hp} {q : LP} {s : DS} {F : Addr → Prop} {ex : List (Str × Addr)}
theorem LDAt.alive (D : LDAt K A B q ex s) : ∀ x ∈ q.foot, B x ≠ none := fun x hx => by
  simp only [LP.foot, List.mem_cons, List.not_mem_nil, or_false] at hx
  obtain ⟨kv0, e0, _⟩ := D.im
  rcases hx with rfl | rfl | rfl | rfl | rfl
  · rw [D.ia]; simp
  · rw [D.il]; simp
  · rw [e0]; simp
  · rw [D.id]; simp
  · rw [D.ir]; simp
theorem LP.in_a : q.a ∈ q.foot := by simp [LP.foot]
theorem LP.in_l : q.l ∈ q.foot := by simp [LP.foot]
theorem LP.in_m : q.m ∈ q.foot := by simp [LP.foot]
theorem LP.in_d : q.d ∈ q.foot := by simp [LP.foot]
theorem LP.in_r : q.r ∈ q.foot := by simp [LP.foot]
theorem LDAt.mono (D : LDAt K A B q ex s) (P : PrM F A B A' B') (h : ∀ x ∈ q.foot, ¬ F x) : LDAt K A' B' q ex s := by
  obtain ⟨kvs, e3, hk⟩ := D.im
  exact ⟨P.b _ _ (h _ LP.in_a) D.ia, P.b _ _ (h _ LP.in_l) D.il, ⟨kvs, P.b _ _ (h _ LP.in_m) e3, hk.mono P.a⟩, P.b _ _ (h _ LP.in_d) D.id, P.b _ _ (h _ LP.in_r) D.ir, D.nd, fun x hx => P.n x (D.na x hx) (D.alive x hx), D.kx⟩
theorem LDAt.pr (D : LDAt K A B q ex s) (P : Pr A B A' B') : LDAt K A' B' q ex s := D.mono (F := fun _ => False) P.m fun _ _ z => z
theorem LDAt.up (D : LDAt K A B q ex s) (e : Ex A B) (h : Ex B B') : LDAt K A B' q ex s := D.pr (Pr.up e h)
theorem LDAt.ne (D : LDAt K A B q ex s) : q.a ≠ q.l ∧ q.a ≠ q.m ∧ q.a ≠ q.d ∧ q.a ≠ q.r ∧ q.l ≠ q.m ∧ q.l ≠ q.d ∧ q.l ≠ q.r ∧ q.m ≠ q.d ∧ q.m ≠ q.r ∧ q.d ≠ q.r := by
  have h := D.nd
  simp only [LP.foot, List.nodup_cons, List.mem_cons, List.not_mem_nil, or_false, not_or, not_false_eq_true, List.nodup_nil, and_true] at h
  obtain ⟨⟨h1, h2, h3, h4⟩, ⟨h5, h6, h7⟩, ⟨h8, h9⟩, h10⟩ := h
  exact ⟨h1, h2, h3, h4, h5, h6, h7, h8, h9, h10⟩
end
/-- less of tuples -/
theorem lex_mless (m n : Mk) : HT.lexLt [m.1, m.2] [n.1, n.2] = mless m n := by
  unfold mless
  rw [HT.lexLt_cons, HT.lexLt_cons, HT.lexLt_nil_nil]
  by_cases h : m.1 = n.1
  · rw [if_pos h, h]
    by_cases h2 : m.2 = n.2
    · rw [if_pos h2, h2]; simp
    · rw [if_neg h2]; simp
  · rw [if_neg h, beq_false_of_ne h]; simp
theorem ed_ltT {K : PySem.W.Frag} {ta tb : TE} {σ : L2.St} {H : Hp} {m n : Mk} (ha : EvD K ta σ H (mkD m)) (hb : EvD K tb σ H (mkD n)) : EvD K (tOp (rLtT K) ta tb) σ H (.bool (mless m n)) :=
  ed_opB ha hb fun x y B hx hy Q q => by
    obtain ⟨a, xs, rfl, sa, aa⟩ := dp_tuple hx
    obtain ⟨b, ys, rfl, sb, bb⟩ := dp_tuple hy
    obtain ⟨v1, v2, rfl, h1, h2⟩ := dpa2 aa
    obtain ⟨w1, w2, rfl, g1, g2⟩ := dpa2 bb
    cases h1; cases h2; cases g1; cases g2
    exact ⟨a, b, [m.1, m.2], [n.1, n.2], rfl, rfl, sa, sb, by rw [lex_mless]; exact q _ fun _ _ _ _ => .bl _⟩
section
variable {P : Program} {w : World} {K : PySem.W.Frag} {mg : Str → Option Value} {base : Heap} {c : Cs}
def sp_lfirst (K : PySem.W.Frag) : Sp := fun vs H Q _ => ∃ a lm mm kvs mkvs met ms, vs = [.ref a] ∧ H a = some (.dK kvs) ∧ valV kvs (.inr "met") = some (.ref lm) ∧ valV kvs (.inr "marks") = some (.ref mm) ∧ H lm = some (.lst (met.map V.int)) ∧ H mm = some (.dK mkvs) ∧ MkKvs K H mkvs ms ∧
  ∀ H', Ex H H' → Q (optV (lfirst ms met)) H'
theorem ok_lfirst (T : Tx K mg c) : DefOk P w K mg base CX0 1 "_law_first" ["_law_d"] (sp_lfirst K) := by
  obtain ⟨f, fd, d⟩ := T.d_law_first
  refine d.ok (d.F.ok sc_law_first (fun vs H Q E h => ?_) fun cdv A outer s H vs Q E hr h => ?_)
  · obtain ⟨_, _, _, _, _, _, _, e, _⟩ := h
    rw [e]
    rfl
  obtain ⟨a, lm, mm, kvs, mkvs, met, ms, rfl, ha, h1, h2, hlm, hmm, hmk, k⟩ := h
  have nd := sc_law_first.nd
  refine ⟨_, (pss_cons (ps_set (i := 1) nd rfl (Or.inl rfl) pe_non)
      (pss_cons (ps_for PassesOwn.never rfl (pi_list (pe_dget (hu_of hr) (pv 0) pe_str (fun _ _ => rfl))) (pg_name (i := 2) nd rfl (Or.inl rfl)) (pss_one (ps_if (PW.pt (pw_and (pt_cmp (pc_din (hu_of hr) (pv 2) (pe_dget (hu_of hr) (pv 0) pe_str (fun _ _ => rfl)))) (pw_and1 (PW.pt (pw_or (pt_cmpR op_isN1 (pv 1) pe_non (nomark _)) (pw_or1 (pt_cmpR (op_ltT hr.units0) (pe_dget (hu_of hr) (pe_dget (hu_of hr) (pv 0) pe_str (fun _ _ => rfl)) (pv 2) (fun _ _ => rfl)) (pe_dget (hu_of hr) (pe_dget (hu_of hr) (pv 0) pe_str (fun _ _ => rfl)) (pv 1) (fun _ _ => rfl)) (nomark _)))))))) (pss_one (ps_set (i := 1) nd rfl (Or.inl rfl) (pv 2))) pss_nil)))
      (pss_one (ps_ret (pv 1))))), ?_⟩
  try dsimp only [cx_K]
  have hget : ∀ B (σ : L2.St) (f : Str) (v : V), Ex H B → σ[0]? = some (some (.ref a)) → valV kvs (.inr f) = some v → Ev (tDGet (tVar 0) (tC (.str f))) σ B v := fun B σ f v e hσ hv => ev_dgetS (K := K) (ev_var hσ) (.inl (e _ _ ha)) ed_str hv
  refine q_asgV ev_c fun B1 e1 => ?_
  have mark : ∀ B (σ : L2.St) (ti : TE) (j : Int), Ex H B → σ[0]? = some (some (.ref a)) → EvD K ti σ B (.int j) → j ∈ ms.map (·.1) → EvD K (tDGet (tDGet (tVar 0) (tC (.str "marks"))) ti) σ B (mkD (mkM ms j)) := fun B σ ti j e hσ hj hin => by
    obtain ⟨m, hm'⟩ := lk_mem hin
    obtain ⟨v, g1, g2⟩ := hmk.lk hm'
    refine ed_v (ev_dget (K := K) (hget B σ "marks" _ e hσ h2) (.inl (e _ _ hmm)) hj g1) (dp_ex e ?_)
    unfold mkM
    rw [hm']
    exact g2
  have step : ∀ (i : Nat) (x : Int), met[i]? = some x → firstF (mkM ms) none ((met.take (i + 1)).filter fun i => decide (i ∈ ms.map (·.1))) = if x ∈ ms.map (·.1) then some (match firstF (mkM ms) none ((met.take i).filter fun i => decide (i ∈ ms.map (·.1))) with
      | none => x
      | some c => if mless (mkM ms x) (mkM ms c) = true then x else c) else firstF (mkM ms) none ((met.take i).filter fun i => decide (i ∈ ms.map (·.1))) := fun i x hx => by
    rw [List.take_succ, hx, List.filter_append]
    show firstF _ none (_ ++ List.filter _ [x]) = _
    by_cases z : x ∈ ms.map (·.1)
    · rw [if_pos z, List.filter_cons_of_pos (by simpa using z), List.filter_nil, firstF_app]
    · rw [if_neg z, List.filter_cons_of_neg (by simpa using z), List.filter_nil, List.append_nil]
  refine q_do (s_forL K (hget B1 _ "met" _ e1 rfl h1) (sq_of (e1 _ _ hlm)) (fun i σ' => ∃ w2, σ' = [some (.ref a), some (optV (firstF (mkM ms) none ((met.take i).filter fun i => decide (i ∈ ms.map (·.1))))), w2]) ⟨none, rfl⟩ ?_ ?_)
  · rintro i v σ' B2 hv e2 ⟨w2, rfl⟩
    rw [List.getElem?_map] at hv
    obtain ⟨x, hx, rfl⟩ := Option.map_eq_some_iff.mp hv
    have st := step i x hx
    have e12 := e1.trans e2
    have hk1 : (valV mkvs (.inl x)).isSome = decide (x ∈ ms.map (·.1)) := by rw [hmk.some, lk_some]
    by_cases z : x ∈ ms.map (·.1)
    · rw [if_pos z] at st
      cases hf : firstF (mkM ms) none ((met.take i).filter fun i => decide (i ∈ ms.map (·.1))) with
      | none =>
        rw [hf] at st
        refine s_ifM K (b := true) (eb_and (a := true) (b := true) (eb_is (eb_DB (ed_din (ed_var rfl (.int x)) (hget B2 _ "marks" _ e12 rfl h2) (.inl (e12 _ _ hmm)))) (by rw [hk1, decide_eq_true z])) fun _ => eb_or (a := true) (b := true) (eb_is (eb_D (ed_isN (ed_var rfl .non))) rfl) fun z => by cases z) rfl (fun _ B3 e3 => ?_) (fun z => by cases z)
        exact s_asgV (ev_var rfl) fun B4 e4 => ⟨e2.trans (e3.trans e4), some (.int x), by rw [st]; rfl⟩
      | some y =>
        rw [hf] at st
        have hyin : y ∈ ms.map (·.1) := (firstF_mem (mkM ms) _ none y hf).elim (fun z => by cases z) fun z => of_decide_eq_true (List.mem_filter.mp z).2
        refine s_ifM K (b := mless (mkM ms x) (mkM ms y)) (eb_and (a := true) (b := mless (mkM ms x) (mkM ms y)) (eb_is (eb_DB (ed_din (ed_var rfl (.int x)) (hget B2 _ "marks" _ e12 rfl h2) (.inl (e12 _ _ hmm)))) (by rw [hk1, decide_eq_true z])) fun _ => eb_is (eb_or (a := false) (b := mless (mkM ms x) (mkM ms y)) (eb_is (eb_D (ed_isN (ed_var rfl (.int y)))) rfl) fun _ => eb_D (ed_ltT (mark B2 _ _ x e12 rfl (ed_var rfl (.int x)) z) (mark B2 _ _ y e12 rfl (ed_var rfl (.int y)) hyin))) (by simp)) (by simp) (fun hb B3 e3 => ?_) (fun hb B3 e3 => ?_)
        · exact s_asgV (ev_var rfl) fun B4 e4 => ⟨e2.trans (e3.trans e4), some (.int x), by rw [st]; simp only [hb, if_true]; rfl⟩
        · exact ⟨e2.trans e3, some (.int x), by rw [st]; simp only [hb, Bool.false_eq_true, if_false]; rfl⟩
    · rw [if_neg z] at st
      refine s_ifM K (b := false) (eb_and (a := false) (b := false) (eb_is (eb_DB (ed_din (ed_var rfl (.int x)) (hget B2 _ "marks" _ e12 rfl h2) (.inl (e12 _ _ hmm)))) (by rw [hk1, decide_eq_false z])) fun z => by cases z) rfl (fun z => by cases z) (fun _ B3 e3 => ?_)
      exact ⟨e2.trans e3, some (.int x), by rw [st]; rfl⟩
  · rintro σ' B2 e2 ⟨w2, rfl⟩
    rw [List.length_map, List.take_length]
    exact go_nx (s_retV (ev_var rfl) fun B3 e3 => k B3 (e1.trans (e2.trans e3)))
end

section
variable {K : PySem.W.Frag} {A B H : Hp} {σ : L2.St} {td : TE} {E : XK} {q : LP} {ex : List (Str × Addr)} {s : DS}
theorem ev_lfirst (D : LDAt K A B q ex s) (e : Ex A B) (hd : Ev td σ B (.ref q.a)) : Ev (tCall (sp_lfirst K) [] E (tCons td tNil)) σ B (optV (lfirst s.marked s.known)) := fun B1 e1 Q q =>
  hd B1 e1 _ fun B2 e2 => by
    obtain ⟨kvs, hm, hmk⟩ := D.im
    have e12 := e1.trans e2
    exact ⟨_, _, _, _, kvs, _, _, rfl, e12 _ _ D.ia, rfl, rfl, e12 _ _ D.il, e12 _ _ hm, hmk.mono (e.trans e12), fun B3 e3 => q B3 (e2.trans e3)⟩
/-- what stands in the dict -/
theorem ev_ld (D : LDAt K A B q ex s) (hd : Ev td σ B (.ref q.a)) {f : Str} {v : V} (hv : valV (ldK q s ex) (.inr f) = some v) : Ev (tDGet td (tC (.str f))) σ B v := ev_dgetS (K := K) hd (.inl D.ia) ed_str hv
end
section
variable {P : Program} {w : World} {K : PySem.W.Frag} {mg : Str → Option Value} {base : Heap} {c : Cs}
def sp_ldesk (K : PySem.W.Frag) : Sp := fun vs H Q _ => ∃ A h, vs = [.int h] ∧ Ex A H ∧ ∀ q H', PrM (fun _ => False) A H A H' → (∀ x ∈ q.foot, H x = none) → LDAt K A H' q [] ⟨h, 0, [], [], [], []⟩ → Q (.ref q.a) H'
theorem ok_ldesk (T : Tx K mg c) : DefOk P w K mg base CX0 1 "_law_desk" ["_law_hand"] (sp_ldesk K) := by
  obtain ⟨f, fd, d⟩ := T.d_law_desk
  refine d.ok (d.F.ok sc_law_desk (fun vs H Q E h => ?_) fun cdv A outer s H vs Q E hr h => ?_)
  · obtain ⟨_, _, e, _⟩ := h
    rw [e]
    rfl
  obtain ⟨A0, h, rfl, s0, k⟩ := h
  have nd := sc_law_desk.nd
  refine ⟨_, (pss_one (ps_ret (pe_disp (pps_cons pe_str (pv 0) (pps_cons pe_str pe_int (pps_cons pe_str (pe_lst pa_nil) (pps_cons pe_str pe_dnewK (pps_cons pe_str pe_dnewK (pps_cons pe_str (pe_lst pa_nil) pps_nil)))))) (by rfl) (by rfl) (fun z => by cases z) (by decide)))), ?_⟩
  try dsimp only [cx_K]
  intro pa hpa
  have P1 : PrM (fun _ => False) A0 H A0 (upd H pa (.dK [])) := (PrM.refl s0).new hpa
  generalize hH1 : upd H pa (.dK []) = H1 at P1 ⊢
  have g1 : H1 pa = some (.dK []) := by rw [← hH1]; exact upd_same
  refine ⟨_, rfl, sz_of (by decide), fun pl hpl => ?_⟩
  have n1 : pl ≠ pa := fun z => by rw [z, g1] at hpl; cases hpl
  have P2 := P1.new (o := .lst []) hpl
  have f2 := P1.fresh hpl
  have a2 : (upd H1 pl (.lst [])) pa = some (.dK []) := by rw [upd_ne (Ne.symm n1)]; exact g1
  have l2 : (upd H1 pl (.lst [])) pl = some (.lst []) := upd_same
  generalize upd H1 pl (.lst []) = H2 at P2 a2 l2 ⊢
  intro pm hpm
  have m1 : pm ≠ pa := fun z => by rw [z, a2] at hpm; cases hpm
  have m2 : pm ≠ pl := fun z => by rw [z, l2] at hpm; cases hpm
  have P3 := P2.new (o := .dK []) hpm
  have f3 := P2.fresh hpm
  have a3 : (upd H2 pm (.dK [])) pa = some (.dK []) := by rw [upd_ne (Ne.symm m1)]; exact a2
  have l3 : (upd H2 pm (.dK [])) pl = some (.lst []) := by rw [upd_ne (Ne.symm m2)]; exact l2
  have m3 : (upd H2 pm (.dK [])) pm = some (.dK []) := upd_same
  generalize upd H2 pm (.dK []) = H3 at P3 a3 l3 m3 ⊢
  intro pd hpd
  have d1 : pd ≠ pa := fun z => by rw [z, a3] at hpd; cases hpd
  have d2 : pd ≠ pl := fun z => by rw [z, l3] at hpd; cases hpd
  have d3 : pd ≠ pm := fun z => by rw [z, m3] at hpd; cases hpd
  have P4 := P3.new (o := .dK []) hpd
  have f4 := P3.fresh hpd
  have a4 : (upd H3 pd (.dK [])) pa = some (.dK []) := by rw [upd_ne (Ne.symm d1)]; exact a3
  have l4 : (upd H3 pd (.dK [])) pl = some (.lst []) := by rw [upd_ne (Ne.symm d2)]; exact l3
  have m4 : (upd H3 pd (.dK [])) pm = some (.dK []) := by rw [upd_ne (Ne.symm d3)]; exact m3
  have d4 : (upd H3 pd (.dK [])) pd = some (.dK []) := upd_same
  generalize upd H3 pd (.dK []) = H4 at P4 a4 l4 m4 d4 ⊢
  refine ⟨sz_of (by decide), fun pr hpr => ?_⟩
  have r1 : pr ≠ pa := fun z => by rw [z, a4] at hpr; cases hpr
  have r2 : pr ≠ pl := fun z => by rw [z, l4] at hpr; cases hpr
  have r3 : pr ≠ pm := fun z => by rw [z, m4] at hpr; cases hpr
  have r4 : pr ≠ pd := fun z => by rw [z, d4] at hpr; cases hpr
  have P5 := P4.new (o := .lst []) hpr
  have f5 := P4.fresh hpr
  have a5 : (upd H4 pr (.lst [])) pa = some (.dK []) := by rw [upd_ne (Ne.symm r1)]; exact a4
  have l5 : (upd H4 pr (.lst [])) pl = some (.lst []) := by rw [upd_ne (Ne.symm r2)]; exact l4
  have m5 : (upd H4 pr (.lst [])) pm = some (.dK []) := by rw [upd_ne (Ne.symm r3)]; exact m4
  have d5 : (upd H4 pr (.lst [])) pd = some (.dK []) := by rw [upd_ne (Ne.symm r4)]; exact d4
  have r5 : (upd H4 pr (.lst [])) pr = some (.lst []) := upd_same
  generalize upd H4 pr (.lst []) = H5 at P5 a5 l5 m5 d5 r5 ⊢
  have nA : ∀ x, H x = none → A0 x = none := fun x e => fresh_back s0 e
  have P6 := P5.put (l := pa) (o := .dK (ldK ⟨pa, pl, pm, pd, pr⟩ ⟨h, 0, [], [], [], []⟩ [])) (.inr hpa) (nA _ hpa)
  refine ⟨a5, ldK ⟨pa, pl, pm, pd, pr⟩ ⟨h, 0, [], [], [], []⟩ [], rfl, by show 6 ≤ 15; decide, ?_⟩
  have foot : ∀ x ∈ (LP.mk pa pl pm pd pr).foot, H x = none := fun x hx => by
    simp only [LP.foot, List.mem_cons, List.not_mem_nil, or_false] at hx
    rcases hx with rfl | rfl | rfl | rfl | rfl
    · exact hpa
    · exact f2
    · exact f3
    · exact f4
    · exact f5
  refine k ⟨pa, pl, pm, pd, pr⟩ _ P6 foot ⟨upd_same, ?_, ⟨[], ?_, .nil⟩, ?_, ?_, ?_, fun x hx => nA x (foot x hx), fun e he => absurd he (by simp)⟩
  · show (upd H5 pa _) pl = _
    rw [upd_ne n1]; exact l5
  · show (upd H5 pa _) pm = _
    rw [upd_ne m1]; exact m5
  · show (upd H5 pa _) pd = _
    rw [upd_ne d1]; exact d5
  · show (upd H5 pa _) pr = _
    rw [upd_ne r1]; exact r5
  · simp only [LP.foot, List.nodup_cons, List.mem_cons, List.not_mem_nil, or_false, not_or, not_false_eq_true, List.nodup_nil, and_true]
    exact ⟨⟨Ne.symm n1, Ne.symm m1, Ne.symm d1, Ne.symm r1⟩, ⟨Ne.symm m2, Ne.symm d2, Ne.symm r2⟩, ⟨Ne.symm d3, Ne.symm r3⟩, Ne.symm r4⟩
end
section
variable {P : Program} {w : World} {K : PySem.W.Frag} {mg : Str → Option Value} {base : Heap} {c : Cs}
def sp_lprop (K : PySem.W.Frag) : Sp := fun vs H Q _ => ∃ A q ex s l, vs = [.ref q.a, .int l] ∧ Ex A H ∧ LDAt K A H q ex s ∧ s.size < 80000 ∧ ex.length < 9000 ∧
  ∀ v A' H', PrM (fun x => x ∈ q.foot) A H A' H' → LDAt K A' H' q ex (s.prop l) → Dp K A' v (mkD (s.time + 1, s.hand)) → Q v H'
theorem ok_lprop (T : Tx K mg c) : DefOk P w K mg base CX0 1 "_law_proposed" ["_law_d", "_law_letter"] (sp_lprop K) := by
  obtain ⟨f, fd, d⟩ := T.d_law_proposed
  refine d.ok (d.F.ok sc_law_proposed (fun vs H Q E h => ?_) fun cdv A outer s H vs Q E hr h => ?_)
  · obtain ⟨_, _, _, _, _, e, _⟩ := h
    rw [e]
    rfl
  obtain ⟨A0, q, ex, st, l, rfl, s0, hD, hl, hx, k⟩ := h
  have nd := sc_law_proposed.nd
  refine ⟨_, (pss_cons (ps_dput (hu_of hr) (pv 0) pe_str (pe_op op_add (pe_dget (hu_of hr) (pv 0) pe_str (fun _ _ => rfl)) pe_int) rfl)
      (pss_cons (ps_expr (pe_bm PySem.F.plainAttrs_list PySem.F.slot_list_append PySem.F.type_list_append mt_append (pe_dget (hu_of hr) (pv 0) pe_str (fun _ _ => rfl)) (pa_cons (pv 1) pa_nil)))
      (pss_cons (ps_dput (hu_of hr) (pe_dget (hu_of hr) (pv 0) pe_str (fun _ _ => rfl)) (pv 1) (pe_tup (pa_cons (pe_dget (hu_of hr) (pv 0) pe_str (fun _ _ => rfl)) (pa_cons (pe_dget (hu_of hr) (pv 0) pe_str (fun _ _ => rfl)) pa_nil))) rfl)
      (pss_one (ps_ret (pe_dget (hu_of hr) (pe_dget (hu_of hr) (pv 0) pe_str (fun _ _ => rfl)) (pv 1) (fun _ _ => rfl))))))), ?_⟩
  try dsimp only [cx_K]
  obtain ⟨ne1, ne2, ne3, ne4, ne5, ne6, ne7, ne8, ne9, ne10⟩ := hD.ne
  unfold DS.size at hl
  have hlen : ∀ s : DS, (ldK q s ex).length < 100000 := fun s => by unfold ldK; simp only [List.length_cons, List.length_map]; omega
  obtain ⟨kvs, hm, hmk⟩ := hD.im
  -- time
  refine q_do (s_dputS (K := K) (v := .int (st.time + 1)) (v_int (K := K) (ed_Ii (ed_ev (ev_ld hD (ev_var rfl) (v := .int st.time) rfl) (.int _)) ed_int)) (ev_var rfl) ed_str hD.ia (hlen _) fun B1 e1 => go_nx ?_)
  rw [ld_time hD.kx]
  have P2 := ((PrM.refl (F := fun x => x ∈ q.foot) s0).up e1).put (l := q.a) (o := .dK (ldK q ⟨st.hand, st.time + 1, st.known, st.marked, st.done, st.row⟩ ex)) (.inl LP.in_a) (hD.na _ LP.in_a)
  have na : ∀ x, x ≠ q.a → ∀ u, H x = some u → (upd B1 q.a (.dK (ldK q ⟨st.hand, st.time + 1, st.known, st.marked, st.done, st.row⟩ ex))) x = some u := fun x n u e => by rw [upd_ne n]; exact e1 _ _ e
  have a2 : (upd B1 q.a (.dK (ldK q ⟨st.hand, st.time + 1, st.known, st.marked, st.done, st.row⟩ ex))) q.a = some (.dK (ldK q ⟨st.hand, st.time + 1, st.known, st.marked, st.done, st.row⟩ ex)) := upd_same
  generalize upd B1 q.a (.dK (ldK q ⟨st.hand, st.time + 1, st.known, st.marked, st.done, st.row⟩ ex)) = H2 at P2 na a2 ⊢
  have D2 : LDAt K A0 H2 q ex ⟨st.hand, st.time + 1, st.known, st.marked, st.done, st.row⟩ := ⟨a2, na _ (Ne.symm ne1) _ hD.il, ⟨kvs, na _ (Ne.symm ne2) _ hm, hmk⟩, na _ (Ne.symm ne3) _ hD.id, na _ (Ne.symm ne4) _ hD.ir, hD.nd, hD.na, hD.kx⟩
  -- met
  refine q_do (s_app K (d := .int l) P2.s (ev_ld D2 (ev_var rfl) (v := .ref q.l) rfl) (ep_v (ev_var rfl) (.int l)) D2.il (by rw [List.length_map]; show st.known.length < 100000; omega) fun v3 A3 B3 P3 hv3 => go_nx ?_)
  cases hv3
  have hmm : (DS.mk st.hand (st.time + 1) st.known st.marked st.done st.row).known.map V.int ++ [V.int l] = (st.known ++ [l]).map V.int := by rw [List.map_append]; rfl
  rw [hmm]
  have D3 := D2.pr P3
  have P4 := (P2.pr P3).put (l := q.l) (o := .lst ((st.known ++ [l]).map V.int)) (.inl LP.in_l) (D3.na _ LP.in_l)
  have nl : ∀ x, x ≠ q.l → ∀ u, B3 x = some u → (upd B3 q.l (.lst ((st.known ++ [l]).map V.int))) x = some u := fun x n u e => by rw [upd_ne n]; exact e
  have l4 : (upd B3 q.l (.lst ((st.known ++ [l]).map V.int))) q.l = some (.lst ((st.known ++ [l]).map V.int)) := upd_same
  generalize upd B3 q.l (.lst ((st.known ++ [l]).map V.int)) = H4 at P4 nl l4 ⊢
  obtain ⟨kvs3, hm3, hmk3⟩ := D3.im
  have D4 : LDAt K A3 H4 q ex ⟨st.hand, st.time + 1, st.known ++ [l], st.marked, st.done, st.row⟩ := ⟨nl _ ne1 _ D3.ia, l4, ⟨kvs3, nl _ (Ne.symm ne5) _ hm3, hmk3⟩, nl _ (Ne.symm ne6) _ D3.id, nl _ (Ne.symm ne7) _ D3.ir, hD.nd, D3.na, hD.kx⟩
  -- marks
  have m4 := nl _ (Ne.symm ne5) _ hm3
  refine q_do (s_dput K (d := mkD (st.time + 1, st.hand)) P4.s (ep_tup (epa_cons (ep_i (ed_ev (ev_ld D4 (ev_var rfl) (v := .int (st.time + 1)) rfl) (.int _))) (epa_cons (ep_i (ed_ev (ev_ld D4 (ev_var rfl) (v := .int st.hand) rfl) (.int _))) epa_nil)) (by show 2 ≤ 100000; decide)) (ev_ld D4 (ev_var rfl) (v := .ref q.m) rfl) (ed_var rfl (.int l)) m4 (by rw [hmk3.len]; show st.marked.length < 100000; omega) fun v5 A5 B5 P5 hv5 => go_nx ?_)
  have D5 := D4.pr P5
  have P6 := (P4.pr P5).put (l := q.m) (o := .dK (putK kvs3 (.inl l) v5)) (.inl LP.in_m) (D5.na _ LP.in_m)
  have hm6 := (hmk3.mono P5.a).put (i := l) (m := (st.time + 1, st.hand)) hv5
  have nm : ∀ x, x ≠ q.m → ∀ u, B5 x = some u → (upd B5 q.m (.dK (putK kvs3 (.inl l) v5))) x = some u := fun x n u e => by rw [upd_ne n]; exact e
  have m6 : (upd B5 q.m (.dK (putK kvs3 (.inl l) v5))) q.m = some (.dK (putK kvs3 (.inl l) v5)) := upd_same
  generalize upd B5 q.m (.dK (putK kvs3 (.inl l) v5)) = H6 at P6 nm m6 ⊢
  have D6 : LDAt K A5 H6 q ex (st.prop l) := ⟨nm _ ne2 _ D5.ia, nm _ ne5 _ D5.il, ⟨_, m6, hm6⟩, nm _ (Ne.symm ne8) _ D5.id, nm _ (Ne.symm ne9) _ D5.ir, hD.nd, D5.na, hD.kx⟩
  obtain ⟨v7, hv7, hd7⟩ := hm6.lk (lk_put l (st.time + 1, st.hand) st.marked)
  refine s_retV (ev_dget (K := K) (ev_ld D6 (ev_var rfl) (v := .ref q.m) rfl) (.inl m6) (ed_var rfl (.int l)) hv7) fun B8 e8 => ?_
  exact k v7 A5 B8 (P6.up e8) (D6.up P6.s e8) hd7
end

section
variable {K : PySem.W.Frag} {H : Hp} {σ : L2.St} {td ty te : TE} {ds : List D} {Dd : Ends} {m p : Addr} {xs : List V}
theorem s_dputSN {kvs : List (Key × V)} {i : Str} (hv : EvN K te σ H ds) (hd : Ev td σ H (.ref m)) (hi : EvD K ty σ H (.str i)) (hm : H m = some (.dK kvs)) (hl : kvs.length < 100000)
    (k : ∀ p ys B', H p = none → Ex H B' → B' p = some (.lst ys) → DpAll K B' ys ds → Dd.nx σ (upd B' m (.dK (putK kvs (.inr i) (.ref p))))) : sDPut td ty te Dd σ H :=
  hv H H (Ex.refl _) (Ex.refl _) _ fun p xs A1 B1 hp P hA h1 hx => hd B1 P.b _ fun B2 e2 => v_str hi B2 (P.b.trans e2) _ fun B3 e3 =>
    ⟨m, _, rfl, .inl ⟨kvs, .inr i, e3 _ _ (e2 _ _ (P.b _ _ hm)), rfl, sz_lt hl, rfl⟩, k p xs B3 hp ((P.b.trans e2).trans e3) ((e2.trans e3) _ _ h1) (dpa_ex (P.s.trans (e2.trans e3)) hx)⟩
theorem ek_v (h : Ev te σ H (.ref p)) (hp : H p = some (.lst xs)) (ha : DpAll K H xs ds) : EvK K te σ H ds := fun A B e s Q q => h B (e.trans s) _ fun B' e2 => q p xs A B' (Pr.up s e2) (e2 _ _ (s _ _ (e _ _ hp))) (dpa_ex e ha)
theorem at_last (l : List Int) (x : Int) : atI ((l ++ [x]).map PyData.int) (-1) = some (.int x) := by
  have h1 : ixN ((l ++ [x]).map PyData.int).length (-1) = some l.length := by
    rw [List.length_map, List.length_append, List.length_singleton]
    unfold ixN
    rw [if_neg (by decide), if_pos (by omega)]
    congr 1
    omega
  unfold atI
  rw [h1]
  show ((l ++ [x]).map PyData.int)[l.length]? = _
  rw [List.getElem?_map, List.getElem?_append_right (Nat.le_refl _)]
  simp
end
section
variable {P : Program} {w : World} {K : PySem.W.Frag} {mg : Str → Option Value} {base : Heap} {c : Cs}
def sp_lset (K : PySem.W.Frag) : Sp := fun vs H Q _ => ∃ A q ex s l vm m, vs = [.ref q.a, .int l, vm] ∧ Ex A H ∧ Dp K A vm (mkD m) ∧ LDAt K A H q ex s ∧ Good s ∧ l ∈ s.keys ∧ l ∉ s.done ∧ s.size < 80000 ∧ ex.length < 9000 ∧
  ∀ r x A' H', PrM (fun x => x ∈ q.foot) A H A' H' → H r = none → H x = none → r ≠ x → LDAt K A' H' ⟨q.a, q.l, q.m, q.d, r⟩ ex (s.set1 l m).run.1 → A' x = none → H' x = some (.lst ((s.set1 l m).run.2.map V.int)) → Q (.ref x) H'
theorem ok_lset (T : Tx K mg c) : DefOk P w K mg base CX0 2 "_law_settled" ["_law_d", "_law_letter", "_law_mark_here"] (sp_lset K) := by
  obtain ⟨f, fd, d⟩ := T.d_law_settled
  refine d.ok (d.F.ok sc_law_settled (fun vs H Q E h => ?_) fun cdv A outer s H vs Q E hr h => ?_)
  · obtain ⟨_, _, _, _, _, _, _, e, _⟩ := h
    rw [e]
    rfl
  obtain ⟨A0, q, ex, st, l, vm, m, rfl, s0, hvm, hD, hg, hin, hnd, hl, hx, k⟩ := h
  have nd := sc_law_settled.nd
  have G_law_first := ok_lfirst (P := P) (w := w) (base := base) T
  refine ⟨_, (pss_cons (ps_dput (hu_of hr) (pe_dget (hu_of hr) (pv 0) pe_str (fun _ _ => rfl)) (pv 1) (pv 2) rfl)
      (pss_cons (ps_dput (hu_of hr) (pe_dget (hu_of hr) (pv 0) pe_str (fun _ _ => rfl)) (pv 1) pe_bl rfl)
      (pss_cons (ps_dput (hu_of hr) (pv 0) pe_str (pe_callB (c_max2 rfl) rfl T.mn_max (by decide +kernel) (pa_cons (pe_dget (hu_of hr) (pv 0) pe_str (fun _ _ => rfl)) (pa_cons (pe_ix (ixT (K := K) rfl) (pv 2) pe_int (fun _ _ => rfl)) pa_nil))) rfl)
      (pss_cons (ps_set (i := 3) nd rfl (Or.inl rfl) (pe_lst pa_nil))
      (pss_cons (ps_while PassesOwn.never (PW.pt (pw_and (pt_cmpR op_notN1 (pe_cd G_law_first (hr.mono (by decide)) rfl pass0 (pa_cons (pv 0) pa_nil)) pe_non (nomark _)) (pw_and1 (pt_cmp (pc_din (hu_of hr) (pe_cd G_law_first (hr.mono (by decide)) rfl pass0 (pa_cons (pv 0) pa_nil)) (pe_dget (hu_of hr) (pv 0) pe_str (fun _ _ => rfl))))))) (pss_cons (ps_expr (pe_bm PySem.F.plainAttrs_list PySem.F.slot_list_append PySem.F.type_list_append mt_append (pv 3) (pa_cons (pe_cd G_law_first (hr.mono (by decide)) rfl pass0 (pa_cons (pv 0) pa_nil)) pa_nil)))
        (pss_one (ps_expr (pe_dpop1 (pe_dget (hu_of hr) (pv 0) pe_str (fun _ _ => rfl)) (pe_ix (ixL (K := K) rfl) (pv 3) (pe_un un_neg pe_int) (fun _ _ => rfl)) ⟨rfl, rfl, rfl, rfl⟩)))))
      (pss_cons (ps_dput (hu_of hr) (pv 0) pe_str (pe_op op_cat (pe_dget (hu_of hr) (pv 0) pe_str (fun _ _ => rfl)) (pv 3)) rfl)
      (pss_one (ps_ret (pv 3))))))))), ?_⟩
  try dsimp only [cx_K]
  obtain ⟨ne1, ne2, ne3, ne4, ne5, ne6, ne7, ne8, ne9, ne10⟩ := hD.ne
  unfold DS.size at hl
  have hlen : ∀ q (s : DS), (ldK q s ex).length < 100000 := fun q s => by unfold ldK; simp only [List.length_cons, List.length_map]; omega
  obtain ⟨kvs0, hm0, hmk0⟩ := hD.im
  -- marks
  refine q_do (s_dput K s0 (ep_v (ev_var rfl) hvm) (ev_ld hD (ev_var rfl) (v := .ref q.m) rfl) (ed_var rfl (.int l)) hm0 (by rw [hmk0.len]; omega) fun v1 A1 B1 P1 hv1 => go_nx ?_)
  have D1 := hD.pr P1
  have P2 := ((PrM.refl (F := fun x => x ∈ q.foot) s0).pr P1).put (l := q.m) (o := .dK (putK kvs0 (.inl l) v1)) (.inl LP.in_m) (D1.na _ LP.in_m)
  have hm2 := (hmk0.mono P1.a).put (i := l) (m := m) hv1
  have nm : ∀ x, x ≠ q.m → ∀ u, B1 x = some u → (upd B1 q.m (.dK (putK kvs0 (.inl l) v1))) x = some u := fun x n u e => by rw [upd_ne n]; exact e
  have m2 : (upd B1 q.m (.dK (putK kvs0 (.inl l) v1))) q.m = some (.dK (putK kvs0 (.inl l) v1)) := upd_same
  generalize upd B1 q.m (.dK (putK kvs0 (.inl l) v1)) = H2 at P2 nm m2 ⊢
  have D2 : LDAt K A1 H2 q ex ⟨st.hand, st.time, st.known, putM st.marked l m, st.done, st.row⟩ := ⟨nm _ ne2 _ D1.ia, nm _ ne5 _ D1.il, ⟨_, m2, hm2⟩, nm _ (Ne.symm ne8) _ D1.id, nm _ (Ne.symm ne9) _ D1.ir, hD.nd, D1.na, hD.kx⟩
  -- done
  refine q_do (s_dput K (d := .bool true) P2.s (ep_ed ed_bl) (ev_ld D2 (ev_var rfl) (v := .ref q.d) rfl) (ed_var rfl (.int l)) D2.id (by rw [flags, List.length_map]; show st.done.length < 100000; omega) fun v3 A3 B3 P3 hv3 => go_nx ?_)
  cases hv3
  rw [flags_put hnd]
  have D3 := D2.pr P3
  have P4 := (P2.pr P3).put (l := q.d) (o := .dK (flags (st.done ++ [l]))) (.inl LP.in_d) (D3.na _ LP.in_d)
  have nD : ∀ x, x ≠ q.d → ∀ u, B3 x = some u → (upd B3 q.d (.dK (flags (st.done ++ [l])))) x = some u := fun x n u e => by rw [upd_ne n]; exact e
  have d4 : (upd B3 q.d (.dK (flags (st.done ++ [l])))) q.d = some (.dK (flags (st.done ++ [l]))) := upd_same
  generalize upd B3 q.d (.dK (flags (st.done ++ [l]))) = H4 at P4 nD d4 ⊢
  obtain ⟨kvs3, hm3, hmk3⟩ := D3.im
  have D4 : LDAt K A3 H4 q ex ⟨st.hand, st.time, st.known, putM st.marked l m, st.done ++ [l], st.row⟩ := ⟨nD _ ne3 _ D3.ia, nD _ ne6 _ D3.il, ⟨_, nD _ ne8 _ hm3, hmk3⟩, d4, nD _ (Ne.symm ne10) _ D3.ir, hD.nd, D3.na, hD.kx⟩
  -- time
  have hx4 : Dp K H4 vm (.tuple [.int m.1, .int m.2]) := dp_ex P4.s (dp_ex P4.a hvm)
  refine q_do (s_dputS (K := K) (v := .int (if m.1 > st.time then m.1 else st.time)) (v_int (K := K) (ed_max2 (ed_ev (ev_ld D4 (ev_var rfl) (v := .int st.time) rfl) (.int _)) (ed_ixT (ed_var rfl hx4) ed_int rfl))) (ev_var rfl) ed_str D4.ia (hlen _ _) fun B5 e5 => go_nx ?_)
  rw [ld_time hD.kx]
  have hs1 : DS.mk st.hand (if m.1 > st.time then m.1 else st.time) st.known (putM st.marked l m) (st.done ++ [l]) st.row = st.set1 l m := rfl
  have hld : ldK q ⟨st.hand, if m.1 > st.time then m.1 else st.time, st.known, putM st.marked l m, st.done ++ [l], st.row⟩ ex = ldK q (st.set1 l m) ex := rfl
  rw [hld]
  have P6 := (P4.up e5).put (l := q.a) (o := .dK (ldK q (st.set1 l m) ex)) (.inl LP.in_a) (D4.na _ LP.in_a)
  have na : ∀ x, x ≠ q.a → ∀ u, H4 x = some u → (upd B5 q.a (.dK (ldK q (st.set1 l m) ex))) x = some u := fun x n u e => by rw [upd_ne n]; exact e5 _ _ e
  have a6 : (upd B5 q.a (.dK (ldK q (st.set1 l m) ex))) q.a = some (.dK (ldK q (st.set1 l m) ex)) := upd_same
  generalize upd B5 q.a (.dK (ldK q (st.set1 l m) ex)) = H6 at P6 na a6 ⊢
  obtain ⟨kvs4, hm4, hmk4⟩ := D4.im
  have D6 : LDAt K A3 H6 q ex (st.set1 l m) := ⟨a6, na _ (Ne.symm ne1) _ D4.il, ⟨_, na _ (Ne.symm ne2) _ hm4, hmk4⟩, na _ (Ne.symm ne3) _ D4.id, na _ (Ne.symm ne4) _ D4.ir, hD.nd, D4.na, hD.kx⟩
  have g1 : Good (st.set1 l m) := hg.set1 hin
  have hml : (st.set1 l m).marked.length = st.marked.length := put_len hin
  have hrow : (st.set1 l m).row = st.row := rfl
  generalize st.set1 l m = s1 at D6 P6 g1 k hml hrow ⊢
  -- found
  refine q_asgL fun qf hqf => ?_
  have hqH : H qf = none := P6.fresh hqf
  have nqf : ∀ x ∈ q.foot, x ≠ qf := fun x hx z => hD.alive x hx (z ▸ hqH)
  have P7 := P6.new (o := .lst []) hqf
  have D7 : LDAt K A3 (upd H6 qf (.lst [])) q ex s1 := D6.up P6.s (Ex.new hqf)
  have b7 : (upd H6 qf (.lst [])) qf = some (.lst []) := upd_same
  have nA7 : A3 qf = none := fresh_back P6.s hqf
  generalize upd H6 qf (.lst []) = H7 at P7 D7 b7 ⊢
  let J : Nat → L2.St → Hp → Prop := fun n σ B => ∃ (s2 : DS) (gone : List Int) (A' : Hp), σ = [some (.ref q.a), some (.int l), some vm, some (.ref qf)] ∧ s2.marked.length = n ∧ s1.run = (s2.run.1, gone ++ s2.run.2) ∧ Good s2 ∧ s2.row = s1.row ++ gone ∧ gone.length + n ≤ s1.marked.length ∧
    PrM (fun x => x ∈ q.foot) A0 H A' B ∧ LDAt K A' B q ex ⟨s2.hand, s2.time, s2.known, s2.marked, s2.done, s1.row⟩ ∧ A' qf = none ∧ B qf = some (.lst (gone.map V.int))
  refine ⟨J, ⟨s1.marked.length, s1, [], A3, rfl, rfl, rfl, g1, (List.append_nil _).symm, by simp, P7, D7, nA7, b7⟩, ?_⟩
  rintro n σ B ⟨s2, gone, A', rfl, hn, hrun, g2, hro, hgl, PB, DB, nq1, b1⟩
  -- the end: the row
  have fin : ∀ Dd : Ends, Dd.rt = Q → ∀ B4, Ex B B4 → s1.run = (s2, gone) → tSeq (sDPut (tVar 0) (tC (.str "row")) (tOp rCat (tDGet (tVar 0) (tC (.str "row"))) (tVar 3))) (tRet (tVar 3)) Dd [some (.ref q.a), some (.int l), some vm, some (.ref qf)] B4 := fun Dd hrt B4 e4 hr2 => by
    have PB4 := PB.up e4
    have D4 := DB.up PB.s e4
    have hb4 := e4 _ _ b1
    refine q_do (s_dputSN (K := K) (ds := s1.row.map PyData.int ++ gone.map PyData.int) (en_cat (ek_v (ev_ld D4 (ev_var rfl) (v := .ref q.r) rfl) D4.ir dpa_ints) (ek_var rfl hb4 dpa_ints) ?_) (ev_var rfl) ed_str D4.ia (hlen _ _) fun r ys B5 hr5 e5 hb5 hys => go_nx ?_)
    · rw [List.length_map, List.length_map, hrow]
      omega
    rw [← List.map_append] at hys
    rw [dpa_ints_inv hys] at hb5
    rw [ld_row hD.kx]
    have hrB : ∀ x, B4 x ≠ none → x ≠ r := fun x h z => h (z ▸ hr5)
    have n1 : r ≠ q.a := Ne.symm (hrB _ (D4.alive _ LP.in_a))
    have P8 := (PB4.up e5).put (l := q.a) (o := .dK (ldK ⟨q.a, q.l, q.m, q.d, r⟩ ⟨s2.hand, s2.time, s2.known, s2.marked, s2.done, s1.row⟩ ex)) (.inl LP.in_a) (DB.na _ LP.in_a)
    have nn : ∀ x, x ≠ q.a → ∀ u, B5 x = some u → (upd B5 q.a (.dK (ldK ⟨q.a, q.l, q.m, q.d, r⟩ ⟨s2.hand, s2.time, s2.known, s2.marked, s2.done, s1.row⟩ ex))) x = some u := fun x n u e => by rw [upd_ne n]; exact e
    have a8 : (upd B5 q.a (.dK (ldK ⟨q.a, q.l, q.m, q.d, r⟩ ⟨s2.hand, s2.time, s2.known, s2.marked, s2.done, s1.row⟩ ex))) q.a = some (.dK (ldK ⟨q.a, q.l, q.m, q.d, r⟩ ⟨s2.hand, s2.time, s2.known, s2.marked, s2.done, s1.row⟩ ex)) := upd_same
    generalize upd B5 q.a (.dK (ldK ⟨q.a, q.l, q.m, q.d, r⟩ ⟨s2.hand, s2.time, s2.known, s2.marked, s2.done, s1.row⟩ ex)) = H8 at P8 nn a8 ⊢
    obtain ⟨kv4, hm4, hmk4⟩ := D4.im
    have nrA : A' r = none := fresh_back (PB.s.trans e4) hr5
    have D8 : LDAt K A' H8 ⟨q.a, q.l, q.m, q.d, r⟩ ex s2 := by
      refine ⟨a8, nn _ (Ne.symm ne1) _ (e5 _ _ D4.il), ⟨_, nn _ (Ne.symm ne2) _ (e5 _ _ hm4), hmk4⟩, nn _ (Ne.symm ne3) _ (e5 _ _ D4.id), ?_, ?_, ?_, hD.kx⟩
      · rw [hro]
        exact nn _ n1 _ hb5
      · simp only [LP.foot, List.nodup_cons, List.mem_cons, List.not_mem_nil, or_false, not_or, not_false_eq_true, List.nodup_nil, and_true]
        exact ⟨⟨ne1, ne2, ne3, Ne.symm n1⟩, ⟨ne5, ne6, hrB _ (D4.alive _ LP.in_l)⟩, ⟨ne8, hrB _ (D4.alive _ LP.in_m)⟩, hrB _ (D4.alive _ LP.in_d)⟩
      · intro x hx
        simp only [LP.foot, List.mem_cons, List.not_mem_nil, or_false] at hx
        rcases hx with rfl | rfl | rfl | rfl | rfl
        · exact DB.na _ LP.in_a
        · exact DB.na _ LP.in_l
        · exact DB.na _ LP.in_m
        · exact DB.na _ LP.in_d
        · exact nrA
    have b8 := nn _ (Ne.symm (nqf _ LP.in_a)) _ (e5 _ _ hb4)
    refine s_retV (ev_var rfl) fun B9 e9 => ?_
    show Dd.rt _ _
    rw [hrt]
    refine k r qf A' B9 (P8.up e9) (PB4.fresh hr5) hqH (Ne.symm (hrB _ (by rw [hb4]; simp))) (by rw [hr2]; exact D8.up P8.s e9) nq1 (by rw [hr2]; exact e9 _ _ b8)
  have hlf : lfirst s2.marked s2.known = s2.first := lfirst_eq g2
  have ef : ∀ B4 (E : XK), Ex B B4 → Ev (tCall (sp_lfirst K) [] E (tCons (tVar 0) tNil)) [some (.ref q.a), some (.int l), some vm, some (.ref qf)] B4 (optV s2.first) := fun B4 E e4 => by
    have := ev_lfirst (E := E) (DB.up PB.s e4) (PB.s.trans e4) (ev_var (σ := [some (.ref q.a), some (.int l), some vm, some (.ref qf)]) (i := 0) rfl)
    rw [hlf] at this
    exact this
  cases hf : s2.first with
  | none =>
    refine (eb_is (eb_and (a := false) (b := false) (eb_is (eb_D (ed_notN (ed_v (ef B _ (Ex.refl _)) (dp_opt _)))) (by rw [hf]; rfl)) fun z => by cases z) rfl : EvB K _ _ B false) B (Ex.refl _) _ fun B3 e3 => iteF ?_
    refine fin _ rfl B3 e3 ?_
    rw [hrun, DS.run_none hf, List.append_nil]
  | some x =>
    have ex1 : ∀ B4 (E : XK), Ex B B4 → Ev (tCall (sp_lfirst K) [] E (tCons (tVar 0) tNil)) [some (.ref q.a), some (.int l), some vm, some (.ref qf)] B4 (.int x) := fun B4 E e4 => by
      have := ef B4 E e4
      rw [hf] at this
      exact this
    refine (eb_is (eb_and (a := true) (b := decide (x ∈ s2.done)) (eb_is (eb_D (ed_notN (ed_v (ex1 B _ (Ex.refl _)) (.int x)))) rfl) fun _ => eb_is (eb_DB (ed_din (ed_v (ex1 B _ (Ex.refl _)) (.int x)) (ev_ld DB (ev_var rfl) (v := .ref q.d) rfl) (.inl DB.id))) (flags_val _ _)) rfl : EvB K _ _ B (decide (x ∈ s2.done))) B (Ex.refl _) _ fun B3 e3 => ?_
    by_cases hd : x ∈ s2.done
    · rw [decide_eq_true hd]
      refine iteT ⟨fun σ' B' => ∃ m', m' < n ∧ J m' σ' B', fun σ' B' h => h, ?_⟩
      have hlt : (s2.hand1 x).marked.length < s2.marked.length := drop_lt (DS.first_mem hf)
      have PB3 := PB.up e3
      have D3 := DB.up PB.s e3
      refine q_do (s_app K (d := .int x) PB3.s (ev_var rfl) (ep_v (ex1 B3 _ e3) (.int x)) (e3 _ _ b1) (by rw [List.length_map]; omega) fun v5 A5 B5 P5 hv5 => go_nx ?_)
      cases hv5
      have hgg : gone.map V.int ++ [V.int x] = (gone ++ [x]).map V.int := by rw [List.map_append]; rfl
      rw [hgg]
      have nq5 : A5 qf = none := P5.n _ nq1 (by rw [e3 _ _ b1]; simp)
      have P6 := (PB3.pr P5).put (l := qf) (o := .lst ((gone ++ [x]).map V.int)) (.inr hqH) nq5
      have PQ := ((PrM.refl (F := fun x => x = qf) PB3.s).pr P5).put (l := qf) (o := .lst ((gone ++ [x]).map V.int)) (.inl rfl) nq5
      have D6 := D3.mono PQ fun y hy z => nqf y hy z
      have b6 : (upd B5 qf (.lst ((gone ++ [x]).map V.int))) qf = some (.lst ((gone ++ [x]).map V.int)) := upd_same
      generalize upd B5 qf (.lst ((gone ++ [x]).map V.int)) = H6 at P6 PQ D6 b6 ⊢
      obtain ⟨kvs, hm, hmk⟩ := D6.im
      obtain ⟨mk, hmk'⟩ := lk_mem (DS.first_mem hf)
      obtain ⟨v, hv1, hv2⟩ := hmk.lk hmk'
      refine s_dpop K (ev_ld D6 (ev_var rfl) (v := .ref q.m) rfl) (ed_ixL (ed_var rfl (Dp.lst (sq_of b6) dpa_ints)) (ed_neg ed_int) (at_last gone x)) hm hv1 fun B7 e7 => ?_
      have P8 := (P6.up e7).put (l := q.m) (o := .dK (dropK kvs (.inl x))) (.inl LP.in_m) (D6.na _ LP.in_m)
      have nm : ∀ y, y ≠ q.m → ∀ u, H6 y = some u → (upd B7 q.m (.dK (dropK kvs (.inl x)))) y = some u := fun y n u e => by rw [upd_ne n]; exact e7 _ _ e
      refine ⟨(s2.hand1 x).marked.length, by omega, s2.hand1 x, gone ++ [x], A5, rfl, rfl, ?_, g2.drop x, ?_, ?_, P8, ⟨nm _ ne2 _ D6.ia, nm _ ne5 _ D6.il, ⟨_, upd_same, hmk.drop⟩, nm _ (Ne.symm ne8) _ D6.id, nm _ (Ne.symm ne9) _ D6.ir, hD.nd, D6.na, hD.kx⟩, nq5, nm _ (Ne.symm (nqf _ LP.in_m)) _ b6⟩
      · rw [hrun, DS.run_go hf hd]
        simp
      · show s2.row ++ [x] = _
        rw [hro, List.append_assoc]
      · rw [List.length_append, List.length_singleton]
        omega
    · rw [decide_eq_false hd]
      refine iteF (fin _ rfl B3 e3 ?_)
      rw [hrun, DS.run_stop hf hd, List.append_nil]
end

end K3

namespace K3
open PySem L2 Evl Ob

local macro_rules | `(tactic| tm_at "sh") => `(tactic| first | exact sh_mk | exact sh_mks | exact sh_b3)

/-! ## what is told, what is due -/
def OutV (K : PySem.W.Frag) (A B : Hp) (v : V) : Out → Prop
  | .mk m => Dp K A v (mkD m)
  | .str x => v = .str x
  | .lst l => ∃ q, v = .ref q ∧ B q = some (.lst (l.map V.int))
def MarkV (K : PySem.W.Frag) (A : Hp) (v : V) : Option Mk → Prop
  | none => v = .non
  | some m => Dp K A v (mkD m)
theorem any_int (l : Int) : ∀ ms : List Int, ((ms.map PyData.int).any fun y => PyData.eqv y (.int l)) = decide (l ∈ ms)
  | [] => rfl
  | x :: r => by
    rw [List.map_cons, List.any_cons, any_int l r]
    show ((x == l) || decide (l ∈ r)) = _
    by_cases e : x = l
    · subst e; simp
    · rw [beq_false_of_ne e]
      simp [Ne.symm e]
theorem flat_ints (ms : List Int) : (ms.map PyData.int).all flatD = true := by
  rw [List.all_map, List.all_eq_true]
  intro x _
  rfl
def wordOf (j : Nat) : Str := if j = 4 then "Twice" else if j = 5 then "NotOpen" else "BadMark"
theorem c_callV {sp : Sp} {E : XK} {tr : TA} {σ : L2.St} {H : Hp} {vs : List V} {Q : VK} (h : EvA tr σ H vs) (k : ∀ B', Ex H B' → sp vs B' Q E) : tCall sp [] E tr σ H Q := h H (Ex.refl _) _ fun B1 e1 => by
  rw [List.append_nil]
  exact k B1 e1
section
variable {P : Program} {w : World} {K : PySem.W.Frag} {mg : Str → Option Value} {base : Heap} {c : Cs}
def sp_due (K : PySem.W.Frag) : Sp := fun vs H Q _ => ∃ A q ex s l vm o, vs = [.ref q.a, .int l, vm] ∧ Ex A H ∧ MarkV K A vm o ∧ LDAt K A H q ex s ∧ Good s ∧ s.size < 80000 ∧ ex.length < 9000 ∧
  ∀ v r A' H', PrM (fun x => x ∈ q.foot) A H A' H' → (r = q.r ∨ H r = none) → LDAt K A' H' ⟨q.a, q.l, q.m, q.d, r⟩ ex (s.told l o).1 → OutV K A' H' v (s.told l o).2 → Q v H'
theorem ok_due (T : Tx K mg c) : DefOk P w K mg base CX0 3 "_law_due" ["_law_d", "_law_letter", "_law_mark_here"] (sp_due K) := by
  obtain ⟨f, fd, d⟩ := T.d_law_due
  refine d.ok (d.F.ok sc_law_due (fun vs H Q E h => ?_) fun cdv A outer s H vs Q E hr h => ?_)
  · obtain ⟨_, _, _, _, _, _, _, e, _⟩ := h
    rw [e]
    rfl
  obtain ⟨A0, q, ex, st, l, vm, o, rfl, s0, hvm, hD, hg, hl, hx, k⟩ := h
  have nd := sc_law_due.nd
  have G_law_proposed := ok_lprop (P := P) (w := w) (base := base) T
  have G_law_settled := ok_lset (P := P) (w := w) (base := base) T
  refine ⟨_, (pss_cons (ps_if (pt_cmpR op_isN1 (pv 2) pe_non (nomark _)) (pss_cons (ps_if (pt_cmpR (o_in (K := K) rfl) (pv 1) (pe_dget (hu_of hr) (pv 0) pe_str (fun _ _ => rfl)) (by rfl)) (pss_one (ps_ret pe_str)) pss_nil)
        (pss_one (ps_ret (pe_cd G_law_proposed (hr.mono (by decide)) rfl pass0 (pa_cons (pv 0) (pa_cons (pv 1) pa_nil)))))) pss_nil)
      (pss_cons (ps_if (PW.pt (pw_or (pt_cmp (pc_dnotin (hu_of hr) (pv 1) (pe_dget (hu_of hr) (pv 0) pe_str (fun _ _ => rfl)))) (pw_or1 (pt_cmp (pc_din (hu_of hr) (pv 1) (pe_dget (hu_of hr) (pv 0) pe_str (fun _ _ => rfl))))))) (pss_one (ps_ret pe_str)) pss_nil)
      (pss_cons (ps_if (pt_cmpR (op_ltT hr.units0) (pv 2) (pe_dget (hu_of hr) (pe_dget (hu_of hr) (pv 0) pe_str (fun _ _ => rfl)) (pv 1) (fun _ _ => rfl)) (nomark _)) (pss_one (ps_ret pe_str)) pss_nil)
      (pss_one (ps_ret (pe_cd G_law_settled (hr.mono (by decide)) rfl pass0 (pa_cons (pv 0) (pa_cons (pv 1) (pa_cons (pv 2) pa_nil))))))))), ?_⟩
  try dsimp only [cx_K]
  have same : ∀ B, Ex H B → PrM (fun x => x ∈ q.foot) A0 H A0 B := fun B e => (PrM.refl s0).up e
  cases o with
  | none =>
    cases hvm
    refine q_ifM K (b := true) (eb_D (ed_isN (ed_var rfl .non))) rfl (fun _ B1 e1 => ?_) (fun z => by cases z)
    have D1 := hD.up s0 e1
    rw [DS.told_n] at k
    refine q_ifM K (b := decide (l ∈ st.known)) (eb_D (ed_inL (ed_var rfl (.int l)) (ed_v (ev_ld D1 (ev_var rfl) (v := .ref q.l) rfl) (Dp.lst (sq_of D1.il) dpa_ints)) rfl (flat_ints _))) (any_int _ _) (fun hb B2 e2 => ?_) (fun hb B2 e2 => q_next ?_)
    · rw [if_pos (of_decide_eq_true hb)] at k
      refine s_retV ev_c fun B3 e3 => ?_
      exact k _ q.r A0 B3 (same _ (e1.trans (e2.trans e3))) (.inl rfl) (hD.up s0 (e1.trans (e2.trans e3))) rfl
    · rw [if_neg (of_decide_eq_false hb)] at k
      refine c_callV (ea_cons (ev_var rfl) (ea_cons (ev_var rfl) ea_nil)) fun B3 e3 => ?_
      exact ⟨A0, q, ex, st, l, rfl, (s0.trans (e1.trans e2)).trans e3, hD.up s0 ((e1.trans e2).trans e3), hl, hx, fun v A' H' PP DD hv => k v q.r A' H' ((same _ ((e1.trans e2).trans e3)).trans PP) (.inl rfl) DD hv⟩
  | some m =>
    rw [DS.told_m] at k
    have hvm : Dp K A0 vm (mkD m) := hvm
    have hv0 : Dp K H vm (.tuple [.int m.1, .int m.2]) := dp_ex s0 hvm
    refine q_ifM K (b := false) (eb_D (ed_isN (ed_var rfl hv0))) rfl (fun z => by cases z) (fun _ B1 e1 => q_next ?_)
    have D1 := hD.up s0 e1
    obtain ⟨kvs, hm, hmk⟩ := D1.im
    have hsome : (valV kvs (.inl l)).isSome = decide (l ∈ st.keys) := by rw [hmk.some, lk_some]; rfl
    refine q_ifM K (b := !decide (l ∈ st.keys) || decide (l ∈ st.done)) (eb_or (a := !decide (l ∈ st.keys)) (b := decide (l ∈ st.done)) (eb_is (eb_DB (ed_dnin (ed_var rfl (.int l)) (ev_ld D1 (ev_var rfl) (v := .ref q.m) rfl) (.inl hm))) (by rw [hsome])) fun _ => eb_is (eb_DB (ed_din (ed_var rfl (.int l)) (ev_ld D1 (ev_var rfl) (v := .ref q.d) rfl) (.inl D1.id))) (flags_val _ _)) rfl (fun hb B2 e2 => ?_) (fun hb B2 e2 => q_next ?_)
    · have hc : l ∉ st.keys ∨ l ∈ st.done := by
        rcases Bool.or_eq_true_iff.mp hb with z | z
        · exact .inl (by simpa using z)
        · exact .inr (of_decide_eq_true z)
      rw [if_pos hc] at k
      refine s_retV ev_c fun B3 e3 => ?_
      exact k _ q.r A0 B3 (same _ (e1.trans (e2.trans e3))) (.inl rfl) (hD.up s0 (e1.trans (e2.trans e3))) rfl
    · obtain ⟨hb1, hb2⟩ := Bool.or_eq_false_iff.mp hb
      have hin : l ∈ st.keys := by simpa using hb1
      have hnd : l ∉ st.done := of_decide_eq_false hb2
      rw [if_neg (by rw [not_or, Classical.not_not]; exact ⟨hin, hnd⟩)] at k
      obtain ⟨mk, hmk'⟩ := lk_mem hin
      obtain ⟨v0, hv1, hv2⟩ := hmk.lk hmk'
      have hmo : mk = mkOf st l := by unfold mkOf; rw [hmk']; rfl
      rw [hmo] at hv2
      have D2 := hD.up s0 (e1.trans e2)
      refine q_ifM K (b := mless m (mkOf st l)) (eb_D (ed_ltT (ed_var rfl (dp_ex (e1.trans e2) hv0)) (ed_v (ev_dget (K := K) (ev_ld D2 (ev_var rfl) (v := .ref q.m) rfl) (.inl (e2 _ _ hm)) (ed_var rfl (.int l)) hv1) (dp_ex ((s0.trans e1).trans e2) hv2)))) rfl (fun hb B3 e3 => ?_) (fun hb B3 e3 => q_next ?_)
      · rw [if_pos hb] at k
        refine s_retV ev_c fun B4 e4 => ?_
        exact k _ q.r A0 B4 (same _ (e1.trans (e2.trans (e3.trans e4)))) (.inl rfl) (hD.up s0 (e1.trans (e2.trans (e3.trans e4)))) rfl
      · rw [if_neg (by rw [hb]; decide)] at k
        refine c_callV (ea_cons (ev_var rfl) (ea_cons (ev_var rfl) (ea_cons (ev_var rfl) ea_nil))) fun B4 e4 => ?_
        have e14 := e1.trans (e2.trans (e3.trans e4))
        exact ⟨A0, q, ex, st, l, vm, m, rfl, s0.trans e14, hvm, hD.up s0 e14, hg, hin, hnd, hl, hx, fun r x A' H' PP hr hx _ DD nx bx => k _ r A' H' ((same _ e14).trans PP) (.inr (fresh_back e14 hr)) DD ⟨x, rfl, bx⟩⟩
end
/-! ## which refusal -/
section
variable {P : Program} {w : World} {K : PySem.W.Frag} {mg : Str → Option Value} {base : Heap} {c : Cs}
def words3 : List D := [.str "Twice", .str "NotOpen", .str "BadMark"]
theorem only_at : ∀ (i j : Nat), i < 3 → j < 3 → onlyB (4 + j) (wordOf (4 + i)) = (i == j) := fun i j hi hj => by
  match i, hi, j, hj with
  | 0, _, 0, _ => decide
  | 0, _, 1, _ => decide
  | 0, _, 2, _ => decide
  | 1, _, 0, _ => decide
  | 1, _, 1, _ => decide
  | 1, _, 2, _ => decide
  | 2, _, 0, _ => decide
  | 2, _, 1, _ => decide
  | 2, _, 2, _ => decide
def sp_word (K : PySem.W.Frag) (c : Cs) : Addr → Value → Option Addr → Sp := fun a cls d vs H Q _ => ∃ D j, cls = .ref D ∧ d = none ∧ ExcD K c D (4 + j) ∧ j < 3 ∧ vs = [.ref a] ∧ ∀ H', Ex H H' → Q (.str (wordOf (4 + j))) H'
theorem ok_word (T : Tx K mg c) : DefP P w K mg base CX0 2 "_law_word" ["_law_error"] (sp_word K c) := by
  obtain ⟨f, fd, dd⟩ := T.d_law_word
  refine dd.okP (fnP dd.F sc_law_word (fun a cls d vs H Q E h => ?_) fun cdv A outer z H vs Q E p hot hr h => ?_)
  · obtain ⟨_, _, _, _, _, _, e, _⟩ := h
    rw [e]
    rfl
  obtain ⟨D, j, h1, h2, hD, hj, rfl, k⟩ := h
  have nd := sc_law_word.nd
  have G_law_only := ok_only (P := P) (w := w) (base := base) T
  refine ⟨_, (pss_cons (L2H.ps_forH (passes_of rfl) (hotC_mk hot List.mem_cons_self) (pi_listH (pe_lst (pa_cons pe_str (pa_cons pe_str (pa_cons pe_str pa_nil))))) (pg_name (i := 1) nd rfl (Or.inl rfl)) (pss_one (ps_if (pt_val (pe_callP (E := fun _ => E0) G_law_only (hr.mono (by decide)) hot (by exact List.mem_cons_self) rfl passA0 (pa_cons (pv 0) (pa_cons (pv 1) pa_nil)))) (pss_one (ps_ret (pv 1))) pss_nil)))
      (pss_one (ps_ret pe_str))), ?_⟩
  try dsimp only [cx_KH]
  rw [h1, h2]
  refine q_do (s_forD K (ds := words3) (Ex.refl H) (ed_n (en_lst (ea_consD ed_str (ea_consD ed_str (ea_consD ed_str ea_nilD))) (by decide))) (fun i σ A1 B1 => (∃ w, σ = [some (.ref p.1), w]) ∧ i ≤ j) (fun A1 B1 P1 => ⟨⟨none, rfl⟩, Nat.zero_le _⟩) ?_ ?_)
  · rintro A1 B1 P1 i d v σ' A2 B2 hd P2 hv ⟨⟨w, rfl⟩, hij⟩
    have hi : i < 3 := by
      have := (List.getElem?_eq_some_iff.mp hd).1
      exact this
    have hdw : d = .str (wordOf (4 + i)) := by
      have : words3[i]? = some (.str (wordOf (4 + i))) := by
        match i, hi with
        | 0, _ => rfl
        | 1, _ => rfl
        | 2, _ => rfl
      rw [this] at hd
      exact (Option.some.inj hd).symm
    subst hdw
    have e12 : Ex H B2 := P1.b.trans P2.b
    refine s_ifM K (b := (i == j)) (eb_DB (ed_only hD rfl (ed_var rfl (dp_ex P2.s hv)))) (only_at i j hi hj) (fun hb B3 e3 => ?_) (fun hb B3 e3 => ?_)
    · have hb := eq_of_beq hb
      subst hb
      cases hv
      refine s_retV (ev_var rfl) fun B4 e4 => ?_
      exact k B4 (e12.trans (e3.trans e4))
    · have hb : i ≠ j := fun z => by rw [z, beq_self_eq_true] at hb; cases hb
      exact ⟨A2, P2.trans (Pr.up P2.s e3), ⟨_, rfl⟩, by omega⟩
  · rintro A1 B1 σ' A2 B2 P1 P2 ⟨_, h3⟩
    exact absurd h3 (by show ¬ 3 ≤ j; omega)
def sp_told (K : PySem.W.Frag) (C : Addr) : Sp := fun vs H Q _ => ∃ A p s l vm o, vs = [.ref p.a, .int l, vm] ∧ Ex A H ∧ MarkV K A vm o ∧ DeskAt K C A H p s ∧ s.size < 80000 ∧
  ∀ v A' H', PrM (fun x => x ∈ p.foot) A H A' H' → DeskAt K C A' H' p (s.told l o).1 → OutV K A' H' v (s.told l o).2 → (∀ x l', v = .ref x → (s.told l o).2 = .lst l' → H x = none ∧ A' x = none) → Q v H'
theorem ok_told (T : Tx K mg c) : DefOk P w K mg base CX0 5 "_law_told" ["_law_desk_here", "_law_letter", "_law_mark_here"] (sp_told K c.Desk) := by
  obtain ⟨f, fd, d⟩ := T.d_law_told
  refine d.ok (d.F.ok sc_law_told (fun vs H Q E h => ?_) fun cdv A outer s H vs Q E hr h => ?_)
  · obtain ⟨_, _, _, _, _, _, e, _⟩ := h
    rw [e]
    rfl
  obtain ⟨A0, p, st, l, vm, o, rfl, s0, hvm, hD, hl, k⟩ := h
  have nd := sc_law_told.nd
  have MT_Desk_propose := ok_propose (P := P) (w := w) (base := base) T
  have MT_Desk_settle := ok_settle (P := P) (w := w) (base := base) T
  have G_law_word := ok_word (P := P) (w := w) (base := base) T
  refine ⟨_, (pss_one (L2N.ps_try_as (i := 3) rfl rfl nd rfl rfl ⟨rfl, by decide, Or.inl T.x_BellError.g⟩ takes0 (fun W pn xe tk po => (pss_cons (ps_if (pt_cmpR op_isN1 (pv 2) pe_non (nomark _)) (pss_one (ps_ret (pe_mdX (pv 0) T.c_Desk MT_Desk_propose (hr.mono (by decide)) (fun σ => L2N.passAt tk σ) (pa_cons (pv 1) pa_nil)))) pss_nil)
          (pss_one (ps_ret (pe_mdX (pv 0) T.c_Desk MT_Desk_settle (hr.mono (by decide)) (fun σ => L2N.passAt tk σ) (pa_cons (pv 1) (pa_cons (pv 2) pa_nil))))))) (fun a oe cls d pn hz hf => (pss_one (ps_ret (pe_callZ (E := fun _ => E0) G_law_word (hr.mono (by decide)) hz hf rfl passA0 (pa_cons (pv 3) pa_nil))))))), ?_⟩
  try dsimp only [cx_K]
  unfold DS.size at hl
  have same : ∀ B, Ex H B → PrM (fun x => x ∈ p.foot) A0 H A0 B := fun B e => (PrM.refl s0).up e
  cases o with
  | none =>
    cases hvm
    refine q_ifM K (b := true) (eb_D (ed_isN (ed_var rfl .non))) rfl (fun _ B1 e1 => ?_) (fun z => by cases z)
    have D1 := hD.up s0 e1
    rw [DS.told_n] at k
    refine m_callX (K := K) (s0.trans e1) (ev_var rfl) D1.ia rfl (epa_cons (ep_v (ev_var rfl) (.int l)) epa_nil) fun vs A2 B2 P2 hv => ?_
    obtain ⟨v1, rfl, hv1⟩ := dpa1 hv
    cases hv1
    refine ⟨A2, p, st, l, rfl, P2.s, D1.pr P2, by omega, by omega, fun hk v A' H' PP DD hd => ?_, fun hk H' e => ?_⟩
    · rw [if_neg hk] at k
      exact k v A' H' (((same B1 e1).pr P2).trans PP) DD hd fun x l' _ z => by cases z
    · rw [if_pos hk] at k
      refine ⟨true, T.i_Twice.e, fun _ a na => ?_, fun z => by cases z⟩
      refine ⟨_, rfl, _, 0, rfl, rfl, T.i_Twice, by decide, rfl, fun H2 e2 => ?_⟩
      have e12 := P2.b.trans (e.trans e2)
      exact k _ A0 H2 (same _ (e1.trans e12)) (hD.up s0 (e1.trans e12)) rfl fun x l' z _ => by cases z
  | some m =>
    have hvm : Dp K A0 vm (mkD m) := hvm
    have hv0 : Dp K H vm (.tuple [.int m.1, .int m.2]) := dp_ex s0 hvm
    refine q_ifM K (b := false) (eb_D (ed_isN (ed_var rfl hv0))) rfl (fun z => by cases z) (fun _ B1 e1 => q_next ?_)
    have D1 := hD.up s0 e1
    rw [DS.told_m] at k
    refine m_callX (K := K) (s0.trans e1) (ev_var rfl) D1.ia rfl (epa_cons (ep_v (ev_var rfl) (.int l)) (epa_cons (ep_v (ev_var rfl) hvm) epa_nil)) fun vs A2 B2 P2 hv => ?_
    obtain ⟨v1, v2, rfl, hv1, hv2⟩ := dpa2 hv
    cases hv1
    refine ⟨A2, p, st, l, v2, m, rfl, P2.s, hv2, D1.pr P2, by omega, by omega, fun hk H' e => ?_, fun hi hd hb H' e => ?_, fun hi hd hb q A' H' hq PP DD nq bq => ?_⟩
    · rw [if_pos hk] at k
      refine ⟨true, T.i_NotOpen.e, fun _ a na => ?_, fun z => by cases z⟩
      refine ⟨_, rfl, _, 1, rfl, rfl, T.i_NotOpen, by decide, rfl, fun H2 e2 => ?_⟩
      have e12 := P2.b.trans (e.trans e2)
      exact k _ A0 H2 (same _ (e1.trans e12)) (hD.up s0 (e1.trans e12)) rfl fun x l' z _ => by cases z
    · rw [if_neg (by rw [not_or, Classical.not_not]; exact ⟨hi, hd⟩), if_pos hb] at k
      refine ⟨true, T.i_BadMark.e, fun _ a na => ?_, fun z => by cases z⟩
      refine ⟨_, rfl, _, 2, rfl, rfl, T.i_BadMark, by decide, rfl, fun H2 e2 => ?_⟩
      have e12 := P2.b.trans (e.trans e2)
      exact k _ A0 H2 (same _ (e1.trans e12)) (hD.up s0 (e1.trans e12)) rfl fun x l' z _ => by cases z
    · rw [if_neg (by rw [not_or, Classical.not_not]; exact ⟨hi, hd⟩), if_neg (by rw [hb]; decide)] at k
      refine k _ A' H' (((same B1 e1).pr P2).trans PP) DD ⟨q, rfl, bq⟩ fun x l' z _ => ?_
      cases z
      exact ⟨fresh_back (e1.trans P2.b) hq, nq⟩
end

end K3

namespace K3
open PySem L2 Evl Ob

local macro_rules | `(tactic| tm_at "sh") => `(tactic| first | exact sh_mk | exact sh_mks | exact sh_b3)

section
variable {P : Program} {w : World} {K : PySem.W.Frag} {mg : Str → Option Value} {base : Heap} {c : Cs}
/-- a whole number, no truth -/
def isW : D → Bool
  | .int _ => true
  | _ => false
def sp_whole (K : PySem.W.Frag) : Sp := spF K (fun d : D => [d]) (fun _ => True) (fun d => .bool (isW d))
theorem at_whole (d : D) : SpD K (sp_whole K) [d] (.bool (isW d)) := spF_at d trivial
theorem ok_whole (T : Tx K mg c) : DefOk P w K mg base CX0 1 "_law_whole" ["_law_found"] (sp_whole K) := by
  obtain ⟨f, fd, d⟩ := T.d_law_whole
  refine d.ok (d.F.ok sc_law_whole (fun vs H Q E h => spF_len h fun _ => rfl) fun cdv A outer s H vs Q E hr h => ?_)
  obtain ⟨A0, x, _, s0, ha, k⟩ := h
  obtain ⟨v1, rfl, h1⟩ := dpa1 ha
  have nd := sc_law_whole.nd
  refine ⟨_, (pss_one (ps_ret (pe_and (pe_callB (c_isi (K := K) rfl) rfl T.mn_isinstance (by decide +kernel) (pa_cons (pv 0) (pa_cons (pe_ty (T := "int") rfl T.mn_int (by decide +kernel)) pa_nil))) (pe_one (pe_not (pe_callB (c_isi (K := K) rfl) rfl T.mn_isinstance (by decide +kernel) (pa_cons (pv 0) (pa_cons (pe_ty (T := "bool") rfl T.mn_bool (by decide +kernel)) pa_nil)))))))), ?_⟩
  try dsimp only [cx_K]
  cases x with
  | dict kvs => cases h1
  | none => exact s_retK K s0 (by tm_at "ed") (by rfl) k
  | bool b => exact s_retK K s0 (by tm_at "ed") (by rfl) k
  | int b => exact s_retK K s0 (by tm_at "ed") (by rfl) k
  | str b => exact s_retK K s0 (by tm_at "ed") (by rfl) k
  | list b => exact s_retK K s0 (by tm_at "ed") (by rfl) k
  | tuple b => exact s_retK K s0 (by tm_at "ed") (by rfl) k
end
local macro_rules | `(tactic| tm_at "fn") => `(tactic| exact at_whole _)

section
variable {P : Program} {w : World} {K : PySem.W.Frag} {mg : Str → Option Value} {base : Heap} {c : Cs}
theorem at_map {α : Type} (f : α → D) {xs : List α} {i : Nat} {x : α} (h : xs[i]? = some x) : atI (xs.map f) (i : Int) = some (f x) := by
  have hl := (List.getElem?_eq_some_iff.mp h).1
  unfold atI
  rw [show ixN (xs.map f).length (i : Int) = some i from ixN_nat (by rw [List.length_map]; exact hl)]
  show (xs.map f)[i]? = _
  rw [List.getElem?_map, h]
  rfl
/-- a cell of the script, nought behind its end -/
def cell (ns : List Int) (k : Int) : Int := ns.getD k.toNat 0
def sp_cell (K : PySem.W.Frag) : Sp := spF K (fun x : List Int × Int => [.list (x.1.map .int), .int x.2]) (fun x => 0 ≤ x.2) (fun x => .int (cell x.1 x.2))
theorem at_cell {ns : List Int} {k : Int} (h : 0 ≤ k) : SpD K (sp_cell K) [.list (ns.map .int), .int k] (.int (cell ns k)) := spF_at (ns, k) h
theorem cell_at {ns : List Int} {k : Int} (h : 0 ≤ k) (hk : k < ns.length) : atI (ns.map PyData.int) k = some (.int (cell ns k)) := by
  obtain ⟨j, rfl⟩ : ∃ j : Nat, k = (j : Int) := ⟨k.toNat, by omega⟩
  have hj : j < ns.length := by omega
  refine at_map _ ?_
  unfold cell
  rw [show ((j : Int)).toNat = j by omega, List.getElem?_eq_getElem hj, List.getD_eq_getElem?_getD, List.getElem?_eq_getElem hj]
  rfl
theorem ok_cell (T : Tx K mg c) : DefOk P w K mg base CX0 1 "_law_cell_at" ["_law_script", "_law_k"] (sp_cell K) := by
  obtain ⟨f, fd, d⟩ := T.d_law_cell_at
  refine d.ok (d.F.ok sc_law_cell_at (fun vs H Q E h => spF_len h fun _ => rfl) fun cdv A outer s H vs Q E hr h => ?_)
  obtain ⟨A0, ⟨ns, x⟩, hx, s0, ha, k⟩ := h
  obtain ⟨v1, v2, rfl, h1, h2⟩ := dpa2 ha
  have nd := sc_law_cell_at.nd
  refine ⟨_, (pss_cons (ps_if (pt_cmpR op_lt (pv 1) (pe_callB (c_len (K := K) rfl) rfl T.mn_len (by decide +kernel) (pa_cons (pv 0) pa_nil)) (nomark _)) (pss_one (ps_ret (pe_ix (ixL (K := K) rfl) (pv 0) (pv 1) (fun _ _ => rfl)))) pss_nil)
      (pss_one (ps_ret pe_int))), ?_⟩
  try dsimp only [cx_K]
  have hx : 0 ≤ x := hx
  refine q_ifD K s0 (b := decide (x < ((ns.map PyData.int).length : Int))) (by tm_at "et") (fun hb B4 P4 => ?_) (fun hb B4 P4 => ?_)
  · have hb := of_decide_eq_true hb
    rw [List.length_map] at hb
    have := cell_at hx hb
    exact s_retK K P4.s (d := .int (cell ns x)) (by tm_at "ed") (by rfl) fun v A' B' P5 hv => k v A' B' (by tm_at "pr") hv
  · have hb := of_decide_eq_false hb
    rw [List.length_map] at hb
    refine q_next ?_
    refine s_retK K P4.s (by tm_at "ed") (d' := .int (cell ns x)) ?_ fun v A' B' P5 hv => k v A' B' (by tm_at "pr") hv
    unfold cell
    rw [List.getD_eq_getElem?_getD, List.getElem?_eq_none (by omega)]
    rfl
end
local macro_rules | `(tactic| tm_at "fn") => `(tactic| exact at_cell (by decide))

section
variable {P : Program} {w : World} {K : PySem.W.Frag} {mg : Str → Option Value} {base : Heap} {c : Cs}
def isMk : D → Bool
  | .tuple [a, b] => isW a && isW b
  | _ => false
def sp_mark (K : PySem.W.Frag) : Sp := spF K (fun d : D => [d]) (fun _ => True) (fun d => .bool (isMk d))
theorem at_mark (d : D) : SpD K (sp_mark K) [d] (.bool (isMk d)) := spF_at d trivial
theorem ok_mark (T : Tx K mg c) : DefOk P w K mg base CX0 2 "_law_mark" ["_law_found"] (sp_mark K) := by
  obtain ⟨f, fd, d⟩ := T.d_law_mark
  refine d.ok (d.F.ok sc_law_mark (fun vs H Q E h => spF_len h fun _ => rfl) fun cdv A outer s H vs Q E hr h => ?_)
  obtain ⟨A0, x, _, s0, ha, k⟩ := h
  obtain ⟨v1, rfl, h1⟩ := dpa1 ha
  have nd := sc_law_mark.nd
  have G_law_whole := ok_whole (P := P) (w := w) (base := base) T
  refine ⟨_, (pss_cons (ps_if (PW.pt (pw_or (pt_not (pt_val (pe_callB (c_isi (K := K) rfl) rfl T.mn_isinstance (by decide +kernel) (pa_cons (pv 0) (pa_cons (pe_ty (T := "tuple") rfl T.mn_tuple (by decide +kernel)) pa_nil))))) (pw_or1 (pt_cmpR op_ne (pe_callB (c_len (K := K) rfl) rfl T.mn_len (by decide +kernel) (pa_cons (pv 0) pa_nil)) pe_int (nomark _))))) (pss_one (ps_ret pe_bl)) pss_nil)
      (pss_one (ps_ret (pe_and (pe_cd G_law_whole (hr.mono (by decide)) rfl pass0 (pa_cons (pe_ix (ixT (K := K) rfl) (pv 0) pe_int (fun _ _ => rfl)) pa_nil)) (pe_one (pe_cd G_law_whole (hr.mono (by decide)) rfl pass0 (pa_cons (pe_ix (ixT (K := K) rfl) (pv 0) pe_int (fun _ _ => rfl)) pa_nil))))))), ?_⟩
  try dsimp only [cx_K]
  cases x with
  | dict kvs => cases h1
  | none => exact q_ifE K s0 (b := true) (by tm_at "et") (by rfl) (fun _ B P => s_retK K P.s (by tm_at "ed") (by rfl) fun v A' B' P5 hv => k v A' B' (by tm_at "pr") hv) (fun h => by cases h)
  | bool b => exact q_ifE K s0 (b := true) (by tm_at "et") (by rfl) (fun _ B P => s_retK K P.s (by tm_at "ed") (by rfl) fun v A' B' P5 hv => k v A' B' (by tm_at "pr") hv) (fun h => by cases h)
  | int b => exact q_ifE K s0 (b := true) (by tm_at "et") (by rfl) (fun _ B P => s_retK K P.s (by tm_at "ed") (by rfl) fun v A' B' P5 hv => k v A' B' (by tm_at "pr") hv) (fun h => by cases h)
  | str b => exact q_ifE K s0 (b := true) (by tm_at "et") (by rfl) (fun _ B P => s_retK K P.s (by tm_at "ed") (by rfl) fun v A' B' P5 hv => k v A' B' (by tm_at "pr") hv) (fun h => by cases h)
  | list b => exact q_ifE K s0 (b := true) (by tm_at "et") (by rfl) (fun _ B P => s_retK K P.s (by tm_at "ed") (by rfl) fun v A' B' P5 hv => k v A' B' (by tm_at "pr") hv) (fun h => by cases h)
  | tuple ds =>
    by_cases hl : ∃ a b, ds = [a, b]
    · obtain ⟨a, b, rfl⟩ := hl
      refine q_ifE K s0 (b := false) (by tm_at "et") (by rfl) (fun h => by cases h) (fun _ B P => q_next ?_)
      exact s_retK K P.s (by tm_at "ed") (by rfl) fun v A' B' P5 hv => k v A' B' (by tm_at "pr") hv
    · have hz : ((ds.length : Int) == 2) = false := by
        match ds, hl with
        | [], _ => rfl
        | [_], _ => rfl
        | [a, b], h => exact absurd ⟨a, b, rfl⟩ h
        | _ :: _ :: _ :: r, _ => exact beq_false_of_ne (by simp only [List.length_cons]; omega)
      have e : isMk (.tuple ds) = false := by
        match ds, hl with
        | [], _ => rfl
        | [_], _ => rfl
        | [a, b], h => exact absurd ⟨a, b, rfl⟩ h
        | _ :: _ :: _ :: r, _ => rfl
      refine q_ifD K s0 (b := (!true || !((ds.length : Int) == 2))) (by tm_at "et") (fun _ B P => ?_) (fun h => by rw [hz] at h; cases h)
      exact s_retK K P.s (d' := .bool (isMk (.tuple ds))) (by tm_at "ed") (by rw [e]) fun v A' B' P5 hv => k v A' B' (by tm_at "pr") hv
end
local macro_rules | `(tactic| tm_at "fn") => `(tactic| exact at_mark _)

section
variable {P : Program} {w : World} {K : PySem.W.Frag} {mg : Str → Option Value} {base : Heap} {c : Cs}
theorem ed_row {A B : Hp} {C : Addr} {p : DP} {s : DS} {σ : L2.St} {ta : TE} {E : XK} (hs : Ex A B) (D : DeskAt K C A B p s) (ha : Ev ta σ B (.ref p.a)) : EvD K (tMeth C "handed" (sp_row K C) [] E ta tNil) σ B (.list (s.row.map PyData.int)) := fun A1 B1 e1 e2 Q q =>
  m_call (K := K) (A := A1) (ds := []) e2 (ha.mono (e1.trans e2)) ((e1.trans e2) _ _ D.ia) rfl epa_nil fun vs A2 B2 P2 hv => by
    cases hv
    have e12 : Ex B B2 := (e1.trans e2).trans P2.b
    refine ⟨A, p, s, rfl, D.up hs e12, fun x H' hx e hx' => ?_⟩
    have P3 := (Pr.up P2.s e).frz hx (fresh_back P2.s hx) hx'
    exact q _ _ H' (P2.trans P3) (.lst (sq_of upd_same) dpa_ints)
theorem ed_clock {A B : Hp} {C : Addr} {p : DP} {s : DS} {σ : L2.St} {ta : TE} {E : XK} (hs : Ex A B) (D : DeskAt K C A B p s) (ha : Ev ta σ B (.ref p.a)) : Ev (tMeth C "clock" (sp_clock K C) [] E ta tNil) σ B (.int s.time) := fun B1 e1 Q q =>
  m_call (K := K) (A := B1) (ds := []) (Ex.refl _) (ha.mono e1) (e1 _ _ D.ia) rfl epa_nil fun vs A2 B2 P2 hv => by
    cases hv
    exact ⟨A, p, s, rfl, D.up hs (e1.trans P2.b), fun H' e => q H' (P2.b.trans e)⟩
end

/-! ## a dict and the empty one -/
def rNe0 : R2 := fun x y H Q => ∃ a b ks, x = .ref a ∧ y = .ref b ∧ H a = some (.dK ks) ∧ H b = some (.dK []) ∧ Q (.bl (!ks.isEmpty)) H
theorem op_ne_dict0 {X : Cx} (hu : X.A.units < cLine) : OpR X (compareOp .NotEq) rNe0 := by
  intro pins s σ H x y v u Q I rx ry h
  obtain ⟨a, b, ks, rfl, rfl, ea, eb, q⟩ := h
  obtain rfl : v = Value.ref a := rx
  obtain rfl : u = Value.ref b := ry
  obtain ⟨_, ya, va, ra, da⟩ := (show ObjOk X.prog X.w H s.heap a (.dK ks) from I.hok a _ ea)
  obtain ⟨_, yb, vb, rb, db⟩ := (show ObjOk X.prog X.w H s.heap b (.dK []) from I.hok b _ eb)
  have hb : vb = [] := List.length_eq_zero_iff.mp (by rw [← rb.length]; rfl)
  subst hb
  refine PySem.W.keq_ne (knd := mixKind X.prog X.w) (r := true) ya yb da db hu (fun hl => ?_) (fin_bl I q ?_)
  · have ha : va = [] := List.length_eq_zero_iff.mp hl
    subst ha
    exact .nil
  · have hl := ra.length
    cases ks with
    | nil =>
      have ha : va = [] := List.length_eq_zero_iff.mp hl.symm
      subst ha
      rfl
    | cons k r =>
      cases va with
      | nil => simp at hl
      | cons v t => rfl
theorem ed_ne0 {K : PySem.W.Frag} {td : TE} {σ : L2.St} {B : Hp} {m : Addr} {ks : List (Key × V)} (h : Ev td σ B (.ref m)) (hm : B m = some (.dK ks)) : EvD K (tOp rNe0 td tDNewK) σ B (.bool (!ks.isEmpty)) :=
  ed_v (v := .bl (!ks.isEmpty)) (fun H1 e Q q => h H1 e _ fun H2 e2 p hp => ⟨m, p, ks, rfl, rfl, Ex.new hp _ _ (e2 _ _ (e _ _ hm)), upd_same, q _ (e2.trans (Ex.new hp))⟩) (.bl _)
theorem sh_ints (l : List Int) : SeqAt.shaped (.list (l.map PyData.int)) = true := ShN.sh (n := 1) (shn_list fun d hd => by
  obtain ⟨i, _, rfl⟩ := List.mem_map.mp hd
  exact shn_int) (by decide)
section
variable {P : Program} {w : World} {K : PySem.W.Frag} {mg : Str → Option Value} {base : Heap} {c : Cs}
def sp_alike (K : PySem.W.Frag) : Sp := fun vs H Q _ => ∃ A v1 v2 o, vs = [v1, v2] ∧ Ex A H ∧ OutV K A H v1 o ∧ OutV K A H v2 o ∧ (∀ l, o = .lst l → l.length < 40000) ∧ (∀ x, o = .str x → PyData.strOk x = true) ∧ (∀ x l, v1 = .ref x → o = .lst l → A x = none) ∧
  ((∀ l, o ≠ .lst l) → ∀ H', Ex H H' → Q (.bl true) H') ∧ (∀ x l, o = .lst l → v1 = .ref x → ∀ H', PrM (fun y => y = x) A H A H' → H' x = some (.lst []) → Q (.bl true) H')
theorem ok_alike (T : Tx K mg c) : DefOk P w K mg base CX0 3 "_law_alike" ["_law_found", "_law_due_here"] (sp_alike K) := by
  obtain ⟨f, fd, d⟩ := T.d_law_alike
  refine d.ok (d.F.ok sc_law_alike (fun vs H Q E h => ?_) fun cdv A outer s H vs Q E hr h => ?_)
  · obtain ⟨_, _, _, _, e, _⟩ := h
    rw [e]
    rfl
  obtain ⟨A0, v1, v2, o, rfl, s0, h1, h2, hl, hst, hn, k1, k2⟩ := h
  have nd := sc_law_alike.nd
  have G_law_mark := ok_mark (P := P) (w := w) (base := base) T
  have G_law_whole := ok_whole (P := P) (w := w) (base := base) T
  refine ⟨_, (pss_cons (ps_if (pt_val (pe_callB (c_isi (K := K) rfl) rfl T.mn_isinstance (by decide +kernel) (pa_cons (pv 1) (pa_cons (pe_ty (T := "tuple") rfl T.mn_tuple (by decide +kernel)) pa_nil)))) (pss_one (ps_ret (pe_and (pe_cd G_law_mark (hr.mono (by decide)) rfl pass0 (pa_cons (pv 0) pa_nil)) (pe_one (pe_cmpR (o_eqD (K := K) rfl hr.units) (pv 0) (pv 1) (nomark _)))))) pss_nil)
      (pss_cons (ps_if (pt_val (pe_callB (c_isi (K := K) rfl) rfl T.mn_isinstance (by decide +kernel) (pa_cons (pv 1) (pa_cons (pe_ty (T := "list") rfl T.mn_list (by decide +kernel)) pa_nil)))) (pss_cons (ps_if (PW.pt (pw_or (pt_not (pt_val (pe_callB (c_isi (K := K) rfl) rfl T.mn_isinstance (by decide +kernel) (pa_cons (pv 0) (pa_cons (pe_ty (T := "list") rfl T.mn_list (by decide +kernel)) pa_nil))))) (pw_or1 (pt_not (pt_val (pe_callB (c_all (K := K) rfl rfl) rfl T.mn_all (by decide +kernel) (pa_cons (pe_lc (own := [("_law_one", 2)]) (g := gName 2) rfl nd (pi_list (pv 0)) (blkOk_by (own := [("_law_one", 2)]) (N := ["_law_found", "_law_due_here", "_law_one", "_law_good"]) (sc := defScope s_law_alike) (by decide +kernel)) (fun _ _ _ _ _ => pg_name (i := 2) nd rfl (Or.inl rfl)) (fun _ _ _ _ _ => pts_nil) (fun _ _ _ _ _ => (pe_cd G_law_whole (hr.mono (by decide)) rfl pass0 (pa_cons (pv 2) pa_nil)))) pa_nil))))))) (pss_one (ps_ret pe_bl)) pss_nil)
        (pss_cons (ps_set (i := 3) nd rfl (Or.inl rfl) (pe_cmpR (o_eqD (K := K) rfl hr.units) (pv 0) (pv 1) (nomark _)))
        (pss_cons (ps_expr (pe_bm0 PySem.F.plainAttrs_list PySem.F.slot_list_clear PySem.F.type_list_clear mt_clear (pv 0)))
        (pss_one (ps_ret (pv 3)))))) pss_nil)
      (pss_one (ps_ret (pe_cmpR (o_eqD (K := K) rfl hr.units) (pv 0) (pv 1) (nomark _)))))), ?_⟩
  try dsimp only [cx_K]
  cases o with
  | mk m =>
    have h1 : Dp K H v1 (.tuple [.int m.1, .int m.2]) := dp_ex s0 h1
    have h2 : Dp K H v2 (.tuple [.int m.1, .int m.2]) := dp_ex s0 h2
    refine q_ifM K (b := true) (eb_DB (ed_isi (ed_var rfl h2) ki_tt)) rfl (fun _ B1 e1 => ?_) (fun z => by cases z)
    refine s_retV (v_bl (K := K) (i := true) (ed_is (ed_and (a := true) (b := true) (ed_is (ed_call (ea_consD (ed_var rfl (dp_ex e1 h1)) ea_nilD) (at_mark _)) rfl) fun _ => ed_is (ed_eqD (ed_var rfl (dp_ex e1 h1)) (ed_var rfl (dp_ex e1 h2)) sh_mk sh_mk) (by rw [eqv_refl sh_mk])) rfl)) fun B2 e2 => ?_
    exact k1 (fun _ z => by cases z) B2 (e1.trans e2)
  | str x =>
    cases h1
    cases h2
    refine q_ifM K (b := false) (eb_DB (ed_isi (ed_var rfl (.str x)) ki_st)) rfl (fun z => by cases z) (fun _ B1 e1 => q_next ?_)
    refine q_ifM K (b := false) (eb_DB (ed_isi (ed_var rfl (.str x)) ki_sl)) rfl (fun z => by cases z) (fun _ B2 e2 => q_next ?_)
    have shx : SeqAt.shaped (.str x) = true := ShN.sh (n := 1) (shn_str (hst x rfl)) (by decide)
    refine s_retV (v_bl (K := K) (i := true) (ed_is (ed_eqD (ed_var rfl (.str x)) (ed_var rfl (.str x)) shx shx) (by rw [eqv_refl shx]))) fun B3 e3 => ?_
    exact k1 (fun _ z => by cases z) B3 (e1.trans (e2.trans e3))
  | lst l =>
    obtain ⟨q1, rfl, b1⟩ := h1
    obtain ⟨q2, rfl, b2⟩ := h2
    have d1 : ∀ B, Ex H B → Dp K B (.ref q1) (.list (l.map PyData.int)) := fun B e => .lst (sq_of (e _ _ b1)) dpa_ints
    have d2 : ∀ B, Ex H B → Dp K B (.ref q2) (.list (l.map PyData.int)) := fun B e => .lst (sq_of (e _ _ b2)) dpa_ints
    have hl := hl l rfl
    refine q_ifM K (b := false) (eb_DB (ed_isi (ed_var rfl (d2 H (Ex.refl _))) ki_lt)) rfl (fun z => by cases z) (fun _ B1 e1 => q_next ?_)
    refine q_ifM K (b := true) (eb_DB (ed_isi (ed_var rfl (d2 B1 e1)) ki_ll)) rfl (fun _ B2 e2 => ?_) (fun z => by cases z)
    have e12 := e1.trans e2
    refine q_ifM K (b := false) (eb_or (a := false) (b := false) (eb_is (eb_not (eb_DB (ed_isi (ed_var rfl (d1 B2 e12)) ki_ll))) rfl) fun _ => eb_is (eb_not (eb_DB (ed_all (bs := l.map fun _ => true) (ed_is (ed_n (en_lcL1 (fun _ => .bool true) (ed_var rfl (d1 B2 e12)) (by rw [List.length_map]; omega) (fun _ => rfl) fun d hd v H1 ex hv => ?_)) ?_)))) ?_) rfl (fun z => by cases z) (fun _ B3 e3 => q_next ?_)
    · obtain ⟨i, _, rfl⟩ := List.mem_map.mp hd
      exact ed_is (ed_call (ea_consD (ed_var rfl hv) ea_nilD) (at_whole _)) rfl
    · rw [List.map_map, List.map_map]; rfl
    · simp
    have e13 := e12.trans e3
    refine q_asgV (v_bl (K := K) (i := true) (ed_is (ed_eqD (ed_var rfl (d1 B3 e13)) (ed_var rfl (d2 B3 e13)) (sh_ints l) (sh_ints l)) (by rw [eqv_refl (sh_ints l)]))) fun B4 e4 => ?_
    have e14 := e13.trans e4
    refine q_do (s_clear K (ev_var rfl) (e14 _ _ b1) fun B5 e5 => go_nx ?_)
    refine s_retV (ev_var rfl) fun B6 e6 => ?_
    refine k2 q1 l rfl rfl B6 ((((PrM.refl (F := fun y => y = q1) s0).up (e14.trans e5)).put (l := q1) (o := .lst []) (.inl rfl) (hn q1 l rfl rfl)).up e6) (e6 _ _ upd_same)
end

end K3

namespace K3
open PySem L2 Evl Ob

local macro_rules | `(tactic| tm_at "sh") => `(tactic| first | exact sh_mk | exact sh_mks | exact sh_b3)

local macro_rules | `(tactic| tm_at "fn") => `(tactic| first | exact at_whole _ | exact at_mark _ | exact at_cell (by decide))

/-! ## a desk and the law's own stand alike -/
structure Both (K : PySem.W.Frag) (C : Addr) (A B : Hp) (p : DP) (q : LP) (ex : List (Str × Addr)) (s : DS) : Prop where
  D : DeskAt K C A B p s
  L : LDAt K A B q ex s
  g : Good s
  dj : ∀ x ∈ p.foot, x ∉ q.foot
  ix : ∀ e ∈ ex, B e.2 = some (.lst [])
  xp : ∀ e ∈ ex, e.2 ∉ p.foot
  xq : ∀ e ∈ ex, e.2 ∉ q.foot
theorem Both.pr {K : PySem.W.Frag} {C : Addr} {A B A' B' : Hp} {p : DP} {q : LP} {ex : List (Str × Addr)} {s : DS} (O : Both K C A B p q ex s) (P : Pr A B A' B') : Both K C A' B' p q ex s :=
  ⟨O.D.pr P, O.L.pr P, O.g, O.dj, fun e he => P.b _ _ (O.ix e he), O.xp, O.xq⟩
theorem over_len2 : ∀ (n : Nat) (s : DS), (DS.over n s).2.length ≤ s.marked.length
  | 0, _ => Nat.zero_le _
  | n + 1, s => by
    unfold DS.over
    cases e : s.first with
    | none => exact Nat.zero_le _
    | some l =>
      dsimp only
      split
      · have h1 := over_len2 n (s.hand1 l)
        have : (s.hand1 l).marked.length < s.marked.length := drop_lt (DS.first_mem e)
        rw [List.length_cons]
        omega
      · exact Nat.zero_le _
/-- d.get(k, []) is an empty list -/
theorem ed_getE {K : PySem.W.Frag} {A B : Hp} {q : LP} {ex : List (Str × Addr)} {s : DS} {σ : L2.St} {td : TE} {k : Str} (D : LDAt K A B q ex s) (hx : ∀ e ∈ ex, B e.2 = some (.lst [])) (hd : Ev td σ B (.ref q.a)) (hk : ExKey k) : EvD K (tDGet2 td (tC (.str k)) (tLst tNil)) σ B (.list []) := fun A1 B1 e1 s1 Q q1 =>
  hd B1 (e1.trans s1) _ fun B2 e2 => by
    have e12 := (e1.trans s1).trans e2
    refine ⟨q.a, rfl, .inl ⟨_, .inl (e12 _ _ D.ia)⟩, ⟨sz_of (by decide), fun z hz => ?_⟩⟩
    have ia3 := Ex.new (o := .lst []) hz _ _ (e12 _ _ D.ia)
    refine ⟨valV (ldK q s ex) (.inr k), .inl ⟨_, .inr k, .inl ia3, rfl, rfl⟩, ?_⟩
    have P3 : Pr A1 B1 (upd A1 z (.lst [])) (upd B2 z (.lst [])) := (Pr.up s1 e2).trans (Pr.new (s1.trans e2) hz)
    rcases ld_get (q := q) (s := s) (ex := ex) hk with h | ⟨e, he, h⟩
    · rw [h]
      exact q1 _ _ _ P3 (.lst (xs := []) (sq_of upd_same) .nil)
    · rw [h]
      exact q1 _ _ _ P3 (.lst (xs := []) (sq_of (P3.a _ _ (e1 _ _ (hx e he)))) .nil)
theorem dropM_good {known : List Int} {ms : List (Int × Mk)} (h : known.filter (fun i => decide (i ∈ ms.map (·.1))) = ms.map (·.1)) (l : Int) : known.filter (fun i => decide (i ∈ (dropM ms l).map (·.1))) = (dropM ms l).map (·.1) := by
  rw [drop_keys]
  generalize ms.map (·.1) = L at h ⊢
  conv => rhs; rw [← h, List.filter_filter]
  refine List.filter_congr fun x _ => ?_
  simp [List.mem_filter, and_comm, Bool.and_comm]
theorem LDAt.exput {K : PySem.W.Frag} {A B : Hp} {q : LP} {ex ex' : List (Str × Addr)} {s : DS} (D : LDAt K A B q ex s) (h : ∀ e ∈ ex', ExKey e.1) : LDAt K A (upd B q.a (.dK (ldK q s ex'))) q ex' s := by
  obtain ⟨ne1, ne2, ne3, ne4, _⟩ := D.ne
  obtain ⟨kvs, hm, hmk⟩ := D.im
  exact ⟨upd_same, by rw [upd_ne (Ne.symm ne1)]; exact D.il, ⟨kvs, by rw [upd_ne (Ne.symm ne2)]; exact hm, hmk⟩, by rw [upd_ne (Ne.symm ne3)]; exact D.id, by rw [upd_ne (Ne.symm ne4)]; exact D.ir, D.nd, D.na, h⟩
theorem sh_wait {s : DS} {i : Int} : SeqAt.shaped (waitD s i) = true := ShN.sh (n := 2) (shn_tup fun d hd => by
  rcases List.mem_cons.mp hd with rfl | hd
  · exact shn_mk
  rcases List.mem_cons.mp hd with rfl | hd
  · exact shn_int
  rcases List.mem_cons.mp hd with rfl | hd
  · exact shn_bl
  · cases hd) (by decide)
section
variable {P : Program} {w : World} {K : PySem.W.Frag} {mg : Str → Option Value} {base : Heap} {c : Cs}
def sp_stands (K : PySem.W.Frag) (C : Addr) : Sp := fun vs H Q _ => ∃ A p q ex s, vs = [.ref p.a, .ref q.a] ∧ Ex A H ∧ Both K C A H p q ex s ∧ s.size < 30000 ∧ ex.length < 9000 ∧
  ∀ ex' A' H', PrM (fun x => x = q.a) A H A' H' → Both K C A' H' p q ex' s → ex'.length ≤ ex.length + 2 → Q (.bl true) H'
theorem ok_stands (T : Tx K mg c) : DefOk P w K mg base CX0 4 "_law_stands" ["_law_desk_here", "_law_d"] (sp_stands K c.Desk) := by
  obtain ⟨f, fd, d⟩ := T.d_law_stands
  refine d.ok (d.F.ok sc_law_stands (fun vs H Q E h => ?_) fun cdv A outer s H vs Q E hr h => ?_)
  · obtain ⟨_, _, _, _, _, e, _⟩ := h
    rw [e]
    rfl
  obtain ⟨A0, p, q, ex, st, rfl, s0, O, hl, hx, k⟩ := h
  have nd := sc_law_stands.nd
  have MT_Desk_waiting := ok_wait (P := P) (w := w) (base := base) T
  have MT_Desk_clock := ok_clock (P := P) (w := w) (base := base) T
  have MT_Desk_handed := ok_row (P := P) (w := w) (base := base) T
  have G_law_mark := ok_mark (P := P) (w := w) (base := base) T
  have G_law_whole := ok_whole (P := P) (w := w) (base := base) T
  have G_law_first := ok_lfirst (P := P) (w := w) (base := base) T
  have G_law_alike := ok_alike (P := P) (w := w) (base := base) T
  refine ⟨_, (pss_cons (ps_set (i := 2) nd rfl (Or.inl rfl) (pe_md0 (pv 0) T.c_Desk MT_Desk_waiting (hr.mono (by decide)) passN))
      (pss_cons (ps_set (i := 3) nd rfl (Or.inl rfl) (pe_callTy call_dictD rfl T.mn_dict (by decide +kernel) (pa_cons (pe_dget (hu_of hr) (pv 1) pe_str (fun _ _ => rfl)) pa_nil)))
      (pss_cons (ps_set (i := 4) nd rfl (Or.inl rfl) (pe_lst pa_nil))
      (pss_cons (ps_while PassesOwn.never (pt_cmpR (op_ne_dict0 hr.units0) (pv 3) pe_dnewK (nomark _)) (pss_cons (ps_set (i := 5) nd rfl (Or.inl rfl) (pe_cd G_law_first (hr.mono (by decide)) rfl pass0 (pa_cons (pe_disp (pps_cons pe_str (pe_dget (hu_of hr) (pv 1) pe_str (fun _ _ => rfl)) (pps_cons pe_str (pv 3) pps_nil)) (by rfl) (by rfl) (fun z => by cases z) (by decide)) pa_nil)))
        (pss_one (ps_expr (pe_bm PySem.F.plainAttrs_list PySem.F.slot_list_append PySem.F.type_list_append mt_append (pv 4) (pa_cons (pe_tup (pa_cons (pe_dpop1 (pv 3) (pv 5) ⟨rfl, rfl, rfl, rfl⟩) (pa_cons (pv 5) (pa_cons (pe_cmp (pc_din (hu_of hr) (pv 5) (pe_dget (hu_of hr) (pv 1) pe_str (fun _ _ => rfl)))) pa_nil)))) pa_nil))))))
      (pss_cons (ps_if (PW.pt (pw_or (pt_not (pt_val (pe_callB (c_isi (K := K) rfl) rfl T.mn_isinstance (by decide +kernel) (pa_cons (pv 2) (pa_cons (pe_ty (T := "list") rfl T.mn_list (by decide +kernel)) pa_nil))))) (pw_or1 (pt_cmpR op_ne (pe_callB (c_len (K := K) rfl) rfl T.mn_len (by decide +kernel) (pa_cons (pv 2) pa_nil)) (pe_callB (c_len (K := K) rfl) rfl T.mn_len (by decide +kernel) (pa_cons (pv 4) pa_nil)) (nomark _))))) (pss_one (ps_ret pe_bl)) pss_nil)
      (pss_cons (ps_for PassesOwn.never rfl (pi_zip rfl T.mn_zip (pa_cons (pv 2) (pa_cons (pv 4) pa_nil))) (pg_tup rfl (pgs_cons (pg_name (i := 6) nd rfl (Or.inl rfl)) (pgs_cons (pg_name (i := 7) nd rfl (Or.inl rfl)) pgs_nil))) (pss_cons (ps_if (PW.pt (pw_or (pt_not (pt_val (pe_callB (c_isi (K := K) rfl) rfl T.mn_isinstance (by decide +kernel) (pa_cons (pv 6) (pa_cons (pe_ty (T := "tuple") rfl T.mn_tuple (by decide +kernel)) pa_nil))))) (pw_or (pt_cmpR (o_neD (K := K) rfl hr.units) (pv 6) (pv 7) (nomark _)) (pw_or1 (pt_not (pt_val (pe_cd G_law_mark (hr.mono (by decide)) rfl pass0 (pa_cons (pe_ix (ixT (K := K) rfl) (pv 6) pe_int (fun _ _ => rfl)) pa_nil)))))))) (pss_one (ps_ret pe_bl)) pss_nil)
        (pss_one (ps_if (PW.pt (pw_or (pt_not (pt_val (pe_cd G_law_whole (hr.mono (by decide)) rfl pass0 (pa_cons (pe_ix (ixT (K := K) rfl) (pv 6) pe_int (fun _ _ => rfl)) pa_nil)))) (pw_or1 (pt_not (pt_val (pe_callB (c_isi (K := K) rfl) rfl T.mn_isinstance (by decide +kernel) (pa_cons (pe_ix (ixT (K := K) rfl) (pv 6) pe_int (fun _ _ => rfl)) (pa_cons (pe_ty (T := "bool") rfl T.mn_bool (by decide +kernel)) pa_nil)))))))) (pss_one (ps_ret pe_bl)) pss_nil))))
      (pss_cons (ps_expr (pe_bm0 PySem.F.plainAttrs_list PySem.F.slot_list_clear PySem.F.type_list_clear mt_clear (pv 2)))
      (pss_cons (ps_set (i := 8) nd rfl (Or.inl rfl) (pe_md0 (pv 0) T.c_Desk MT_Desk_handed (hr.mono (by decide)) passN))
      (pss_cons (ps_if (PW.pt (pw_or (pt_cmpR (o_neD (K := K) rfl hr.units) (pe_dget2 (hu_of hr) (pv 1) pe_str (pe_lst pa_nil) ⟨rfl, rfl, rfl, rfl⟩) (pe_lst pa_nil) (nomark _)) (pw_or1 (pt_cmpR (o_neD (K := K) rfl hr.units) (pe_dget2 (hu_of hr) (pv 1) pe_str (pe_lst pa_nil) ⟨rfl, rfl, rfl, rfl⟩) (pe_lst pa_nil) (nomark _))))) (pss_one (ps_ret pe_bl)) pss_nil)
      (pss_cons (ps_dput (hu_of hr) (pv 1) pe_str (pv 2) rfl)
      (pss_cons (ps_dput (hu_of hr) (pv 1) pe_str (pv 8) rfl)
      (pss_cons (ps_set (i := 9) nd rfl (Or.inl rfl) (pe_md0 (pv 0) T.c_Desk MT_Desk_clock (hr.mono (by decide)) passN))
      (pss_one (ps_ret (pe_and (pe_cd G_law_alike (hr.mono (by decide)) rfl pass0 (pa_cons (pv 8) (pa_cons (pe_dget (hu_of hr) (pv 1) pe_str (fun _ _ => rfl)) pa_nil))) (pe_and (pe_cd G_law_whole (hr.mono (by decide)) rfl pass0 (pa_cons (pv 9) pa_nil)) (pe_one (pe_cmpR op_eq (pv 9) (pe_dget (hu_of hr) (pv 1) pe_str (fun _ _ => rfl)) (nomark _))))))))))))))))))), ?_⟩
  try dsimp only [cx_K]
  unfold DS.size at hl
  obtain ⟨ne1, ne2, ne3, ne4, ne5, ne6, ne7, ne8, ne9, ne10⟩ := O.L.ne
  -- found
  refine q_do (m_call (K := K) (A := A0) (ds := []) s0 (ev_var rfl) O.D.ia rfl epa_nil fun vs A1 B1 P1 hv => ?_)
  cases hv
  have O1 := O.pr P1
  refine ⟨A1, p, st, rfl, P1.s, O1.D, by omega, fun qf xs A2 B2 hq P2 nq bq hxs => go_nx ?_⟩
  have P12 := P1.trans P2
  have O2 := O1.pr P2
  have hqH : H qf = none := fresh_back P1.b hq
  have nqp : ∀ x ∈ p.foot, x ≠ qf := fun x hx z => O.D.alive x hx (z ▸ hqH)
  have nqq : ∀ x ∈ q.foot, x ≠ qf := fun x hx z => O.L.alive x hx (z ▸ hqH)
  have nqe : ∀ e ∈ ex, e.2 ≠ qf := fun e he z => by have := O.ix e he; rw [z, hqH] at this; cases this
  -- left
  obtain ⟨kvs, hm, hmk⟩ := O2.L.im
  refine q_do (ev_ld O2.L (ev_var rfl) (v := .ref q.m) rfl B2 (Ex.refl _) _ fun B3 e3 => ⟨q.m, kvs, rfl, .inl (e3 _ _ hm), fun pm hpm => go_nx ?_⟩)
  have hpmB : B2 pm = none := fresh_back e3 hpm
  have P3 : PrM (fun _ => False) A2 B2 A2 (upd B3 pm (.dK kvs)) := ((PrM.refl P2.s).up e3).new hpm
  have b3 : (upd B3 pm (.dK kvs)) pm = some (.dK kvs) := upd_same
  generalize upd B3 pm (.dK kvs) = H3 at P3 b3 ⊢
  refine q_asgL fun qd hqd => ?_
  have hqdB : B2 qd = none := P3.fresh hqd
  have npd : qd ≠ pm := fun z => by rw [z, b3] at hqd; cases hqd
  have P4 := P3.new (o := .lst []) hqd
  have b4 : (upd H3 qd (.lst [])) pm = some (.dK kvs) := by rw [upd_ne (Ne.symm npd)]; exact b3
  have d4 : (upd H3 qd (.lst [])) qd = some (.lst []) := upd_same
  generalize upd H3 qd (.lst []) = H4 at P4 b4 d4 ⊢
  have nA2 : ∀ x, B2 x = none → A2 x = none := fun x e => fresh_back P2.s e
  let J : Nat → L2.St → Hp → Prop := fun n σ B => ∃ (ms : List (Int × Mk)) (gone : List Int) (kv : List (Key × V)) (ys : List V) (A' : Hp) (w5 : Option V), σ = [some (.ref p.a), some (.ref q.a), some (.ref qf), some (.ref pm), some (.ref qd), w5, none, none, none, none] ∧ ms.length = n ∧
    orderL (mkOf st) st.marked.length st.keys = gone ++ orderL (mkOf st) n (ms.map (·.1)) ∧ gone.length + n = st.marked.length ∧ st.known.filter (fun i => decide (i ∈ ms.map (·.1))) = ms.map (·.1) ∧ (∀ i ∈ ms.map (·.1), mkM ms i = mkOf st i) ∧
    PrM (fun _ => False) A2 B2 A' B ∧ A' pm = none ∧ A' qd = none ∧ B pm = some (.dK kv) ∧ MkKvs K A' kv ms ∧ B qd = some (.lst ys) ∧ DpAll K A' ys (gone.map (waitD st))
  refine ⟨J, ⟨st.marked.length, st.marked, [], kvs, [], A2, none, rfl, rfl, rfl, by simp, O.g.kf, fun _ _ => rfl, P4, nA2 _ hpmB, nA2 _ hqdB, b4, hmk, d4, .nil⟩, ?_⟩
  rintro n σ B ⟨ms, gone, kv, ys, A', w5, rfl, hn, hord, hgl, hkn, hmo, PB, np, nqd, bp, hkv, bd, hys⟩
  have eB : Ex B2 B := fun x u z => PB.b x u (fun h => h) z
  have hem : (!kv.isEmpty) = !decide (ms = []) := by
    have := hkv.len
    cases ms with
    | nil => rw [List.length_eq_zero_iff.mp this]; rfl
    | cons e r =>
      cases kv with
      | nil => simp at this
      | cons a b => rfl
  refine (eb_is (eb_D (ed_ne0 (ev_var rfl) bp)) hem : EvB K _ _ B (!decide (ms = []))) B (Ex.refl _) _ fun B5 e5 => ?_
  by_cases hms : ms = []
  · rw [decide_eq_true hms]
    refine iteF ?_
    have hn0 : n = 0 := by rw [← hn, hms]; rfl
    have hwait : st.wait = gone.map (waitD st) := by
      unfold DS.wait
      rw [hord, hn0]
      simp [orderL]
    rw [← hwait] at hys
    have dfound : ∀ B', Ex B B' → Dp K B' (.ref qf) (.list st.wait) := fun B' e => .lst (sq_of (e _ _ (eB _ _ bq))) (dpa_ex (P2.s.trans (eB.trans e)) hxs)
    have ddue : ∀ B', Ex B B' → Dp K B' (.ref qd) (.list st.wait) := fun B' e => .lst (sq_of (e _ _ bd)) (dpa_ex (PB.s.trans e) hys)
    have hlen : st.wait.length < 40000 := by
      unfold DS.wait
      have := congrArg List.length hord
      rw [List.length_append, hn0] at this
      rw [List.length_map, this]
      simp [orderL]
      omega
    refine q_do (q_ifM K (b := false) (eb_or (a := false) (b := false) (eb_is (eb_not (eb_DB (ed_isi (ed_var rfl (dfound B5 e5)) ki_ll))) rfl) fun _ => eb_is (eb_D (ed_nei (ed_len (ed_var rfl (dfound B5 e5))) (ed_len (ed_var rfl (ddue B5 e5))))) (by simp)) rfl (fun z => by cases z) (fun _ B6 e6 => q_next ?_))
    have e56 := e5.trans e6
    refine q_do (s_forZ K (A := B6) (ds := st.wait) (es := st.wait) (Ex.refl _) (ea_consD (ed_var rfl (dfound B6 e56)) (ea_consD (ed_var rfl (ddue B6 e56)) ea_nilD)) (fun t σ A B => ∃ w6 w7, σ = [some (.ref p.a), some (.ref q.a), some (.ref qf), some (.ref pm), some (.ref qd), w5, w6, w7, none, none]) (fun A7 B7 P7 => ⟨none, none, rfl⟩) ?_ ?_)
    · rintro A7 B7 P7 t d e v w σ' A8 B8 hd he P8 hv hw ⟨w6, w7, rfl⟩ B9 hB9
      have hde : d = e := Option.some.inj (hd.symm.trans he)
      subst hde
      rw [hwait, List.getElem?_map] at hd
      obtain ⟨i, _, rfl⟩ := Option.map_eq_some_iff.mp hd
      have hv9 : Dp K B9 v (waitD st i) := dp_ex (P8.s.trans hB9.e) hv
      have hw9 : Dp K B9 w (waitD st i) := dp_ex (P8.s.trans hB9.e) hw
      refine q_ifM K (b := false) (eb_or (a := false) (b := false) (eb_is (eb_not (eb_DB (ed_isi (ed_var rfl hv9) ki_tt))) rfl) fun _ => eb_is (eb_or (a := false) (b := false) (eb_is (eb_D (ed_neD (ed_var rfl hv9) (ed_var rfl hw9) sh_wait sh_wait)) (by rw [eqv_refl sh_wait]; rfl)) fun _ => eb_is (eb_not (eb_DB (ed_call (ea_consD (ed_ixT (ed_var rfl hv9) ed_int rfl) ea_nilD) (at_mark _)))) rfl) rfl) rfl (fun z => by cases z) (fun _ B10 e10 => q_next ?_)
      have hv10 := dp_ex e10 hv9
      refine s_ifM K (b := false) (eb_or (a := false) (b := false) (eb_is (eb_not (eb_DB (ed_call (ea_consD (ed_ixT (ed_var rfl hv10) ed_int rfl) ea_nilD) (at_whole _)))) rfl) fun _ => eb_is (eb_not (eb_DB (ed_isi (ed_ixT (ed_var rfl hv10) ed_int rfl) ki_bb))) rfl) rfl (fun z => by cases z) (fun _ B11 e11 => ?_)
      exact ⟨A8, P8.trans (Pr.up P8.s (hB9.e.trans (e10.trans e11))), _, _, rfl⟩
    · rintro A7 B7 σ' A8 B8 P7 P8 ⟨w6, w7, rfl⟩
      refine go_nx ?_
      have e68 : Ex B B8 := e56.trans (P7.b.trans P8.b)
      have PM8 := PB.up e68
      have PO8 := (P12.m (F := fun x => x = q.a)).trans (PM8.mono (G := fun x => x = q.a) fun _ z => z.elim)
      have bq8 : B8 qf = some (.lst xs) := e68 _ _ (eB _ _ bq)
      have nq8 : A' qf = none := PM8.n _ nq (by rw [bq]; simp)
      refine q_do (s_clear K (ev_var rfl) bq8 fun B9 e9 => go_nx ?_)
      have PO9 := (PO8.up e9).put (l := qf) (o := .lst []) (.inr hqH) nq8
      have PQ := ((PM8.up e9).mono (G := fun x => x = qf) fun _ z => z.elim).put (l := qf) (o := .lst []) (.inl rfl) nq8
      have b9 : (upd B9 qf (.lst [])) qf = some (.lst []) := upd_same
      generalize upd B9 qf (.lst []) = C9 at PO9 PQ b9 ⊢
      have D9 := O2.D.mono PQ fun x hx z => nqp x hx z
      have L9 := O2.L.mono PQ fun x hx z => nqq x hx z
      have I9 : ∀ e ∈ ex, C9 e.2 = some (.lst []) := fun e he => PQ.b _ _ (nqe e he) (O2.ix e he)
      refine q_do (m_call (K := K) (A := A') (ds := []) PQ.s (ev_var rfl) D9.ia rfl epa_nil fun vs A10 B10 P10 hv => ?_)
      cases hv
      refine ⟨A10, p, st, rfl, D9.pr P10, fun qr H11 hqr e11 r11 => go_nx ?_⟩
      have P11 : Pr A' C9 A10 H11 := P10.trans (Pr.up P10.s e11)
      have D11 := D9.pr P11
      have L11 := L9.pr P11
      have I11 : ∀ e ∈ ex, H11 e.2 = some (.lst []) := fun e he => P11.b _ _ (I9 e he)
      have PO11 := PO9.pr P11
      have hqr9 : C9 qr = none := fresh_back P10.b hqr
      have hqrH : H qr = none := PO9.fresh hqr9
      have nrA : A10 qr = none := fresh_back P10.s hqr
      have b11 := P11.b _ _ b9
      have nrf : qr ≠ qf := fun z => by rw [z, b9] at hqr9; cases hqr9
      have nrp : ∀ x ∈ p.foot, x ≠ qr := fun x hx z => O.D.alive x hx (z ▸ hqrH)
      have nrq : ∀ x ∈ q.foot, x ≠ qr := fun x hx z => O.L.alive x hx (z ▸ hqrH)
      have nre : ∀ e ∈ ex, e.2 ≠ qr := fun e he z => by have := O.ix e he; rw [z, hqrH] at this; cases this
      have llen : ∀ ex' : List (Str × Addr), ex'.length < 10000 → (ldK q st ex').length < 100000 := fun ex' h => by unfold ldK; simp only [List.length_cons, List.length_map]; omega
      refine q_ifM K (b := false) (eb_or (a := false) (b := false) (eb_is (eb_D (ed_neD (ed_getE L11 I11 (ev_var rfl) (.inl rfl)) (ed_n (en_lst ea_nilD (by decide))) rfl rfl)) rfl) fun _ => eb_is (eb_D (ed_neD (ed_getE L11 I11 (ev_var rfl) (.inr (.inl rfl))) (ed_n (en_lst ea_nilD (by decide))) rfl rfl)) rfl) rfl (fun z => by cases z) (fun _ B12 e12 => q_next ?_)
      refine q_do (s_dputS (K := K) (v := .ref qf) (ev_var rfl) (ev_var rfl) ed_str (e12 _ _ L11.ia) (llen _ (by omega)) fun B13 e13 => go_nx ?_)
      rw [ld_put (.inl rfl)]
      have e1213 := e12.trans e13
      have L13 : LDAt K A10 (upd B13 q.a (.dK (ldK q st (exP ex "told" qf)))) q (exP ex "told" qf) st := (L11.up P11.s e1213).exput (exP_key (.inl rfl) L11.kx)
      have PO13 := (PO11.up e1213).put (l := q.a) (o := .dK (ldK q st (exP ex "told" qf))) (.inl rfl) (L11.na _ LP.in_a)
      have PR13 := ((PrM.refl (F := fun x => x = q.a) P11.s).up e1213).put (l := q.a) (o := .dK (ldK q st (exP ex "told" qf))) (.inl rfl) (L11.na _ LP.in_a)
      generalize upd B13 q.a (.dK (ldK q st (exP ex "told" qf))) = C13 at L13 PO13 PR13 ⊢
      have hl1 := exP_len ex "told" qf
      refine q_do (s_dputS (K := K) (v := .ref qr) (ev_var rfl) (ev_var rfl) ed_str L13.ia (llen _ (by omega)) fun B14 e14 => go_nx ?_)
      rw [ld_put (.inr (.inl rfl))]
      have L14 : LDAt K A10 (upd B14 q.a (.dK (ldK q st (exP (exP ex "told" qf) "rows" qr)))) q (exP (exP ex "told" qf) "rows" qr) st := (L13.up PR13.s e14).exput (exP_key (.inr (.inl rfl)) L13.kx)
      have PO14 := (PO13.up e14).put (l := q.a) (o := .dK (ldK q st (exP (exP ex "told" qf) "rows" qr))) (.inl rfl) (L13.na _ LP.in_a)
      have PR14 := (PR13.up e14).put (l := q.a) (o := .dK (ldK q st (exP (exP ex "told" qf) "rows" qr))) (.inl rfl) (L13.na _ LP.in_a)
      generalize upd B14 q.a (.dK (ldK q st (exP (exP ex "told" qf) "rows" qr))) = C14 at L14 PO14 PR14 ⊢
      have hl2 := exP_len (exP ex "told" qf) "rows" qr
      have D14 := D11.mono PR14 fun x hx z => O.dj x hx (z ▸ LP.in_a)
      have r14 := PR14.b qr _ (fun z => nrq _ LP.in_a z.symm) r11
      have b14 := PR14.b qf _ (fun z => nqq _ LP.in_a z.symm) b11
      have I14 : ∀ e ∈ ex, C14 e.2 = some (.lst []) := fun e he => PR14.b _ _ (fun z => O.xq e he (z ▸ LP.in_a)) (I11 e he)
      refine q_asgV (ed_clock PR14.s D14 (ev_var rfl)) fun B15 e15 => ?_
      have L15 := L14.up PR14.s e15
      refine c_callV (ea_cons (ev_var rfl) (ea_cons (ev_ld L15 (ev_var rfl) (v := .ref q.r) rfl) ea_nil)) fun B16 e16 => ?_
      have e1416 := e15.trans e16
      have L16 := L14.up PR14.s e1416
      refine ⟨A10, .ref qr, .ref q.r, .lst st.row, rfl, PR14.s.trans e1416, ⟨qr, rfl, e1416 _ _ r14⟩, ⟨q.r, rfl, L16.ir⟩, fun l z => ?_, fun x z => (by cases z), fun x l z _ => ?_, fun z => absurd rfl (z _), fun x l hl hx H17 P17 b17 => ⟨true, rfl, iteT ?_⟩⟩
      · cases z
        omega
      · cases z
        exact nrA
      · cases hx
        have L17 := L16.mono P17 fun x hx z => nrq x hx z
        have D17 := (D14.up PR14.s e1416).mono P17 fun x hx z => nrp x hx z
        refine v_bl (K := K) (i := true) (ed_is (ed_and (a := true) (b := true) (ed_is (ed_call (ea_consD (ed_var rfl (.int st.time)) ea_nilD) (at_whole _)) rfl) fun _ => ed_is (ed_eqi (ed_var rfl (.int st.time)) (ed_ev (ev_ld L17 (ev_var rfl) (v := .int st.time) rfl) (.int _))) (by rw [beq_self_eq_true])) rfl) H17 (Ex.refl _) _ fun B18 e18 => ?_
        refine k (exP (exP ex "told" qf) "rows" qr) A10 B18 (((PO14.up e1416).then P17 fun x hx => .inr (hx ▸ hqrH)).up e18) ⟨D17.up P17.s e18, L17.up P17.s e18, O.g, O.dj, fun e he => ?_, fun e he => ?_, fun e he => ?_⟩ (by omega)
        · rcases exP_mem he with z | z
          · rcases exP_mem z with z | z
            · exact e18 _ _ (P17.b _ _ (nre e z) (e1416 _ _ (I14 e z)))
            · rw [z]
              exact e18 _ _ (P17.b _ _ (Ne.symm nrf) (e1416 _ _ b14))
          · rw [z]
            exact e18 _ _ b17
        · rcases exP_mem he with z | z
          · rcases exP_mem z with z | z
            · exact O.xp e z
            · rw [z]
              exact fun y => nqp _ y rfl
          · rw [z]
            exact fun y => nrp _ y rfl
        · rcases exP_mem he with z | z
          · rcases exP_mem z with z | z
            · exact O.xq e z
            · rw [z]
              exact fun y => nqq _ y rfl
          · rw [z]
            exact fun y => nrq _ y rfl
  · rw [decide_eq_false hms]
    refine iteT ?_
    have hpos : 0 < ms.length := List.length_pos_iff.mpr hms
    obtain ⟨n', rfl⟩ : ∃ n', n = n' + 1 := ⟨n - 1, by omega⟩
    refine ⟨J n', fun σ' B' h => ⟨n', Nat.lt_succ_self _, h⟩, ?_⟩
    have hknn : (ms.map (·.1)).Nodup := by rw [← hkn]; exact O.g.nd.filter _
    have hkne : ms.map (·.1) ≠ [] := fun z => hms (List.map_eq_nil_iff.mp z)
    have hlf : lfirst ms st.known = some (bestL (mkOf st) (ms.map (·.1))) := by
      unfold lfirst
      rw [hkn]
      exact firstF_best hmo hkne
    have hbm : bestL (mkOf st) (ms.map (·.1)) ∈ ms.map (·.1) := bestL_mem hkne
    have hord2 : orderL (mkOf st) (n' + 1) (ms.map (·.1)) = bestL (mkOf st) (ms.map (·.1)) :: orderL (mkOf st) n' ((dropM ms (bestL (mkOf st) (ms.map (·.1)))).map (·.1)) := by
      rw [orderL_succ, if_neg hkne, drop_keys, hknn.erase_eq_filter]
      congr 2
      refine List.filter_congr fun y _ => ?_
      by_cases z : y = bestL (mkOf st) (ms.map (·.1)) <;> simp [z]
    generalize bestL (mkOf st) (ms.map (·.1)) = x at hlf hbm hord2
    -- letter
    have L5 : LDAt K A' B5 q ex st := (O2.L.mono PB fun _ _ z => z).up PB.s e5
    refine q_do fun k0 hk0 => ?_
    have hk0B : B2 k0 = none := fresh_back (eB.trans e5) hk0
    have P6 := (PB.up e5).new (o := .dK []) hk0
    have L6 := L5.up (PB.s.trans e5) (Ex.new (o := .dK []) hk0)
    have g6 : (upd B5 k0 (.dK [])) k0 = some (.dK []) := upd_same
    have up6 : Ex B (upd B5 k0 (.dK [])) := e5.trans (Ex.new hk0)
    generalize upd B5 k0 (.dK []) = H6 at P6 L6 g6 up6 ⊢
    refine ev_ld L6 (ev_var rfl) (v := .ref q.l) rfl H6 (Ex.refl _) _ fun B7 e7 => ⟨_, rfl, e7 _ _ g6, [(.inr "met", .ref q.l), (.inr "marks", .ref pm)], rfl, by show 2 ≤ 15; decide, ?_⟩
    have P8 := (P6.up e7).put (l := k0) (o := .dK [(.inr "met", .ref q.l), (.inr "marks", .ref pm)]) (.inr hk0B) (fresh_back (PB.s.trans e5) hk0)
    have hmg : mergeK [] [((.inr "met" : Key), V.ref q.l), (.inr "marks", .ref pm)] = [(.inr "met", .ref q.l), (.inr "marks", .ref pm)] := rfl
    rw [hmg]
    have g8 : (upd B7 k0 (.dK [(.inr "met", .ref q.l), (.inr "marks", .ref pm)])) k0 = some (.dK [(.inr "met", .ref q.l), (.inr "marks", .ref pm)]) := upd_same
    have n8 : ∀ y, y ≠ k0 → ∀ u, B y = some u → (upd B7 k0 (.dK [(.inr "met", .ref q.l), (.inr "marks", .ref pm)])) y = some u := fun y n u e => by rw [upd_ne n]; exact e7 _ _ (up6 _ _ e)
    generalize upd B7 k0 (.dK [(.inr "met", .ref q.l), (.inr "marks", .ref pm)]) = H8 at P8 g8 n8 ⊢
    have k0n : ∀ y, B y ≠ none → y ≠ k0 := fun y h z => h (by rw [z]; exact fresh_back e5 hk0)
    have L8 : LDAt K A' H8 q ex st := O2.L.mono P8 fun _ _ z => z
    have bp8 := n8 pm (k0n _ (by rw [bp]; simp)) _ bp
    have bd8 := n8 qd (k0n _ (by rw [bd]; simp)) _ bd
    refine ⟨k0, q.l, pm, _, kv, st.known, ms, rfl, g8, rfl, rfl, L8.il, bp8, hkv.mono P8.s, fun B9 e9 => go_nx ?_⟩
    rw [hlf]
    have ho : optV (some x) = V.int x := rfl
    rw [ho]
    have P9 := P8.up e9
    have L9 := L8.up P8.s e9
    have bp9 := e9 _ _ bp8
    have bd9 := e9 _ _ bd8
    obtain ⟨mk, hmk'⟩ := lk_mem hbm
    obtain ⟨v, hv1, hv2⟩ := hkv.lk hmk'
    have hmkx : mk = mkOf st x := by rw [← hmo x hbm]; unfold mkM; rw [hmk']; rfl
    rw [hmkx] at hv2
    -- due.append((left.pop(letter), letter, letter in done))
    refine ⟨_, rfl, .inl ⟨rfl, ys, sq_of bd9⟩, ⟨_, rfl, pm, rfl, .inl ⟨kv, .inl bp9⟩, ⟨_, rfl, kv, .inl x, v, bp9, rfl, hv1, ?_⟩⟩⟩
    have P10 := P9.put (l := pm) (o := .dK (dropK kv (.inl x))) (.inr hpmB) np
    have n10 : ∀ y, y ≠ pm → ∀ u, B9 y = some u → (upd B9 pm (.dK (dropK kv (.inl x)))) y = some u := fun y n u e => by rw [upd_ne n]; exact e
    have bp10 : (upd B9 pm (.dK (dropK kv (.inl x)))) pm = some (.dK (dropK kv (.inl x))) := upd_same
    generalize upd B9 pm (.dK (dropK kv (.inl x))) = H10 at P10 n10 bp10 ⊢
    have L10 : LDAt K A' H10 q ex st := O2.L.mono P10 fun _ _ z => z
    have bd10 := n10 qd npd _ bd9
    refine ⟨_, rfl, ?_⟩
    have hdn : EvD K (tDIn (tVar 5) (tDGet (tVar 1) (tC (.str "done")))) [some (.ref p.a), some (.ref q.a), some (.ref qf), some (.ref pm), some (.ref qd), some (.int x), none, none, none, none] H10 (.bool (decide (x ∈ st.done))) :=
      ed_is (ed_din (ed_var rfl (.int _)) (ev_ld L10 (ev_var rfl) (v := .ref q.d) rfl) (.inl L10.id)) (congrArg PyData.bool (flags_val _ _))
    refine v_bl (K := K) hdn H10 (Ex.refl _) _ fun B11 e11 => ⟨sz_of (by show 3 ≤ 100000; decide), fun pt hpt => ?_⟩
    have P11 := P10.up e11
    have P12' := P11.newD (o := .tup [v, .int x, .bl (decide (x ∈ st.done))]) hpt
    have npt : A' pt = none := fresh_back P11.s hpt
    have eA : Ex A' (upd A' pt (.tup [v, .int x, .bl (decide (x ∈ st.done))])) := Ex.new npt
    have hw : Dp K (upd A' pt (.tup [v, .int x, .bl (decide (x ∈ st.done))])) (.ref pt) (waitD st x) := .tup (st_of upd_same) (.cons (dp_ex eA hv2) (.cons (.int _) (.cons (.bl _) .nil)))
    have bd12 : (upd B11 pt (.tup [v, .int x, .bl (decide (x ∈ st.done))])) qd = some (.lst ys) := Ex.new hpt _ _ (e11 _ _ bd10)
    have bp12 : (upd B11 pt (.tup [v, .int x, .bl (decide (x ∈ st.done))])) pm = some (.dK (dropK kv (.inl x))) := Ex.new hpt _ _ (e11 _ _ bp10)
    have nd12 : (upd A' pt (.tup [v, .int x, .bl (decide (x ∈ st.done))])) qd = none := by rw [upd_ne (fun z => by rw [z] at bd10; rw [e11 _ _ bd10] at hpt; cases hpt)]; exact nqd
    have np12 : (upd A' pt (.tup [v, .int x, .bl (decide (x ∈ st.done))])) pm = none := by rw [upd_ne (fun z => by rw [z] at bp10; rw [e11 _ _ bp10] at hpt; cases hpt)]; exact np
    generalize upd A' pt (.tup [v, .int x, .bl (decide (x ∈ st.done))]) = A12 at P12' eA hw nd12 np12 ⊢
    generalize upd B11 pt (.tup [v, .int x, .bl (decide (x ∈ st.done))]) = H12 at P12' bd12 bp12 ⊢
    have hyl : ys.length = gone.length := by rw [dpa_len hys, List.length_map]
    refine ⟨qd, ys, .ref pt, rfl, rfl, bd12, sz_lt (by omega), ?_⟩
    refine ⟨dropM ms x, gone ++ [x], dropK kv (.inl x), ys ++ [.ref pt], A12, _, rfl, ?_, ?_, ?_, dropM_good hkn x, ?_, P12'.put (.inr hqdB) nd12, np12, nd12, ?_, (hkv.mono eA).drop, upd_same, ?_⟩
    · have h1 : (dropM ms x).length = ((ms.map (·.1)).filter fun j => decide (j ≠ x)).length := by rw [← drop_keys, List.length_map]
      have h2 : ((ms.map (·.1)).filter fun j => decide (j ≠ x)) = (ms.map (·.1)).erase x := by
        rw [hknn.erase_eq_filter]
        refine List.filter_congr fun y _ => ?_
        by_cases z : y = x <;> simp [z]
      rw [h1, h2, List.length_erase_of_mem hbm, List.length_map, hn]
      rfl
    · rw [hord, hord2, List.append_assoc]
      rfl
    · rw [List.length_append, List.length_singleton]; omega
    · intro i hi
      rw [drop_keys] at hi
      obtain ⟨h1, h2⟩ := List.mem_filter.mp hi
      unfold mkM
      rw [lk_drop (of_decide_eq_true h2)]
      exact hmo i h1
    · rw [upd_ne (Ne.symm npd)]; exact bp12
    · rw [List.map_append]
      exact dpa_app (dpa_ex eA hys) (.cons hw .nil)
end

end K3

namespace K3
open PySem L2 Evl Ob

local macro_rules | `(tactic| tm_at "sh") => `(tactic| first | exact sh_mk | exact sh_mks | exact sh_b3)

local macro_rules | `(tactic| tm_at "fn") => `(tactic| first | exact at_whole _ | exact at_mark _ | exact at_cell (by decide))

/-! ## a mark that is drawn -/
theorem q_ifJ (K : PySem.W.Frag) {Dd : Ends} {t : TT} {tw tz t2 : TS} {σ : L2.St} {H : Hp} {b b' : Bool} (J : L2.St → Hp → Prop) (h : EvB K t σ H b') (q : b' = b) (rest : ∀ σ' B', J σ' B' → t2 Dd σ' B')
    (h1 : (∀ σ' B', J σ' B' → t2 Dd σ' B') → b = true → ∀ B', Ex H B' → tw (go Dd t2) σ B') (h2 : (∀ σ' B', J σ' B' → t2 Dd σ' B') → b = false → ∀ B', Ex H B' → tz (go Dd t2) σ B') : tSeq (tIfS t tw tz) t2 Dd σ H := q_ifM K h q (h1 rest) (h2 rest)
def rInt1 : List V → Hp → VK → Prop := fun xs H Q => (∃ i, xs = [.int i] ∧ Q (.int i) H) ∨ ∃ k, xs = [.bl k] ∧ Q (.int (if k then 1 else 0)) H
theorem ed_int1b {K : PySem.W.Frag} {te : TE} {σ : L2.St} {H : Hp} {b : Bool} (h : EvD K te σ H (.bool b)) : EvD K (tCB rInt1 (tCons te tNil)) σ H (.int (if b then 1 else 0)) :=
  ed_v (v := .int (if b then 1 else 0)) (fun H1 e Q q => v_bl h H1 e _ fun H2 e2 => .inr ⟨b, rfl, q H2 e2⟩) (.int _)
theorem at_ix2 {a b : D} {j : Int} (h : j = 0 ∨ j = 1) : atI [a, b] j = some (if j = 0 then a else b) := by
  rcases h with rfl | rfl <;> rfl
section
variable {P : Program} {w : World} {K : PySem.W.Frag} {mg : Str → Option Value} {base : Heap} {c : Cs}
def sp_drawn (K : PySem.W.Frag) : Sp := fun vs H Q _ => ∃ A q ex s l cell more, vs = [.ref q.a, .int l, .int cell, .int more] ∧ Ex A H ∧ LDAt K A H q ex s ∧ Good s ∧ ∀ m v A' H', Pr A H A' H' → Dp K A' v (mkD m) → Q v H'
theorem ok_drawn (T : Tx K mg c) : DefOk P w K mg base CX0 2 "_law_drawn" ["_law_d", "_law_letter", "_law_cell", "_law_more"] (sp_drawn K) := by
  obtain ⟨f, fd, d⟩ := T.d_law_drawn
  refine d.ok (d.F.ok sc_law_drawn (fun vs H Q E h => ?_) fun cdv A outer s H vs Q E hr h => ?_)
  · obtain ⟨_, _, _, _, _, _, _, e, _⟩ := h
    rw [e]
    rfl
  obtain ⟨A0, q, ex, st, l, cell, more, rfl, s0, hD, hg, k⟩ := h
  have nd := sc_law_drawn.nd
  have G_law_first := ok_lfirst (P := P) (w := w) (base := base) T
  refine ⟨_, (pss_cons (ps_set (i := 4) nd rfl (Or.inl rfl) (pe_tup (pa_cons (pe_op op_add pe_int (pe_op op_mod (pv 3) pe_int)) (pa_cons (pe_op op_mod (pe_op op_fdiv (pv 3) pe_int) pe_int) pa_nil))))
      (pss_cons (ps_if (pt_cmp (pc_din (hu_of hr) (pv 1) (pe_dget (hu_of hr) (pv 0) pe_str (fun _ _ => rfl)))) (pss_one (ps_set (i := 4) nd rfl (Or.inl rfl) (pe_dget (hu_of hr) (pe_dget (hu_of hr) (pv 0) pe_str (fun _ _ => rfl)) (pv 1) (fun _ _ => rfl)))) pss_nil)
      (pss_cons (ps_if (PW.pt (pw_and (pt_cmpR op_eq (pe_op op_mod (pe_op op_fdiv (pv 2) pe_int) pe_int) pe_int (nomark _)) (pw_and1 (pt_cmpR op_notN1 (pe_cd G_law_first (hr.mono (by decide)) rfl pass0 (pa_cons (pv 0) pa_nil)) pe_non (nomark _))))) (pss_one (ps_set (i := 4) nd rfl (Or.inl rfl) (pe_dget (hu_of hr) (pe_dget (hu_of hr) (pv 0) pe_str (fun _ _ => rfl)) (pe_cd G_law_first (hr.mono (by decide)) rfl pass0 (pa_cons (pv 0) pa_nil)) (fun _ _ => rfl)))) pss_nil)
      (pss_cons (ps_if (pt_cmpR op_eq (pe_op op_mod (pe_op op_fdiv (pv 2) pe_int) pe_int) pe_int (nomark _)) (pss_one (ps_ret (pe_tup (pa_cons (pe_callB (c_max2 rfl) rfl T.mn_max (by decide +kernel) (pa_cons pe_int (pa_cons (pe_op op_sub (pe_ix (ixT (K := K) rfl) (pv 4) pe_int (fun _ _ => rfl)) pe_int) pa_nil))) (pa_cons (pe_ix (ixT (K := K) rfl) (pv 4) pe_int (fun _ _ => rfl)) pa_nil))))) pss_nil)
      (pss_cons (ps_if (pt_cmpR op_eq (pe_op op_mod (pe_op op_fdiv (pv 2) pe_int) pe_int) pe_int (nomark _)) (pss_one (ps_ret (pe_tup (pa_cons (pe_ix (ixT (K := K) rfl) (pv 4) pe_int (fun _ _ => rfl)) (pa_cons (pe_op op_mod (pv 3) pe_int) pa_nil))))) pss_nil)
      (pss_one (ps_ret (pe_tup (pa_cons (pe_op op_add (pe_ix (ixT (K := K) rfl) (pv 4) pe_int (fun _ _ => rfl)) (pe_ix (ixL (K := K) rfl) (pe_lst (pa_cons (pe_op op_mod (pv 3) pe_int) (pa_cons (pe_op op_mod (pv 3) (pe_op op_pow pe_int pe_int)) pa_nil))) (pe_op op_fdiv (pe_op op_mod (pe_op op_fdiv (pv 2) pe_int) pe_int) pe_int) (fun _ _ => rfl))) (pa_cons (pe_ix (ixL (K := K) rfl) (pe_lst (pa_cons (pe_ix (ixT (K := K) rfl) (pv 4) pe_int (fun _ _ => rfl)) (pa_cons (pe_op op_mod (pe_op op_fdiv (pv 3) pe_int) pe_int) pa_nil))) (pe_op op_fdiv (pe_op op_mod (pe_op op_fdiv (pv 2) pe_int) pe_int) pe_int) (fun _ _ => rfl)) pa_nil)))))))))), ?_⟩
  try dsimp only [cx_K]
  let J : L2.St → Hp → Prop := fun σ B => ∃ m v A', σ = [some (.ref q.a), some (.int l), some (.int cell), some (.int more), some v] ∧ Pr A0 H A' B ∧ Dp K A' v (mkD m)
  refine q_asgP K (d := mkD (1 + more % 5, more / 5 % 40)) s0 (ep_tup (epa_cons (ep_i (by tm_at "ed")) (epa_cons (ep_i (by tm_at "ed")) epa_nil)) (by show 2 ≤ 100000; decide)) fun v1 A1 B1 P1 hv1 => ?_
  generalize (1 + more % 5, more / 5 % 40) = m1 at hv1
  have D1 := hD.pr P1
  obtain ⟨kvs, hm, hmk⟩ := D1.im
  have hsome : (valV kvs (.inl l)).isSome = decide (l ∈ st.keys) := by rw [hmk.some, lk_some]; rfl
  refine q_ifJ K J (b := decide (l ∈ st.keys)) (eb_is (eb_DB (ed_din (ed_var rfl (.int l)) (ev_ld D1 (ev_var rfl) (v := .ref q.m) rfl) (.inl hm))) hsome) rfl ?_ (fun r hb B2 e2 => ?_) (fun r hb B2 e2 => r _ _ ⟨m1, v1, A1, rfl, P1.trans (Pr.up P1.s e2), hv1⟩)
  case refine_2 =>
    obtain ⟨mk, hmk'⟩ := lk_mem (of_decide_eq_true hb)
    obtain ⟨v0, hv, hv2⟩ := hmk.lk hmk'
    exact s_asgV (ev_dget (K := K) (ev_ld (D1.up P1.s e2) (ev_var rfl) (v := .ref q.m) rfl) (.inl (e2 _ _ hm)) (ed_var rfl (.int l)) hv) fun B3 e3 => r _ _ ⟨mk, v0, A1, rfl, P1.trans (Pr.up P1.s (e2.trans e3)), hv2⟩
  rintro σ2 B2 ⟨m2, v2, A2, rfl, P2, hv2⟩
  have D2 := hD.pr P2
  have ef : ∀ B3 E, Ex B2 B3 → Ev (tCall (sp_lfirst K) [] E (tCons (tVar 0) tNil)) [some (.ref q.a), some (.int l), some (.int cell), some (.int more), some v2] B3 (optV st.first) := fun B3 E e3 => by
    have := ev_lfirst (E := E) (D2.up P2.s e3) (P2.s.trans e3) (ev_var (σ := [some (.ref q.a), some (.int l), some (.int cell), some (.int more), some v2]) (i := 0) rfl)
    rw [lfirst_eq hg] at this
    exact this
  refine q_ifJ K J (b := (cell / 4 % 4 == 1) && !isNone (optD st.first)) (eb_and (a := (cell / 4 % 4 == 1)) (b := !isNone (optD st.first)) (eb_D (by tm_at "ed")) fun _ => eb_D (ed_notN (ed_v (ef B2 _ (Ex.refl _)) (dp_opt _)))) rfl ?_ (fun r hb B3 e3 => ?_) (fun r hb B3 e3 => r _ _ ⟨m2, v2, A2, rfl, P2.trans (Pr.up P2.s e3), hv2⟩)
  case refine_2 =>
    cases hf : st.first with
    | none => rw [hf] at hb; simp [optD, isNone] at hb
    | some x =>
      have ex1 : ∀ B4 E, Ex B2 B4 → Ev (tCall (sp_lfirst K) [] E (tCons (tVar 0) tNil)) [some (.ref q.a), some (.int l), some (.int cell), some (.int more), some v2] B4 (.int x) := fun B4 E e4 => by
        have := ef B4 E e4
        rw [hf] at this
        exact this
      have D3 := D2.up P2.s e3
      obtain ⟨kvs3, hm3, hmk3⟩ := D3.im
      obtain ⟨mk, hmk'⟩ := lk_mem (DS.first_mem hf)
      obtain ⟨v0, hv, hv3⟩ := hmk3.lk hmk'
      exact s_asgV (ev_dget (K := K) (ev_ld D3 (ev_var rfl) (v := .ref q.m) rfl) (.inl hm3) (ed_v (ex1 B3 _ e3) (.int x)) hv) fun B4 e4 => r _ _ ⟨mk, v0, A2, rfl, P2.trans (Pr.up P2.s (e3.trans e4)), hv3⟩
  rintro σ3 B3 ⟨m3, v3, A3, rfl, P3, hv3⟩
  have hx : ∀ B, Ex B3 B → Dp K B v3 (.tuple [.int m3.1, .int m3.2]) := fun B e => dp_ex (P3.s.trans e) hv3
  refine q_ifM K (b := (cell / 16 % 5 == 0)) (eb_D (by tm_at "ed")) rfl (fun hb B4 e4 => ?_) (fun hb B4 e4 => q_next ?_)
  · have h4 := hx B4 e4
    refine s_retP K (d := mkD (if m3.1 - 1 > 1 then m3.1 - 1 else 1, m3.2)) (P3.s.trans e4) (ep_tup (epa_cons (ep_i (ed_max2 ed_int (ed_Ii (ed_ixT (ed_var rfl h4) ed_int rfl) ed_int))) (epa_cons (ep_i (ed_ixT (ed_var rfl h4) ed_int rfl)) epa_nil)) (by show 2 ≤ 100000; decide)) fun v A' B' P hv => ?_
    exact k _ v A' B' (P3.trans ((Pr.up P3.s e4).trans P)) hv
  refine q_ifM K (b := (cell / 16 % 5 == 1)) (eb_D (by tm_at "ed")) rfl (fun hb B5 e5 => ?_) (fun hb5 B5 e5 => q_next ?_)
  · have h5 := hx B5 (e4.trans e5)
    refine s_retP K (d := mkD (m3.1, more % 40)) (P3.s.trans (e4.trans e5)) (ep_tup (epa_cons (ep_i (ed_ixT (ed_var rfl h5) ed_int rfl)) (epa_cons (ep_i (by tm_at "ed")) epa_nil)) (by show 2 ≤ 100000; decide)) fun v A' B' P hv => ?_
    exact k _ v A' B' (P3.trans ((Pr.up P3.s (e4.trans e5)).trans P)) hv
  · have h5 := hx B5 (e4.trans e5)
    have j1 : cell / 80 % 5 / 4 = 0 ∨ cell / 80 % 5 / 4 = 1 := by omega
    have hb4 : ¬ (cell / 16 % 5 = 0) := fun z => by rw [z] at hb; cases hb
    have j2 : cell / 16 % 5 / 3 = 0 ∨ cell / 16 % 5 / 3 = 1 := by omega
    have i1 : atI [PyData.int (more % 4), .int (more % 10 ^ (30 : Int).toNat)] (cell / 80 % 5 / 4) = some (.int (if cell / 80 % 5 / 4 = 0 then more % 4 else more % 10 ^ (30 : Int).toNat)) := by
      rw [at_ix2 j1]
      split <;> rfl
    have i2 : atI [PyData.int m3.2, .int (more / 4 % 40)] (cell / 16 % 5 / 3) = some (.int (if cell / 16 % 5 / 3 = 0 then m3.2 else more / 4 % 40)) := by
      rw [at_ix2 j2]
      split <;> rfl
    refine s_retP K (d := mkD (m3.1 + (if cell / 80 % 5 / 4 = 0 then more % 4 else more % 10 ^ (30 : Int).toNat), if cell / 16 % 5 / 3 = 0 then m3.2 else more / 4 % 40)) (P3.s.trans (e4.trans e5)) (ep_tup (epa_cons (ep_i (ed_Ii (ed_ixT (ed_var rfl h5) ed_int rfl) (ed_ixL (ed_n (en_lst (ea_consD (by tm_at "ed") (ea_consD (by tm_at "ed") ea_nilD)) (by show 2 ≤ 100000; decide))) (by tm_at "ed") i1))) (epa_cons (ep_i (ed_ixL (ed_n (en_lst (ea_consD (ed_ixT (ed_var rfl h5) ed_int rfl) (ea_consD (by tm_at "ed") ea_nilD)) (by show 2 ≤ 100000; decide))) (by tm_at "ed") i2)) epa_nil)) (by show 2 ≤ 100000; decide)) fun v A' B' P hv => ?_
    exact k _ v A' B' (P3.trans ((Pr.up P3.s (e4.trans e5)).trans P)) hv
end

end K3

namespace K3
open PySem L2 Evl Ob

local macro_rules | `(tactic| tm_at "sh") => `(tactic| first | exact sh_mk | exact sh_mks | exact sh_b3)

local macro_rules | `(tactic| tm_at "fn") => `(tactic| first | exact at_whole _ | exact at_mark _ | exact at_cell (by decide))

/-! ## told, then asked -/
theorem told_str {s : DS} {l : Int} {o : Option Mk} {x : Str} (h : (s.told l o).2 = .str x) : PyData.strOk x = true := by
  cases o with
  | none =>
    rw [DS.told_n] at h
    split at h
    · cases h; decide +kernel
    · cases h
  | some m =>
    rw [DS.told_m] at h
    split at h
    · cases h; decide +kernel
    · split at h
      · cases h; decide +kernel
      · cases h
theorem told_lst {s : DS} {l : Int} {o : Option Mk} {l' : List Int} (h : (s.told l o).2 = .lst l') : l'.length ≤ s.size := by
  cases o with
  | none =>
    rw [DS.told_n] at h
    split at h <;> cases h
  | some m =>
    rw [DS.told_m] at h
    by_cases hc : l ∉ s.keys ∨ l ∈ s.done
    · rw [if_pos hc] at h; cases h
    · rw [if_neg hc] at h
      split at h
      · cases h
      · cases h
        have h1 := over_len2 (s.set1 l m).marked.length (s.set1 l m)
        have hin : l ∈ s.marked.map (·.1) := by
          rw [not_or, Classical.not_not] at hc
          exact hc.1
        have h2 : (s.set1 l m).marked.length = s.marked.length := put_len hin
        rw [h2] at h1
        unfold DS.run DS.size
        rw [h2]
        omega
structure Mid (K : PySem.W.Frag) (C : Addr) (A B : Hp) (p : DP) (q : LP) (ex : List (Str × Addr)) (s : DS) (l : Int) (o : Option Mk) (v : V) : Prop where
  D : DeskAt K C A B p (s.told l o).1
  L : LDAt K A B q ex s
  g : Good s
  dj : ∀ x ∈ p.foot, x ∉ q.foot
  ix : ∀ e ∈ ex, B e.2 = some (.lst [])
  xp : ∀ e ∈ ex, e.2 ∉ p.foot
  xq : ∀ e ∈ ex, e.2 ∉ q.foot
  ov : OutV K A B v (s.told l o).2
  fr : ∀ x l', v = .ref x → (s.told l o).2 = .lst l' → A x = none ∧ x ∉ q.foot ∧ x ∉ p.foot ∧ ∀ e ∈ ex, e.2 ≠ x
section
variable {K : PySem.W.Frag} {C : Addr} {A B A' B' : Hp} {p : DP} {q : LP} {ex : List (Str × Addr)} {s : DS} {l : Int} {o : Option Mk} {v vm : V} {E E' : XK} {Q : VK}
theorem Mid.up (M : Mid K C A B p q ex s l o v) (h : Ex A B) (e : Ex B B') : Mid K C A B' p q ex s l o v :=
  ⟨M.D.up h e, M.L.up h e, M.g, M.dj, fun x hx => e _ _ (M.ix x hx), M.xp, M.xq, by
    have := M.ov
    cases ho : (s.told l o).2 with
    | mk m => rw [ho] at this; exact this
    | str x => rw [ho] at this; exact this
    | lst x =>
      rw [ho] at this
      obtain ⟨y, e1, e2⟩ := this
      exact ⟨y, e1, e _ _ e2⟩, M.fr⟩
theorem told_mid (s0 : Ex A B) (O : Both K C A B p q ex s) (hm : MarkV K A vm o) (hl : s.size < 80000) (k : ∀ v A' B', Ex A A' → Ex A' B' → Mid K C A' B' p q ex s l o v → Q v B') : sp_told K C [.ref p.a, .int l, vm] B Q E :=
  ⟨A, p, s, l, vm, o, rfl, s0, hm, O.D, hl, fun v A' H' P D ov fr => k v A' H' P.a P.s ⟨D, O.L.mono P fun x hx hp => O.dj x hp hx, O.g, O.dj, fun e he => P.b _ _ (O.xp e he) (O.ix e he), O.xp, O.xq, ov, fun x l' e1 e2 => by
    obtain ⟨h1, h2⟩ := fr x l' e1 e2
    exact ⟨h2, fun z => O.L.alive x z h1, fun z => O.D.alive x z h1, fun e he z => by have := O.ix e he; rw [z, h1] at this; cases this⟩⟩⟩
theorem due_alike (s0 : Ex A B) (M : Mid K C A B p q ex s l o v) (hm : MarkV K A vm o) (hl : s.size < 30000) (hx : ex.length < 9000)
    (k : ∀ A' B' q', Ex A A' → Ex A' B' → q'.a = q.a → Both K C A' B' p q' ex (s.told l o).1 → (∀ x l', v = .ref x → (s.told l o).2 = .lst l' → B' x = some (.lst []) ∧ x ∉ p.foot ∧ x ∉ q'.foot) → OutV K A' B v (s.told l o).2 → Q (.bl true) B') :
    sp_due K [.ref q.a, .int l, vm] B (fun y H2 => sp_alike K [v, y] H2 Q E) E' := by
  refine ⟨A, q, ex, s, l, vm, o, rfl, s0, hm, M.L, M.g, by omega, hx, fun w r A2 B2 P2 hr L2 ov2 => ?_⟩
  have q2f : ∀ x, B x ≠ none → x ∉ q.foot → x ∉ (LP.mk q.a q.l q.m q.d r).foot := fun x hn hq hx => by
    simp only [LP.foot, List.mem_cons, List.not_mem_nil, or_false] at hx hq
    rcases hx with z | z | z | z | z
    · exact hq (.inl z)
    · exact hq (.inr (.inl z))
    · exact hq (.inr (.inr (.inl z)))
    · exact hq (.inr (.inr (.inr (.inl z))))
    · rcases hr with y | y
      · exact hq (.inr (.inr (.inr (.inr (z.trans y)))))
      · exact hn (z ▸ y)
  have D2 := M.D.mono P2 fun x hp hq => M.dj x hp hq
  have I2 : ∀ e ∈ ex, B2 e.2 = some (.lst []) := fun e he => P2.b _ _ (M.xq e he) (M.ix e he)
  have dj2 : ∀ x ∈ p.foot, x ∉ (LP.mk q.a q.l q.m q.d r).foot := fun x hp => q2f x (M.D.alive x hp) (M.dj x hp)
  have xq2 : ∀ e ∈ ex, e.2 ∉ (LP.mk q.a q.l q.m q.d r).foot := fun e he => q2f _ (by rw [M.ix e he]; simp) (M.xq e he)
  have hv2 : OutV K A2 B2 v (s.told l o).2 := by
    have := M.ov
    cases ho : (s.told l o).2 with
    | mk m => rw [ho] at this; exact dp_ex P2.a this
    | str x => rw [ho] at this; exact this
    | lst x =>
      rw [ho] at this
      obtain ⟨y, e1, e2⟩ := this
      exact ⟨y, e1, P2.b _ _ (M.fr y x e1 ho).2.1 e2⟩
  have hvB : OutV K A2 B v (s.told l o).2 := by
    have := M.ov
    cases ho : (s.told l o).2 with
    | mk m => rw [ho] at this; exact dp_ex P2.a this
    | str x => rw [ho] at this; exact this
    | lst x => rw [ho] at this; exact this
  refine ⟨A2, v, w, (s.told l o).2, rfl, P2.s, hv2, ov2, fun l' h => by have := told_lst h; omega, fun x h => told_str h, fun x l' e1 e2 => ?_, fun hn H' e => ?_, fun x l' e2 e1 H' P3 b3 => ?_⟩
  · have hal : B x ≠ none := by
      have := M.ov
      rw [e2] at this
      obtain ⟨y, e3, e4⟩ := this
      rw [e1] at e3
      cases e3
      rw [e4]; simp
    exact P2.n x (M.fr x l' e1 e2).1 hal
  · exact k A2 H' ⟨q.a, q.l, q.m, q.d, r⟩ P2.a (P2.s.trans e) rfl ⟨D2.up P2.s e, L2.up P2.s e, M.g.told l o, dj2, fun e' he => e _ _ (I2 e' he), M.xp, xq2⟩ (fun x l' _ h => absurd h (hn l')) hvB
  · obtain ⟨f1, f2, f3, f4⟩ := M.fr x l' e1 e2
    have hal : B x ≠ none := by
      have := M.ov
      rw [e2] at this
      obtain ⟨y, e3, e4⟩ := this
      rw [e1] at e3
      cases e3
      rw [e4]; simp
    have f5 := q2f x hal f2
    refine k A2 H' ⟨q.a, q.l, q.m, q.d, r⟩ P2.a P3.s rfl ⟨D2.mono P3 fun y hy z => f3 (z ▸ hy), L2.mono P3 fun y hy z => f5 (z ▸ hy), M.g.told l o, dj2, fun e he => P3.b _ _ (f4 e he) (I2 e he), M.xp, xq2⟩ (fun y l2 ey el => ?_) hvB
    rw [e1] at ey
    cases ey
    exact ⟨b3, f3, f5⟩
theorem mk_desk {H : Hp} {σ : L2.St} {te : TE} {hh : Int} (s : Ex A H) (h : EvD K te σ H (.int hh)) (k : ∀ p H', PrM (fun _ => False) A H A H' → (∀ x ∈ p.foot, H x = none) → DeskAt K C A H' p ⟨hh, 0, [], [], [], []⟩ → Q (.ref p.a) H') : tMake C (sp_mkDesk K C) [] E (tCons te tNil) σ H Q :=
  v_int h H (Ex.refl _) _ fun H1 e1 x dx hx hdx ne => by
    have P0 : PrM (fun _ => False) A H A (upd (upd H1 dx (.own x)) x (.ins C dx [])) := ((((PrM.refl s).up e1).new (o := .own x) hdx)).new (by rw [upd_ne (Ne.symm ne)]; exact hx)
    have hxH : H x = none := fresh_back e1 hx
    refine ⟨A, x, dx, hh, rfl, P0.s, upd_same, fresh_back s hxH, fun p H' pa PM foot D => ⟨rfl, ?_⟩⟩
    rw [← pa]
    refine k p H' (P0.then PM fun y hy => .inr (by rw [hy]; exact hxH)) (fun y hy => ?_) D
    rcases foot y hy with z | z
    · rw [z]; exact hxH
    · exact P0.fresh z
end
theorem un_ifcall1 {te : TE} {tw tz : TS} {Dd : Ends} {σ : L2.St} {H : Hp} : tIfS (tNot (tB te)) tw tz Dd σ H = te σ H fun x H1 => ∃ b, x = .bl b ∧ if (!b) = true then tw Dd σ H1 else tz Dd σ H1 := rfl
theorem q_orNot (K : PySem.W.Frag) {t : TT} {te : TE} {tw tz t2 : TS} {Dd : Ends} {σ : L2.St} {H : Hp} (h : EvB K t σ H false) (k : ∀ B', Ex H B' → te σ B' fun x H1 => ∃ b, x = .bl b ∧ if (!b) = true then tw (go Dd t2) σ H1 else tz (go Dd t2) σ H1) : tSeq (tIfS (tOr t (tNot (tB te))) tw tz) t2 Dd σ H :=
  h H (Ex.refl _) _ fun B' e => k B' e
theorem c_call2 {sp : Sp} {ta tb : TE} {E : XK} {σ : L2.St} {H : Hp} {Q : VK} (h : ta σ H fun x H1 => tb σ H1 fun y H2 => sp [x, y] H2 Q E) : tCall sp [] E (tCons ta (tCons tb tNil)) σ H Q := h
section
variable {P : Program} {w : World} {K : PySem.W.Frag} {mg : Str → Option Value} {base : Heap} {c : Cs}
def sp_law (K : PySem.W.Frag) : Sp := fun vs H Q _ => ∃ (a : Addr) (ns : List Int), vs = [.ref a] ∧ SqL K H a (ns.map V.int) ∧ ns.length ≤ 63 ∧ ∀ H', Q (.bl true) H'
theorem ok_law {f : Addr} {fd : FuncData} (T : Tx K mg c) (F : Fun K "law" "law" s_law f fd) : FnOk P w K mg base CX0 7 f fd ["_law_script"] (sp_law K) := by
  refine F.ok sc_law (fun vs H Q E h => ?_) fun cdv A outer s H vs Q E hr h => ?_
  · obtain ⟨a, ns, rfl, _⟩ := h; rfl
  obtain ⟨a, ns, rfl, hS, hlen, k⟩ := h
  have s0 : Ex H H := Ex.refl H
  have h1 : Dp K H (.ref a) (.list (ns.map .int)) := .lst hS dpa_ints
  have nd := sc_law.nd
  have G_law_cell_at := ok_cell (P := P) (w := w) (base := base) T
  have MK_Desk := ok_Desk_init (P := P) (w := w) (base := base) T
  have G_law_desk := ok_ldesk (P := P) (w := w) (base := base) T
  have G_law_told := ok_told (P := P) (w := w) (base := base) T
  have G_law_due := ok_due (P := P) (w := w) (base := base) T
  have G_law_alike := ok_alike (P := P) (w := w) (base := base) T
  have G_law_stands := ok_stands (P := P) (w := w) (base := base) T
  have G_law_drawn := ok_drawn (P := P) (w := w) (base := base) T
  refine ⟨_, (pss_cons (ps_set (i := 1) nd rfl (Or.inl rfl) (pe_op op_mod (pe_cd G_law_cell_at (hr.mono (by decide)) rfl pass0 (pa_cons (pv 0) (pa_cons pe_int pa_nil))) pe_int))
      (pss_cons (ps_set (i := 2) nd rfl (Or.inl rfl) (pe_mk rfl T.g_Desk MK_Desk (hr.mono (by decide)) passN (pa_cons (pv 1) pa_nil)))
      (pss_cons (ps_set (i := 3) nd rfl (Or.inl rfl) (pe_cd G_law_desk (hr.mono (by decide)) rfl pass0 (pa_cons (pv 1) pa_nil)))
      (pss_cons (ps_for PassesOwn.never rfl (pi_range1 rfl T.mn_range (pa_cons (pe_ix (ixL (K := K) rfl) (pe_lst (pa_cons pe_int (pa_cons pe_int pa_nil))) (pe_callTy call_int1 rfl T.mn_int (by decide +kernel) (pa_cons (pe_cmpR op_eq (pe_op op_mod (pe_op op_fdiv (pe_cd G_law_cell_at (hr.mono (by decide)) rfl pass0 (pa_cons (pv 0) (pa_cons pe_int pa_nil))) pe_int) pe_int) pe_int (nomark _)) pa_nil)) (fun _ _ => rfl)) pa_nil)) (pg_name (i := 4) nd rfl (Or.inl rfl)) (pss_one (ps_if (pt_not (pt_val (pe_cd G_law_alike (hr.mono (by decide)) rfl pass0 (pa_cons (pe_cd G_law_told (hr.mono (by decide)) rfl pass0 (pa_cons (pv 2) (pa_cons (pv 4) (pa_cons pe_non pa_nil)))) (pa_cons (pe_cd G_law_due (hr.mono (by decide)) rfl pass0 (pa_cons (pv 3) (pa_cons (pv 4) (pa_cons pe_non pa_nil)))) pa_nil))))) (pss_one (ps_ret pe_bl)) pss_nil)))
      (pss_cons (ps_for PassesOwn.never rfl (pi_range3 rfl T.mn_range (pa_cons pe_int (pa_cons (pe_op op_sub (pe_callB (c_len (K := K) rfl) rfl T.mn_len (by decide +kernel) (pa_cons (pv 0) pa_nil)) pe_int) (pa_cons pe_int pa_nil)))) (pg_name (i := 4) nd rfl (Or.inl rfl)) (pss_cons (ps_set (i := 5) nd rfl (Or.inl rfl) (pe_op op_mod (pe_ix (ixL (K := K) rfl) (pv 0) (pe_op op_add (pv 4) pe_int) (fun _ _ => rfl)) (pe_op op_add (pe_callB (c_len (K := K) rfl) rfl T.mn_len (by decide +kernel) (pa_cons (pe_dget (hu_of hr) (pv 3) pe_str (fun _ _ => rfl)) pa_nil)) pe_int)))
        (pss_cons (ps_set (i := 6) nd rfl (Or.inl rfl) pe_non)
        (pss_cons (ps_if (pt_cmpR op_eq (pe_op op_mod (pe_ix (ixL (K := K) rfl) (pv 0) (pv 4) (fun _ _ => rfl)) pe_int) pe_int (nomark _)) (pss_one (ps_set (i := 5) nd rfl (Or.inl rfl) (pe_ix (ixL (K := K) rfl) (pe_lst (pa_cons (pe_callB (c_len (K := K) rfl) rfl T.mn_len (by decide +kernel) (pa_cons (pe_dget (hu_of hr) (pv 3) pe_str (fun _ _ => rfl)) pa_nil)) (pa_cons (pv 5) pa_nil))) (pe_op op_fdiv (pe_op op_mod (pe_op op_fdiv (pe_ix (ixL (K := K) rfl) (pv 0) (pv 4) (fun _ _ => rfl)) pe_int) pe_int) pe_int) (fun _ _ => rfl)))) (pss_one (ps_set (i := 6) nd rfl (Or.inl rfl) (pe_cd G_law_drawn (hr.mono (by decide)) rfl pass0 (pa_cons (pv 3) (pa_cons (pv 5) (pa_cons (pe_op op_fdiv (pe_ix (ixL (K := K) rfl) (pv 0) (pv 4) (fun _ _ => rfl)) pe_int) (pa_cons (pe_ix (ixL (K := K) rfl) (pv 0) (pe_op op_add (pv 4) pe_int) (fun _ _ => rfl)) pa_nil))))))))
        (pss_cons (ps_set (i := 7) nd rfl (Or.inl rfl) (pe_cd G_law_told (hr.mono (by decide)) rfl pass0 (pa_cons (pv 2) (pa_cons (pv 5) (pa_cons (pv 6) pa_nil)))))
        (pss_cons (ps_if (PW.pt (pw_or (pt_cmpR (o_neD (K := K) rfl hr.units) (pe_dget2 (hu_of hr) (pv 3) pe_str (pe_lst pa_nil) ⟨rfl, rfl, rfl, rfl⟩) (pe_lst pa_nil) (nomark _)) (pw_or1 (pt_not (pt_val (pe_cd G_law_alike (hr.mono (by decide)) rfl pass0 (pa_cons (pv 7) (pa_cons (pe_cd G_law_due (hr.mono (by decide)) rfl pass0 (pa_cons (pv 3) (pa_cons (pv 5) (pa_cons (pv 6) pa_nil)))) pa_nil)))))))) (pss_one (ps_ret pe_bl)) pss_nil)
        (pss_cons (ps_if (pt_val (pe_callB (c_isi (K := K) rfl) rfl T.mn_isinstance (by decide +kernel) (pa_cons (pv 7) (pa_cons (pe_ty (T := "list") rfl T.mn_list (by decide +kernel)) pa_nil)))) (pss_one (ps_dput (hu_of hr) (pv 3) pe_str (pv 7) rfl)) pss_nil)
        (pss_one (ps_if (pt_not (pt_val (pe_cd G_law_stands (hr.mono (by decide)) rfl pass0 (pa_cons (pv 2) (pa_cons (pv 3) pa_nil))))) (pss_one (ps_ret pe_bl)) pss_nil)))))))))
      (pss_one (ps_ret (pe_cd G_law_stands (hr.mono (by decide)) rfl pass0 (pa_cons (pv 2) (pa_cons (pv 3) pa_nil)))))))))), ?_⟩
  try dsimp only [cx_K]
  refine q_asgD K s0 (by tm_at "ed") fun vh A1 B1 P1 hvh => ?_
  generalize cell ns 0 % 40 = x0 at hvh
  cases hvh
  have eb1 : Ex H B1 := P1.b
  refine q_do (mk_desk (hh := x0) P1.s (ed_var rfl (.int x0)) fun p B2 P2 f2 D2 => go_nx ?_)
  refine q_do (c_callV (ea_cons (ev_var rfl) ea_nil) fun B3 e3 => ?_)
  refine ⟨A1, x0, rfl, P2.s.trans e3, fun q H4 P4 f4 L4 => go_nx ?_⟩
  have eb4 : Ex B1 H4 := fun x u e => P4.b x u (fun z => z) (e3 _ _ (P2.b x u (fun z => z) e))
  have D4 := (D2.up P2.s e3).mono P4 fun _ _ z => z
  have O4 : Both K c.Desk A1 H4 p q [] ⟨x0, 0, [], [], [], []⟩ := ⟨D4, L4, Good.new x0, fun x hx hq => (D2.up P2.s e3).alive x hx (f4 x hq), fun e he => absurd he (by simp), fun e he => absurd he (by simp), fun e he => absurd he (by simp)⟩
  have s4 := P4.s
  clear P2 P4 D2 D4 L4
  -- the letters ahead
  let J : Nat → L2.St → Hp → Prop := fun i σ B => ∃ A q' ex st w4, σ = [some (.ref a), some (.int x0), some (.ref p.a), some (.ref q'.a), w4, none, none, none] ∧ Ex A1 A ∧ Ex A B ∧ Both K c.Desk A B p q' ex st ∧ st.size ≤ 2 * i ∧ ex.length ≤ 3 * i
  have hscr : ∀ A B, Ex A1 A → Ex A B → Dp K B (.ref a) (.list (ns.map .int)) := fun A B e1 e2 => dp_ex e2 (dp_ex e1 (dp_ex P1.a h1))
  have h14 : Dp K H4 (.ref a) (.list (ns.map .int)) := dp_ex (eb1.trans eb4) h1
  have hn40 : ∀ b : Bool, atI [PyData.int 0, .int 40] (if b then 1 else 0 : Int) = some (.int (if b then 40 else 0)) := fun b => by cases b <;> rfl
  refine q_do (s_forRM K (n := if (cell ns 0 / 40 % 3 == 0) then 40 else 0) (ed_ixL (ed_n (en_lst (ea_consD ed_int (ea_consD ed_int ea_nilD)) (by decide))) (ed_int1b (by tm_at "ed")) (hn40 _)) (by split <;> decide) J (fun B' e => ⟨A1, q, [], ⟨x0, 0, [], [], [], []⟩, none, rfl, Ex.refl _, s4.trans e, O4.pr (Pr.up s4 e), by show 0 ≤ 0; decide, by show 0 ≤ 0; decide⟩) ?_ ?_)
  · rintro i σ B hi ⟨A5, q5, ex, st, w4, rfl, ea, es, O, hsz, hex⟩
    have hi : i < 40 := by
      have : (if (cell ns 0 / 40 % 3 == 0) then 40 else 0 : Int) ≤ 40 := by split <;> decide
      omega
    rw [un_ifcall1]
    refine c_call2 ?_
    refine c_callV (ea_cons (ev_var rfl) (ea_cons (ev_var rfl) (ea_cons ev_c ea_nil))) fun B6 e6 => told_mid (o := none) (es.trans e6) (O.pr (Pr.up es e6)) rfl (by omega) fun v A7 B7 a7 s7 M => ?_
    refine c_callV (ea_cons (ev_var rfl) (ea_cons (ev_var rfl) (ea_cons ev_c ea_nil))) fun B8 e8 => due_alike (s7.trans e8) (M.up s7 e8) rfl (by omega) (by omega) fun A9 B9 q9 a9 s9 hqa O9 _ _ => ⟨true, rfl, iteF ?_⟩
    have := DS.told_size st (i : Int) none
    exact ⟨A9, q9, ex, _, _, by rw [hqa]; rfl, (ea.trans a7).trans a9, s9, O9, by omega, by omega⟩
  rintro σ B ⟨A5, q5, ex5, st5, w4, rfl, ea5, es5, O5, hsz5, hex5⟩
  have hsz5 : st5.size ≤ 80 := by
    refine Nat.le_trans hsz5 ?_
    split <;> decide
  have hex5 : ex5.length ≤ 120 := by
    refine Nat.le_trans hex5 ?_
    split <;> decide
  refine go_nx ?_
  let J2 : Nat → L2.St → Hp → Prop := fun i σ B => ∃ A q' ex st w4 w5 w6 w7, σ = [some (.ref a), some (.int x0), some (.ref p.a), some (.ref q'.a), w4, w5, w6, w7] ∧ Ex A1 A ∧ Ex A B ∧ Both K c.Desk A B p q' ex st ∧ st.size ≤ 80 + 2 * i ∧ ex.length ≤ 120 + 3 * i
  have h15 : Dp K B (.ref a) (.list (ns.map .int)) := hscr _ _ ea5 es5
  refine q_do (s_forR3x K (A := B) (lo := 1) (hi := ((ns.map PyData.int).length : Int) - 2) (c := 3) (Ex.refl _) (ea_consD ed_int (ea_consD (ed_Ii (ed_len (ed_var rfl h15)) ed_int) (ea_consD ed_int ea_nilD))) (by decide) (by rw [List.length_map]; omega) J2 (fun A6 B6 P6 => ⟨A5, q5, ex5, st5, _, none, none, none, rfl, ea5, es5.trans P6.b, O5.pr (Pr.up es5 P6.b), by omega, by omega⟩) ?_ ?_)
  · rintro i σ B6 hi ⟨A6, q6, ex, st, w4, w5, w6, w7, rfl, ea, es, O, hsz, hex⟩
    rw [List.length_map] at hi
    have hi63 : i ≤ 20 := by omega
    generalize hkk : (1 + (i : Nat) * 3 : Int) = kk at hi ⊢
    have hk0 : 0 ≤ kk := by omega
    have hk1 : kk + 2 < ns.length := by omega
    have c0 := cell_at (ns := ns) (k := kk) hk0 (by omega)
    have c1 := cell_at (ns := ns) (k := kk + 1) (by omega) (by omega)
    have c2 := cell_at (ns := ns) (k := kk + 2) (by omega) (by omega)
    have h6 : ∀ B, Ex B6 B → Dp K B (.ref a) (.list (ns.map .int)) := fun B e => dp_ex e (hscr _ _ ea es)
    have dmet : ∀ B, Ex B6 B → EvD K (tDGet (tVar 3) (tC (.str "met"))) _ B (.list (st.known.map .int)) := fun B e => ed_v (ev_ld (O.L.up es e) (ev_var (σ := [some (.ref a), some (.int x0), some (.ref p.a), some (.ref q6.a), some (.int kk), w5, w6, w7]) rfl) (v := .ref q6.l) rfl) (Dp.lst (sq_of (e _ _ O.L.il)) dpa_ints)
    have g6 := h6 B6 (Ex.refl _)
    refine q_asgV (v_int (K := K) (ed_Ic (ed_ixL (ed_var rfl g6) (ed_Ii (ed_var rfl (.int kk)) ed_int) c1) (ed_Ii (ed_len (dmet B6 (Ex.refl _))) ed_int) (by show (0 : Int) < _ + 1; omega))) fun B7 e7 => ?_
    generalize cell ns (kk + 1) % (((st.known.map PyData.int).length : Int) + 1) = l0
    refine q_asgV ev_c fun B8 e8 => ?_
    have e68 := e7.trans e8
    have g8 := h6 B8 e68
    let J3 : L2.St → Hp → Prop := fun σ B => ∃ l' vm o A', σ = [some (.ref a), some (.int x0), some (.ref p.a), some (.ref q6.a), some (.int kk), some (.int l'), some vm, w7] ∧ Ex A6 A' ∧ Ex A' B ∧ Both K c.Desk A' B p q6 ex st ∧ MarkV K A' vm o
    refine q_ifJ K J3 (b := (cell ns kk % 3 == 0)) (eb_D (by tm_at "ed")) rfl ?_ (fun r hb B9 e9 => ?_) (fun r hb B9 e9 => ?_)
    case refine_2 =>
      have g9 := h6 B9 (e68.trans e9)
      have j1 : cell ns kk / 3 % 4 / 3 = 0 ∨ cell ns kk / 3 % 4 / 3 = 1 := by omega
      have i1 : atI [PyData.int ((st.known.map PyData.int).length : Int), .int l0] (cell ns kk / 3 % 4 / 3) = some (.int (if cell ns kk / 3 % 4 / 3 = 0 then ((st.known.map PyData.int).length : Int) else l0)) := by
        rw [at_ix2 j1]
        split <;> rfl
      have dm : EvD K (tDGet (tVar 3) (tC (.str "met"))) [some (.ref a), some (.int x0), some (.ref p.a), some (.ref q6.a), some (.int kk), some (.int l0), some .non, w7] B9 (.list (st.known.map .int)) := ed_v (ev_ld (O.L.up es (e68.trans e9)) (ev_var rfl) (v := .ref q6.l) rfl) (Dp.lst (sq_of ((e68.trans e9) _ _ O.L.il)) dpa_ints)
      refine s_asgV (v_int (K := K) (ed_ixL (ed_n (en_lst (ea_consD (ed_len dm) (ea_consD (ed_var rfl (.int l0)) ea_nilD)) (by show 2 ≤ 100000; decide))) (by tm_at "ed") i1)) fun B10 e10 => ?_
      exact r _ _ ⟨_, .non, none, A6, rfl, Ex.refl _, es.trans (e68.trans (e9.trans e10)), O.pr (Pr.up es (e68.trans (e9.trans e10))), rfl⟩
    case refine_3 =>
      have g9 := h6 B9 (e68.trans e9)
      refine c_callV (ea_cons (ev_var rfl) (ea_cons (ev_var rfl) (ea_cons (v_int (K := K) (i := cell ns kk / 3) (by tm_at "ed")) (ea_cons (v_int (K := K) (ed_ixL (ed_var rfl g9) (ed_Ii (ed_var rfl (.int kk)) ed_int) c2)) ea_nil)))) fun B10 e10 => ?_
      have e610 := e68.trans (e9.trans e10)
      have O10 := O.pr (Pr.up es e610)
      exact ⟨A6, q6, ex, st, l0, _, _, rfl, es.trans e610, O10.L, O.g, fun m v A' H' P hv => r _ _ ⟨l0, v, some m, A', rfl, P.a, P.s, O10.pr P, hv⟩⟩
    rintro σ11 B11 ⟨l, vm, o, A11, rfl, ea11, es11, O11, hm11⟩
    refine q_do (c_callV (ea_cons (ev_var rfl) (ea_cons (ev_var rfl) (ea_cons (ev_var rfl) ea_nil))) fun B12 e12 => told_mid (o := o) (es11.trans e12) (O11.pr (Pr.up es11 e12)) hm11 (by omega) fun v A13 B13 a13 s13 M => go_nx ?_)
    have hm13 : MarkV K A13 vm o := by
      cases o with
      | none => exact hm11
      | some m => exact dp_ex a13 hm11
    refine q_orNot K (eb_is (eb_D (ed_neD (ed_getE M.L M.ix (ev_var rfl) (.inr (.inr rfl))) (ed_n (en_lst ea_nilD (by decide))) rfl rfl)) rfl) fun B14 e14 => ?_
    refine c_call2 ⟨_, rfl, ?_⟩
    refine c_callV (ea_cons (ev_var rfl) (ea_cons (ev_var rfl) (ea_cons (ev_var rfl) ea_nil))) fun B15 e15 => due_alike (s13.trans (e14.trans e15)) (M.up s13 (e14.trans e15)) hm13 (by omega) (by omega) fun A16 B16 q16 a16 s16 hqa O16 hcl ov => ⟨true, rfl, iteF (q_next ?_)⟩
    have hsz2 := DS.told_size st l o
    generalize hst2 : (st.told l o).1 = st2 at O16 hsz2
    have eaA : Ex A1 A16 := (ea.trans ea11).trans (a13.trans a16)
    let J4 : L2.St → Hp → Prop := fun σ B => ∃ ex' A', σ = [some (.ref a), some (.int x0), some (.ref p.a), some (.ref q16.a), some (.int kk), some (.int l), some vm, some v] ∧ Ex A16 A' ∧ Ex A' B ∧ Both K c.Desk A' B p q16 ex' st2 ∧ ex'.length ≤ ex.length + 1
    have stay : ∀ B17, Ex B16 B17 → J4 [some (.ref a), some (.int x0), some (.ref p.a), some (.ref q6.a), some (.int kk), some (.int l), some vm, some v] B17 := fun B17 e17 => ⟨ex, A16, by rw [hqa], Ex.refl _, s16.trans e17, O16.pr (Pr.up s16 e17), by omega⟩
    have last : ∀ σ B, J4 σ B → ∀ Dd : Ends, Dd.nx = J2 (i + 1) → tIfS (tNot (tB (tCall (sp_stands K c.Desk) [] E0 (tCons (tVar 2) (tCons (tVar 3) tNil))))) (tRet (tC (.bl false))) tNext Dd σ B := by
      rintro σ B ⟨ex', A17, rfl, a17, s17, O17, hex'⟩ Dd hDd
      rw [un_ifcall1]
      refine c_callV (ea_cons (ev_var rfl) (ea_cons (ev_var rfl) ea_nil)) fun B18 e18 => ⟨A17, p, q16, ex', st2, rfl, s17.trans e18, O17.pr (Pr.up s17 e18), by omega, by omega, fun ex2 A' H' P O' hl2 => ⟨true, rfl, iteF ?_⟩⟩
      show Dd.nx _ _
      rw [hDd]
      exact ⟨A', q16, ex2, st2, _, _, _, _, rfl, (eaA.trans a17).trans P.a, P.s, O', by omega, by omega⟩
    cases hout : (st.told l o).2 with
    | mk m =>
      rw [hout] at ov
      have hv16 : Dp K B16 v (mkD m) := dp_ex s16 (dp_ex (Ex.refl _) ov)
      refine q_ifJ K J4 (b := false) (eb_DB (ed_isi (ed_var rfl hv16) ki_tl)) rfl (fun σ B h => last σ B h _ rfl) (fun r hb => by cases hb) (fun r hb B17 e17 => r _ _ (stay B17 e17))
    | str x =>
      rw [hout] at ov
      cases ov
      refine q_ifJ K J4 (b := false) (eb_DB (ed_isi (ed_var rfl (.str x)) ki_sl)) rfl (fun σ B h => last σ B h _ rfl) (fun r hb => by cases hb) (fun r hb B17 e17 => r _ _ (stay B17 e17))
    | lst l' =>
      rw [hout] at ov
      obtain ⟨x, rfl, _⟩ := ov
      obtain ⟨hx1, hx2, hx3⟩ := hcl x l' rfl hout
      have hv16 : Dp K B16 (.ref x) (.list []) := .lst (xs := []) (sq_of hx1) .nil
      refine q_ifJ K J4 (b := true) (eb_DB (ed_isi (ed_var rfl hv16) ki_ll)) rfl (fun σ B h => last σ B h _ rfl) (fun r hb B17 e17 => ?_) (fun r hb => by cases hb)
      have O17 := O16.pr (Pr.up s16 e17)
      have s17 := s16.trans e17
      rw [← hqa]
      refine s_dputS (K := K) (v := .ref x) (ev_var rfl) (ev_var rfl) ed_str O17.L.ia (by unfold ldK; simp only [List.length_cons, List.length_map]; omega) fun B18 e18 => ?_
      rw [ld_put (.inr (.inr rfl))]
      have PP := ((PrM.refl (F := fun y => y = q16.a) s17).up e18).put (l := q16.a) (o := .dK (ldK q16 st2 (exP ex "given" x))) (.inl rfl) (O17.L.na _ LP.in_a)
      have hxne : x ≠ q16.a := fun z => hx3 (z ▸ LP.in_a)
      refine r _ _ ⟨exP ex "given" x, A16, rfl, Ex.refl _, PP.s, ⟨O17.D.mono PP fun y hy z => O17.dj y hy (z ▸ LP.in_a), (O17.L.up s17 e18).exput (exP_key (.inr (.inr rfl)) O17.L.kx), O17.g, O17.dj, fun e he => ?_, fun e he => ?_, fun e he => ?_⟩, exP_len _ _ _⟩
      · rcases exP_mem he with z | z
        · exact PP.b _ _ (fun y => O17.xq e z (y ▸ LP.in_a)) (O17.ix e z)
        · rw [z]
          exact PP.b _ _ hxne (e17 _ _ hx1)
      · rcases exP_mem he with z | z
        · exact O17.xp e z
        · rw [z]; exact hx2
      · rcases exP_mem he with z | z
        · exact O17.xq e z
        · rw [z]; exact hx3
  · rintro σ B6 ⟨A6, q6, ex, st, w4, w5, w6, w7, rfl, ea, es, O, hsz, hex⟩
    have hr : rgN 1 (((ns.map PyData.int).length : Int) - 2) 3 ≤ 21 := by
      rw [List.length_map]
      unfold rgN
      split <;> omega
    refine go_nx ?_
    refine c_callV (ea_cons (ev_var rfl) (ea_cons (ev_var rfl) ea_nil)) fun B7 e7 => ⟨A6, p, q6, ex, st, rfl, es.trans e7, O.pr (Pr.up es e7), by omega, by omega, fun ex' A' H' _ _ _ => k H'⟩
end

end K3

namespace K3
open PySem L2 Evl Ob
theorem all_mk {l : PySem.W.OpenLaw} {w : World} {K : PySem.W.Frag} {h : Heap} {mg : Str → Option Value} {fa : Addr} (X : K.In h) (G : h.Ns mainGlobals mg) (hfa : mg "law" = some (.ref fa))
    {f0 : Addr} {od0 an0 : Option Addr} {sl0 : Array (Option Value)} {oc0 kV0 dc0 pm0 cd0 ct0 : Value}
    {f1 : Addr} {od1 an1 : Option Addr} {sl1 : Array (Option Value)} {oc1 kV1 dc1 pm1 cd1 ct1 : Value}
    {f2 : Addr} {od2 an2 : Option Addr} {sl2 : Array (Option Value)} {oc2 kV2 dc2 pm2 cd2 ct2 : Value}
    {f3 : Addr} {od3 an3 : Option Addr} {sl3 : Array (Option Value)} {oc3 kV3 dc3 pm3 cd3 ct3 : Value}
    {f4 : Addr} {od4 an4 : Option Addr} {sl4 : Array (Option Value)} {oc4 kV4 dc4 pm4 cd4 ct4 : Value}
    {f5 : Addr} {od5 an5 : Option Addr} {sl5 : Array (Option Value)} {oc5 kV5 dc5 pm5 cd5 ct5 : Value}
    {f6 : Addr} {od6 an6 : Option Addr} {sl6 : Array (Option Value)} {oc6 kV6 dc6 pm6 cd6 ct6 : Value}
    {f7 : Addr} {od7 an7 : Option Addr} {sl7 : Array (Option Value)} {oc7 kV7 dc7 pm7 cd7 ct7 : Value}
    {f8 : Addr} {od8 an8 : Option Addr} {sl8 : Array (Option Value)} {oc8 kV8 dc8 pm8 cd8 ct8 : Value}
    {f9 : Addr} {od9 an9 : Option Addr} {sl9 : Array (Option Value)} {oc9 kV9 dc9 pm9 cd9 ct9 : Value}
    {f10 : Addr} {od10 an10 : Option Addr} {sl10 : Array (Option Value)} {oc10 kV10 dc10 pm10 cd10 ct10 : Value}
    {f11 : Addr} {od11 an11 : Option Addr} {sl11 : Array (Option Value)} {oc11 kV11 dc11 pm11 cd11 ct11 : Value}
    {f12 : Addr} {od12 an12 : Option Addr} {sl12 : Array (Option Value)} {oc12 kV12 dc12 pm12 cd12 ct12 : Value}
    {f13 : Addr} {od13 an13 : Option Addr} {sl13 : Array (Option Value)} {oc13 kV13 dc13 pm13 cd13 ct13 : Value}
    {f14 : Addr} {od14 an14 : Option Addr} {sl14 : Array (Option Value)} {oc14 kV14 dc14 pm14 cd14 ct14 : Value}
    {f15 : Addr} {od15 an15 : Option Addr} {sl15 : Array (Option Value)} {oc15 kV15 dc15 pm15 cd15 ct15 : Value}
    {C_BellError : Addr}
    {C_BadCount : Addr}
    {C_NoHand : Addr}
    {C_NoLetter : Addr}
    {C_NoMail : Addr}
    {C_Twice : Addr}
    {C_NotOpen : Addr}
    {C_BadMark : Addr}
    {C_NoNote : Addr}
    {C_Desk : Addr}
    {f_Desk___init__ : Addr} {od_Desk___init__ an_Desk___init__ : Option Addr} {sl_Desk___init__ : Array (Option Value)} {oc_Desk___init__ kV_Desk___init__ dc_Desk___init__ pm_Desk___init__ cd_Desk___init__ ct_Desk___init__ : Value}
    {f_Desk_clock : Addr} {od_Desk_clock an_Desk_clock : Option Addr} {sl_Desk_clock : Array (Option Value)} {oc_Desk_clock kV_Desk_clock dc_Desk_clock pm_Desk_clock cd_Desk_clock ct_Desk_clock : Value}
    {f_Desk_propose : Addr} {od_Desk_propose an_Desk_propose : Option Addr} {sl_Desk_propose : Array (Option Value)} {oc_Desk_propose kV_Desk_propose dc_Desk_propose pm_Desk_propose cd_Desk_propose ct_Desk_propose : Value}
    {f_Desk_settle : Addr} {od_Desk_settle an_Desk_settle : Option Addr} {sl_Desk_settle : Array (Option Value)} {oc_Desk_settle kV_Desk_settle dc_Desk_settle pm_Desk_settle cd_Desk_settle ct_Desk_settle : Value}
    {f_Desk_first : Addr} {od_Desk_first an_Desk_first : Option Addr} {sl_Desk_first : Array (Option Value)} {oc_Desk_first kV_Desk_first dc_Desk_first pm_Desk_first cd_Desk_first ct_Desk_first : Value}
    {f_Desk_hand_over : Addr} {od_Desk_hand_over an_Desk_hand_over : Option Addr} {sl_Desk_hand_over : Array (Option Value)} {oc_Desk_hand_over kV_Desk_hand_over dc_Desk_hand_over pm_Desk_hand_over cd_Desk_hand_over ct_Desk_hand_over : Value}
    {f_Desk_waiting : Addr} {od_Desk_waiting an_Desk_waiting : Option Addr} {sl_Desk_waiting : Array (Option Value)} {oc_Desk_waiting kV_Desk_waiting dc_Desk_waiting pm_Desk_waiting cd_Desk_waiting ct_Desk_waiting : Value}
    {f_Desk_handed : Addr} {od_Desk_handed an_Desk_handed : Option Addr} {sl_Desk_handed : Array (Option Value)} {oc_Desk_handed kV_Desk_handed dc_Desk_handed pm_Desk_handed cd_Desk_handed ct_Desk_handed : Value}
    (a0 : PySem.W.nsIn K mainGlobals "less" = some (some (.ref f0))) (l0 : K.lookup f0 = some ⟨oc0, od0, .func (PySem.W.fnOf "less" "less" (defArgs s_less) (defBody s_less) (defScope s_less) .none kV0 dc0 pm0 an0 cd0 ct0), sl0⟩) (c0 : PySem.W.codeIn K cd0 "less" = true) (k0 : PySem.W.keepIn K (.ref f0) = true)
    (a1 : PySem.W.nsIn K mainGlobals "_law_whole" = some (some (.ref f1))) (l1 : K.lookup f1 = some ⟨oc1, od1, .func (PySem.W.fnOf "_law_whole" "_law_whole" (defArgs s_law_whole) (defBody s_law_whole) (defScope s_law_whole) .none kV1 dc1 pm1 an1 cd1 ct1), sl1⟩) (c1 : PySem.W.codeIn K cd1 "_law_whole" = true) (k1 : PySem.W.keepIn K (.ref f1) = true)
    (a2 : PySem.W.nsIn K mainGlobals "_law_cell_at" = some (some (.ref f2))) (l2 : K.lookup f2 = some ⟨oc2, od2, .func (PySem.W.fnOf "_law_cell_at" "_law_cell_at" (defArgs s_law_cell_at) (defBody s_law_cell_at) (defScope s_law_cell_at) .none kV2 dc2 pm2 an2 cd2 ct2), sl2⟩) (c2 : PySem.W.codeIn K cd2 "_law_cell_at" = true) (k2 : PySem.W.keepIn K (.ref f2) = true)
    (a3 : PySem.W.nsIn K mainGlobals "_law_mark" = some (some (.ref f3))) (l3 : K.lookup f3 = some ⟨oc3, od3, .func (PySem.W.fnOf "_law_mark" "_law_mark" (defArgs s_law_mark) (defBody s_law_mark) (defScope s_law_mark) .none kV3 dc3 pm3 an3 cd3 ct3), sl3⟩) (c3 : PySem.W.codeIn K cd3 "_law_mark" = true) (k3 : PySem.W.keepIn K (.ref f3) = true)
    (a4 : PySem.W.nsIn K mainGlobals "_law_desk" = some (some (.ref f4))) (l4 : K.lookup f4 = some ⟨oc4, od4, .func (PySem.W.fnOf "_law_desk" "_law_desk" (defArgs s_law_desk) (defBody s_law_desk) (defScope s_law_desk) .none kV4 dc4 pm4 an4 cd4 ct4), sl4⟩) (c4 : PySem.W.codeIn K cd4 "_law_desk" = true) (k4 : PySem.W.keepIn K (.ref f4) = true)
    (a5 : PySem.W.nsIn K mainGlobals "_law_first" = some (some (.ref f5))) (l5 : K.lookup f5 = some ⟨oc5, od5, .func (PySem.W.fnOf "_law_first" "_law_first" (defArgs s_law_first) (defBody s_law_first) (defScope s_law_first) .none kV5 dc5 pm5 an5 cd5 ct5), sl5⟩) (c5 : PySem.W.codeIn K cd5 "_law_first" = true) (k5 : PySem.W.keepIn K (.ref f5) = true)
    (a6 : PySem.W.nsIn K mainGlobals "_law_proposed" = some (some (.ref f6))) (l6 : K.lookup f6 = some ⟨oc6, od6, .func (PySem.W.fnOf "_law_proposed" "_law_proposed" (defArgs s_law_proposed) (defBody s_law_proposed) (defScope s_law_proposed) .none kV6 dc6 pm6 an6 cd6 ct6), sl6⟩) (c6 : PySem.W.codeIn K cd6 "_law_proposed" = true) (k6 : PySem.W.keepIn K (.ref f6) = true)
    (a7 : PySem.W.nsIn K mainGlobals "_law_settled" = some (some (.ref f7))) (l7 : K.lookup f7 = some ⟨oc7, od7, .func (PySem.W.fnOf "_law_settled" "_law_settled" (defArgs s_law_settled) (defBody s_law_settled) (defScope s_law_settled) .none kV7 dc7 pm7 an7 cd7 ct7), sl7⟩) (c7 : PySem.W.codeIn K cd7 "_law_settled" = true) (k7 : PySem.W.keepIn K (.ref f7) = true)
    (a8 : PySem.W.nsIn K mainGlobals "_law_only" = some (some (.ref f8))) (l8 : K.lookup f8 = some ⟨oc8, od8, .func (PySem.W.fnOf "_law_only" "_law_only" (defArgs s_law_only) (defBody s_law_only) (defScope s_law_only) .none kV8 dc8 pm8 an8 cd8 ct8), sl8⟩) (c8 : PySem.W.codeIn K cd8 "_law_only" = true) (k8 : PySem.W.keepIn K (.ref f8) = true)
    (a9 : PySem.W.nsIn K mainGlobals "_law_word" = some (some (.ref f9))) (l9 : K.lookup f9 = some ⟨oc9, od9, .func (PySem.W.fnOf "_law_word" "_law_word" (defArgs s_law_word) (defBody s_law_word) (defScope s_law_word) .none kV9 dc9 pm9 an9 cd9 ct9), sl9⟩) (c9 : PySem.W.codeIn K cd9 "_law_word" = true) (k9 : PySem.W.keepIn K (.ref f9) = true)
    (a10 : PySem.W.nsIn K mainGlobals "_law_told" = some (some (.ref f10))) (l10 : K.lookup f10 = some ⟨oc10, od10, .func (PySem.W.fnOf "_law_told" "_law_told" (defArgs s_law_told) (defBody s_law_told) (defScope s_law_told) .none kV10 dc10 pm10 an10 cd10 ct10), sl10⟩) (c10 : PySem.W.codeIn K cd10 "_law_told" = true) (k10 : PySem.W.keepIn K (.ref f10) = true)
    (a11 : PySem.W.nsIn K mainGlobals "_law_due" = some (some (.ref f11))) (l11 : K.lookup f11 = some ⟨oc11, od11, .func (PySem.W.fnOf "_law_due" "_law_due" (defArgs s_law_due) (defBody s_law_due) (defScope s_law_due) .none kV11 dc11 pm11 an11 cd11 ct11), sl11⟩) (c11 : PySem.W.codeIn K cd11 "_law_due" = true) (k11 : PySem.W.keepIn K (.ref f11) = true)
    (a12 : PySem.W.nsIn K mainGlobals "_law_alike" = some (some (.ref f12))) (l12 : K.lookup f12 = some ⟨oc12, od12, .func (PySem.W.fnOf "_law_alike" "_law_alike" (defArgs s_law_alike) (defBody s_law_alike) (defScope s_law_alike) .none kV12 dc12 pm12 an12 cd12 ct12), sl12⟩) (c12 : PySem.W.codeIn K cd12 "_law_alike" = true) (k12 : PySem.W.keepIn K (.ref f12) = true)
    (a13 : PySem.W.nsIn K mainGlobals "_law_stands" = some (some (.ref f13))) (l13 : K.lookup f13 = some ⟨oc13, od13, .func (PySem.W.fnOf "_law_stands" "_law_stands" (defArgs s_law_stands) (defBody s_law_stands) (defScope s_law_stands) .none kV13 dc13 pm13 an13 cd13 ct13), sl13⟩) (c13 : PySem.W.codeIn K cd13 "_law_stands" = true) (k13 : PySem.W.keepIn K (.ref f13) = true)
    (a14 : PySem.W.nsIn K mainGlobals "_law_drawn" = some (some (.ref f14))) (l14 : K.lookup f14 = some ⟨oc14, od14, .func (PySem.W.fnOf "_law_drawn" "_law_drawn" (defArgs s_law_drawn) (defBody s_law_drawn) (defScope s_law_drawn) .none kV14 dc14 pm14 an14 cd14 ct14), sl14⟩) (c14 : PySem.W.codeIn K cd14 "_law_drawn" = true) (k14 : PySem.W.keepIn K (.ref f14) = true)
    (a15 : PySem.W.nsIn K mainGlobals "law" = some (some (.ref f15))) (l15 : K.lookup f15 = some ⟨oc15, od15, .func (PySem.W.fnOf "law" "law" (defArgs s_law) (defBody s_law) (defScope s_law) .none kV15 dc15 pm15 an15 cd15 ct15), sl15⟩) (c15 : PySem.W.codeIn K cd15 "law" = true) (k15 : PySem.W.keepIn K (.ref f15) = true)
    (g_BellError : PySem.W.nsIn K mainGlobals "BellError" = some (some (.ref C_BellError))) (e_BellError : PySem.W.keepIn K (.ref C_BellError) = true)
    (x_BellError : PySem.W.excIn K C_BellError [.type "ValueError", .type "Exception", .type "BaseException", .type "object"] "ValueError.__new__" = true) (s_BellError : PySem.W.subIn K (.ref C_BellError) (.type "BaseException") = some true) (t_BellError : PySem.W.typeIn K (.ref C_BellError) = some (.type "type"))
    (g_BadCount : PySem.W.nsIn K mainGlobals "BadCount" = some (some (.ref C_BadCount))) (e_BadCount : PySem.W.keepIn K (.ref C_BadCount) = true)
    (x_BadCount : PySem.W.excIn K C_BadCount [.type "ValueError", .type "Exception", .type "BaseException", .type "object"] "ValueError.__new__" = true) (s_BadCount : PySem.W.subIn K (.ref C_BadCount) (.type "BaseException") = some true) (t_BadCount : PySem.W.typeIn K (.ref C_BadCount) = some (.type "type"))
    (g_NoHand : PySem.W.nsIn K mainGlobals "NoHand" = some (some (.ref C_NoHand))) (e_NoHand : PySem.W.keepIn K (.ref C_NoHand) = true)
    (x_NoHand : PySem.W.excIn K C_NoHand [.type "ValueError", .type "Exception", .type "BaseException", .type "object"] "ValueError.__new__" = true) (s_NoHand : PySem.W.subIn K (.ref C_NoHand) (.type "BaseException") = some true) (t_NoHand : PySem.W.typeIn K (.ref C_NoHand) = some (.type "type"))
    (g_NoLetter : PySem.W.nsIn K mainGlobals "NoLetter" = some (some (.ref C_NoLetter))) (e_NoLetter : PySem.W.keepIn K (.ref C_NoLetter) = true)
    (x_NoLetter : PySem.W.excIn K C_NoLetter [.type "ValueError", .type "Exception", .type "BaseException", .type "object"] "ValueError.__new__" = true) (s_NoLetter : PySem.W.subIn K (.ref C_NoLetter) (.type "BaseException") = some true) (t_NoLetter : PySem.W.typeIn K (.ref C_NoLetter) = some (.type "type"))
    (g_NoMail : PySem.W.nsIn K mainGlobals "NoMail" = some (some (.ref C_NoMail))) (e_NoMail : PySem.W.keepIn K (.ref C_NoMail) = true)
    (x_NoMail : PySem.W.excIn K C_NoMail [.type "ValueError", .type "Exception", .type "BaseException", .type "object"] "ValueError.__new__" = true) (s_NoMail : PySem.W.subIn K (.ref C_NoMail) (.type "BaseException") = some true) (t_NoMail : PySem.W.typeIn K (.ref C_NoMail) = some (.type "type"))
    (g_Twice : PySem.W.nsIn K mainGlobals "Twice" = some (some (.ref C_Twice))) (e_Twice : PySem.W.keepIn K (.ref C_Twice) = true)
    (x_Twice : PySem.W.excIn K C_Twice [.type "ValueError", .type "Exception", .type "BaseException", .type "object"] "ValueError.__new__" = true) (s_Twice : PySem.W.subIn K (.ref C_Twice) (.type "BaseException") = some true) (t_Twice : PySem.W.typeIn K (.ref C_Twice) = some (.type "type"))
    (g_NotOpen : PySem.W.nsIn K mainGlobals "NotOpen" = some (some (.ref C_NotOpen))) (e_NotOpen : PySem.W.keepIn K (.ref C_NotOpen) = true)
    (x_NotOpen : PySem.W.excIn K C_NotOpen [.type "ValueError", .type "Exception", .type "BaseException", .type "object"] "ValueError.__new__" = true) (s_NotOpen : PySem.W.subIn K (.ref C_NotOpen) (.type "BaseException") = some true) (t_NotOpen : PySem.W.typeIn K (.ref C_NotOpen) = some (.type "type"))
    (g_BadMark : PySem.W.nsIn K mainGlobals "BadMark" = some (some (.ref C_BadMark))) (e_BadMark : PySem.W.keepIn K (.ref C_BadMark) = true)
    (x_BadMark : PySem.W.excIn K C_BadMark [.type "ValueError", .type "Exception", .type "BaseException", .type "object"] "ValueError.__new__" = true) (s_BadMark : PySem.W.subIn K (.ref C_BadMark) (.type "BaseException") = some true) (t_BadMark : PySem.W.typeIn K (.ref C_BadMark) = some (.type "type"))
    (g_NoNote : PySem.W.nsIn K mainGlobals "NoNote" = some (some (.ref C_NoNote))) (e_NoNote : PySem.W.keepIn K (.ref C_NoNote) = true)
    (x_NoNote : PySem.W.excIn K C_NoNote [.type "ValueError", .type "Exception", .type "BaseException", .type "object"] "ValueError.__new__" = true) (s_NoNote : PySem.W.subIn K (.ref C_NoNote) (.type "BaseException") = some true) (t_NoNote : PySem.W.typeIn K (.ref C_NoNote) = some (.type "type"))
    (g_Desk : PySem.W.nsIn K mainGlobals "Desk" = some (some (.ref C_Desk))) (e_Desk : PySem.W.keepIn K (.ref C_Desk) = true)
    (pg_Desk : PySem.W.plainGet K C_Desk Str.empty = true)
    (hd_Desk : PySem.W.hasDictIn K C_Desk = true)
    (po_Desk : PySem.W.plainOver K C_Desk = true)
    (sa_Desk : PySem.W.findIn K (.ref C_Desk) "__setattr__" = some (some (.builtin "object.__setattr__")))
    (a_Desk___init__ : PySem.W.findIn K (.ref C_Desk) "__init__" = some (some (.ref f_Desk___init__)))
    (l_Desk___init__ : K.lookup f_Desk___init__ = some ⟨oc_Desk___init__, od_Desk___init__, .func (PySem.W.fnOf "__init__" "Desk.__init__" (defArgs s_Desk___init__) (defBody s_Desk___init__) (defScope s_Desk___init__) .none kV_Desk___init__ dc_Desk___init__ pm_Desk___init__ an_Desk___init__ cd_Desk___init__ ct_Desk___init__), sl_Desk___init__⟩)
    (c_Desk___init__ : PySem.W.codeIn K cd_Desk___init__ "Desk.__init__" = true)
    (k_Desk___init__ : PySem.W.keepIn K (.ref f_Desk___init__) = true)
    (fn_Desk___init__ : PySem.W.isFn K (.ref f_Desk___init__) = true)
    (a_Desk_clock : PySem.W.findIn K (.ref C_Desk) "clock" = some (some (.ref f_Desk_clock)))
    (l_Desk_clock : K.lookup f_Desk_clock = some ⟨oc_Desk_clock, od_Desk_clock, .func (PySem.W.fnOf "clock" "Desk.clock" (defArgs s_Desk_clock) (defBody s_Desk_clock) (defScope s_Desk_clock) .none kV_Desk_clock dc_Desk_clock pm_Desk_clock an_Desk_clock cd_Desk_clock ct_Desk_clock), sl_Desk_clock⟩)
    (c_Desk_clock : PySem.W.codeIn K cd_Desk_clock "Desk.clock" = true)
    (k_Desk_clock : PySem.W.keepIn K (.ref f_Desk_clock) = true)
    (fn_Desk_clock : PySem.W.isFn K (.ref f_Desk_clock) = true)
    (a_Desk_propose : PySem.W.findIn K (.ref C_Desk) "propose" = some (some (.ref f_Desk_propose)))
    (l_Desk_propose : K.lookup f_Desk_propose = some ⟨oc_Desk_propose, od_Desk_propose, .func (PySem.W.fnOf "propose" "Desk.propose" (defArgs s_Desk_propose) (defBody s_Desk_propose) (defScope s_Desk_propose) .none kV_Desk_propose dc_Desk_propose pm_Desk_propose an_Desk_propose cd_Desk_propose ct_Desk_propose), sl_Desk_propose⟩)
    (c_Desk_propose : PySem.W.codeIn K cd_Desk_propose "Desk.propose" = true)
    (k_Desk_propose : PySem.W.keepIn K (.ref f_Desk_propose) = true)
    (fn_Desk_propose : PySem.W.isFn K (.ref f_Desk_propose) = true)
    (a_Desk_settle : PySem.W.findIn K (.ref C_Desk) "settle" = some (some (.ref f_Desk_settle)))
    (l_Desk_settle : K.lookup f_Desk_settle = some ⟨oc_Desk_settle, od_Desk_settle, .func (PySem.W.fnOf "settle" "Desk.settle" (defArgs s_Desk_settle) (defBody s_Desk_settle) (defScope s_Desk_settle) .none kV_Desk_settle dc_Desk_settle pm_Desk_settle an_Desk_settle cd_Desk_settle ct_Desk_settle), sl_Desk_settle⟩)
    (c_Desk_settle : PySem.W.codeIn K cd_Desk_settle "Desk.settle" = true)
    (k_Desk_settle : PySem.W.keepIn K (.ref f_Desk_settle) = true)
    (fn_Desk_settle : PySem.W.isFn K (.ref f_Desk_settle) = true)
    (a_Desk_first : PySem.W.findIn K (.ref C_Desk) "first" = some (some (.ref f_Desk_first)))
    (l_Desk_first : K.lookup f_Desk_first = some ⟨oc_Desk_first, od_Desk_first, .func (PySem.W.fnOf "first" "Desk.first" (defArgs s_Desk_first) (defBody s_Desk_first) (defScope s_Desk_first) .none kV_Desk_first dc_Desk_first pm_Desk_first an_Desk_first cd_Desk_first ct_Desk_first), sl_Desk_first⟩)
    (c_Desk_first : PySem.W.codeIn K cd_Desk_first "Desk.first" = true)
    (k_Desk_first : PySem.W.keepIn K (.ref f_Desk_first) = true)
    (fn_Desk_first : PySem.W.isFn K (.ref f_Desk_first) = true)
    (a_Desk_hand_over : PySem.W.findIn K (.ref C_Desk) "hand_over" = some (some (.ref f_Desk_hand_over)))
    (l_Desk_hand_over : K.lookup f_Desk_hand_over = some ⟨oc_Desk_hand_over, od_Desk_hand_over, .func (PySem.W.fnOf "hand_over" "Desk.hand_over" (defArgs s_Desk_hand_over) (defBody s_Desk_hand_over) (defScope s_Desk_hand_over) .none kV_Desk_hand_over dc_Desk_hand_over pm_Desk_hand_over an_Desk_hand_over cd_Desk_hand_over ct_Desk_hand_over), sl_Desk_hand_over⟩)
    (c_Desk_hand_over : PySem.W.codeIn K cd_Desk_hand_over "Desk.hand_over" = true)
    (k_Desk_hand_over : PySem.W.keepIn K (.ref f_Desk_hand_over) = true)
    (fn_Desk_hand_over : PySem.W.isFn K (.ref f_Desk_hand_over) = true)
    (a_Desk_waiting : PySem.W.findIn K (.ref C_Desk) "waiting" = some (some (.ref f_Desk_waiting)))
    (l_Desk_waiting : K.lookup f_Desk_waiting = some ⟨oc_Desk_waiting, od_Desk_waiting, .func (PySem.W.fnOf "waiting" "Desk.waiting" (defArgs s_Desk_waiting) (defBody s_Desk_waiting) (defScope s_Desk_waiting) .none kV_Desk_waiting dc_Desk_waiting pm_Desk_waiting an_Desk_waiting cd_Desk_waiting ct_Desk_waiting), sl_Desk_waiting⟩)
    (c_Desk_waiting : PySem.W.codeIn K cd_Desk_waiting "Desk.waiting" = true)
    (k_Desk_waiting : PySem.W.keepIn K (.ref f_Desk_waiting) = true)
    (fn_Desk_waiting : PySem.W.isFn K (.ref f_Desk_waiting) = true)
    (a_Desk_handed : PySem.W.findIn K (.ref C_Desk) "handed" = some (some (.ref f_Desk_handed)))
    (l_Desk_handed : K.lookup f_Desk_handed = some ⟨oc_Desk_handed, od_Desk_handed, .func (PySem.W.fnOf "handed" "Desk.handed" (defArgs s_Desk_handed) (defBody s_Desk_handed) (defScope s_Desk_handed) .none kV_Desk_handed dc_Desk_handed pm_Desk_handed an_Desk_handed cd_Desk_handed ct_Desk_handed), sl_Desk_handed⟩)
    (c_Desk_handed : PySem.W.codeIn K cd_Desk_handed "Desk.handed" = true)
    (k_Desk_handed : PySem.W.keepIn K (.ref f_Desk_handed) = true)
    (fn_Desk_handed : PySem.W.isFn K (.ref f_Desk_handed) = true)
    (mk_Desk : PySem.W.makesIn K C_Desk = true)
    (na_Desk_hand : PySem.W.findIn K (.ref C_Desk) "hand" = some none)
    (na_Desk_time : PySem.W.findIn K (.ref C_Desk) "time" = some none)
    (na_Desk_known : PySem.W.findIn K (.ref C_Desk) "known" = some none)
    (na_Desk_marked : PySem.W.findIn K (.ref C_Desk) "marked" = some none)
    (na_Desk_done : PySem.W.findIn K (.ref C_Desk) "done" = some none)
    (na_Desk_row : PySem.W.findIn K (.ref C_Desk) "row" = some none)
    (i_hn : PySem.W.specialIn K (.builtin "object.__class__") "__get__" = some (some (.builtin "getset_descriptor.__get__")))
    (i_ht : PySem.W.takesIn K (.builtin "object.__class__") = some true)
    (hd_BellError : PySem.W.hasDictIn K C_BellError = true)
    (hd_BadCount : PySem.W.hasDictIn K C_BadCount = true)
    (hd_NoHand : PySem.W.hasDictIn K C_NoHand = true)
    (hd_NoLetter : PySem.W.hasDictIn K C_NoLetter = true)
    (hd_NoMail : PySem.W.hasDictIn K C_NoMail = true)
    (hd_Twice : PySem.W.hasDictIn K C_Twice = true)
    (hd_NotOpen : PySem.W.hasDictIn K C_NotOpen = true)
    (hd_BadMark : PySem.W.hasDictIn K C_BadMark = true)
    (hd_NoNote : PySem.W.hasDictIn K C_NoNote = true)
    (i_Twice_hg : PySem.W.findIn K (.ref C_Twice) "__getattribute__" = some (some (.builtin "BaseException.__getattribute__")))
    (i_Twice_hk : PySem.W.findIn K (.ref C_Twice) "__getattr__" = some none)
    (i_Twice_ha : PySem.W.findIn K (.ref C_Twice) "__class__" = some (some (.builtin "object.__class__")))
    (i_Twice_hm : PySem.W.mroIn K C_Twice (.type "object") = some true)
    (i_Twice_v : PySem.W.subIn K (.ref C_Twice) (.type "ValueError") = some true)
    (i_Twice_b : PySem.W.subIn K (.ref C_Twice) (.ref C_BellError) = some true)
    (i_Twice_BadCount : PySem.W.subIn K (.ref C_Twice) (.ref C_BadCount) = some false)
    (n_Twice_BadCount : (C_Twice == C_BadCount) = false)
    (i_Twice_NoHand : PySem.W.subIn K (.ref C_Twice) (.ref C_NoHand) = some false)
    (n_Twice_NoHand : (C_Twice == C_NoHand) = false)
    (i_Twice_NoLetter : PySem.W.subIn K (.ref C_Twice) (.ref C_NoLetter) = some false)
    (n_Twice_NoLetter : (C_Twice == C_NoLetter) = false)
    (i_Twice_NoMail : PySem.W.subIn K (.ref C_Twice) (.ref C_NoMail) = some false)
    (n_Twice_NoMail : (C_Twice == C_NoMail) = false)
    (i_Twice_NotOpen : PySem.W.subIn K (.ref C_Twice) (.ref C_NotOpen) = some false)
    (n_Twice_NotOpen : (C_Twice == C_NotOpen) = false)
    (i_Twice_BadMark : PySem.W.subIn K (.ref C_Twice) (.ref C_BadMark) = some false)
    (n_Twice_BadMark : (C_Twice == C_BadMark) = false)
    (i_Twice_NoNote : PySem.W.subIn K (.ref C_Twice) (.ref C_NoNote) = some false)
    (n_Twice_NoNote : (C_Twice == C_NoNote) = false)
    (i_NotOpen_hg : PySem.W.findIn K (.ref C_NotOpen) "__getattribute__" = some (some (.builtin "BaseException.__getattribute__")))
    (i_NotOpen_hk : PySem.W.findIn K (.ref C_NotOpen) "__getattr__" = some none)
    (i_NotOpen_ha : PySem.W.findIn K (.ref C_NotOpen) "__class__" = some (some (.builtin "object.__class__")))
    (i_NotOpen_hm : PySem.W.mroIn K C_NotOpen (.type "object") = some true)
    (i_NotOpen_v : PySem.W.subIn K (.ref C_NotOpen) (.type "ValueError") = some true)
    (i_NotOpen_b : PySem.W.subIn K (.ref C_NotOpen) (.ref C_BellError) = some true)
    (i_NotOpen_BadCount : PySem.W.subIn K (.ref C_NotOpen) (.ref C_BadCount) = some false)
    (n_NotOpen_BadCount : (C_NotOpen == C_BadCount) = false)
    (i_NotOpen_NoHand : PySem.W.subIn K (.ref C_NotOpen) (.ref C_NoHand) = some false)
    (n_NotOpen_NoHand : (C_NotOpen == C_NoHand) = false)
    (i_NotOpen_NoLetter : PySem.W.subIn K (.ref C_NotOpen) (.ref C_NoLetter) = some false)
    (n_NotOpen_NoLetter : (C_NotOpen == C_NoLetter) = false)
    (i_NotOpen_NoMail : PySem.W.subIn K (.ref C_NotOpen) (.ref C_NoMail) = some false)
    (n_NotOpen_NoMail : (C_NotOpen == C_NoMail) = false)
    (i_NotOpen_Twice : PySem.W.subIn K (.ref C_NotOpen) (.ref C_Twice) = some false)
    (n_NotOpen_Twice : (C_NotOpen == C_Twice) = false)
    (i_NotOpen_BadMark : PySem.W.subIn K (.ref C_NotOpen) (.ref C_BadMark) = some false)
    (n_NotOpen_BadMark : (C_NotOpen == C_BadMark) = false)
    (i_NotOpen_NoNote : PySem.W.subIn K (.ref C_NotOpen) (.ref C_NoNote) = some false)
    (n_NotOpen_NoNote : (C_NotOpen == C_NoNote) = false)
    (i_BadMark_hg : PySem.W.findIn K (.ref C_BadMark) "__getattribute__" = some (some (.builtin "BaseException.__getattribute__")))
    (i_BadMark_hk : PySem.W.findIn K (.ref C_BadMark) "__getattr__" = some none)
    (i_BadMark_ha : PySem.W.findIn K (.ref C_BadMark) "__class__" = some (some (.builtin "object.__class__")))
    (i_BadMark_hm : PySem.W.mroIn K C_BadMark (.type "object") = some true)
    (i_BadMark_v : PySem.W.subIn K (.ref C_BadMark) (.type "ValueError") = some true)
    (i_BadMark_b : PySem.W.subIn K (.ref C_BadMark) (.ref C_BellError) = some true)
    (i_BadMark_BadCount : PySem.W.subIn K (.ref C_BadMark) (.ref C_BadCount) = some false)
    (n_BadMark_BadCount : (C_BadMark == C_BadCount) = false)
    (i_BadMark_NoHand : PySem.W.subIn K (.ref C_BadMark) (.ref C_NoHand) = some false)
    (n_BadMark_NoHand : (C_BadMark == C_NoHand) = false)
    (i_BadMark_NoLetter : PySem.W.subIn K (.ref C_BadMark) (.ref C_NoLetter) = some false)
    (n_BadMark_NoLetter : (C_BadMark == C_NoLetter) = false)
    (i_BadMark_NoMail : PySem.W.subIn K (.ref C_BadMark) (.ref C_NoMail) = some false)
    (n_BadMark_NoMail : (C_BadMark == C_NoMail) = false)
    (i_BadMark_Twice : PySem.W.subIn K (.ref C_BadMark) (.ref C_Twice) = some false)
    (n_BadMark_Twice : (C_BadMark == C_Twice) = false)
    (i_BadMark_NotOpen : PySem.W.subIn K (.ref C_BadMark) (.ref C_NotOpen) = some false)
    (n_BadMark_NotOpen : (C_BadMark == C_NotOpen) = false)
    (i_BadMark_NoNote : PySem.W.subIn K (.ref C_BadMark) (.ref C_NoNote) = some false)
    (n_BadMark_NoNote : (C_BadMark == C_NoNote) = false)
    (z_max : PySem.W.nsIn K mainGlobals "max" = some none)
    (z_list : PySem.W.nsIn K mainGlobals "list" = some none)
    (z_isinstance : PySem.W.nsIn K mainGlobals "isinstance" = some none)
    (z_int : PySem.W.nsIn K mainGlobals "int" = some none)
    (z_bool : PySem.W.nsIn K mainGlobals "bool" = some none)
    (z_len : PySem.W.nsIn K mainGlobals "len" = some none)
    (z_tuple : PySem.W.nsIn K mainGlobals "tuple" = some none)
    (z_ValueError : PySem.W.nsIn K mainGlobals "ValueError" = some none)
    (z_all : PySem.W.nsIn K mainGlobals "all" = some none)
    (z_dict : PySem.W.nsIn K mainGlobals "dict" = some none)
    (z_zip : PySem.W.nsIn K mainGlobals "zip" = some none)
    (z_range : PySem.W.nsIn K mainGlobals "range" = some none) :
    ∃ fd : FuncData, (∀ (s : Shared) (v : Value), BindsTo s fd ⟨[v], []⟩ [("_law_script", v)]) ∧ ∀ base : Heap, K.In base → base.Ns mainGlobals mg → FnOk l.prog w K mg base CX0 7 fa fd ["_law_script"] (sp_law K) := by
  have e := hfa.symm.trans (PySem.W.mg_of X G a15)
  cases e
  have F0 := fun_mk (st := s_less) l0 c0 k0
  have b0 := F0.binds (ps := ["one", "other"]) fun _ _ _ _ _ _ us hl => match us, hl with | [_, _], _ => rfl
  have F1 := fun_mk (st := s_law_whole) l1 c1 k1
  have b1 := F1.binds (ps := ["_law_found"]) fun _ _ _ _ _ _ us hl => match us, hl with | [_], _ => rfl
  have F2 := fun_mk (st := s_law_cell_at) l2 c2 k2
  have b2 := F2.binds (ps := ["_law_script", "_law_k"]) fun _ _ _ _ _ _ us hl => match us, hl with | [_, _], _ => rfl
  have F3 := fun_mk (st := s_law_mark) l3 c3 k3
  have b3 := F3.binds (ps := ["_law_found"]) fun _ _ _ _ _ _ us hl => match us, hl with | [_], _ => rfl
  have F4 := fun_mk (st := s_law_desk) l4 c4 k4
  have b4 := F4.binds (ps := ["_law_hand"]) fun _ _ _ _ _ _ us hl => match us, hl with | [_], _ => rfl
  have F5 := fun_mk (st := s_law_first) l5 c5 k5
  have b5 := F5.binds (ps := ["_law_d"]) fun _ _ _ _ _ _ us hl => match us, hl with | [_], _ => rfl
  have F6 := fun_mk (st := s_law_proposed) l6 c6 k6
  have b6 := F6.binds (ps := ["_law_d", "_law_letter"]) fun _ _ _ _ _ _ us hl => match us, hl with | [_, _], _ => rfl
  have F7 := fun_mk (st := s_law_settled) l7 c7 k7
  have b7 := F7.binds (ps := ["_law_d", "_law_letter", "_law_mark_here"]) fun _ _ _ _ _ _ us hl => match us, hl with | [_, _, _], _ => rfl
  have F8 := fun_mk (st := s_law_only) l8 c8 k8
  have b8 := F8.binds (ps := ["_law_error", "_law_word_here"]) fun _ _ _ _ _ _ us hl => match us, hl with | [_, _], _ => rfl
  have F9 := fun_mk (st := s_law_word) l9 c9 k9
  have b9 := F9.binds (ps := ["_law_error"]) fun _ _ _ _ _ _ us hl => match us, hl with | [_], _ => rfl
  have F10 := fun_mk (st := s_law_told) l10 c10 k10
  have b10 := F10.binds (ps := ["_law_desk_here", "_law_letter", "_law_mark_here"]) fun _ _ _ _ _ _ us hl => match us, hl with | [_, _, _], _ => rfl
  have F11 := fun_mk (st := s_law_due) l11 c11 k11
  have b11 := F11.binds (ps := ["_law_d", "_law_letter", "_law_mark_here"]) fun _ _ _ _ _ _ us hl => match us, hl with | [_, _, _], _ => rfl
  have F12 := fun_mk (st := s_law_alike) l12 c12 k12
  have b12 := F12.binds (ps := ["_law_found", "_law_due_here"]) fun _ _ _ _ _ _ us hl => match us, hl with | [_, _], _ => rfl
  have F13 := fun_mk (st := s_law_stands) l13 c13 k13
  have b13 := F13.binds (ps := ["_law_desk_here", "_law_d"]) fun _ _ _ _ _ _ us hl => match us, hl with | [_, _], _ => rfl
  have F14 := fun_mk (st := s_law_drawn) l14 c14 k14
  have b14 := F14.binds (ps := ["_law_d", "_law_letter", "_law_cell", "_law_more"]) fun _ _ _ _ _ _ us hl => match us, hl with | [_, _, _, _], _ => rfl
  have F15 := fun_mk (st := s_law) l15 c15 k15
  have F_Desk___init__ := fun_mk (st := s_Desk___init__) l_Desk___init__ c_Desk___init__ k_Desk___init__
  have b_Desk___init__ := F_Desk___init__.binds (ps := ["self", "hand"]) fun _ _ _ _ _ _ us hl => match us, hl with | [_, _], _ => rfl
  have F_Desk_clock := fun_mk (st := s_Desk_clock) l_Desk_clock c_Desk_clock k_Desk_clock
  have b_Desk_clock := F_Desk_clock.binds (ps := ["self"]) fun _ _ _ _ _ _ us hl => match us, hl with | [_], _ => rfl
  have F_Desk_propose := fun_mk (st := s_Desk_propose) l_Desk_propose c_Desk_propose k_Desk_propose
  have b_Desk_propose := F_Desk_propose.binds (ps := ["self", "letter"]) fun _ _ _ _ _ _ us hl => match us, hl with | [_, _], _ => rfl
  have F_Desk_settle := fun_mk (st := s_Desk_settle) l_Desk_settle c_Desk_settle k_Desk_settle
  have b_Desk_settle := F_Desk_settle.binds (ps := ["self", "letter", "mark"]) fun _ _ _ _ _ _ us hl => match us, hl with | [_, _, _], _ => rfl
  have F_Desk_first := fun_mk (st := s_Desk_first) l_Desk_first c_Desk_first k_Desk_first
  have b_Desk_first := F_Desk_first.binds (ps := ["self"]) fun _ _ _ _ _ _ us hl => match us, hl with | [_], _ => rfl
  have F_Desk_hand_over := fun_mk (st := s_Desk_hand_over) l_Desk_hand_over c_Desk_hand_over k_Desk_hand_over
  have b_Desk_hand_over := F_Desk_hand_over.binds (ps := ["self"]) fun _ _ _ _ _ _ us hl => match us, hl with | [_], _ => rfl
  have F_Desk_waiting := fun_mk (st := s_Desk_waiting) l_Desk_waiting c_Desk_waiting k_Desk_waiting
  have b_Desk_waiting := F_Desk_waiting.binds (ps := ["self"]) fun _ _ _ _ _ _ us hl => match us, hl with | [_], _ => rfl
  have F_Desk_handed := fun_mk (st := s_Desk_handed) l_Desk_handed c_Desk_handed k_Desk_handed
  have b_Desk_handed := F_Desk_handed.binds (ps := ["self"]) fun _ _ _ _ _ _ us hl => match us, hl with | [_], _ => rfl
  have T : Tx K mg ⟨C_BellError, C_BadCount, C_NoHand, C_NoLetter, C_NoMail, C_Twice, C_NotOpen, C_BadMark, C_NoNote, C_Desk⟩ := ⟨⟨PySem.W.mg_of X G g_BellError, e_BellError, x_BellError, s_BellError, t_BellError⟩, ⟨PySem.W.mg_of X G g_BadCount, e_BadCount, x_BadCount, s_BadCount, t_BadCount⟩, ⟨PySem.W.mg_of X G g_NoHand, e_NoHand, x_NoHand, s_NoHand, t_NoHand⟩, ⟨PySem.W.mg_of X G g_NoLetter, e_NoLetter, x_NoLetter, s_NoLetter, t_NoLetter⟩, ⟨PySem.W.mg_of X G g_NoMail, e_NoMail, x_NoMail, s_NoMail, t_NoMail⟩, ⟨PySem.W.mg_of X G g_Twice, e_Twice, x_Twice, s_Twice, t_Twice⟩, ⟨PySem.W.mg_of X G g_NotOpen, e_NotOpen, x_NotOpen, s_NotOpen, t_NotOpen⟩, ⟨PySem.W.mg_of X G g_BadMark, e_BadMark, x_BadMark, s_BadMark, t_BadMark⟩, ⟨PySem.W.mg_of X G g_NoNote, e_NoNote, x_NoNote, s_NoNote, t_NoNote⟩, ⟨⟨i_Twice_hg, i_Twice_hk, s_Twice, hd_Twice, i_Twice_ha, i_hn, i_ht, i_Twice_hm⟩, kitV i_Twice_v, PySem.W.exm_ref s_BellError hd_BellError t_BellError i_Twice_b, kitF hd_BadCount t_BadCount i_Twice_BadCount (kitN n_Twice_BadCount), kitF hd_NoHand t_NoHand i_Twice_NoHand (kitN n_Twice_NoHand), kitF hd_NoLetter t_NoLetter i_Twice_NoLetter (kitN n_Twice_NoLetter), kitF hd_NoMail t_NoMail i_Twice_NoMail (kitN n_Twice_NoMail), kitR, kitF hd_NotOpen t_NotOpen i_Twice_NotOpen (kitN n_Twice_NotOpen), kitF hd_BadMark t_BadMark i_Twice_BadMark (kitN n_Twice_BadMark), kitF hd_NoNote t_NoNote i_Twice_NoNote (kitN n_Twice_NoNote)⟩, ⟨⟨i_NotOpen_hg, i_NotOpen_hk, s_NotOpen, hd_NotOpen, i_NotOpen_ha, i_hn, i_ht, i_NotOpen_hm⟩, kitV i_NotOpen_v, PySem.W.exm_ref s_BellError hd_BellError t_BellError i_NotOpen_b, kitF hd_BadCount t_BadCount i_NotOpen_BadCount (kitN n_NotOpen_BadCount), kitF hd_NoHand t_NoHand i_NotOpen_NoHand (kitN n_NotOpen_NoHand), kitF hd_NoLetter t_NoLetter i_NotOpen_NoLetter (kitN n_NotOpen_NoLetter), kitF hd_NoMail t_NoMail i_NotOpen_NoMail (kitN n_NotOpen_NoMail), kitF hd_Twice t_Twice i_NotOpen_Twice (kitN n_NotOpen_Twice), kitR, kitF hd_BadMark t_BadMark i_NotOpen_BadMark (kitN n_NotOpen_BadMark), kitF hd_NoNote t_NoNote i_NotOpen_NoNote (kitN n_NotOpen_NoNote)⟩, ⟨⟨i_BadMark_hg, i_BadMark_hk, s_BadMark, hd_BadMark, i_BadMark_ha, i_hn, i_ht, i_BadMark_hm⟩, kitV i_BadMark_v, PySem.W.exm_ref s_BellError hd_BellError t_BellError i_BadMark_b, kitF hd_BadCount t_BadCount i_BadMark_BadCount (kitN n_BadMark_BadCount), kitF hd_NoHand t_NoHand i_BadMark_NoHand (kitN n_BadMark_NoHand), kitF hd_NoLetter t_NoLetter i_BadMark_NoLetter (kitN n_BadMark_NoLetter), kitF hd_NoMail t_NoMail i_BadMark_NoMail (kitN n_BadMark_NoMail), kitF hd_Twice t_Twice i_BadMark_Twice (kitN n_BadMark_Twice), kitF hd_NotOpen t_NotOpen i_BadMark_NotOpen (kitN n_BadMark_NotOpen), kitR, kitF hd_NoNote t_NoNote i_BadMark_NoNote (kitN n_BadMark_NoNote)⟩, ⟨_, _, F0, PySem.W.mg_of X G a0, b0⟩, ⟨_, _, F1, PySem.W.mg_of X G a1, b1⟩, ⟨_, _, F2, PySem.W.mg_of X G a2, b2⟩, ⟨_, _, F3, PySem.W.mg_of X G a3, b3⟩, ⟨_, _, F4, PySem.W.mg_of X G a4, b4⟩, ⟨_, _, F5, PySem.W.mg_of X G a5, b5⟩, ⟨_, _, F6, PySem.W.mg_of X G a6, b6⟩, ⟨_, _, F7, PySem.W.mg_of X G a7, b7⟩, ⟨_, _, F8, PySem.W.mg_of X G a8, b8⟩, ⟨_, _, F9, PySem.W.mg_of X G a9, b9⟩, ⟨_, _, F10, PySem.W.mg_of X G a10, b10⟩, ⟨_, _, F11, PySem.W.mg_of X G a11, b11⟩, ⟨_, _, F12, PySem.W.mg_of X G a12, b12⟩, ⟨_, _, F13, PySem.W.mg_of X G a13, b13⟩, ⟨_, _, F14, PySem.W.mg_of X G a14, b14⟩, PySem.W.mg_of X G g_Desk, ⟨pg_Desk, hd_Desk, po_Desk, sa_Desk⟩, ⟨_, _, ⟨mk_Desk, a_Desk___init__, fn_Desk___init__, e_Desk⟩, F_Desk___init__, b_Desk___init__⟩, ⟨_, _, F_Desk_clock, ⟨a_Desk_clock, fn_Desk_clock, k_Desk_clock⟩, b_Desk_clock⟩, ⟨_, _, F_Desk_propose, ⟨a_Desk_propose, fn_Desk_propose, k_Desk_propose⟩, b_Desk_propose⟩, ⟨_, _, F_Desk_settle, ⟨a_Desk_settle, fn_Desk_settle, k_Desk_settle⟩, b_Desk_settle⟩, ⟨_, _, F_Desk_first, ⟨a_Desk_first, fn_Desk_first, k_Desk_first⟩, b_Desk_first⟩, ⟨_, _, F_Desk_hand_over, ⟨a_Desk_hand_over, fn_Desk_hand_over, k_Desk_hand_over⟩, b_Desk_hand_over⟩, ⟨_, _, F_Desk_waiting, ⟨a_Desk_waiting, fn_Desk_waiting, k_Desk_waiting⟩, b_Desk_waiting⟩, ⟨_, _, F_Desk_handed, ⟨a_Desk_handed, fn_Desk_handed, k_Desk_handed⟩, b_Desk_handed⟩, na_Desk_hand, na_Desk_time, na_Desk_known, na_Desk_marked, na_Desk_done, na_Desk_row, PySem.W.mg_none_of X G z_max, PySem.W.mg_none_of X G z_list, PySem.W.mg_none_of X G z_isinstance, PySem.W.mg_none_of X G z_int, PySem.W.mg_none_of X G z_bool, PySem.W.mg_none_of X G z_len, PySem.W.mg_none_of X G z_tuple, PySem.W.mg_none_of X G z_ValueError, PySem.W.mg_none_of X G z_all, PySem.W.mg_none_of X G z_dict, PySem.W.mg_none_of X G z_zip, PySem.W.mg_none_of X G z_range⟩
  exact ⟨PySem.W.fnOf "law" "law" (defArgs s_law) (defBody s_law) (defScope s_law) .none kV15 dc15 pm15 an15 cd15 ct15, fun s v => .of_eq rfl, fun base _ _ => ok_law T F15⟩
theorem walk {l : PySem.W.OpenLaw} {q : Program} {loose : List Str} {XP : (Str → Option Value) → Heap → Prop} {YP : World → Heap → Prop} {d : DefRec} {K : Params → PySem.W.Frag} (hn : l.most = some 63) (hdf : d.params.defaults = [])
    (hY : ∀ (w : World) (h : Heap), YP w h → (K w.params).In h)
    (F : ∀ (w : World) (mg : Str → Option Value) (fa : Addr) (h : Heap), (K w.params).In h → h.Ns mainGlobals mg → mg d.name = some (.ref fa) →
      ∃ fd : FuncData, (∀ (s : Shared) (u : Value), BindsTo s fd ⟨[u], []⟩ [("_law_script", u)]) ∧ ∀ base : Heap, (K w.params).In base → base.Ns mainGlobals mg → FnOk l.prog w (K w.params) mg base CX0 7 fa fd ["_law_script"] (sp_law (K w.params))) :
    PySem.W.WalkO q loose XP YP l.row.toRowW d [] (fun f vs => PySem.call f vs) :=
  L2.walk_of (n := 63) (k := 7) (x := "_law_script") (CX := fun _ => CX0) (sp := fun w => sp_law (K w.params)) hn (by decide) hdf ⟨rfl, by decide, by decide⟩ hY F (fun _ _ a ns hl _ hS => ⟨a, ns, rfl, hS, hl, fun _ => rfl⟩) fun _ _ _ _ _ z => z
end K3
open PySem PySem.W PyProof.Rows
set_option maxRecDepth 100000 in
set_option maxHeartbeats 0 in
theorem PySem.Challenge.cw_onebell_k03_a_desk_hands_over_holds : PySem.Challenge.rw_onebell_k03_a_desk_hands_over.Holds := by
  w_on; o_law; k_head; (case hw => w_witness2)
  k_fill
  refine K3.walk (l := PySem.Challenge.rw_onebell_k03_a_desk_hands_over) rfl rfl (fun w h Y => PySem.W.kIn_of Y) ?F
  case F =>
    intro w mg fa h KX G hmg
    refine' K3.all_mk KX G hmg ?a0 ?l0 ?c0 ?k0 ?a1 ?l1 ?c1 ?k1 ?a2 ?l2 ?c2 ?k2 ?a3 ?l3 ?c3 ?k3 ?a4 ?l4 ?c4 ?k4 ?a5 ?l5 ?c5 ?k5 ?a6 ?l6 ?c6 ?k6 ?a7 ?l7 ?c7 ?k7 ?a8 ?l8 ?c8 ?k8 ?a9 ?l9 ?c9 ?k9 ?a10 ?l10 ?c10 ?k10 ?a11 ?l11 ?c11 ?k11 ?a12 ?l12 ?c12 ?k12 ?a13 ?l13 ?c13 ?k13 ?a14 ?l14 ?c14 ?k14 ?a15 ?l15 ?c15 ?k15 ?g_BellError ?e_BellError ?x_BellError ?s_BellError ?t_BellError ?g_BadCount ?e_BadCount ?x_BadCount ?s_BadCount ?t_BadCount ?g_NoHand ?e_NoHand ?x_NoHand ?s_NoHand ?t_NoHand ?g_NoLetter ?e_NoLetter ?x_NoLetter ?s_NoLetter ?t_NoLetter ?g_NoMail ?e_NoMail ?x_NoMail ?s_NoMail ?t_NoMail ?g_Twice ?e_Twice ?x_Twice ?s_Twice ?t_Twice ?g_NotOpen ?e_NotOpen ?x_NotOpen ?s_NotOpen ?t_NotOpen ?g_BadMark ?e_BadMark ?x_BadMark ?s_BadMark ?t_BadMark ?g_NoNote ?e_NoNote ?x_NoNote ?s_NoNote ?t_NoNote ?g_Desk ?e_Desk ?pg_Desk ?hd_Desk ?po_Desk ?sa_Desk ?a_Desk___init__ ?l_Desk___init__ ?c_Desk___init__ ?k_Desk___init__ ?fn_Desk___init__ ?a_Desk_clock ?l_Desk_clock ?c_Desk_clock ?k_Desk_clock ?fn_Desk_clock ?a_Desk_propose ?l_Desk_propose ?c_Desk_propose ?k_Desk_propose ?fn_Desk_propose ?a_Desk_settle ?l_Desk_settle ?c_Desk_settle ?k_Desk_settle ?fn_Desk_settle ?a_Desk_first ?l_Desk_first ?c_Desk_first ?k_Desk_first ?fn_Desk_first ?a_Desk_hand_over ?l_Desk_hand_over ?c_Desk_hand_over ?k_Desk_hand_over ?fn_Desk_hand_over ?a_Desk_waiting ?l_Desk_waiting ?c_Desk_waiting ?k_Desk_waiting ?fn_Desk_waiting ?a_Desk_handed ?l_Desk_handed ?c_Desk_handed ?k_Desk_handed ?fn_Desk_handed ?mk_Desk ?na_Desk_hand ?na_Desk_time ?na_Desk_known ?na_Desk_marked ?na_Desk_done ?na_Desk_row ?i_hn ?i_ht ?hd_BellError ?hd_BadCount ?hd_NoHand ?hd_NoLetter ?hd_NoMail ?hd_Twice ?hd_NotOpen ?hd_BadMark ?hd_NoNote ?i_Twice_hg ?i_Twice_hk ?i_Twice_ha ?i_Twice_hm ?i_Twice_v ?i_Twice_b ?i_Twice_BadCount ?n_Twice_BadCount ?i_Twice_NoHand ?n_Twice_NoHand ?i_Twice_NoLetter ?n_Twice_NoLetter ?i_Twice_NoMail ?n_Twice_NoMail ?i_Twice_NotOpen ?n_Twice_NotOpen ?i_Twice_BadMark ?n_Twice_BadMark ?i_Twice_NoNote ?n_Twice_NoNote ?i_NotOpen_hg ?i_NotOpen_hk ?i_NotOpen_ha ?i_NotOpen_hm ?i_NotOpen_v ?i_NotOpen_b ?i_NotOpen_BadCount ?n_NotOpen_BadCount ?i_NotOpen_NoHand ?n_NotOpen_NoHand ?i_NotOpen_NoLetter ?n_NotOpen_NoLetter ?i_NotOpen_NoMail ?n_NotOpen_NoMail ?i_NotOpen_Twice ?n_NotOpen_Twice ?i_NotOpen_BadMark ?n_NotOpen_BadMark ?i_NotOpen_NoNote ?n_NotOpen_NoNote ?i_BadMark_hg ?i_BadMark_hk ?i_BadMark_ha ?i_BadMark_hm ?i_BadMark_v ?i_BadMark_b ?i_BadMark_BadCount ?n_BadMark_BadCount ?i_BadMark_NoHand ?n_BadMark_NoHand ?i_BadMark_NoLetter ?n_BadMark_NoLetter ?i_BadMark_NoMail ?n_BadMark_NoMail ?i_BadMark_Twice ?n_BadMark_Twice ?i_BadMark_NotOpen ?n_BadMark_NotOpen ?i_BadMark_NoNote ?n_BadMark_NoNote ?z_max ?z_list ?z_isinstance ?z_int ?z_bool ?z_len ?z_tuple ?z_ValueError ?z_all ?z_dict ?z_zip ?z_range
    (case a0 => k_is)
    (case l0 => k_is)
    (case c0 => k_is)
    (case k0 => k_is)
    (case a1 => k_is)
    (case l1 => k_is)
    (case c1 => k_is)
    (case k1 => k_is)
    (case a2 => k_is)
    (case l2 => k_is)
    (case c2 => k_is)
    (case k2 => k_is)
    (case a3 => k_is)
    (case l3 => k_is)
    (case c3 => k_is)
    (case k3 => k_is)
    (case a4 => k_is)
    (case l4 => k_is)
    (case c4 => k_is)
    (case k4 => k_is)
    (case a5 => k_is)
    (case l5 => k_is)
    (case c5 => k_is)
    (case k5 => k_is)
    (case a6 => k_is)
    (case l6 => k_is)
    (case c6 => k_is)
    (case k6 => k_is)
    (case a7 => k_is)
    (case l7 => k_is)
    (case c7 => k_is)
    (case k7 => k_is)
    (case a8 => k_is)
    (case l8 => k_is)
    (case c8 => k_is)
    (case k8 => k_is)
    (case a9 => k_is)
    (case l9 => k_is)
    (case c9 => k_is)
    (case k9 => k_is)
    (case a10 => k_is)
    (case l10 => k_is)
    (case c10 => k_is)
    (case k10 => k_is)
    (case a11 => k_is)
    (case l11 => k_is)
    (case c11 => k_is)
    (case k11 => k_is)
    (case a12 => k_is)
    (case l12 => k_is)
    (case c12 => k_is)
    (case k12 => k_is)
    (case a13 => k_is)
    (case l13 => k_is)
    (case c13 => k_is)
    (case k13 => k_is)
    (case a14 => k_is)
    (case l14 => k_is)
    (case c14 => k_is)
    (case k14 => k_is)
    (case a15 => k_is)
    (case l15 => k_is)
    (case c15 => k_is)
    (case k15 => k_is)
    (case g_BellError => k_is)
    (case e_BellError => k_is)
    (case x_BellError => k_exc)
    (case s_BellError => k_is)
    (case t_BellError => k_is)
    (case g_BadCount => k_is)
    (case e_BadCount => k_is)
    (case x_BadCount => k_exc)
    (case s_BadCount => k_is)
    (case t_BadCount => k_is)
    (case g_NoHand => k_is)
    (case e_NoHand => k_is)
    (case x_NoHand => k_exc)
    (case s_NoHand => k_is)
    (case t_NoHand => k_is)
    (case g_NoLetter => k_is)
    (case e_NoLetter => k_is)
    (case x_NoLetter => k_exc)
    (case s_NoLetter => k_is)
    (case t_NoLetter => k_is)
    (case g_NoMail => k_is)
    (case e_NoMail => k_is)
    (case x_NoMail => k_exc)
    (case s_NoMail => k_is)
    (case t_NoMail => k_is)
    (case g_Twice => k_is)
    (case e_Twice => k_is)
    (case x_Twice => k_exc)
    (case s_Twice => k_is)
    (case t_Twice => k_is)
    (case g_NotOpen => k_is)
    (case e_NotOpen => k_is)
    (case x_NotOpen => k_exc)
    (case s_NotOpen => k_is)
    (case t_NotOpen => k_is)
    (case g_BadMark => k_is)
    (case e_BadMark => k_is)
    (case x_BadMark => k_exc)
    (case s_BadMark => k_is)
    (case t_BadMark => k_is)
    (case g_NoNote => k_is)
    (case e_NoNote => k_is)
    (case x_NoNote => k_exc)
    (case s_NoNote => k_is)
    (case t_NoNote => k_is)
    (case g_Desk => k_is)
    (case e_Desk => k_is)
    (case pg_Desk => k_is)
    (case hd_Desk => k_is)
    (case po_Desk => k_is)
    (case sa_Desk => k_is)
    (case a_Desk___init__ => k_is)
    (case l_Desk___init__ => k_is)
    (case c_Desk___init__ => k_is)
    (case k_Desk___init__ => k_is)
    (case fn_Desk___init__ => k_is)
    (case a_Desk_clock => k_is)
    (case l_Desk_clock => k_is)
    (case c_Desk_clock => k_is)
    (case k_Desk_clock => k_is)
    (case fn_Desk_clock => k_is)
    (case a_Desk_propose => k_is)
    (case l_Desk_propose => k_is)
    (case c_Desk_propose => k_is)
    (case k_Desk_propose => k_is)
    (case fn_Desk_propose => k_is)
    (case a_Desk_settle => k_is)
    (case l_Desk_settle => k_is)
    (case c_Desk_settle => k_is)
    (case k_Desk_settle => k_is)
    (case fn_Desk_settle => k_is)
    (case a_Desk_first => k_is)
    (case l_Desk_first => k_is)
    (case c_Desk_first => k_is)
    (case k_Desk_first => k_is)
    (case fn_Desk_first => k_is)
    (case a_Desk_hand_over => k_is)
    (case l_Desk_hand_over => k_is)
    (case c_Desk_hand_over => k_is)
    (case k_Desk_hand_over => k_is)
    (case fn_Desk_hand_over => k_is)
    (case a_Desk_waiting => k_is)
    (case l_Desk_waiting => k_is)
    (case c_Desk_waiting => k_is)
    (case k_Desk_waiting => k_is)
    (case fn_Desk_waiting => k_is)
    (case a_Desk_handed => k_is)
    (case l_Desk_handed => k_is)
    (case c_Desk_handed => k_is)
    (case k_Desk_handed => k_is)
    (case fn_Desk_handed => k_is)
    (case mk_Desk => k_is)
    (case na_Desk_hand => k_is)
    (case na_Desk_time => k_is)
    (case na_Desk_known => k_is)
    (case na_Desk_marked => k_is)
    (case na_Desk_done => k_is)
    (case na_Desk_row => k_is)
    (case i_hn => k_is)
    (case i_ht => k_is)
    (case hd_BellError => k_is)
    (case hd_BadCount => k_is)
    (case hd_NoHand => k_is)
    (case hd_NoLetter => k_is)
    (case hd_NoMail => k_is)
    (case hd_Twice => k_is)
    (case hd_NotOpen => k_is)
    (case hd_BadMark => k_is)
    (case hd_NoNote => k_is)
    (case i_Twice_hg => k_is)
    (case i_Twice_hk => k_is)
    (case i_Twice_ha => k_is)
    (case i_Twice_hm => k_is)
    (case i_Twice_v => k_is)
    (case i_Twice_b => k_is)
    (case i_Twice_BadCount => k_is)
    (case n_Twice_BadCount => rfl)
    (case i_Twice_NoHand => k_is)
    (case n_Twice_NoHand => rfl)
    (case i_Twice_NoLetter => k_is)
    (case n_Twice_NoLetter => rfl)
    (case i_Twice_NoMail => k_is)
    (case n_Twice_NoMail => rfl)
    (case i_Twice_NotOpen => k_is)
    (case n_Twice_NotOpen => rfl)
    (case i_Twice_BadMark => k_is)
    (case n_Twice_BadMark => rfl)
    (case i_Twice_NoNote => k_is)
    (case n_Twice_NoNote => rfl)
    (case i_NotOpen_hg => k_is)
    (case i_NotOpen_hk => k_is)
    (case i_NotOpen_ha => k_is)
    (case i_NotOpen_hm => k_is)
    (case i_NotOpen_v => k_is)
    (case i_NotOpen_b => k_is)
    (case i_NotOpen_BadCount => k_is)
    (case n_NotOpen_BadCount => rfl)
    (case i_NotOpen_NoHand => k_is)
    (case n_NotOpen_NoHand => rfl)
    (case i_NotOpen_NoLetter => k_is)
    (case n_NotOpen_NoLetter => rfl)
    (case i_NotOpen_NoMail => k_is)
    (case n_NotOpen_NoMail => rfl)
    (case i_NotOpen_Twice => k_is)
    (case n_NotOpen_Twice => rfl)
    (case i_NotOpen_BadMark => k_is)
    (case n_NotOpen_BadMark => rfl)
    (case i_NotOpen_NoNote => k_is)
    (case n_NotOpen_NoNote => rfl)
    (case i_BadMark_hg => k_is)
    (case i_BadMark_hk => k_is)
    (case i_BadMark_ha => k_is)
    (case i_BadMark_hm => k_is)
    (case i_BadMark_v => k_is)
    (case i_BadMark_b => k_is)
    (case i_BadMark_BadCount => k_is)
    (case n_BadMark_BadCount => rfl)
    (case i_BadMark_NoHand => k_is)
    (case n_BadMark_NoHand => rfl)
    (case i_BadMark_NoLetter => k_is)
    (case n_BadMark_NoLetter => rfl)
    (case i_BadMark_NoMail => k_is)
    (case n_BadMark_NoMail => rfl)
    (case i_BadMark_Twice => k_is)
    (case n_BadMark_Twice => rfl)
    (case i_BadMark_NotOpen => k_is)
    (case n_BadMark_NotOpen => rfl)
    (case i_BadMark_NoNote => k_is)
    (case n_BadMark_NoNote => rfl)
    (case z_max => k_is)
    (case z_list => k_is)
    (case z_isinstance => k_is)
    (case z_int => k_is)
    (case z_bool => k_is)
    (case z_len => k_is)
    (case z_tuple => k_is)
    (case z_ValueError => k_is)
    (case z_all => k_is)
    (case z_dict => k_is)
    (case z_zip => k_is)
    (case z_range => k_is)
#print axioms PySem.Challenge.cw_onebell_k03_a_desk_hands_over_holds

