import PyProof.Rows.All
import Wide.All
import OpenK.AllK
import Wide.FinOn
import HandS.ForMost
import HandS.ForExc
import HandS.Evl
import HandS.Walk
import HandS.Steps
import HandS.IsInst
import HandS.FStr
import PySem.Challenge.RW_onebell_k01_marks_in_order
set_option Elab.async false
set_option linter.all false
set_option maxRecDepth 100000
set_option maxHeartbeats 4000000
set_option Elab.async false
set_option linter.all false
set_option maxRecDepth 100000
set_option maxHeartbeats 2000000
namespace Ob
open PySem L2 Evl
abbrev D := PyData
/-! ## data and heaps that grow -/
mutual
theorem dp_ex {K : PySem.W.Frag} {H H' : Hp} (e : Ex H H') : ∀ {v : V} {d : D}, Dp K H v d → Dp K H' v d
  | _, _, .non => .non
  | _, _, .bl b => .bl b
  | _, _, .int i => .int i
  | _, _, .str x => .str x
  | _, _, .lst s a => .lst (ex_l e s) (dpa_ex e a)
  | _, _, .tup s a => .tup (ex_t e s) (dpa_ex e a)
theorem dpa_ex {K : PySem.W.Frag} {H H' : Hp} (e : Ex H H') : ∀ {v : List V} {d : List D}, DpAll K H v d → DpAll K H' v d
  | _, _, .nil => .nil
  | _, _, .cons h t => .cons (dp_ex e h) (dpa_ex e t)
end
section
variable {K : PySem.W.Frag} {H H' H1 H2 : Hp} {σ : L2.St} {v : V} {vs xs : List V} {d d' e : D} {ds es : List D}
theorem dpa_len : ∀ {vs : List V} {ds : List D}, DpAll K H vs ds → vs.length = ds.length
  | _, _, .nil => rfl
  | _, _, .cons _ t => by simp [dpa_len t]
theorem dpa_get : ∀ {vs : List V} {ds : List D} {i : Nat} {d : D}, DpAll K H vs ds → ds[i]? = some d → ∃ v, vs[i]? = some v ∧ Dp K H v d
  | _, _, _, _, .nil, h => by simp at h
  | _, _, 0, _, .cons a _, h => by simp at h; subst h; exact ⟨_, rfl, a⟩
  | _, _, i + 1, _, .cons _ t, h => by
    obtain ⟨v, h1, h2⟩ := dpa_get (i := i) t (by simpa using h)
    exact ⟨v, by simpa using h1, h2⟩
theorem dpa_getV : ∀ {vs : List V} {ds : List D} {i : Nat} {v : V}, DpAll K H vs ds → vs[i]? = some v → ∃ d, ds[i]? = some d ∧ Dp K H v d
  | _, _, _, _, .nil, h => by simp at h
  | _, _, 0, _, .cons a _, h => by simp at h; subst h; exact ⟨_, rfl, a⟩
  | _, _, i + 1, _, .cons _ t, h => by
    obtain ⟨v, h1, h2⟩ := dpa_getV (i := i) t (by simpa using h)
    exact ⟨v, by simpa using h1, h2⟩
theorem dpa_app : ∀ {vs : List V} {ds : List D} {ws : List V} {es : List D}, DpAll K H vs ds → DpAll K H ws es → DpAll K H (vs ++ ws) (ds ++ es)
  | _, _, _, _, .nil, h => h
  | _, _, _, _, .cons a t, h => .cons a (dpa_app t h)
theorem dpa_take : ∀ (n : Nat) {vs : List V} {ds : List D}, DpAll K H vs ds → DpAll K H (vs.take n) (ds.take n)
  | 0, _, _, _ => .nil
  | _ + 1, _, _, .nil => .nil
  | n + 1, _, _, .cons a t => .cons a (dpa_take n t)
theorem dpa_drop : ∀ (n : Nat) {vs : List V} {ds : List D}, DpAll K H vs ds → DpAll K H (vs.drop n) (ds.drop n)
  | 0, _, _, h => h
  | _ + 1, _, _, .nil => .nil
  | n + 1, _, _, .cons _ t => dpa_drop n t
theorem dpa_ints : ∀ {ns : List Int}, DpAll K H (ns.map V.int) (ns.map PyData.int)
  | [] => .nil
  | _ :: _ => .cons (.int _) dpa_ints
theorem dpa_ints_inv : ∀ {vs : List V} {ns : List Int}, DpAll K H vs (ns.map PyData.int) → vs = ns.map V.int
  | [], [], _ => rfl
  | _, _ :: _, .cons a t => by cases a; rw [List.map_cons, dpa_ints_inv t]
theorem dpa_bls_inv : ∀ {vs : List V} {ns : List Bool}, DpAll K H vs (ns.map PyData.bool) → vs = ns.map V.bl
  | [], [], _ => rfl
  | _, _ :: _, .cons a t => by cases a; rw [List.map_cons, dpa_bls_inv t]
theorem dpa1 (h : DpAll K H vs [d]) : ∃ v, vs = [v] ∧ Dp K H v d := by
  cases h with | cons a t => cases t; exact ⟨_, rfl, a⟩
theorem dpa2 {d1 d2 : D} (h : DpAll K H vs [d1, d2]) : ∃ v1 v2, vs = [v1, v2] ∧ Dp K H v1 d1 ∧ Dp K H v2 d2 := by
  cases h with | cons a t => obtain ⟨v, rfl, b⟩ := dpa1 t; exact ⟨_, _, rfl, a, b⟩
theorem dpa3 {d1 d2 d3 : D} (h : DpAll K H vs [d1, d2, d3]) : ∃ v1 v2 v3, vs = [v1, v2, v3] ∧ Dp K H v1 d1 ∧ Dp K H v2 d2 ∧ Dp K H v3 d3 := by
  cases h with | cons a t => obtain ⟨v, w, rfl, b, c⟩ := dpa2 t; exact ⟨_, _, _, rfl, a, b, c⟩
/-- a slice's items, of any list -/
def cutL {α : Type} (xs : List α) (lo hi : Option Int) : List α := (xs.drop (HT.sIx xs.length 0 lo)).take (HT.sIx xs.length xs.length hi - HT.sIx xs.length 0 lo)
theorem dpa_cut {lo hi : Option Int} (h : DpAll K H vs ds) : DpAll K H (cutV vs lo hi) (cutL ds lo hi) := by
  unfold cutV cutL
  rw [dpa_len h]
  exact dpa_take _ (dpa_drop _ h)
theorem cutL_map {α β : Type} (f : α → β) (xs : List α) (lo hi : Option Int) : cutL (xs.map f) lo hi = (cutL xs lo hi).map f := by
  unfold cutL
  rw [List.length_map, List.map_take, List.map_drop]
theorem cutL_len {α : Type} (xs : List α) (lo hi : Option Int) : (cutL xs lo hi).length ≤ xs.length := by
  unfold cutL
  rw [List.length_take, List.length_drop]
  omega
theorem cutL_mem {α : Type} {xs : List α} {lo hi : Option Int} {x : α} (h : x ∈ cutL xs lo hi) : x ∈ xs := List.mem_of_mem_drop (List.mem_of_mem_take h)
theorem atI_some {α : Type} {xs : List α} {i : Int} {x : α} (h : atI xs i = some x) : ∃ j, ixN xs.length i = some j ∧ xs[j]? = some x := by
  unfold atI at h
  cases q : ixN xs.length i with
  | none => rw [q] at h; cases h
  | some j => rw [q] at h; exact ⟨j, rfl, h⟩
theorem dpa_at {i : Int} (h : DpAll K H vs ds) (ha : atI ds i = some d) : ∃ v, atI vs i = some v ∧ Dp K H v d := by
  obtain ⟨j, h1, h2⟩ := atI_some ha
  obtain ⟨v, h3, h4⟩ := dpa_get h h2
  refine ⟨v, ?_, h4⟩
  unfold atI
  rw [dpa_len h, h1]
  exact h3
theorem dp_list (h : Dp K H v (.list ds)) : ∃ a xs, v = .ref a ∧ SqL K H a xs ∧ DpAll K H xs ds := by
  cases h with | lst s a => exact ⟨_, _, rfl, s, a⟩
theorem dp_tuple (h : Dp K H v (.tuple ds)) : ∃ a xs, v = .ref a ∧ SqT K H a xs ∧ DpAll K H xs ds := by
  cases h with | tup s a => exact ⟨_, _, rfl, s, a⟩

/-! ## what evaluates to which data: A the heap of the data, B the whole heap -/
structure Pr (A B A' B' : Hp) : Prop where
  a : Ex A A'
  b : Ex B B'
  s : Ex A' B'
  n : ∀ x, A x = none → B x ≠ none → A' x = none
theorem Pr.refl {A B : Hp} (h : Ex A B) : Pr A B A B := ⟨Ex.refl _, Ex.refl _, h, fun _ q _ => q⟩
theorem Pr.trans {A B A' B' A'' B'' : Hp} (h : Pr A B A' B') (k : Pr A' B' A'' B'') : Pr A B A'' B'' :=
  ⟨h.a.trans k.a, h.b.trans k.b, k.s, fun x q r => k.n x (h.n x q r) fun z => r (fresh_back h.b z)⟩
theorem Ex.upd2 {A B : Hp} {p : Addr} {o : HO} (h : Ex A B) : Ex (upd A p o) (upd B p o) := fun a u e => by
  by_cases q : a = p
  · subst q; rw [upd_same] at e; rw [upd_same]; exact e
  · rw [upd_ne q] at e; rw [upd_ne q]; exact h a u e
theorem Pr.new {A B : Hp} {p : Addr} {o : HO} (h : Ex A B) (hp : B p = none) : Pr A B (upd A p o) (upd B p o) :=
  ⟨Ex.new (fresh_back h hp), Ex.new hp, Ex.upd2 h, fun x q r => by rw [upd_ne (fun (z : x = p) => r (by rw [z]; exact hp))]; exact q⟩
theorem Pr.priv {A B : Hp} {p : Addr} {o : HO} (h : Ex A B) (hp : B p = none) : Pr A B A (upd B p o) :=
  ⟨Ex.refl _, Ex.new hp, h.trans (Ex.new hp), fun _ q _ => q⟩
theorem Pr.up {A B B' : Hp} (h : Ex A B) (e : Ex B B') : Pr A B A B' := ⟨Ex.refl _, e, h.trans e, fun _ q _ => q⟩
/-- the whole heap alone has grown -/
structure Pu (A B B' : Hp) : Prop where
  z : Ex A B
  e : Ex B B'
theorem Pu.s {A B B' : Hp} (h : Pu A B B') : Ex A B' := h.z.trans h.e
theorem Pu.pr {A B B' : Hp} (h : Pu A B B') : Pr A B A B' := Pr.up h.z h.e
theorem Pr.whole {B A' B' : Hp} (h : Pr B B A' B') : Ex B B' := h.b
def EvD (K : PySem.W.Frag) (te : TE) (σ : L2.St) (H : Hp) (d : D) : Prop := ∀ A B, Ex H A → Ex A B → ∀ Q : VK, (∀ v A' B', Pr A B A' B' → Dp K A' v d → Q v B') → te σ B Q
/-- a new list of such data -/
def EvN (K : PySem.W.Frag) (te : TE) (σ : L2.St) (H : Hp) (ds : List D) : Prop := ∀ A B, Ex H A → Ex A B → ∀ Q : VK, (∀ p xs A' B', B p = none → Pr A B A' B' → A' p = none → B' p = some (.lst xs) → DpAll K A' xs ds → Q (.ref p) B') → te σ B Q
/-- a list that is tracked -/
def EvK (K : PySem.W.Frag) (te : TE) (σ : L2.St) (H : Hp) (ds : List D) : Prop := ∀ A B, Ex H A → Ex A B → ∀ Q : VK, (∀ p xs A' B', Pr A B A' B' → B' p = some (.lst xs) → DpAll K A' xs ds → Q (.ref p) B') → te σ B Q
def EvAD (K : PySem.W.Frag) (ta : TA) (σ : L2.St) (H : Hp) (ds : List D) : Prop := ∀ A B, Ex H A → Ex A B → ∀ Q : List V → Hp → Prop, (∀ vs A' B', Pr A B A' B' → DpAll K A' vs ds → Q vs B') → ta σ B Q
variable {ta tb te tl : TE} {t u : TT} {tr : TA}
theorem EvD.mono (e : Ex H H') (h : EvD K te σ H d) : EvD K te σ H' d := fun A B a => h A B (e.trans a)
theorem EvN.mono (e : Ex H H') (h : EvN K te σ H ds) : EvN K te σ H' ds := fun A B a => h A B (e.trans a)
theorem ed_is (h : EvD K te σ H d) (q : d = d') : EvD K te σ H d' := q ▸ h
theorem en_is (h : EvN K te σ H ds) (q : ds = es) : EvN K te σ H es := q ▸ h
theorem ed_n (h : EvN K te σ H ds) : EvD K te σ H (.list ds) := fun A B e s Q q => h A B e s Q fun p xs A' B' hp P hA h2 a =>
  q (.ref p) (upd A' p (.lst xs)) B' ⟨P.a.trans (Ex.new hA), P.b, fun x o z => by
    by_cases w : x = p
    · subst w; rw [upd_same] at z; rw [h2]; exact z
    · rw [upd_ne w] at z; exact P.s x o z, fun x y z => by rw [upd_ne (fun (w : x = p) => z (by rw [w]; exact hp))]; exact P.n x y z⟩ (.lst (sq_of upd_same) (dpa_ex (Ex.new hA) a))
theorem ek_n (h : EvN K te σ H ds) : EvK K te σ H ds := fun A B e s Q q => h A B e s Q fun p xs A' B' _ P _ => q p xs A' B' P
theorem ek_var {i : Nat} {p : Addr} (h : σ[i]? = some (some (.ref p))) (hp : H p = some (.lst xs)) (ha : DpAll K H xs ds) : EvK K (tVar i) σ H ds := fun A B e s Q q => ⟨_, h, q p xs A B (Pr.refl s) (s _ _ (e _ _ hp)) (dpa_ex e ha)⟩
theorem ed_v (h : Ev te σ H v) (hd : Dp K H v d) : EvD K te σ H d := fun A B e s Q q => h B (e.trans s) Q fun B' e2 => q v A B' (Pr.up s e2) (dp_ex e hd)
theorem ed_var {i : Nat} (h : σ[i]? = some (some v)) (hd : Dp K H v d) : EvD K (tVar i) σ H d := ed_v (ev_var h) hd
theorem ed_int {i : Int} : EvD K (tC (.int i)) σ H (.int i) := ed_v ev_c (.int i)
theorem ed_str {i : Str} : EvD K (tC (.str i)) σ H (.str i) := ed_v ev_c (.str i)
theorem ed_bl {i : Bool} : EvD K (tC (.bl i)) σ H (.bool i) := ed_v ev_c (.bl i)
theorem ed_non : EvD K (tC .non) σ H .none := ed_v ev_c .non
theorem v_int {i : Int} (h : EvD K te σ H (.int i)) : Ev te σ H (.int i) := fun H1 e Q q => h H1 H1 e (Ex.refl _) Q fun v _ H2 P hv => by cases hv; exact q H2 P.b
theorem v_bl {i : Bool} (h : EvD K te σ H (.bool i)) : Ev te σ H (.bl i) := fun H1 e Q q => h H1 H1 e (Ex.refl _) Q fun v _ H2 P hv => by cases hv; exact q H2 P.b
theorem v_str {i : Str} (h : EvD K te σ H (.str i)) : Ev te σ H (.str i) := fun H1 e Q q => h H1 H1 e (Ex.refl _) Q fun v _ H2 P hv => by cases hv; exact q H2 P.b
theorem v_non (h : EvD K te σ H .none) : Ev te σ H .non := fun H1 e Q q => h H1 H1 e (Ex.refl _) Q fun v _ H2 P hv => by cases hv; exact q H2 P.b
/-- two operands -/
theorem ed_op {r : R2} {d1 d2 : D} (ha : EvD K ta σ H d1) (hb : EvD K tb σ H d2) (hr : ∀ x y A B, Ex H A → Ex A B → Dp K A x d1 → Dp K A y d2 → ∀ Q : VK, (∀ v A' B', Pr A B A' B' → Dp K A' v d → Q v B') → r x y B Q) : EvD K (tOp r ta tb) σ H d := fun A B e s Q q =>
  ha A B e s _ fun x A2 B2 P2 hx => hb A2 B2 (e.trans P2.a) P2.s _ fun y A3 B3 P3 hy => hr x y A3 B3 ((e.trans P2.a).trans P3.a) P3.s (dp_ex P3.a hx) hy Q fun v A4 B4 P4 => q v A4 B4 ((P2.trans P3).trans P4)
/-- the answer is no new thing -/
theorem ed_opB {r : R2} {d1 d2 : D} (ha : EvD K ta σ H d1) (hb : EvD K tb σ H d2) (hr : ∀ x y B, Dp K B x d1 → Dp K B y d2 → ∀ Q : VK, (∀ v, (∀ A, Ex A B → Dp K A x d1 → Dp K A y d2 → Dp K A v d) → Q v B) → r x y B Q) : EvD K (tOp r ta tb) σ H d :=
  ed_op ha hb fun x y A B _ s hx hy Q q => hr x y B (dp_ex s hx) (dp_ex s hy) Q fun v hv => q v A B (Pr.refl s) (hv A s hx hy)
theorem ed_Ii {f : Int → Int → Int} {i j : Int} (ha : EvD K ta σ H (.int i)) (hb : EvD K tb σ H (.int j)) : EvD K (tOp (rI0 fun i j => .int (f i j)) ta tb) σ H (.int (f i j)) :=
  ed_v (ev_op (v_int ha) (v_int hb) rv_I0) (.int _)
theorem ed_Ib {f : Int → Int → Bool} {i j : Int} (ha : EvD K ta σ H (.int i)) (hb : EvD K tb σ H (.int j)) : EvD K (tOp (rI0 fun i j => .bl (f i j)) ta tb) σ H (.bool (f i j)) :=
  ed_v (ev_op (v_int ha) (v_int hb) rv_I0) (.bl _)
theorem ed_Ic {C : Int → Int → Prop} {f : Int → Int → Int} {i j : Int} (ha : EvD K ta σ H (.int i)) (hb : EvD K tb σ H (.int j)) (hc : C i j) : EvD K (tOp (rI C fun i j => .int (f i j)) ta tb) σ H (.int (f i j)) :=
  ed_v (ev_op (v_int ha) (v_int hb) (rv_I hc)) (.int _)
theorem ed_eqi {i j : Int} (ha : EvD K ta σ H (.int i)) (hb : EvD K tb σ H (.int j)) : EvD K (tOp rEq ta tb) σ H (.bool (i == j)) :=
  ed_v (ev_op (v_int ha) (v_int hb) (rv_eq rfl)) (by rw [dec_int]; exact .bl _)
theorem ed_nei {i j : Int} (ha : EvD K ta σ H (.int i)) (hb : EvD K tb σ H (.int j)) : EvD K (tOp rNe ta tb) σ H (.bool (!(i == j))) :=
  ed_v (ev_op (v_int ha) (v_int hb) (rv_ne rfl)) (by rw [dec_int]; exact .bl _)
theorem ed_eqs {i j : Str} (ha : EvD K ta σ H (.str i)) (hb : EvD K tb σ H (.str j)) : EvD K (tOp rEq ta tb) σ H (.bool (i == j)) :=
  ed_v (ev_op (v_str ha) (v_str hb) (rv_eq rfl)) (by rw [dec_str]; exact .bl _)
theorem ed_nes {i j : Str} (ha : EvD K ta σ H (.str i)) (hb : EvD K tb σ H (.str j)) : EvD K (tOp rNe ta tb) σ H (.bool (!(i == j))) :=
  ed_v (ev_op (v_str ha) (v_str hb) (rv_ne rfl)) (by rw [dec_str]; exact .bl _)
theorem ed_eqb {i j : Bool} (ha : EvD K ta σ H (.bool i)) (hb : EvD K tb σ H (.bool j)) : EvD K (tOp rEq ta tb) σ H (.bool (i == j)) :=
  ed_v (ev_op (v_bl ha) (v_bl hb) (rv_eq rfl)) (by rw [dec_bl]; exact .bl _)
theorem ed_neb {i j : Bool} (ha : EvD K ta σ H (.bool i)) (hb : EvD K tb σ H (.bool j)) : EvD K (tOp rNe ta tb) σ H (.bool (!(i == j))) :=
  ed_v (ev_op (v_bl ha) (v_bl hb) (rv_ne rfl)) (by rw [dec_bl]; exact .bl _)
theorem ed_eqD {d1 d2 : D} (ha : EvD K ta σ H d1) (hb : EvD K tb σ H d2) (s1 : SeqAt.shaped d1 = true) (s2 : SeqAt.shaped d2 = true) : EvD K (tOp (rEqD K) ta tb) σ H (.bool (PyData.eqv d1 d2)) :=
  ed_opB ha hb fun _ _ _ hx hy _ q => ⟨d1, d2, hx, hy, s1, s2, q _ fun _ _ _ _ => .bl _⟩
theorem ed_neD {d1 d2 : D} (ha : EvD K ta σ H d1) (hb : EvD K tb σ H d2) (s1 : SeqAt.shaped d1 = true) (s2 : SeqAt.shaped d2 = true) : EvD K (tOp (rNeD K) ta tb) σ H (.bool (!PyData.eqv d1 d2)) :=
  ed_opB ha hb fun _ _ _ hx hy _ q => ⟨d1, d2, hx, hy, s1, s2, q _ fun _ _ _ _ => .bl _⟩
theorem ed_ixL {i : Int} (ha : EvD K ta σ H (.list ds)) (hb : EvD K tb σ H (.int i)) (h : atI ds i = some d) : EvD K (tOp (rIxL K) ta tb) σ H d :=
  ed_op ha hb fun _ _ A B _ s hx hy _ q => by
    obtain ⟨a, xs, rfl, sq, al⟩ := dp_list hx
    cases hy
    obtain ⟨v, h1, h2⟩ := dpa_at al h
    exact ⟨a, xs, i, v, rfl, rfl, ex_l s sq, h1, q v A B (Pr.refl s) h2⟩
theorem ed_ixT {i : Int} (ha : EvD K ta σ H (.tuple ds)) (hb : EvD K tb σ H (.int i)) (h : atI ds i = some d) : EvD K (tOp (rIxT K) ta tb) σ H d :=
  ed_op ha hb fun _ _ A B _ s hx hy _ q => by
    obtain ⟨a, xs, rfl, sq, al⟩ := dp_tuple hx
    cases hy
    obtain ⟨v, h1, h2⟩ := dpa_at al h
    exact ⟨a, xs, i, v, rfl, rfl, ex_t s sq, h1, q v A B (Pr.refl s) h2⟩
theorem ed_ixS {w : Str} {i : Int} {c : Nat} (ha : EvD K ta σ H (.str w)) (hb : EvD K tb σ H (.int i)) (hl : w.length ≤ 100000) (h : atI w.cps.toList i = some c) : EvD K (tOp rIxS ta tb) σ H (.str ⟨#[c]⟩) :=
  ed_v (ev_op (v_str ha) (v_int hb) (rv_ixS hl h)) (.str _)
theorem ea_nilD : EvAD K tNil σ H [] := fun A B _ s _ q => q [] A B (Pr.refl s) .nil
theorem ea_consD (h : EvD K ta σ H d) (hr : EvAD K tr σ H ds) : EvAD K (tCons ta tr) σ H (d :: ds) := fun A B e s _ q =>
  h A B e s _ fun v A2 B2 P2 hv => hr A2 B2 (e.trans P2.a) P2.s _ fun vs A3 B3 P3 ha => q _ A3 B3 (P2.trans P3) (.cons (dp_ex P3.a hv) ha)
theorem ed_tup (h : EvAD K tr σ H ds) (hl : ds.length ≤ 100000) : EvD K (tTup tr) σ H (.tuple ds) := fun A B e s _ q =>
  h A B e s _ fun vs A2 B2 P2 ha => ⟨sz_of (by rw [dpa_len ha]; exact hl), fun p hp => q _ (upd A2 p (.tup vs)) _ (P2.trans (Pr.new P2.s hp)) (.tup (st_of upd_same) (dpa_ex (Ex.new (fresh_back P2.s hp)) ha))⟩
theorem en_lst (h : EvAD K tr σ H ds) (hl : ds.length ≤ 100000) : EvN K (tLst tr) σ H ds := fun A B e s _ q =>
  h A B e s _ fun vs A2 B2 P2 ha => ⟨sz_of (by rw [dpa_len ha]; exact hl), fun p hp => q p vs A2 _ (fresh_back P2.b hp) (P2.trans (Pr.priv P2.s hp)) (fresh_back P2.s hp) upd_same ha⟩
theorem en_cat (ha : EvK K ta σ H ds) (hb : EvK K tb σ H es) (hl : ds.length + es.length ≤ 100000) : EvN K (tOp rCat ta tb) σ H (ds ++ es) := fun A B e s Q q =>
  ha A B e s _ fun p xs A2 B2 P2 hp h1 => hb A2 B2 (e.trans P2.a) P2.s _ fun r ys A3 B3 P3 hr h2 => ⟨p, r, xs, ys, rfl, rfl, P3.b _ _ hp, hr, sz_of (by rw [dpa_len h1, dpa_len h2]; exact hl), fun z hz =>
    q z _ A3 _ (fresh_back (P2.b.trans P3.b) hz) ((P2.trans P3).trans (Pr.priv P3.s hz)) (fresh_back P3.s hz) upd_same (dpa_app (dpa_ex P3.a h1) h2)⟩
/-- a slice's bound; the written part stands by -/
def EvOK (_ : PySem.W.Frag) (to : TO) (σ : L2.St) (H : Hp) (o : Option Int) : Prop := EvO to σ H o
theorem eo_noneD : EvOK K tNoPart σ H none := fun H1 _ _ q => q H1 (Ex.refl H1)
theorem eo_someD {i : Int} (h : EvD K te σ H (.int i)) : EvOK K (tPart te) σ H (some i) := fun H1 e _ q => v_int h H1 e _ fun H2 e2 => ⟨i, rfl, q H2 e2⟩
theorem en_slice {lo hi : Option Int} {t1 t2 : TO} (h : EvD K te σ H (.list ds)) (h1 : EvOK K t1 σ H lo) (h2 : EvOK K t2 σ H hi) : EvN K (tSl (rSlL K) te t1 t2) σ H (cutL ds lo hi) := fun A B e s Q q =>
  h A B e s _ fun v A2 B2 P2 hv => h1 B2 ((e.trans P2.a).trans P2.s) _ fun B3 e3 => h2 B3 (((e.trans P2.a).trans P2.s).trans e3) _ fun B4 e4 => by
    obtain ⟨a, xs, rfl, sq, al⟩ := dp_list hv
    have s4 := (P2.s.trans e3).trans e4
    exact ⟨a, xs, rfl, ex_l s4 sq, fun p hp => q p _ A2 _ (fresh_back ((P2.b.trans e3).trans e4) hp) (P2.trans ((Pr.up P2.s (e3.trans e4)).trans (Pr.priv s4 hp))) (fresh_back s4 hp) upd_same (dpa_cut al)⟩
theorem ed_sliceS {x : Str} {lo hi : Option Int} {t1 t2 : TO} (h : EvD K te σ H (.str x)) (hl : x.length ≤ 100000) (h1 : EvOK K t1 σ H lo) (h2 : EvOK K t2 σ H hi) : EvD K (tSl rSlS te t1 t2) σ H (.str (cutS x lo hi)) :=
  ed_v (v := .str (cutS x lo hi)) (fun H1 e Q q => v_str h H1 e _ fun H2 e2 => h1 H2 (e.trans e2) _ fun H3 e3 => h2 H3 ((e.trans e2).trans e3) _ fun H4 e4 => ⟨x, rfl, sz_of hl, q H4 ((e2.trans e3).trans e4)⟩) (.str _)
theorem ed_call1 {r : List V → Hp → VK → Prop} (h : EvD K ta σ H d) (hr : ∀ v B, Dp K B v d → ∀ Q : VK, (∀ w, (∀ A, Dp K A w e) → Q w B) → r [v] B Q) : EvD K (tCB r (tCons ta tNil)) σ H e := fun A B a s Q q =>
  h A B a s _ fun v A2 B2 P2 hv => hr v B2 (dp_ex P2.s hv) Q fun w hw => q w A2 B2 P2 (hw A2)
theorem ed_len (h : EvD K ta σ H (.list ds)) : EvD K (tCB (rLenS K) (tCons ta tNil)) σ H (.int (ds.length : Int)) := ed_call1 h fun _ B hv _ q => by
  obtain ⟨a, xs, rfl, s, al⟩ := dp_list hv
  refine ⟨a, xs, rfl, .inl s, ?_⟩
  rw [dpa_len al]
  exact q _ fun _ => .int _
theorem ed_lenT (h : EvD K ta σ H (.tuple ds)) : EvD K (tCB (rLenS K) (tCons ta tNil)) σ H (.int (ds.length : Int)) := ed_call1 h fun _ B hv _ q => by
  obtain ⟨a, xs, rfl, s, al⟩ := dp_tuple hv
  refine ⟨a, xs, rfl, .inr s, ?_⟩
  rw [dpa_len al]
  exact q _ fun _ => .int _
theorem en_listof (h : EvD K ta σ H (.list ds)) : EvN K (tCB (rListS K) (tCons ta tNil)) σ H ds := fun A B e s Q q =>
  h A B e s _ fun v A2 B2 P2 hv => by
    obtain ⟨a, xs, rfl, sq, al⟩ := dp_list hv
    exact ⟨a, xs, rfl, .inl (ex_l P2.s sq), fun p hp => q p xs A2 _ (fresh_back P2.b hp) (P2.trans (Pr.priv P2.s hp)) (fresh_back P2.s hp) upd_same al⟩
/-- the name of a datum's type -/
def tyN : D → String
  | .none => "NoneType" | .bool _ => "bool" | .int _ => "int" | .str _ => "str" | .list _ => "list" | .tuple _ => "tuple" | .dict _ => "dict"
theorem tyX_dp (h : Dp K H v d) : TyX K H v (.type (tyN d)) := by
  cases h with
  | non => exact .base .non
  | bl b => exact .base (.bl b)
  | int b => exact .base (.int b)
  | str b => exact .base (.str b)
  | lst s a =>
    rcases s with (s | ⟨o, s⟩) | ⟨ob, vs, n, e, c, _⟩
    · exact .base (.lst s)
    · exact .base (.frz s)
    · exact .kList e c
  | tup s a =>
    rcases s with (s | ⟨o, s⟩) | ⟨ob, vs, n, e, c, _⟩
    · exact .base (.tup s)
    · exact .fTuple s
    · exact .kTuple e c
theorem ed_isi {n : String} {b : Bool} (h : EvD K ta σ H d) (hk : kitB (tyN d) n = some b) : EvD K (tCB (rIsi K) (tCons ta (tCons (tC (.ty n)) tNil))) σ H (.bool b) := fun A B e s Q q =>
  h A B e s _ fun v A2 B2 P2 hv => ⟨v, .ty n, _, _, b, rfl, .ty n, tyX_dp (dp_ex P2.s hv), kit_ty hk, q _ A2 B2 P2 (.bl b)⟩
theorem ki_ii : kitB "int" "int" = some true := by decide +kernel
theorem ki_ib : kitB "int" "bool" = some false := by decide +kernel
theorem ki_bb : kitB "bool" "bool" = some true := by decide +kernel
theorem ki_bi : kitB "bool" "int" = some true := by decide +kernel
theorem ki_nb : kitB "NoneType" "bool" = some false := by decide +kernel
theorem ki_sb : kitB "str" "bool" = some false := by decide +kernel
theorem ki_lb : kitB "list" "bool" = some false := by decide +kernel
theorem ki_tb : kitB "tuple" "bool" = some false := by decide +kernel
theorem ki_ni : kitB "NoneType" "int" = some false := by decide +kernel
theorem ki_si : kitB "str" "int" = some false := by decide +kernel
theorem ki_li : kitB "list" "int" = some false := by decide +kernel
theorem ki_ti : kitB "tuple" "int" = some false := by decide +kernel
theorem ki_di : kitB "dict" "int" = some false := by decide +kernel
theorem ki_tt : kitB "tuple" "tuple" = some true := by decide +kernel
theorem ki_lt : kitB "list" "tuple" = some false := by decide +kernel
theorem ki_st : kitB "str" "tuple" = some false := by decide +kernel
theorem ki_it : kitB "int" "tuple" = some false := by decide +kernel
theorem ki_bt : kitB "bool" "tuple" = some false := by decide +kernel
theorem ki_nt : kitB "NoneType" "tuple" = some false := by decide +kernel
theorem ki_ll : kitB "list" "list" = some true := by decide +kernel
theorem ki_tl : kitB "tuple" "list" = some false := by decide +kernel
theorem ki_sl : kitB "str" "list" = some false := by decide +kernel
theorem ki_nl : kitB "NoneType" "list" = some false := by decide +kernel
theorem ki_il : kitB "int" "list" = some false := by decide +kernel
theorem ki_bl : kitB "bool" "list" = some false := by decide +kernel
theorem ki_ss : kitB "str" "str" = some true := by decide +kernel
theorem ki_ts : kitB "tuple" "str" = some false := by decide +kernel
theorem ki_ls : kitB "list" "str" = some false := by decide +kernel
theorem ki_ns : kitB "NoneType" "str" = some false := by decide +kernel
theorem ki_is : kitB "int" "str" = some false := by decide +kernel
theorem ki_bs : kitB "bool" "str" = some false := by decide +kernel
/-- a test -/
theorem et_D {b : Bool} (h : EvD K te σ H (.bool b)) : EvT (tTest te) σ H b := et_test (v_bl h)
theorem et_DB {b : Bool} (h : EvD K te σ H (.bool b)) : EvT (tB te) σ H b := et_B (v_bl h)
theorem et_yes : EvT tYes σ H true := fun H1 _ _ q => q H1 (Ex.refl H1)
theorem ed_and {a b : Bool} (h1 : EvD K ta σ H (.bool a)) (h2 : a = true → EvD K tb σ H (.bool b)) : EvD K (tAndV ta tb) σ H (.bool (a && b)) := ed_v (ev_andV (v_bl h1) fun q => v_bl (h2 q)) (.bl _)
theorem ed_or {a b : Bool} (h1 : EvD K ta σ H (.bool a)) (h2 : a = false → EvD K tb σ H (.bool b)) : EvD K (tOrV ta tb) σ H (.bool (a || b)) := ed_v (ev_orV (v_bl h1) fun q => v_bl (h2 q)) (.bl _)
theorem ed_not {a : Bool} (h1 : EvD K ta σ H (.bool a)) : EvD K (tNotV ta) σ H (.bool (!a)) := ed_v (ev_notV (v_bl h1)) (.bl _)
/-- max of ints, all of bools -/
def maxI (ns : List Int) : Int := ns.foldl max (ns.headD 0)
theorem foldl_max_ge : ∀ (ns : List Int) (a : Int), a ≤ ns.foldl max a ∧ ∀ n ∈ ns, n ≤ ns.foldl max a
  | [], a => ⟨Int.le_refl _, fun _ h => by simp at h⟩
  | n :: ns, a => by
    obtain ⟨h1, h2⟩ := foldl_max_ge ns (max a n)
    refine ⟨?_, fun m hm => ?_⟩
    · simp only [List.foldl_cons]; omega
    · simp only [List.foldl_cons]
      rcases List.mem_cons.mp hm with rfl | hm
      · omega
      · exact h2 m hm
theorem foldl_max_mem : ∀ (ns : List Int) (a : Int), ns.foldl max a = a ∨ ns.foldl max a ∈ ns
  | [], a => .inl rfl
  | n :: ns, a => by
    simp only [List.foldl_cons]
    rcases foldl_max_mem ns (max a n) with h | h
    · by_cases q : a ≤ n
      · right; rw [h]; simp; left; omega
      · left; rw [h]; omega
    · right; exact List.mem_cons_of_mem _ h
theorem maxI_mem {ns : List Int} (h : ns ≠ []) : maxI ns ∈ ns := by
  cases ns with
  | nil => exact absurd rfl h
  | cons n ns =>
    unfold maxI
    rcases foldl_max_mem (n :: ns) n with q | q
    · simp only [List.headD_cons]; rw [q]; exact List.mem_cons_self
    · exact q
theorem maxI_ge {ns : List Int} : ∀ n ∈ ns, n ≤ maxI ns := (foldl_max_ge ns _).2
theorem maxI_uniq {ns : List Int} {m : Int} (h1 : m ∈ ns) (h2 : ∀ y, y ∈ ns → y ≤ m) : m = maxI ns := by
  have a := maxI_ge m h1
  have b := h2 _ (maxI_mem (List.ne_nil_of_mem h1))
  omega
theorem ed_max {ns : List Int} (h : EvD K ta σ H (.list (ns.map .int))) (hn : ns ≠ []) : EvD K (tCB (rMax K) (tCons ta tNil)) σ H (.int (maxI ns)) := ed_call1 h fun _ B hv _ q => by
  obtain ⟨a, xs, rfl, s, al⟩ := dp_list hv
  rw [dpa_ints_inv al] at s
  refine ⟨a, ns, rfl, s, List.length_pos_iff.mpr hn, fun m h1 h2 => ?_⟩
  rw [maxI_uniq h1 h2]
  exact q _ fun _ => .int _
theorem ed_all {bs : List Bool} (h : EvD K ta σ H (.list (bs.map .bool))) : EvD K (tCB (rAll K) (tCons ta tNil)) σ H (.bool (bs.all id)) := ed_call1 h fun _ B hv _ q => by
  obtain ⟨a, xs, rfl, s, al⟩ := dp_list hv
  rw [dpa_bls_inv al] at s
  exact ⟨a, bs, rfl, s, q _ fun _ => .bl _⟩
/-! ## comprehensions -/
/-- between two turns: the list at L holds what is made, the data lean on A' -/
structure LcI (K : PySem.W.Frag) (A B : Hp) (L : Addr) (es : List D) (H' : Hp) : Prop where
  ex : ∃ A' ys, Ex A A' ∧ Ex A' H' ∧ A' L = none ∧ H' L = some (.lst ys) ∧ DpAll K A' ys es ∧ (∀ x, A x = none → B x ≠ none → A' x = none)
  b : Ex B H'
theorem lci_start {A B : Hp} {L : Addr} (s : Ex A B) (hL : B L = none) : LcI K A B L [] (upd B L (.lst [])) :=
  ⟨⟨A, [], Ex.refl _, s.trans (Ex.new hL), fresh_back s hL, upd_same, .nil, fun _ q _ => q⟩, Ex.new hL⟩
theorem lci_turn {A B H1 : Hp} {L : Addr} {g : D} {f : Bool} (hB : B L = none) (p : LcI K A B L es H1) (hz : es.length < 100000)
    (ht : ∀ A', Ex A A' → EvT t σ A' f) (he : f = true → ∀ A', Ex A A' → EvD K te σ A' g) :
    t σ H1 fun b H3 => if b = true then te σ H3 fun y H4 => ∃ acc, H4 L = some (.lst acc) ∧ acc.length < sizeLine ∧ LcI K A B L (if f then es ++ [g] else es) (upd H4 L (.lst (acc ++ [y]))) else LcI K A B L (if f then es ++ [g] else es) H3 := by
  obtain ⟨⟨A', ys, a1, a2, a3, a4, a5, a6⟩, a7⟩ := p
  refine ht A' a1 H1 a2 _ fun H3 e3 => ?_
  cases f with
  | true =>
    refine iteT ?_
    refine he rfl A' a1 A' H3 (Ex.refl _) (a2.trans e3) _ fun y A4 H4 P4 hy => ?_
    have e4 : H4 L = some (.lst ys) := P4.b _ _ (e3 _ _ a4)
    have n4 : A4 L = none := P4.n L a3 (by rw [e3 _ _ a4]; simp)
    refine ⟨ys, e4, sz_lt (by rw [dpa_len a5]; exact hz), ⟨⟨A4, ys ++ [y], a1.trans P4.a, ?_, n4, upd_same, dpa_app (dpa_ex P4.a a5) (.cons hy .nil), fun x q r => ?_⟩, ?_⟩⟩
    · exact Ex.mut P4.s n4
    · exact P4.n x (a6 x q r) fun z => r (fresh_back (a7.trans e3) z)
    · exact Ex.mut ((a7.trans e3).trans P4.b) hB
  | false =>
    refine iteF ?_
    exact ⟨⟨A', ys, a1, a2.trans e3, a3, e3 _ _ a4, a5, a6⟩, a7.trans e3⟩
theorem lci_end {A B H' : Hp} {L : Addr} {Q : VK} (hB : B L = none) (p : LcI K A B L es H') (q : ∀ p xs A' B', B p = none → Pr A B A' B' → A' p = none → B' p = some (.lst xs) → DpAll K A' xs es → Q (.ref p) B') : Q (.ref L) H' := by
  obtain ⟨⟨A', ys, a1, a2, a3, a4, a5, a6⟩, a7⟩ := p
  exact q L ys A' H' hB ⟨a1, a7, a2, a6⟩ a3 a4 a5
theorem take_f (f : D → Bool) (g : D → D) {i : Nat} (h : ds[i]? = some d) : ((ds.take (i + 1)).filter f).map g = if f d = true then ((ds.take i).filter f).map g ++ [g d] else ((ds.take i).filter f).map g := by
  have tk : ds.take (i + 1) = ds.take i ++ [d] := by rw [List.take_succ, h]; rfl
  rw [tk, List.filter_append, List.map_append]
  cases hf : f d with
  | true => simp [hf]
  | false => simp [hf]
theorem en_lcL {j : Nat} {ws : List Nat} (f : D → Bool) (g : D → D) (h : EvD K tl σ H (.list ds)) (hz : ds.length ≤ 40000) (hw : ∀ x, wipe ((wipe σ ws).set j (some x)) ws = wipe σ ws)
    (ht : ∀ d ∈ ds, ∀ v H1, Ex H H1 → Dp K H1 v d → EvT t ((wipe σ ws).set j (some v)) H1 (f d)) (he : ∀ d ∈ ds, f d = true → ∀ v H1, Ex H H1 → Dp K H1 v d → EvD K te ((wipe σ ws).set j (some v)) H1 (g d)) :
    EvN K (tLc (iList K tl) (gName j) t te ws) σ H ((ds.filter f).map g) := fun A B e s Q q => h A B e s _ fun v A1 B1 P1 hv => by
  obtain ⟨a, xs, rfl, sq, al⟩ := dp_list hv
  refine ⟨a, rfl, ⟨xs, ex_l P1.s sq⟩, fun L hL => lc_list (xs := xs) (fun i H' => LcI K A1 B1 L (((ds.take i).filter f).map g) H') (lci_start P1.s hL) (fun i H' _ p => ex_l (P1.s.trans p.b) sq) ?_ ?_⟩
  · intro i x H' hi p
    obtain ⟨d, hd, hx⟩ := dpa_getV al hi
    have hm : d ∈ ds := List.mem_of_getElem? hd
    have hil : i < ds.length := (List.getElem?_eq_some_iff.mp hd).1
    refine ⟨hw x, ?_⟩
    rw [take_f f g hd]
    refine lci_turn hL p ?_ (fun A' ea => ht d hm x A' ((e.trans P1.a).trans ea) (dp_ex ea hx)) (fun hf A' ea => he d hm hf x A' ((e.trans P1.a).trans ea) (dp_ex ea hx))
    have q2 := List.length_filter_le f (ds.take i)
    rw [List.length_take] at q2
    rw [List.length_map]
    omega
  · intro H' p
    rw [dpa_len al, List.take_length] at p
    exact lci_end hL p fun p xs A' B' hp P => q p xs A' B' (fresh_back P1.b hp) (P1.trans P)
/-- without a test -/
theorem en_lcL1 {j : Nat} {ws : List Nat} (g : D → D) (h : EvD K tl σ H (.list ds)) (hz : ds.length ≤ 40000) (hw : ∀ x, wipe ((wipe σ ws).set j (some x)) ws = wipe σ ws)
    (he : ∀ d ∈ ds, ∀ v H1, Ex H H1 → Dp K H1 v d → EvD K te ((wipe σ ws).set j (some v)) H1 (g d)) :
    EvN K (tLc (iList K tl) (gName j) tYes te ws) σ H (ds.map g) := by
  have := en_lcL (t := tYes) (te := te) (j := j) (ws := ws) (fun _ => true) g h hz hw (fun _ _ _ _ _ _ => et_yes) (fun d hm _ => he d hm)
  rwa [List.filter_eq_self.mpr (by simp)] at this
/-- over range(n) -/
theorem en_lcR {j : Nat} {m : Int} {ws : List Nat} (g : Nat → D) (h : EvD K te σ H (.int m)) (hz : 0 ≤ m ∧ m ≤ 40000) (hw : ∀ x, wipe ((wipe σ ws).set j (some x)) ws = wipe σ ws)
    (he : ∀ i : Nat, (i : Int) < m → ∀ H1, Ex H H1 → EvD K tb ((wipe σ ws).set j (some (.int (i : Int)))) H1 (g i)) :
    EvN K (tLc (iRng1 (tCons te tNil)) (gName j) tYes tb ws) σ H ((List.range m.toNat).map g) := fun A B e s Q q => h A B e s _ fun v A1 B1 P1 hv => by
  cases hv
  refine ⟨m, rfl, by omega, by omega, fun L hL => lc_range (lo := 0) (n := m.toNat) (fun i H' => LcI K A1 B1 L ((List.range i).map g) H') (lci_start P1.s hL) ?_ ?_⟩
  · intro i H' hi p
    have e0 : (0 : Int) + (i : Int) = (i : Int) := Int.zero_add _
    show wipe ((wipe σ ws).set j (some (.int ((0 : Int) + (i : Int))))) ws = wipe σ ws ∧ tYes ((wipe σ ws).set j (some (.int ((0 : Int) + (i : Int))))) H' fun b H3 => if b = true then tb ((wipe σ ws).set j (some (.int ((0 : Int) + (i : Int))))) H3 fun y H4 => ∃ acc, H4 L = some (.lst acc) ∧ acc.length < sizeLine ∧ LcI K A1 B1 L ((List.range (i + 1)).map g) (upd H4 L (.lst (acc ++ [y]))) else LcI K A1 B1 L ((List.range (i + 1)).map g) H3
    rw [e0]
    refine ⟨hw _, ?_⟩
    have z : (List.range (i + 1)).map g = if true = true then (List.range i).map g ++ [g i] else (List.range i).map g := by rw [if_pos rfl, List.range_succ, List.map_append]; rfl
    rw [z]
    refine lci_turn (f := true) hL p ?_ (fun A' _ => et_yes) (fun _ A' ea => he i (by omega) A' ((e.trans P1.a).trans ea))
    rw [List.length_map, List.length_range]
    omega
  · intro H' p
    exact lci_end hL p fun p xs A' B' hp P => q p xs A' B' (fresh_back P1.b hp) (P1.trans P)
/-! ## statements -/
variable (K) {Dd : Ends} {ts tw tz : TS} {A A0 H0 B : Hp}
theorem s_asgD {i : Nat} (s : Ex A H) (h : EvD K te σ A d) (k : ∀ v A' B', Pr A H A' B' → Dp K A' v d → Dd.nx (σ.set i (some v)) B') : tAsg te (gName i) Dd σ H := h A H (Ex.refl _) s _ k
theorem s_asgN {i : Nat} (s : Ex A H) (h : EvN K te σ A ds) (k : ∀ p xs A' B', H p = none → Pr A H A' B' → A' p = none → B' p = some (.lst xs) → DpAll K A' xs ds → Dd.nx (σ.set i (some (.ref p))) B') : tAsg te (gName i) Dd σ H := h A H (Ex.refl _) s _ k
theorem s_retD (s : Ex A H) (h : EvD K te σ A d) (k : ∀ v A' B', Pr A H A' B' → Dp K A' v d → Dd.rt v B') : tRet te Dd σ H := h A H (Ex.refl _) s _ k
theorem q_appD {i : Nat} {l : Addr} {t2 : TS} (s : Ex A H) (hi : σ[i]? = some (some (.ref l))) (hl : H l = some (.lst xs)) (hz : xs.length < 100000) (h : EvD K te σ A d)
    (k : ∀ v A' B', Pr A H A' B' → Dp K A' v d → t2 Dd σ (upd B' l (.lst (xs ++ [v])))) : tSeq (tDrop (tBM K "list" rAppend (tVar i) (tCons te tNil))) t2 Dd σ H :=
  ⟨.ref l, hi, .inl ⟨rfl, xs, sq_of hl⟩, h A H (Ex.refl _) s _ fun v A' B' P hv => ⟨l, xs, v, rfl, rfl, P.b _ _ hl, sz_lt hz, k v A' B' P hv⟩⟩
theorem s_retK (s : Ex A H) (h : EvD K te σ A d) (q : d = d') (k : ∀ v A' B', Pr A H A' B' → Dp K A' v d' → Dd.rt v B') : tRet te Dd σ H := by
  subst q
  exact h A H (Ex.refl _) s _ k
/-- the ends of a statement that another one follows -/
def go (Dd : Ends) (t2 : TS) : Ends := { Dd with nx := t2 Dd }
theorem s_seq {t1 t2 : TS} (h : t1 (go Dd t2) σ H) : tSeq t1 t2 Dd σ H := h
theorem go_nx {t2 : TS} (h : t2 Dd σ H) : (go Dd t2).nx σ H := h
theorem s_next (h : Dd.nx σ H) : tNext Dd σ H := h
theorem q_next {t2 : TS} (h : t2 Dd σ H) : tNext (go Dd t2) σ H := h
theorem q_asgD {i : Nat} {t2 : TS} (s : Ex A H) (h : EvD K te σ A d) (k : ∀ v A' B', Pr A H A' B' → Dp K A' v d → t2 Dd (σ.set i (some v)) B') : tSeq (tAsg te (gName i)) t2 Dd σ H := h A H (Ex.refl _) s _ k
theorem q_asgN {i : Nat} {t2 : TS} (s : Ex A H) (h : EvN K te σ A ds) (k : ∀ p xs A' B', H p = none → Pr A H A' B' → A' p = none → B' p = some (.lst xs) → DpAll K A' xs ds → t2 Dd (σ.set i (some (.ref p))) B') : tSeq (tAsg te (gName i)) t2 Dd σ H := h A H (Ex.refl _) s _ k
theorem s_ifD {b : Bool} (s : Ex A H) (h : EvT t σ A b) (h1 : b = true → ∀ B', Pu A H B' → tw Dd σ B') (h2 : b = false → ∀ B', Pu A H B' → tz Dd σ B') : tIfS t tw tz Dd σ H := h H s _ fun B' e => by
  cases b with
  | true => exact iteT (h1 rfl B' ⟨s, e⟩)
  | false => exact iteF (h2 rfl B' ⟨s, e⟩)
theorem q_ifD {b : Bool} {t2 : TS} (s : Ex A H) (h : EvT t σ A b) (h1 : b = true → ∀ B', Pu A H B' → tw (go Dd t2) σ B') (h2 : b = false → ∀ B', Pu A H B' → tz (go Dd t2) σ B') : tSeq (tIfS t tw tz) t2 Dd σ H := s_ifD (Dd := go Dd t2) s h h1 h2
theorem q_ifE {b b' : Bool} {t2 : TS} (s : Ex A H) (h : EvT t σ A b') (q : b' = b) (h1 : b = true → ∀ B', Pu A H B' → tw (go Dd t2) σ B') (h2 : b = false → ∀ B', Pu A H B' → tz (go Dd t2) σ B') : tSeq (tIfS t tw tz) t2 Dd σ H := s_ifD (Dd := go Dd t2) s (q ▸ h) h1 h2
theorem s_ifE {b b' : Bool} (s : Ex A H) (h : EvT t σ A b') (q : b' = b) (h1 : b = true → ∀ B', Pu A H B' → tw Dd σ B') (h2 : b = false → ∀ B', Pu A H B' → tz Dd σ B') : tIfS t tw tz Dd σ H := s_ifD s (q ▸ h) h1 h2
theorem ed_abs {p : Prop} (h : p) (hn : ¬ p) : EvD K te σ H (.bool false) := absurd h hn
theorem et_abs {p : Prop} (h : p) (hn : ¬ p) : EvT t σ H false := absurd h hn
/-- a for over a list of data: J of the turn, the slots, the data's heap, the whole heap -/
theorem s_forD {g : TG} (s : Ex A H) (h : EvD K tl σ A (.list ds)) (J : Nat → L2.St → Hp → Hp → Prop) (h0 : ∀ A1 B1, Pr A H A1 B1 → J 0 σ A1 B1)
    (hs : ∀ A1 B1, Pr A H A1 B1 → ∀ i d v σ' A' B', ds[i]? = some d → Pr A1 B1 A' B' → Dp K A' v d → J i σ' A' B' →
      g v σ' B' fun σ2 H2 => ts { Dd with nx := fun σ3 H3 => ∃ A3, Pr A1 B1 A3 H3 ∧ J (i + 1) σ3 A3 H3, ct := fun σ3 H3 => ∃ A3, Pr A1 B1 A3 H3 ∧ J (i + 1) σ3 A3 H3, bk := Dd.nx } σ2 H2)
    (hd : ∀ A1 B1 σ' A' B', Pr A H A1 B1 → Pr A1 B1 A' B' → J ds.length σ' A' B' → Dd.nx σ' B') : tFor (iList K tl) g ts Dd σ H := h A H (Ex.refl _) s _ fun v A1 B1 P1 hv => by
  obtain ⟨a, xs, rfl, sq, al⟩ := dp_list hv
  have hlen := dpa_len al
  refine ⟨a, rfl, ⟨xs, ex_l P1.s sq⟩, for_list (xs := xs) (fun i σ' H' => ∃ A', Pr A1 B1 A' H' ∧ J i σ' A' H') ⟨A1, Pr.refl P1.s, h0 A1 B1 P1⟩ (fun i σ' H' _ ⟨A', P, _⟩ => ex_l (P.a.trans P.s) sq) ?_ ?_⟩
  · rintro i x σ' H' hi' ⟨A', P, p⟩
    obtain ⟨d, hdd, hx⟩ := dpa_getV al hi'
    exact hs A1 B1 P1 i d x σ' A' H' hdd P (dp_ex P.a hx) p
  · rintro σ' H' ⟨A', P, p⟩
    rw [hlen] at p
    exact hd A1 B1 σ' A' H' P1 P p
/-- .. over range(n) -/
theorem s_forR {j : Nat} {n : Int} (s : Ex A H) (h : EvAD K tr σ A [.int n]) (hn : -100000 ≤ n ∧ n ≤ 100000) (J : Nat → L2.St → Hp → Hp → Prop) (h0 : ∀ A1 B1, Pr A H A1 B1 → J 0 σ A1 B1)
    (hs : ∀ A1 B1, Pr A H A1 B1 → ∀ (i : Nat) σ' A' B', (i : Int) < n → Pr A1 B1 A' B' → J i σ' A' B' →
      ts { Dd with nx := fun σ3 H3 => ∃ A3, Pr A1 B1 A3 H3 ∧ J (i + 1) σ3 A3 H3, ct := fun σ3 H3 => ∃ A3, Pr A1 B1 A3 H3 ∧ J (i + 1) σ3 A3 H3, bk := Dd.nx } (σ'.set j (some (.int (i : Int)))) B')
    (hd : ∀ A1 B1 σ' A' B', Pr A H A1 B1 → Pr A1 B1 A' B' → J n.toNat σ' A' B' → Dd.nx σ' B') : tFor (iRng1 tr) (gName j) ts Dd σ H := h A H (Ex.refl _) s _ fun vs A1 B1 P1 hv => by
  obtain ⟨v, rfl, hv1⟩ := dpa1 hv
  cases hv1
  refine ⟨n, rfl, by omega, by omega, for_range (lo := 0) (n := n.toNat) (fun i σ' H' => ∃ A', Pr A1 B1 A' H' ∧ J i σ' A' H') ⟨A1, Pr.refl P1.s, h0 A1 B1 P1⟩ ?_ ?_⟩
  · rintro i σ' H' hi ⟨A', P, p⟩
    have e0 : (0 : Int) + (i : Int) = (i : Int) := Int.zero_add _
    show ts _ (σ'.set j (some (.int ((0 : Int) + (i : Int))))) H'
    rw [e0]
    exact hs A1 B1 P1 i σ' A' H' (by omega) P p
  · rintro σ' H' ⟨A', P, p⟩
    exact hd A1 B1 σ' A' H' P1 P p
/-- the turns of range(lo, hi, c) -/
def rgN (lo hi c : Int) : Nat := (if lo < hi then (hi - lo - 1) / c + 1 else 0).toNat
theorem rgN_lt {lo hi c : Int} (hc : 0 < c) {i : Nat} (h : i < rgN lo hi c) : lo + i * c < hi := by
  unfold rgN at h
  split at h
  · rename_i q
    have z0 : 0 ≤ (hi - lo - 1) / c := Int.ediv_nonneg (by omega) (by omega)
    have z1 : (i : Int) ≤ (hi - lo - 1) / c := by omega
    have z3 : (i : Int) * c ≤ hi - lo - 1 := (Int.le_ediv_iff_mul_le hc).mp z1
    omega
  · simp at h
theorem rgc_up {lo hi c : Int} (hc : 0 < c) (hc2 : c < 1000) (h1 : -100000 ≤ lo ∧ lo ≤ 100000) (h2 : -100000 ≤ hi ∧ hi ≤ 100000) : RgC lo hi c (rgN lo hi c) := by
  have e : Builtin.Range.rangeSize lo hi c = (rgN lo hi c : Int) := by
    unfold Builtin.Range.rangeSize rgN
    rw [if_pos (by omega)]
    split
    · have z0 : 0 ≤ (hi - lo - 1) / c := Int.ediv_nonneg (by omega) (by omega)
      omega
    · rfl
  have hn : (rgN lo hi c : Int) ≤ 200000 := by
    unfold rgN
    split
    · have z0 : 0 ≤ (hi - lo - 1) / c := Int.ediv_nonneg (by omega) (by omega)
      have z1 : (hi - lo - 1) / c ≤ hi - lo - 1 := Int.ediv_le_self _ (by omega)
      omega
    · simp
  refine ⟨by omega, by omega, ?_, e⟩
  unfold Builtin.Range.small
  rw [e]
  simp only [Builtin.Range.rangeFitsLong, Bool.and_eq_true, Bool.or_eq_true, decide_eq_true_eq, beq_iff_eq]
  refine ⟨⟨⟨⟨⟨by omega, by omega⟩, by omega, by omega⟩, by omega, by omega⟩, by omega, by omega⟩, .inr ?_⟩
  rw [if_pos hc, Bool.and_eq_true, decide_eq_true_eq, decide_eq_true_eq]
  omega
/-- .. over range(lo, hi, c), c a small positive number -/
theorem s_forR3 {j : Nat} {lo hi c : Int} (s : Ex A H) (h : EvAD K tr σ A [.int lo, .int hi, .int c]) (hc : 0 < c ∧ c < 1000) (hn : -100000 ≤ lo ∧ lo ≤ 100000 ∧ -100000 ≤ hi ∧ hi ≤ 100000) (J : Nat → L2.St → Hp → Hp → Prop) (h0 : ∀ A1 B1, Pr A H A1 B1 → J 0 σ A1 B1)
    (hs : ∀ A1 B1, Pr A H A1 B1 → ∀ (i : Nat) σ' A' B', lo + i * c < hi → Pr A1 B1 A' B' → J i σ' A' B' →
      ts { Dd with nx := fun σ3 H3 => ∃ A3, Pr A1 B1 A3 H3 ∧ J (i + 1) σ3 A3 H3, ct := fun σ3 H3 => ∃ A3, Pr A1 B1 A3 H3 ∧ J (i + 1) σ3 A3 H3, bk := Dd.nx } (σ'.set j (some (.int (lo + (i : Nat) * c)))) B')
    (hd : ∀ A1 B1 σ' A' B', Pr A H A1 B1 → Pr A1 B1 A' B' → J (rgN lo hi c) σ' A' B' → Dd.nx σ' B') : tFor (iRng3 tr) (gName j) ts Dd σ H := h A H (Ex.refl _) s _ fun vs A1 B1 P1 hv => by
  obtain ⟨v1, v2, v3, rfl, hv1, hv2, hv3⟩ := dpa3 hv
  cases hv1; cases hv2; cases hv3
  refine ⟨lo, hi, c, _, rfl, rgc_up hc.1 hc.2 ⟨by omega, by omega⟩ ⟨by omega, by omega⟩, for_it (walk_rangeC (lo := lo) (c := c) (n := rgN lo hi c)) (fun i σ' H' => ∃ A', Pr A1 B1 A' H' ∧ J i σ' A' H') ⟨A1, Pr.refl P1.s, h0 A1 B1 P1⟩ (fun _ _ _ _ _ => trivial) ?_ ?_⟩
  · rintro i x σ' H' H'' hi' ⟨A', P, p⟩ ⟨rfl, rfl⟩
    exact hs A1 B1 P1 i σ' A' H'' (rgN_lt hc.1 hi') P p
  · rintro σ' H' ⟨A', P, p⟩
    exact hd A1 B1 σ' A' H' P1 P p
/-! ### lists that grow: owned ones, not yet data -/
theorem Pr.mut {A B A' B' : Hp} {l : Addr} {o : HO} (P : Pr A B A' B') (hB : B l = none) (hA : A' l = none) : Pr A B A' (upd B' l o) :=
  ⟨P.a, Ex.mut P.b hB, Ex.mut P.s hA, P.n⟩
theorem Ex.frz {A B : Hp} {l : Addr} {o : HO} (s : Ex A B) (hB : B l = some o) : Ex (upd A l o) B := fun x u z => by
  by_cases w : x = l
  · subst w; rw [upd_same] at z; rw [hB]; exact z
  · rw [upd_ne w] at z; exact s x u z
/-- an owned list becomes a datum -/
theorem Pr.frz {A B A' B' : Hp} {l : Addr} {o : HO} (P : Pr A B A' B') (hB : B l = none) (hA : A' l = none) (h : B' l = some o) : Pr A B (upd A' l o) B' :=
  ⟨P.a.trans (Ex.new hA), P.b, Ex.frz P.s h, fun x y z => by rw [upd_ne (fun (w : x = l) => z (by rw [w]; exact hB))]; exact P.n x y z⟩
theorem Pr.owned {A B A' B' : Hp} {l : Addr} (P : Pr A B A' B') (hA : A l = none) {o : HO} (h : B l = some o) : A' l = none ∧ B' l = some o :=
  ⟨P.n l hA (by rw [h]; simp), P.b _ _ h⟩
theorem s_appD {i : Nat} {l : Addr} (s : Ex A H) (hi : σ[i]? = some (some (.ref l))) (hl : H l = some (.lst xs)) (hz : xs.length < 100000) (h : EvD K te σ A d)
    (k : ∀ v A' B', Pr A H A' B' → Dp K A' v d → Dd.nx σ (upd B' l (.lst (xs ++ [v])))) : tDrop (tBM K "list" rAppend (tVar i) (tCons te tNil)) Dd σ H :=
  ⟨.ref l, hi, .inl ⟨rfl, xs, sq_of hl⟩, h A H (Ex.refl _) s _ fun v A' B' P hv => ⟨l, xs, v, rfl, rfl, P.b _ _ hl, sz_lt hz, k v A' B' P hv⟩⟩
/-- loops with an owned list: J tells all -/
theorem s_forR3x {j : Nat} {lo hi c : Int} (s : Ex A H) (h : EvAD K tr σ A [.int lo, .int hi, .int c]) (hc : 0 < c ∧ c < 1000) (hn : -100000 ≤ lo ∧ lo ≤ 100000 ∧ -100000 ≤ hi ∧ hi ≤ 100000) (J : Nat → L2.St → Hp → Prop) (h0 : ∀ A1 B1, Pr A H A1 B1 → J 0 σ B1)
    (hs : ∀ (i : Nat) σ' B', lo + i * c < hi → J i σ' B' → ts { Dd with nx := J (i + 1), ct := J (i + 1), bk := Dd.nx } (σ'.set j (some (.int (lo + (i : Nat) * c)))) B')
    (hd : ∀ σ' B', J (rgN lo hi c) σ' B' → Dd.nx σ' B') : tFor (iRng3 tr) (gName j) ts Dd σ H := h A H (Ex.refl _) s _ fun vs A1 B1 P1 hv => by
  obtain ⟨v1, v2, v3, rfl, hv1, hv2, hv3⟩ := dpa3 hv
  cases hv1; cases hv2; cases hv3
  refine ⟨lo, hi, c, _, rfl, rgc_up hc.1 hc.2 ⟨by omega, by omega⟩ ⟨by omega, by omega⟩, for_it (walk_rangeC (lo := lo) (c := c) (n := rgN lo hi c)) J (h0 A1 B1 P1) (fun _ _ _ _ _ => trivial) ?_ hd⟩
  rintro i x σ' H' H'' hi' p ⟨rfl, rfl⟩
  exact hs i σ' H'' (rgN_lt hc.1 hi') p
/-- for a, b in zip(list, list) -/
theorem s_forZ {i j : Nat} (s : Ex A H) (h : EvAD K tr σ A [.list ds, .list es]) (J : Nat → L2.St → Hp → Hp → Prop) (h0 : ∀ A1 B1, Pr A H A1 B1 → J 0 σ A1 B1)
    (hs : ∀ A1 B1, Pr A H A1 B1 → ∀ t d e v w σ' A' B', ds[t]? = some d → es[t]? = some e → Pr A1 B1 A' B' → Dp K A' v d → Dp K A' w e → J t σ' A' B' →
      ∀ B2, Pu A' B' B2 → ts { Dd with nx := fun σ3 H3 => ∃ A3, Pr A1 B1 A3 H3 ∧ J (t + 1) σ3 A3 H3, ct := fun σ3 H3 => ∃ A3, Pr A1 B1 A3 H3 ∧ J (t + 1) σ3 A3 H3, bk := Dd.nx } ((σ'.set i (some v)).set j (some w)) B2)
    (hd : ∀ A1 B1 σ' A' B', Pr A H A1 B1 → Pr A1 B1 A' B' → J (min ds.length es.length) σ' A' B' → Dd.nx σ' B') : tFor (iZip K tr) (gTup K 2 (gCons (gName i) (gCons (gName j) gNil))) ts Dd σ H := h A H (Ex.refl _) s _ fun vs A1 B1 P1 hv => by
  obtain ⟨v1, v2, rfl, hv1, hv2⟩ := dpa2 hv
  obtain ⟨a, xs, rfl, sq, al⟩ := dp_list hv1
  obtain ⟨b, ys, rfl, sq2, al2⟩ := dp_list hv2
  refine ⟨a, b, xs, ys, rfl, ex_l P1.s sq, ex_l P1.s sq2, for_it (walk_zip (xs := xs) (ys := ys) (n := min ds.length es.length) (by rw [dpa_len al, dpa_len al2])) (fun i σ' H' => ∃ A', Pr A1 B1 A' H' ∧ J i σ' A' H') ⟨A1, Pr.refl P1.s, h0 A1 B1 P1⟩ (fun i σ' H' _ ⟨A', P, _⟩ => ⟨ex_l (P.a.trans P.s) sq, ex_l (P.a.trans P.s) sq2⟩) ?_ ?_⟩
  · rintro t v σ' H' H'' ht ⟨A', P, p⟩ ⟨T, x, y, rfl, hT, rfl, hx, hy⟩
    obtain ⟨d, hd1, hd2⟩ := dpa_getV al hx
    obtain ⟨e, he1, he2⟩ := dpa_getV al2 hy
    exact ⟨T, [x, y], rfl, st_of upd_same, rfl, x, [y], rfl, y, [], rfl, rfl, hs A1 B1 P1 t d e x y σ' A' H' hd1 he1 P (dp_ex P.a hd2) (dp_ex P.a he2) p _ ⟨P.s, Ex.new hT⟩⟩
  · rintro σ' H' ⟨A', P, p⟩
    exact hd A1 B1 σ' A' H' P1 P p
theorem q_forD {t2 : TS} {g : TG} (s : Ex A H) (h : EvD K tl σ A (.list ds)) (J : Nat → L2.St → Hp → Hp → Prop) (h0 : ∀ A1 B1, Pr A H A1 B1 → J 0 σ A1 B1)
    (hs : ∀ A1 B1, Pr A H A1 B1 → ∀ i d v σ' A' B', ds[i]? = some d → Pr A1 B1 A' B' → Dp K A' v d → J i σ' A' B' →
      g v σ' B' fun σ2 H2 => ts { (go Dd t2) with nx := fun σ3 H3 => ∃ A3, Pr A1 B1 A3 H3 ∧ J (i + 1) σ3 A3 H3, ct := fun σ3 H3 => ∃ A3, Pr A1 B1 A3 H3 ∧ J (i + 1) σ3 A3 H3, bk := t2 Dd } σ2 H2)
    (hd : ∀ A1 B1 σ' A' B', Pr A H A1 B1 → Pr A1 B1 A' B' → J ds.length σ' A' B' → t2 Dd σ' B') : tSeq (tFor (iList K tl) g ts) t2 Dd σ H := s_forD K (Dd := go Dd t2) s h J h0 hs hd
theorem q_forR {t2 : TS} {j : Nat} {n : Int} (s : Ex A H) (h : EvAD K tr σ A [.int n]) (hn : -100000 ≤ n ∧ n ≤ 100000) (J : Nat → L2.St → Hp → Hp → Prop) (h0 : ∀ A1 B1, Pr A H A1 B1 → J 0 σ A1 B1)
    (hs : ∀ A1 B1, Pr A H A1 B1 → ∀ (i : Nat) σ' A' B', (i : Int) < n → Pr A1 B1 A' B' → J i σ' A' B' →
      ts { (go Dd t2) with nx := fun σ3 H3 => ∃ A3, Pr A1 B1 A3 H3 ∧ J (i + 1) σ3 A3 H3, ct := fun σ3 H3 => ∃ A3, Pr A1 B1 A3 H3 ∧ J (i + 1) σ3 A3 H3, bk := t2 Dd } (σ'.set j (some (.int (i : Int)))) B')
    (hd : ∀ A1 B1 σ' A' B', Pr A H A1 B1 → Pr A1 B1 A' B' → J n.toNat σ' A' B' → t2 Dd σ' B') : tSeq (tFor (iRng1 tr) (gName j) ts) t2 Dd σ H := s_forR K (Dd := go Dd t2) s h hn J h0 hs hd
theorem q_forR3 {t2 : TS} {j : Nat} {lo hi c : Int} (s : Ex A H) (h : EvAD K tr σ A [.int lo, .int hi, .int c]) (hc : 0 < c ∧ c < 1000) (hn : -100000 ≤ lo ∧ lo ≤ 100000 ∧ -100000 ≤ hi ∧ hi ≤ 100000) (J : Nat → L2.St → Hp → Hp → Prop) (h0 : ∀ A1 B1, Pr A H A1 B1 → J 0 σ A1 B1)
    (hs : ∀ A1 B1, Pr A H A1 B1 → ∀ (i : Nat) σ' A' B', lo + i * c < hi → Pr A1 B1 A' B' → J i σ' A' B' →
      ts { (go Dd t2) with nx := fun σ3 H3 => ∃ A3, Pr A1 B1 A3 H3 ∧ J (i + 1) σ3 A3 H3, ct := fun σ3 H3 => ∃ A3, Pr A1 B1 A3 H3 ∧ J (i + 1) σ3 A3 H3, bk := t2 Dd } (σ'.set j (some (.int (lo + (i : Nat) * c)))) B')
    (hd : ∀ A1 B1 σ' A' B', Pr A H A1 B1 → Pr A1 B1 A' B' → J (rgN lo hi c) σ' A' B' → t2 Dd σ' B') : tSeq (tFor (iRng3 tr) (gName j) ts) t2 Dd σ H := s_forR3 K (Dd := go Dd t2) s h hc hn J h0 hs hd
theorem q_forR3x {t2 : TS} {j : Nat} {lo hi c : Int} (s : Ex A H) (h : EvAD K tr σ A [.int lo, .int hi, .int c]) (hc : 0 < c ∧ c < 1000) (hn : -100000 ≤ lo ∧ lo ≤ 100000 ∧ -100000 ≤ hi ∧ hi ≤ 100000) (J : Nat → L2.St → Hp → Prop) (h0 : ∀ A1 B1, Pr A H A1 B1 → J 0 σ B1)
    (hs : ∀ (i : Nat) σ' B', lo + i * c < hi → J i σ' B' → ts { (go Dd t2) with nx := J (i + 1), ct := J (i + 1), bk := t2 Dd } (σ'.set j (some (.int (lo + (i : Nat) * c)))) B')
    (hd : ∀ σ' B', J (rgN lo hi c) σ' B' → t2 Dd σ' B') : tSeq (tFor (iRng3 tr) (gName j) ts) t2 Dd σ H := s_forR3x K (Dd := go Dd t2) s h hc hn J h0 hs hd
theorem q_forZ {t2 : TS} {i j : Nat} (s : Ex A H) (h : EvAD K tr σ A [.list ds, .list es]) (J : Nat → L2.St → Hp → Hp → Prop) (h0 : ∀ A1 B1, Pr A H A1 B1 → J 0 σ A1 B1)
    (hs : ∀ A1 B1, Pr A H A1 B1 → ∀ t d e v w σ' A' B', ds[t]? = some d → es[t]? = some e → Pr A1 B1 A' B' → Dp K A' v d → Dp K A' w e → J t σ' A' B' →
      ∀ B2, Pu A' B' B2 → ts { (go Dd t2) with nx := fun σ3 H3 => ∃ A3, Pr A1 B1 A3 H3 ∧ J (t + 1) σ3 A3 H3, ct := fun σ3 H3 => ∃ A3, Pr A1 B1 A3 H3 ∧ J (t + 1) σ3 A3 H3, bk := t2 Dd } ((σ'.set i (some v)).set j (some w)) B2)
    (hd : ∀ A1 B1 σ' A' B', Pr A H A1 B1 → Pr A1 B1 A' B' → J (min ds.length es.length) σ' A' B' → t2 Dd σ' B') : tSeq (tFor (iZip K tr) (gTup K 2 (gCons (gName i) (gCons (gName j) gNil))) ts) t2 Dd σ H := s_forZ K (Dd := go Dd t2) s h J h0 hs hd
variable {K}
/-! ### shapes of data -/
def ShN (n : Nat) (d : D) : Prop := d.canLay0 = true ∧ d.depth ≤ n
theorem shn_int {n : Nat} {i : Int} : ShN n (.int i) := ⟨rfl, Nat.zero_le _⟩
theorem shn_bl {n : Nat} {i : Bool} : ShN n (.bool i) := ⟨rfl, Nat.zero_le _⟩
theorem shn_non {n : Nat} : ShN n .none := ⟨rfl, Nat.zero_le _⟩
theorem shn_all {n : Nat} : ∀ {ds : List D}, (∀ d ∈ ds, ShN n d) → PyData.canLayAll0 ds = true ∧ PyData.depthAll ds ≤ n
  | [], _ => ⟨rfl, Nat.zero_le _⟩
  | d :: ds, h => by
    obtain ⟨a, b⟩ := h d List.mem_cons_self
    obtain ⟨c, e⟩ := shn_all (ds := ds) fun x hx => h x (List.mem_cons_of_mem _ hx)
    refine ⟨?_, ?_⟩
    · show (d.canLay0 && PyData.canLayAll0 ds) = true
      rw [a, c]; rfl
    · show max d.depth (PyData.depthAll ds) ≤ n
      omega
theorem shn_tup {n : Nat} (h : ∀ d ∈ ds, ShN n d) : ShN (n + 1) (.tuple ds) := by
  obtain ⟨a, b⟩ := shn_all h
  exact ⟨a, Nat.succ_le_succ b⟩
theorem shn_list {n : Nat} (h : ∀ d ∈ ds, ShN n d) : ShN (n + 1) (.list ds) := by
  obtain ⟨a, b⟩ := shn_all h
  exact ⟨a, Nat.succ_le_succ b⟩
theorem ShN.sh {n : Nat} (h : ShN n d) (hn : n ≤ 64) : SeqAt.shaped d = true := by
  unfold SeqAt.shaped
  rw [h.1, decide_eq_true (Nat.le_trans h.2 hn)]
  rfl
theorem eqv_refl (h : SeqAt.shaped d = true) : PyData.eqv d d = true := by
  have := (Bool.and_eq_true_iff.mp h).1
  exact SeqAt.eqv_refl d this
/-! ## promises over data -/
/-- to such arguments such an answer -/
def SpD (K : PySem.W.Frag) (sp : Sp) (ds : List D) (d : D) : Prop := ∀ A B vs Q E, Ex A B → DpAll K A vs ds → (∀ v A' B', Pr A B A' B' → Dp K A' v d → Q v B') → sp vs B Q E
theorem ed_call {sp : Sp} {E : XK} (h : EvAD K tr σ H ds) (hs : SpD K sp ds d) : EvD K (tCall sp [] E tr) σ H d := fun A B e s Q q => h A B e s _ fun vs A2 B2 P2 ha => by
  show sp (vs ++ []) B2 Q E
  rw [List.append_nil]
  exact hs A2 B2 vs Q E P2.s ha fun v A3 B3 P3 => q v A3 B3 (P2.trans P3)
end
/-- the promise of a def whose answer is the datum res x, to the arguments args x -/
def spF (K : PySem.W.Frag) {α : Type} (args : α → List D) (ok : α → Prop) (res : α → D) : Sp := fun vs H Q _ => ∃ A x, ok x ∧ Ex A H ∧ DpAll K A vs (args x) ∧ ∀ v A' B', Pr A H A' B' → Dp K A' v (res x) → Q v B'
theorem spF_len {K : PySem.W.Frag} {α : Type} {args : α → List D} {ok : α → Prop} {res : α → D} {vs : List V} {H : Hp} {Q : VK} {E : XK} {n : Nat} (h : spF K args ok res vs H Q E) (hl : ∀ x, (args x).length = n) : vs.length = n := by
  obtain ⟨A, x, _, _, ha, _⟩ := h
  rw [dpa_len ha, hl x]
theorem spF_at {K : PySem.W.Frag} {α : Type} {args : α → List D} {ok : α → Prop} {res : α → D} (x : α) (h : ok x) : SpD K (spF K args ok res) (args x) (res x) := fun A _ _ _ _ s ha k => ⟨A, x, h, s, ha, k⟩
theorem cx_K {CX : CXT} {P : Program} {w : World} {K : PySem.W.Frag} {mg : Str → Option Value} {base : Heap} {N : List Str} {qual : Str} {scope : Scope} {f : Addr} {cd : Value} {A : Around} {outer : List Env} {s : Shared} {H : Hp} {E : XK} :
    (cxOf CX P w K mg base N qual scope f cd A outer s H E).nox.K = K := rfl
/-- one def of the text, ready to be called by its name -/
def DefOk (P : Program) (w : World) (K : PySem.W.Frag) (mg : Str → Option Value) (base : Heap) (CX : CXT) (k : Nat) (x : Str) (ps : List Str) (sp : Sp) : Prop :=
  ∃ f fd, mg x = some (.ref f) ∧ PySem.W.keepIn K (.ref f) = true ∧ Binds K fd ps [] ∧ FnOk P w K mg base CX k f fd ps sp
/-- what the top says of a def -/
structure DefAt (K : PySem.W.Frag) (mg : Str → Option Value) (x : Str) (st : Stmt) (ps : List Str) (f : Addr) (fd : FuncData) : Prop where
  F : Fun K x x st f fd
  g : mg x = some (.ref f)
  b : Binds K fd ps []
theorem DefAt.ok {P : Program} {w : World} {K : PySem.W.Frag} {mg : Str → Option Value} {base : Heap} {CX : CXT} {k : Nat} {x : Str} {st : Stmt} {ps : List Str} {f : Addr} {fd : FuncData} {sp : Sp} (d : DefAt K mg x st ps f fd) (h : FnOk P w K mg base CX k f fd ps sp) : DefOk P w K mg base CX k x ps sp :=
  ⟨f, fd, d.g, d.F.kp, d.b, h⟩
section
variable {X : Cx} {CX : CXT} {k : Nat} {x : Str} {ps : List Str} {sp : Sp} {E : XK} {p pos : Pos} {e : Expr} {es : List Expr} {t : TA}
theorem pe_cd (G : DefOk X.prog X.w X.K X.mg X.base CX k x ps sp) (hr : Room k X.A) (hg : Gl X x) (hx : Passes CX X E) (ha : PA X (e :: es) t) (hdb : (x == ("__debug__" : Str)) = false := by decide)
    (he : starEach (e :: es) X.env = (false, eval e X.env) :: starEach es X.env := by rfl) (hpl : (backTo pos (starEach es X.env)).any (·.1) = false := by rfl) : PE X (.Call (.Name x p) (e :: es) [] pos) (tCall sp [] E t) := by
  obtain ⟨f, fd, h1, h2, h3, h4⟩ := G
  exact pe_call h4 hr hg h1 h2 h3 .nil hx ha hdb he hpl
theorem pe_ty {T : String} (hg : Gl X x) (hm : X.mg x = none) (hv : bootBuiltins x = some (.type T)) (hn : x ≠ "__name__" := by decide) (hd : (x == ("__debug__" : Str)) = false := by decide) : PE X (.Name x p) (tC (.ty T)) :=
  pe_bltn (v := .ty T) hg hm hv rfl hn hd
/-! built-in words, the written part a letter -/
section
variable {K : PySem.W.Frag}
theorem ixT (h : X.K = K) : IxR X (rIxT K) := h ▸ ix_tup
theorem ixL (h : X.K = K) : IxR X (rIxL K) := h ▸ ix_list
theorem slL (h : X.K = K) : SlR X (rSlL K) := h ▸ sl_list
theorem o_eqD (h : X.K = K) (hu : X.A.units + 64 < cLine) : OpR X (compareOp .Eq) (rEqD K) := h ▸ op_eqD hu
theorem o_neD (h : X.K = K) (hu : X.A.units + 64 < cLine) : OpR X (compareOp .NotEq) (rNeD K) := h ▸ op_neD hu
theorem o_in (h : X.K = K) : OpR X (compareOp .In) (rIn K false) := h ▸ op_in_seq
theorem o_notIn (h : X.K = K) : OpR X (compareOp .NotIn) (rIn K true) := h ▸ op_notIn_seq
theorem c_len (h : X.K = K) : CallR X (.builtin "len") (rLenS K) := h ▸ call_len_seq
theorem c_list (h : X.K = K) : CallR X (.type "list") (rListS K) := h ▸ call_list_of
theorem c_isi (h : X.K = K) : CallR X (.builtin "isinstance") (rIsi K) := h ▸ call_isi
theorem c_max (h : X.K = K) (hc : X.calm = true) : CallR X (.builtin "max") (rMax K) := h ▸ cr_max hc
theorem c_all (h : X.K = K) (hc : X.calm = true) : CallR X (.builtin "all") (rAll K) := h ▸ cr_all hc
end
end
end Ob

/-! ## the tactics: ed (EvD), ea (EvAD), en (EvN), ek (EvK), eo (EvO), et (EvT), dp (Dp), pr (Pr), at (atI), fn (a def's promise), sz (sizes) -/
open PySem L2 Evl Ob
local macro_rules | `(tactic| tm_at "sz") => `(tactic| first | decide | (simp only [List.length_cons, List.length_nil]; decide) | omega | assumption)
local macro_rules | `(tactic| tm_at "at") => `(tactic| first | assumption | exact rfl)
local macro_rules | `(tactic| tm_at "cc") => `(tactic| first | (exact ⟨by decide, by decide⟩) | (show (0 : Int) < _; decide) | (exact ⟨by decide, by decide, by decide⟩) | assumption)
local macro_rules | `(tactic| tm_at "exa") => `(tactic| first | exact Ex.refl _ | assumption | exact Pr.a (by assumption) | (refine Ex.trans ?_ (Pr.a (by assumption)); tm_at "exa") | (refine Ex.trans ?_ (by assumption); tm_at "exa"))
local macro_rules | `(tactic| tm_at "dp") => `(tactic| first | assumption | exact Dp.int _ | exact Dp.bl _ | exact Dp.str _ | exact Dp.non | (refine dp_ex ?e (by assumption); tm_at "exa"))
local macro_rules | `(tactic| tm_at "pr") => `(tactic| first | assumption | exact Pu.pr (by assumption) | (with_reducible exact Pr.refl (by first | assumption | exact Pr.s (by assumption) | exact Pu.s (by assumption))) | (refine Pr.trans ?_ (by assumption); tm_at "pr") | (refine Pr.trans ?_ (Pu.pr (by assumption)); tm_at "pr"))
local macro_rules | `(tactic| tm_at "exs") => `(tactic| first | assumption | exact Pr.s (by assumption) | exact Pu.s (by assumption))
local macro_rules | `(tactic| tm_at "sh") => `(tactic| first | assumption | exact rfl)
local macro_rules | `(tactic| tm_at "fn") => `(tactic| fail)
local macro_rules | `(tactic| tm_at "ki") => `(tactic| first | exact ki_ii | exact ki_ib | exact ki_bb | exact ki_bi | exact ki_nb | exact ki_sb | exact ki_lb | exact ki_tb | exact ki_ni | exact ki_si | exact ki_li | exact ki_ti | exact ki_tt | exact ki_lt | exact ki_st | exact ki_it | exact ki_bt | exact ki_nt | exact ki_ll | exact ki_tl | exact ki_sl | exact ki_nl | exact ki_il | exact ki_bl | exact ki_ss | exact ki_ts | exact ki_ls | exact ki_ns | exact ki_is | exact ki_bs)
local macro_rules | `(tactic| tm_at "ea") => `(tactic| first | exact ea_nilD | (apply ea_consD; tm_at "ed"; tm_at "ea"))
local macro_rules | `(tactic| tm_at "eo") => `(tactic| first | exact eo_noneD | (apply eo_someD; tm_at "ed"))
local macro_rules | `(tactic| tm_at "ek") => `(tactic| first | (apply ek_n; tm_at "en") | (apply ek_var; exact rfl; assumption; assumption))
local macro_rules | `(tactic| tm_at "en") => `(tactic| first
  | ((with_reducible apply en_lst); tm_at "ea"; tm_at "sz")
  | ((with_reducible apply en_cat); tm_at "ek"; tm_at "ek"; tm_at "sz")
  | ((with_reducible apply en_slice); tm_at "ed"; tm_at "eo"; tm_at "eo")
  | ((with_reducible apply en_listof); tm_at "ed"))
local macro_rules | `(tactic| tm_at "et") => `(tactic| first
  | ((with_reducible exact et_yes))
  | ((with_reducible apply et_D); tm_at "ed")
  | ((with_reducible apply et_DB); tm_at "ed")
  | ((with_reducible apply et_not); tm_at "et")
  | ((with_reducible apply et_and); tm_at "et"; intro h; first | (exact et_abs h (by decide)) | tm_at "et")
  | ((with_reducible apply et_or); tm_at "et"; intro h; first | (exact et_abs h (by decide)) | tm_at "et"))
local macro_rules | `(tactic| tm_at "ed") => `(tactic| first
  | ((with_reducible apply ed_var); exact rfl; tm_at "dp")
  | ((with_reducible exact ed_int))
  | ((with_reducible exact ed_str))
  | ((with_reducible exact ed_bl))
  | ((with_reducible exact ed_non))
  | ((with_reducible apply ed_Ii); tm_at "ed"; tm_at "ed")
  | ((with_reducible apply ed_Ib); tm_at "ed"; tm_at "ed")
  | ((with_reducible apply ed_Ic); tm_at "ed"; tm_at "ed"; tm_at "cc")
  | ((with_reducible apply ed_ixT); tm_at "ed"; tm_at "ed"; tm_at "at")
  | ((with_reducible apply ed_ixL); tm_at "ed"; tm_at "ed"; tm_at "at")
  | ((with_reducible apply ed_eqi); tm_at "ed"; tm_at "ed")
  | ((with_reducible apply ed_nei); tm_at "ed"; tm_at "ed")
  | ((with_reducible apply ed_eqs); tm_at "ed"; tm_at "ed")
  | ((with_reducible apply ed_nes); tm_at "ed"; tm_at "ed")
  | ((with_reducible apply ed_eqb); tm_at "ed"; tm_at "ed")
  | ((with_reducible apply ed_neb); tm_at "ed"; tm_at "ed")
  | ((with_reducible apply ed_eqD); tm_at "ed"; tm_at "ed"; tm_at "sh"; tm_at "sh")
  | ((with_reducible apply ed_neD); tm_at "ed"; tm_at "ed"; tm_at "sh"; tm_at "sh")
  | ((with_reducible apply ed_and); tm_at "ed"; intro h; first | (exact ed_abs h (by decide)) | tm_at "ed")
  | ((with_reducible apply ed_or); tm_at "ed"; intro h; first | (exact ed_abs h (by decide)) | tm_at "ed")
  | ((with_reducible apply ed_not); tm_at "ed")
  | ((with_reducible apply ed_isi); tm_at "ed"; tm_at "ki")
  | ((with_reducible apply ed_tup); tm_at "ea"; tm_at "sz")
  | ((with_reducible apply ed_call); tm_at "ea"; tm_at "fn")
  | ((with_reducible apply ed_len); tm_at "ed")
  | ((with_reducible apply ed_lenT); tm_at "ed")
  | ((with_reducible apply ed_all); tm_at "ed")
  | (apply ed_n; tm_at "en"))

namespace K1
open PySem L2 Evl Ob
def top (i : Nat) : Stmt := PySem.Challenge.pw_onebell_k01_marks_in_order.main.body.getD i (.Pass ⟨0, 0, 0, 0⟩)
abbrev Mk := Int × Int
abbrev mkD (m : Mk) : D := .tuple [.int m.1, .int m.2]
-- less  slots: 0=one 1=other
abbrev s_less : Stmt := top 1
theorem sc_less : FnScope ["one", "other"] ["one", "other"] (defScope s_less) := ⟨rfl, rfl, rfl, by decide +kernel, rfl, by decide +kernel, by decide +kernel⟩
-- greatest  slots: 0=marks 1=found 2=mark
abbrev s_greatest : Stmt := top 2
theorem sc_greatest : FnScope ["marks", "found", "mark"] ["marks"] (defScope s_greatest) := ⟨rfl, rfl, rfl, by decide +kernel, rfl, by decide +kernel, by decide +kernel⟩
-- _law_whole  slots: 0=_law_found
abbrev s_law_whole : Stmt := top 4
theorem sc_law_whole : FnScope ["_law_found"] ["_law_found"] (defScope s_law_whole) := ⟨rfl, rfl, rfl, by decide +kernel, rfl, by decide +kernel, by decide +kernel⟩
-- _law_cell_at  slots: 0=_law_script 1=_law_k
abbrev s_law_cell_at : Stmt := top 5
theorem sc_law_cell_at : FnScope ["_law_script", "_law_k"] ["_law_script", "_law_k"] (defScope s_law_cell_at) := ⟨rfl, rfl, rfl, by decide +kernel, rfl, by decide +kernel, by decide +kernel⟩
-- _law_mark  slots: 0=_law_found
abbrev s_law_mark : Stmt := top 6
theorem sc_law_mark : FnScope ["_law_found"] ["_law_found"] (defScope s_law_mark) := ⟨rfl, rfl, rfl, by decide +kernel, rfl, by decide +kernel, by decide +kernel⟩
-- _law_rows  slots: 0=_law_script 1=_law_rows_here 2=_law_k 3=_law_number
abbrev s_law_rows : Stmt := top 7
theorem sc_law_rows : FnScope ["_law_script", "_law_rows_here", "_law_k", "_law_number"] ["_law_script"] (defScope s_law_rows) := ⟨rfl, rfl, rfl, by decide +kernel, rfl, by decide +kernel, by decide +kernel⟩
-- _law_great  slots: 0=_law_rows_here 1=_law_number 2=_law_mark_here
abbrev s_law_great : Stmt := top 8
theorem sc_law_great : FnScope ["_law_rows_here", "_law_number", "_law_mark_here"] ["_law_rows_here"] (defScope s_law_great) := ⟨rfl, rfl, rfl, by decide +kernel, rfl, by decide +kernel, by decide +kernel⟩
-- _law_asked  slots: 0=_law_rows_here 1=_law_handed 2=_law_found
abbrev s_law_asked : Stmt := top 9
theorem sc_law_asked : FnScope ["_law_rows_here", "_law_handed", "_law_found"] ["_law_rows_here"] (defScope s_law_asked) := ⟨rfl, rfl, rfl, by decide +kernel, rfl, by decide +kernel, by decide +kernel⟩
-- law  slots: 0=_law_script 1=_law_rows_here 2=_law_one 3=_law_other 4=_law_due 5=_law_back 6=_law_told 7=_law_found
abbrev s_law : Stmt := top 10
theorem sc_law : FnScope ["_law_script", "_law_rows_here", "_law_one", "_law_other", "_law_due", "_law_back", "_law_told", "_law_found"] ["_law_script"] (defScope s_law) := ⟨rfl, rfl, rfl, by decide +kernel, rfl, by decide +kernel, by decide +kernel⟩
structure Tx (K : PySem.W.Frag) (mg : Str → Option Value) : Prop where
  d_less : ∃ f fd, DefAt K mg "less" s_less ["one", "other"] f fd
  d_greatest : ∃ f fd, DefAt K mg "greatest" s_greatest ["marks"] f fd
  d_law_whole : ∃ f fd, DefAt K mg "_law_whole" s_law_whole ["_law_found"] f fd
  d_law_cell_at : ∃ f fd, DefAt K mg "_law_cell_at" s_law_cell_at ["_law_script", "_law_k"] f fd
  d_law_mark : ∃ f fd, DefAt K mg "_law_mark" s_law_mark ["_law_found"] f fd
  d_law_rows : ∃ f fd, DefAt K mg "_law_rows" s_law_rows ["_law_script"] f fd
  d_law_great : ∃ f fd, DefAt K mg "_law_great" s_law_great ["_law_rows_here"] f fd
  d_law_asked : ∃ f fd, DefAt K mg "_law_asked" s_law_asked ["_law_rows_here"] f fd
  mn_isinstance : mg "isinstance" = none
  mn_int : mg "int" = none
  mn_bool : mg "bool" = none
  mn_len : mg "len" = none
  mn_tuple : mg "tuple" = none
  mn_range : mg "range" = none
  mn_max : mg "max" = none
  mn_list : mg "list" = none
  mn_zip : mg "zip" = none
  mn_all : mg "all" = none
section
variable {P : Program} {w : World} {K : PySem.W.Frag} {mg : Str → Option Value} {base : Heap}
def mless (a b : Mk) : Bool := decide (a.1 < b.1) || (a.1 == b.1 && decide (a.2 < b.2))
def sp_less (K : PySem.W.Frag) : Sp := spF K (fun x : Mk × Mk => [mkD x.1, mkD x.2]) (fun _ => True) (fun x => .bool (mless x.1 x.2))
theorem at_less (a b : Mk) : SpD K (sp_less K) [mkD a, mkD b] (.bool (mless a b)) := spF_at (a, b) trivial
theorem ok_less (T : Tx K mg) : DefOk P w K mg base CX0 1 "less" ["one", "other"] (sp_less K) := by
  obtain ⟨f, fd, d⟩ := T.d_less
  refine d.ok (d.F.ok sc_less (fun vs H Q E h => spF_len h fun _ => rfl) fun cdv A outer s H vs Q E hr h => ?_)
  obtain ⟨A0, ⟨a, b⟩, _, s0, ha, k⟩ := h
  obtain ⟨v1, v2, rfl, h1, h2⟩ := dpa2 ha
  have nd := sc_less.nd
  refine ⟨_, (pss_one (ps_ret (pe_or (pe_cmpR op_lt (pe_ix (ixT (K := K) rfl) (pv 0) pe_int (fun _ _ => rfl)) (pe_ix (ixT (K := K) rfl) (pv 1) pe_int (fun _ _ => rfl)) (nomark _)) (pe_one (pe_and (pe_cmpR op_eq (pe_ix (ixT (K := K) rfl) (pv 0) pe_int (fun _ _ => rfl)) (pe_ix (ixT (K := K) rfl) (pv 1) pe_int (fun _ _ => rfl)) (nomark _)) (pe_one (pe_cmpR op_lt (pe_ix (ixT (K := K) rfl) (pv 0) pe_int (fun _ _ => rfl)) (pe_ix (ixT (K := K) rfl) (pv 1) pe_int (fun _ _ => rfl)) (nomark _)))))))), ?_⟩
  try dsimp only [cx_K]
  exact s_retK K s0 (by tm_at "ed") (by rfl) k
end


section
variable {P : Program} {w : World} {K : PySem.W.Frag} {mg : Str → Option Value} {base : Heap}
/-- what greatest computes -/
def mgreat (ms : List Mk) (a : Mk) : Mk := ms.foldl (fun f m => if mless f m then m else f) a
def sp_greatest (K : PySem.W.Frag) : Sp := spF K (fun ms : List Mk => [.list (ms.map mkD)]) (fun ms => ms ≠ []) (fun ms => mkD (mgreat ms (ms.headD (0, 0))))
theorem at_greatest {ms : List Mk} (h : ms ≠ []) : SpD K (sp_greatest K) [.list (ms.map mkD)] (mkD (mgreat ms (ms.headD (0, 0)))) := spF_at ms h
local macro_rules | `(tactic| tm_at "fn") => `(tactic| exact at_less _ _)
theorem at_map {α : Type} (f : α → D) {xs : List α} {i : Nat} {x : α} (h : xs[i]? = some x) : atI (xs.map f) (i : Int) = some (f x) := by
  have hl := (List.getElem?_eq_some_iff.mp h).1
  unfold atI
  rw [show ixN (xs.map f).length (i : Int) = some i from ixN_nat (by rw [List.length_map]; exact hl)]
  show (xs.map f)[i]? = _
  rw [List.getElem?_map, h]
  rfl
theorem ok_greatest (T : Tx K mg) : DefOk P w K mg base CX0 2 "greatest" ["marks"] (sp_greatest K) := by
  obtain ⟨f, fd, d⟩ := T.d_greatest
  refine d.ok (d.F.ok sc_greatest (fun vs H Q E h => spF_len h fun _ => rfl) fun cdv A outer s H vs Q E hr h => ?_)
  obtain ⟨A0, ms, hne, s0, ha, k⟩ := h
  obtain ⟨v1, rfl, h1⟩ := dpa1 ha
  have nd := sc_greatest.nd
  have G_less := ok_less (P := P) (w := w) (base := base) T
  refine ⟨_, (pss_cons (ps_set (i := 1) nd rfl (Or.inl rfl) (pe_ix (ixL (K := K) rfl) (pv 0) pe_int (fun _ _ => rfl)))
      (pss_cons (ps_for PassesOwn.never rfl (pi_list (pv 0)) (pg_name (i := 2) nd rfl (Or.inl rfl)) (pss_one (ps_if (pt_val (pe_cd G_less (hr.mono (by decide)) rfl pass0 (pa_cons (pv 1) (pa_cons (pv 2) pa_nil)))) (pss_one (ps_set (i := 1) nd rfl (Or.inl rfl) (pv 2))) pss_nil)))
      (pss_one (ps_ret (pv 1))))), ?_⟩
  try dsimp only [cx_K]
  have hh : ms[0]? = some (ms.headD (0, 0)) := by cases ms with | nil => exact absurd rfl hne | cons a r => rfl
  have h0 : atI (ms.map mkD) 0 = some (mkD (ms.headD (0, 0))) := at_map mkD hh
  refine q_asgD K s0 (d := mkD (ms.headD (0, 0))) (by tm_at "ed") fun v A1 H1 P1 hv => ?_
  refine s_seq (s_forD K (P1.s) (ds := ms.map mkD) (by tm_at "ed") (fun i σ A' _ => ∃ v v2, σ = [some v1, some v, v2] ∧ Dp K A' v (mkD (mgreat (ms.take i) (ms.headD (0, 0))))) ?_ ?_ ?_)
  · intro A2 B2 P2
    exact ⟨v, none, rfl, by tm_at "dp"⟩
  · rintro A2 B2 P2 i d x σ A3 B3 hd P3 hx ⟨v, v2, rfl, hv⟩
    rw [List.getElem?_map] at hd
    obtain ⟨m, hm, rfl⟩ := Option.map_eq_some_iff.mp hd
    have tk : mgreat (ms.take (i + 1)) (ms.headD (0, 0)) = if mless (mgreat (ms.take i) (ms.headD (0, 0))) m then m else mgreat (ms.take i) (ms.headD (0, 0)) := by
      rw [List.take_succ, hm]; unfold mgreat; rw [List.foldl_append]; rfl
    refine s_ifD P3.s (b := mless (mgreat (ms.take i) (ms.headD (0, 0))) m) (by tm_at "et") (fun hb B4 P4 => ?_) (fun hb B4 P4 => ?_)
    · refine s_asgD K P4.s (d := mkD m) (by tm_at "ed") fun y A5 B5 P5 hy => ?_
      exact ⟨A5, by tm_at "pr", y, some x, rfl, by rw [tk, if_pos hb]; exact hy⟩
    · exact ⟨_, by tm_at "pr", v, some x, rfl, by rw [tk, if_neg (by rw [hb]; decide)]; exact hv⟩
  · rintro A2 B2 σ A3 B3 P2 P3 ⟨v, v2, rfl, hv⟩
    rw [List.length_map, List.take_length] at hv
    exact go_nx (s_retK K P3.s (by tm_at "ed") (by rfl) fun v A' B' P4 hv' => k v A' B' (by tm_at "pr") hv')
end

section
variable {P : Program} {w : World} {K : PySem.W.Frag} {mg : Str → Option Value} {base : Heap}
/-- a whole number, no truth -/
def isW : D → Bool
  | .int _ => true
  | _ => false
def sp_whole (K : PySem.W.Frag) : Sp := spF K (fun d : D => [d]) (fun _ => True) (fun d => .bool (isW d))
theorem at_whole (d : D) : SpD K (sp_whole K) [d] (.bool (isW d)) := spF_at d trivial
theorem ok_whole (T : Tx K mg) : DefOk P w K mg base CX0 1 "_law_whole" ["_law_found"] (sp_whole K) := by
  obtain ⟨f, fd, d⟩ := T.d_law_whole
  refine d.ok (d.F.ok sc_law_whole (fun vs H Q E h => spF_len h fun _ => rfl) fun cdv A outer s H vs Q E hr h => ?_)
  obtain ⟨A0, x, _, s0, ha, k⟩ := h
  obtain ⟨v1, rfl, h1⟩ := dpa1 ha
  have nd := sc_law_whole.nd
  refine ⟨_, (pss_one (ps_ret (pe_and (pe_callB (c_isi (K := K) rfl) rfl T.mn_isinstance (by decide +kernel) (pa_cons (pv 0) (pa_cons (pe_ty (T := "int") rfl T.mn_int (by decide +kernel)) pa_nil))) (pe_one (pe_not (pe_callB (c_isi (K := K) rfl) rfl T.mn_isinstance (by decide +kernel) (pa_cons (pv 0) (pa_cons (pe_ty (T := "bool") rfl T.mn_bool (by decide +kernel)) pa_nil)))))))), ?_⟩
  try dsimp only [cx_K]
  cases x with
  | dict kvs => cases h1
  | none => exact s_retK K s0 (by tm_at "ed") (by rfl) k
  | bool b => exact s_retK K s0 (by tm_at "ed") (by rfl) k
  | int b => exact s_retK K s0 (by tm_at "ed") (by rfl) k
  | str b => exact s_retK K s0 (by tm_at "ed") (by rfl) k
  | list b => exact s_retK K s0 (by tm_at "ed") (by rfl) k
  | tuple b => exact s_retK K s0 (by tm_at "ed") (by rfl) k
/-- a cell of the script, nought behind its end -/
def cell (ns : List Int) (k : Int) : Int := ns.getD k.toNat 0
def sp_cell (K : PySem.W.Frag) : Sp := spF K (fun x : List Int × Int => [.list (x.1.map .int), .int x.2]) (fun x => 0 ≤ x.2) (fun x => .int (cell x.1 x.2))
theorem at_cell {ns : List Int} {k : Int} (h : 0 ≤ k) : SpD K (sp_cell K) [.list (ns.map .int), .int k] (.int (cell ns k)) := spF_at (ns, k) h
theorem cell_at {ns : List Int} {k : Int} (h : 0 ≤ k) (hk : k < ns.length) : atI (ns.map PyData.int) k = some (.int (cell ns k)) := by
  obtain ⟨j, rfl⟩ : ∃ j : Nat, k = (j : Int) := ⟨k.toNat, by omega⟩
  have hj : j < ns.length := by omega
  refine at_map _ ?_
  unfold cell
  rw [show ((j : Int)).toNat = j by omega, List.getElem?_eq_getElem hj, List.getD_eq_getElem?_getD, List.getElem?_eq_getElem hj]
  rfl
theorem ok_cell (T : Tx K mg) : DefOk P w K mg base CX0 1 "_law_cell_at" ["_law_script", "_law_k"] (sp_cell K) := by
  obtain ⟨f, fd, d⟩ := T.d_law_cell_at
  refine d.ok (d.F.ok sc_law_cell_at (fun vs H Q E h => spF_len h fun _ => rfl) fun cdv A outer s H vs Q E hr h => ?_)
  obtain ⟨A0, ⟨ns, x⟩, hx, s0, ha, k⟩ := h
  obtain ⟨v1, v2, rfl, h1, h2⟩ := dpa2 ha
  have nd := sc_law_cell_at.nd
  refine ⟨_, (pss_cons (ps_if (pt_cmpR op_lt (pv 1) (pe_callB (c_len (K := K) rfl) rfl T.mn_len (by decide +kernel) (pa_cons (pv 0) pa_nil)) (nomark _)) (pss_one (ps_ret (pe_ix (ixL (K := K) rfl) (pv 0) (pv 1) (fun _ _ => rfl)))) pss_nil)
      (pss_one (ps_ret pe_int))), ?_⟩
  try dsimp only [cx_K]
  have hx : 0 ≤ x := hx
  refine q_ifD s0 (b := decide (x < ((ns.map PyData.int).length : Int))) (by tm_at "et") (fun hb B4 P4 => ?_) (fun hb B4 P4 => ?_)
  · have hb := of_decide_eq_true hb
    rw [List.length_map] at hb
    have := cell_at hx hb
    exact s_retK K P4.s (d := .int (cell ns x)) (by tm_at "ed") (by rfl) fun v A' B' P5 hv => k v A' B' (by tm_at "pr") hv
  · have hb := of_decide_eq_false hb
    rw [List.length_map] at hb
    refine q_next ?_
    refine s_retK K P4.s (by tm_at "ed") (d' := .int (cell ns x)) ?_ fun v A' B' P5 hv => k v A' B' (by tm_at "pr") hv
    unfold cell
    rw [List.getD_eq_getElem?_getD, List.getElem?_eq_none (by omega)]
    rfl
def isMk : D → Bool
  | .tuple [a, b] => isW a && isW b
  | _ => false
def sp_mark (K : PySem.W.Frag) : Sp := spF K (fun d : D => [d]) (fun _ => True) (fun d => .bool (isMk d))
theorem at_mark (d : D) : SpD K (sp_mark K) [d] (.bool (isMk d)) := spF_at d trivial
local macro_rules | `(tactic| tm_at "fn") => `(tactic| exact at_whole _)
theorem ok_mark (T : Tx K mg) : DefOk P w K mg base CX0 2 "_law_mark" ["_law_found"] (sp_mark K) := by
  obtain ⟨f, fd, d⟩ := T.d_law_mark
  refine d.ok (d.F.ok sc_law_mark (fun vs H Q E h => spF_len h fun _ => rfl) fun cdv A outer s H vs Q E hr h => ?_)
  obtain ⟨A0, x, _, s0, ha, k⟩ := h
  obtain ⟨v1, rfl, h1⟩ := dpa1 ha
  have nd := sc_law_mark.nd
  have G_law_whole := ok_whole (P := P) (w := w) (base := base) T
  refine ⟨_, (pss_cons (ps_if (PW.pt (pw_or (pt_not (pt_val (pe_callB (c_isi (K := K) rfl) rfl T.mn_isinstance (by decide +kernel) (pa_cons (pv 0) (pa_cons (pe_ty (T := "tuple") rfl T.mn_tuple (by decide +kernel)) pa_nil))))) (pw_or1 (pt_cmpR op_ne (pe_callB (c_len (K := K) rfl) rfl T.mn_len (by decide +kernel) (pa_cons (pv 0) pa_nil)) pe_int (nomark _))))) (pss_one (ps_ret pe_bl)) pss_nil)
      (pss_one (ps_ret (pe_and (pe_cd G_law_whole (hr.mono (by decide)) rfl pass0 (pa_cons (pe_ix (ixT (K := K) rfl) (pv 0) pe_int (fun _ _ => rfl)) pa_nil)) (pe_one (pe_cd G_law_whole (hr.mono (by decide)) rfl pass0 (pa_cons (pe_ix (ixT (K := K) rfl) (pv 0) pe_int (fun _ _ => rfl)) pa_nil))))))), ?_⟩
  try dsimp only [cx_K]
  cases x with
  | dict kvs => cases h1
  | none => exact q_ifE s0 (b := true) (by tm_at "et") (by rfl) (fun _ B P => s_retK K P.s (by tm_at "ed") (by rfl) fun v A' B' P5 hv => k v A' B' (by tm_at "pr") hv) (fun h => by cases h)
  | bool b => exact q_ifE s0 (b := true) (by tm_at "et") (by rfl) (fun _ B P => s_retK K P.s (by tm_at "ed") (by rfl) fun v A' B' P5 hv => k v A' B' (by tm_at "pr") hv) (fun h => by cases h)
  | int b => exact q_ifE s0 (b := true) (by tm_at "et") (by rfl) (fun _ B P => s_retK K P.s (by tm_at "ed") (by rfl) fun v A' B' P5 hv => k v A' B' (by tm_at "pr") hv) (fun h => by cases h)
  | str b => exact q_ifE s0 (b := true) (by tm_at "et") (by rfl) (fun _ B P => s_retK K P.s (by tm_at "ed") (by rfl) fun v A' B' P5 hv => k v A' B' (by tm_at "pr") hv) (fun h => by cases h)
  | list b => exact q_ifE s0 (b := true) (by tm_at "et") (by rfl) (fun _ B P => s_retK K P.s (by tm_at "ed") (by rfl) fun v A' B' P5 hv => k v A' B' (by tm_at "pr") hv) (fun h => by cases h)
  | tuple ds =>
    by_cases hl : ∃ a b, ds = [a, b]
    · obtain ⟨a, b, rfl⟩ := hl
      refine q_ifE s0 (b := false) (by tm_at "et") (by rfl) (fun h => by cases h) (fun _ B P => q_next ?_)
      exact s_retK K P.s (by tm_at "ed") (by rfl) fun v A' B' P5 hv => k v A' B' (by tm_at "pr") hv
    · have hz : ((ds.length : Int) == 2) = false := by
        match ds, hl with
        | [], _ => rfl
        | [_], _ => rfl
        | [a, b], h => exact absurd ⟨a, b, rfl⟩ h
        | _ :: _ :: _ :: r, _ => exact beq_false_of_ne (by simp only [List.length_cons]; omega)
      have e : isMk (.tuple ds) = false := by
        match ds, hl with
        | [], _ => rfl
        | [_], _ => rfl
        | [a, b], h => exact absurd ⟨a, b, rfl⟩ h
        | _ :: _ :: _ :: r, _ => rfl
      refine q_ifD s0 (b := (!true || !((ds.length : Int) == 2))) (by tm_at "et") (fun _ B P => ?_) (fun h => by rw [hz] at h; cases h)
      exact s_retK K P.s (d' := .bool (isMk (.tuple ds))) (by tm_at "ed") (by rw [e]) fun v A' B' P5 hv => k v A' B' (by tm_at "pr") hv
end

section
variable {P : Program} {w : World} {K : PySem.W.Frag} {mg : Str → Option Value} {base : Heap}
def sel3 (r a b c : Int) : Int := if r = 0 then a else if r = 1 then b else c
def sel2 (r a b : Int) : Int := if r = 0 then a else b
theorem at_sel3 {x a b c : Int} : atI [PyData.int a, .int b, .int c] (x % 3) = some (.int (sel3 (x % 3) a b c)) := by
  have h : x % 3 = 0 ∨ x % 3 = 1 ∨ x % 3 = 2 := by omega
  rcases h with h | h | h <;> rw [h] <;> rfl
theorem at_sel2 {x a b : Int} : atI [PyData.int a, .int b] (x % 2) = some (.int (sel2 (x % 2) a b)) := by
  have h : x % 2 = 0 ∨ x % 2 = 1 := by omega
  rcases h with h | h <;> rw [h] <;> rfl
local macro_rules | `(tactic| tm_at "at") => `(tactic| first | exact at_sel3 | exact at_sel2)
local macro_rules | `(tactic| tm_at "fn") => `(tactic| first | exact at_cell (by decide) | exact at_mark _)
/-- the i-th mark of the row -/
def mkrow (ns : List Int) (i : Nat) : Mk := (1 + sel3 (cell ns (1 + i * 2) % 3) (cell ns (1 + i * 2) / 3 % 6) (cell ns (1 + i * 2) / 3 % 10 ^ (30 : Int).toNat) (cell ns (1 + i * 2) / 3 % 90),
  sel2 (cell ns (1 + i * 2 + 1) % 2) (cell ns (1 + i * 2 + 1) / 2 % 5) (cell ns (1 + i * 2 + 1) / 2 % 40))
def rowsG (ns : List Int) (i : Nat) : List Mk := (List.range i).map (mkrow ns)
def more60 (ns : List Int) : List Mk := (List.range 60).map fun i : Nat => (1 + cell ns 1 % 90, (i : Int))
def rowsF (ns : List Int) : List Mk := if (cell ns 0 % 4 == 0) = true then rowsG ns (rgN 1 ((ns.map PyData.int).length - 1) 2) ++ more60 ns else rowsG ns (rgN 1 ((ns.map PyData.int).length - 1) 2)
theorem rowsG_len (ns : List Int) (i : Nat) : (rowsG ns i).length = i := by unfold rowsG; rw [List.length_map, List.length_range]
theorem rgN_le {n : Nat} (h : n ≤ 63) : rgN 1 ((n : Int) - 1) 2 ≤ 63 := by
  unfold rgN
  split
  · omega
  · omega
theorem rowsF_len {ns : List Int} (h : ns.length ≤ 63) : (rowsF ns).length ≤ 200 := by
  have := rgN_le h
  unfold rowsF
  split
  · rw [List.length_append, rowsG_len, List.length_map]; unfold more60; rw [List.length_map, List.length_range]; omega
  · rw [rowsG_len, List.length_map]; omega
def sp_rows (K : PySem.W.Frag) : Sp := spF K (fun ns : List Int => [.list (ns.map .int)]) (fun ns => ns.length ≤ 63) (fun ns => .list ((rowsF ns).map mkD))
theorem at_rows {ns : List Int} (h : ns.length ≤ 63) : SpD K (sp_rows K) [.list (ns.map .int)] (.list ((rowsF ns).map mkD)) := spF_at ns h
theorem ok_rows (T : Tx K mg) : DefOk P w K mg base CX0 2 "_law_rows" ["_law_script"] (sp_rows K) := by
  obtain ⟨f, fd, d⟩ := T.d_law_rows
  refine d.ok (d.F.ok sc_law_rows (fun vs H Q E h => spF_len h fun _ => rfl) fun cdv A outer s H vs Q E hr h => ?_)
  obtain ⟨A0, ns, hlen, s0, ha, k⟩ := h
  obtain ⟨v1, rfl, h1⟩ := dpa1 ha
  have nd := sc_law_rows.nd
  have G_law_cell_at := ok_cell (P := P) (w := w) (base := base) T
  refine ⟨_, (pss_cons (ps_set (i := 1) nd rfl (Or.inl rfl) (pe_lst pa_nil))
      (pss_cons (ps_for PassesOwn.never rfl (pi_range3 rfl T.mn_range (pa_cons pe_int (pa_cons (pe_op op_sub (pe_callB (c_len (K := K) rfl) rfl T.mn_len (by decide +kernel) (pa_cons (pv 0) pa_nil)) pe_int) (pa_cons pe_int pa_nil)))) (pg_name (i := 2) nd rfl (Or.inl rfl)) (pss_cons (ps_set (i := 3) nd rfl (Or.inl rfl) (pe_op op_add pe_int (pe_ix (ixL (K := K) rfl) (pe_lst (pa_cons (pe_op op_mod (pe_op op_fdiv (pe_ix (ixL (K := K) rfl) (pv 0) (pv 2) (fun _ _ => rfl)) pe_int) pe_int) (pa_cons (pe_op op_mod (pe_op op_fdiv (pe_ix (ixL (K := K) rfl) (pv 0) (pv 2) (fun _ _ => rfl)) pe_int) (pe_op op_pow pe_int pe_int)) (pa_cons (pe_op op_mod (pe_op op_fdiv (pe_ix (ixL (K := K) rfl) (pv 0) (pv 2) (fun _ _ => rfl)) pe_int) pe_int) pa_nil)))) (pe_op op_mod (pe_ix (ixL (K := K) rfl) (pv 0) (pv 2) (fun _ _ => rfl)) pe_int) (fun _ _ => rfl))))
        (pss_one (ps_expr (pe_bm PySem.F.plainAttrs_list PySem.F.slot_list_append PySem.F.type_list_append mt_append (pv 1) (pa_cons (pe_tup (pa_cons (pv 3) (pa_cons (pe_ix (ixL (K := K) rfl) (pe_lst (pa_cons (pe_op op_mod (pe_op op_fdiv (pe_ix (ixL (K := K) rfl) (pv 0) (pe_op op_add (pv 2) pe_int) (fun _ _ => rfl)) pe_int) pe_int) (pa_cons (pe_op op_mod (pe_op op_fdiv (pe_ix (ixL (K := K) rfl) (pv 0) (pe_op op_add (pv 2) pe_int) (fun _ _ => rfl)) pe_int) pe_int) pa_nil))) (pe_op op_mod (pe_ix (ixL (K := K) rfl) (pv 0) (pe_op op_add (pv 2) pe_int) (fun _ _ => rfl)) pe_int) (fun _ _ => rfl)) pa_nil))) pa_nil))))))
      (pss_cons (ps_if (pt_cmpR op_eq (pe_op op_mod (pe_cd G_law_cell_at (hr.mono (by decide)) rfl pass0 (pa_cons (pv 0) (pa_cons pe_int pa_nil))) pe_int) pe_int (nomark _)) (pss_one (ps_set (i := 1) nd rfl (Or.inl rfl) (pe_op op_cat (pv 1) (pe_lc (own := [("_law_k", 2)]) (g := gName 2) rfl nd (pi_range1 rfl T.mn_range (pa_cons pe_int pa_nil)) (blkOk_by (own := [("_law_k", 2)]) (N := ["_law_script", "_law_rows_here", "_law_k", "_law_number"]) (sc := defScope s_law_rows) (by decide +kernel)) (fun _ _ _ _ _ => pg_name (i := 2) nd rfl (Or.inl rfl)) (fun _ _ _ _ _ => pts_nil) (fun _ _ _ _ _ => (pe_tup (pa_cons (pe_op op_add pe_int (pe_op op_mod (pe_cd G_law_cell_at (hr.mono (by decide)) rfl pass0 (pa_cons (pv 0) (pa_cons pe_int pa_nil))) pe_int)) (pa_cons (pv 2) pa_nil)))))))) pss_nil)
      (pss_one (ps_ret (pv 1)))))), ?_⟩
  try dsimp only [cx_K]
  refine q_asgN K s0 (by tm_at "en") fun p xs A1 B1 hp P1 nA hB hall => ?_
  cases hall
  have hlen' : ns.length ≤ 63 := hlen
  refine q_forR3x K P1.s (lo := 1) (hi := ((ns.map PyData.int).length : Int) - 1) (c := 2) (by tm_at "ea") (by decide) (by rw [List.length_map]; omega)
    (fun i σ B' => ∃ A' xs v2 v3, σ = [some v1, some (.ref p), v2, v3] ∧ Pr A0 H A' B' ∧ A' p = none ∧ B' p = some (.lst xs) ∧ DpAll K A' xs ((rowsG ns i).map mkD)) ?_ ?_ ?_
  · intro A2 B2 P2
    obtain ⟨n2, b2⟩ := P2.owned nA hB
    exact ⟨A2, [], none, none, rfl, P1.trans P2, n2, b2, .nil⟩
  · rintro i σ B2 hi ⟨A2, xs, v2, v3, rfl, P2, n2, b2, al⟩
    rw [List.length_map] at hi
    have c1 := cell_at (ns := ns) (k := 1 + i * 2) (by omega) (by omega)
    have c2 := cell_at (ns := ns) (k := 1 + i * 2 + 1) (by omega) (by omega)
    have h2 : Dp K A2 v1 (.list (ns.map .int)) := dp_ex P2.a h1
    refine q_asgD K P2.s (by tm_at "ed") fun y A3 B3 P3 hy => ?_
    obtain ⟨n3, b3⟩ := P3.owned n2 b2
    have hz : xs.length < 100000 := by rw [dpa_len al, List.length_map, rowsG_len]; omega
    refine s_appD K P3.s rfl b3 hz (by tm_at "ed") fun z A4 B4 P4 hz => ?_
    obtain ⟨n4, b4⟩ := P4.owned n3 b3
    refine ⟨A4, xs ++ [z], _, _, rfl, Pr.mut (P2.trans (P3.trans P4)) hp n4, n4, upd_same, ?_⟩
    have e : (rowsG ns (i + 1)).map mkD = (rowsG ns i).map mkD ++ [mkD (mkrow ns i)] := by
      unfold rowsG; rw [List.range_succ, List.map_append, List.map_append]; rfl
    rw [e]
    exact dpa_app (dpa_ex (P3.trans P4).a al) (.cons hz .nil)
  · rintro σ B2 ⟨A2, xs, v2, v3, rfl, P2, n2, b2, al⟩
    have P3 := P2.frz hp n2 b2
    have h3 := dp_ex P3.a h1
    have al3 := dpa_ex (Ex.new (o := .lst xs) n2) al
    have l3 : (upd A2 p (.lst xs)) p = some (.lst xs) := upd_same
    generalize upd A2 p (.lst xs) = A3 at P3 h3 al3 l3
    have hl := rgN_le hlen'
    refine q_ifD P3.s (by tm_at "et") (fun hb B4 P4 => ?_) (fun hb B4 P4 => ?_)
    · have e : (rowsF ns).map mkD = (rowsG ns (rgN 1 ((ns.map PyData.int).length - 1) 2)).map mkD ++ (List.range (60 : Int).toNat).map fun i : Nat => mkD (1 + cell ns 1 % 90, (i : Int)) := by
        unfold rowsF more60
        rw [if_pos hb, List.map_append, List.map_map]
        rfl
      refine s_asgD K P4.s (ed_is (ed_n (en_cat (ek_var rfl l3 al3) (ek_n (en_lcR (m := 60) (fun i : Nat => mkD (1 + cell ns 1 % 90, (i : Int))) (by tm_at "ed") (by decide) (fun _ => rfl) fun i hi H1 e1 => by
        have h4 := dp_ex e1 h3
        tm_at "ed")) ?_)) (congrArg PyData.list e.symm)) fun v A5 B5 P5 hv => go_nx ?_
      · rw [List.length_map, rowsG_len, List.length_map, List.length_map, List.length_range]
        have : (60 : Int).toNat = 60 := rfl
        omega
      · exact s_retK K P5.s (by tm_at "ed") (by rfl) fun v A' B' P6 hv => k v A' B' (by tm_at "pr") hv
    · refine q_next ?_
      have h5 : Dp K A3 (.ref p) (.list ((rowsF ns).map mkD)) := by
        unfold rowsF
        rw [if_neg (by rw [hb]; decide)]
        exact .lst (sq_of l3) al3
      exact s_retK K P4.s (by tm_at "ed") (by rfl) fun v A' B' P6 hv => k v A' B' (by tm_at "pr") hv
def fstD : D → D
  | .tuple (a :: _) => a
  | d => d
def sndD : D → D
  | .tuple (_ :: a :: _) => a
  | d => d
def isN (n : Int) : D → Bool
  | .tuple (.int i :: _) => i == n
  | _ => false
def greatM (ms : List Mk) : Mk := (maxI (ms.map Prod.fst), maxI ((ms.filter fun m => m.1 == maxI (ms.map Prod.fst)).map Prod.snd))
theorem great_ne {ms : List Mk} (h : ms ≠ []) : ms.map Prod.fst ≠ [] ∧ (ms.filter fun m => m.1 == maxI (ms.map Prod.fst)).map Prod.snd ≠ [] := by
  have h1 : ms.map Prod.fst ≠ [] := by simpa using h
  refine ⟨h1, ?_⟩
  obtain ⟨m, hm, e⟩ := List.mem_map.mp (maxI_mem h1)
  have : m ∈ ms.filter fun m => m.1 == maxI (ms.map Prod.fst) := List.mem_filter.mpr ⟨hm, by rw [e]; simp⟩
  intro z
  have z' := List.map_eq_nil_iff.mp z
  rw [z'] at this
  cases this
def sp_great (K : PySem.W.Frag) : Sp := spF K (fun ms : List Mk => [.list (ms.map mkD)]) (fun ms => ms ≠ [] ∧ ms.length ≤ 200) (fun ms => mkD (greatM ms))
theorem at_great {ms : List Mk} (h : ms ≠ [] ∧ ms.length ≤ 200) : SpD K (sp_great K) [.list (ms.map mkD)] (mkD (greatM ms)) := spF_at ms h
theorem ok_great (T : Tx K mg) : DefOk P w K mg base CX0 1 "_law_great" ["_law_rows_here"] (sp_great K) := by
  obtain ⟨f, fd, d⟩ := T.d_law_great
  refine d.ok (d.F.ok sc_law_great (fun vs H Q E h => spF_len h fun _ => rfl) fun cdv A outer s H vs Q E hr h => ?_)
  obtain ⟨A0, ms, ⟨hne, hlen⟩, s0, ha, k⟩ := h
  obtain ⟨v1, rfl, h1⟩ := dpa1 ha
  have nd := sc_law_great.nd
  refine ⟨_, (pss_cons (ps_set (i := 1) nd rfl (Or.inr rfl) (pe_callB (c_max (K := K) rfl rfl) rfl T.mn_max (by decide +kernel) (pa_cons (pe_lc (own := [("_law_mark_here", 2)]) (g := gName 2) rfl nd (pi_list (pv 0)) (blkOk_by (own := [("_law_mark_here", 2)]) (N := ["_law_rows_here", "_law_number", "_law_mark_here"]) (sc := defScope s_law_great) (by decide +kernel)) (fun _ _ _ _ _ => pg_name (i := 2) nd rfl (Or.inl rfl)) (fun _ _ _ _ _ => pts_nil) (fun _ _ _ _ _ => (pe_ix (ixT (K := K) rfl) (pv 2) pe_int (fun _ _ => rfl)))) pa_nil)))
      (pss_one (ps_ret (pe_tup (pa_cons (pv 1) (pa_cons (pe_callB (c_max (K := K) rfl rfl) rfl T.mn_max (by decide +kernel) (pa_cons (pe_lc (own := [("_law_mark_here", 2)]) (g := gName 2) rfl nd (pi_list (pv 0)) (blkOk_by (own := [("_law_mark_here", 2)]) (N := ["_law_rows_here", "_law_number", "_law_mark_here"]) (sc := defScope s_law_great) (by decide +kernel)) (fun _ _ _ _ _ => pg_name (i := 2) nd rfl (Or.inl rfl)) (fun _ _ _ _ _ => (pts_one (pt_cmpR op_eq (pe_ix (ixT (K := K) rfl) (pv 2) pe_int (fun _ _ => rfl)) (pv 1) (nomark _)))) (fun _ _ _ _ _ => (pe_ix (ixT (K := K) rfl) (pv 2) pe_int (fun _ _ => rfl)))) pa_nil)) pa_nil)))))), ?_⟩
  try dsimp only [cx_K]
  obtain ⟨n1, n2⟩ := great_ne hne
  have e1 : (ms.map mkD).map fstD = (ms.map Prod.fst).map PyData.int := by rw [List.map_map, List.map_map]; rfl
  have e2 : ((ms.map mkD).filter (isN (maxI (ms.map Prod.fst)))).map sndD = ((ms.filter fun m => m.1 == maxI (ms.map Prod.fst)).map Prod.snd).map PyData.int := by
    rw [List.filter_map, List.map_map, List.map_map]; rfl
  refine q_asgD K s0 (ed_max (ed_is (ed_n (en_lcL1 fstD (by tm_at "ed") (by rw [List.length_map]; omega) (fun _ => rfl) fun d hd v H1 ex hv => ?_)) (congrArg PyData.list e1)) n1) fun v2 A1 B1 P1 hv2 => ?_
  · obtain ⟨m, _, rfl⟩ := List.mem_map.mp hd
    tm_at "ed"
  · cases hv2
    refine s_retK K P1.s (d' := mkD (greatM ms)) (ed_tup (ea_consD (by tm_at "ed") (ea_consD (ed_max (ed_is (ed_n (en_lcL (isN (maxI (ms.map Prod.fst))) sndD (by tm_at "ed") (by rw [List.length_map]; omega) (fun _ => rfl) (fun d hd v H1 ex hv => ?_) fun d hd _ v H1 ex hv => ?_)) (congrArg PyData.list e2)) n2) ea_nilD)) (by show 2 ≤ 100000; decide)) (by rfl) fun v A' B' P6 hv => k v A' B' (by tm_at "pr") hv
    · obtain ⟨m, _, rfl⟩ := List.mem_map.mp hd
      exact et_is (by tm_at "et") (by rfl)
    · obtain ⟨m, _, rfl⟩ := List.mem_map.mp hd
      tm_at "ed"
end

end K1

namespace K1
open PySem L2 Evl Ob
section
variable {P : Program} {w : World} {K : PySem.W.Frag} {mg : Str → Option Value} {base : Heap}
/-! ## the mathematics: the loop's greatest is the law's -/
theorem mless_iff {a b : Mk} : mless a b = true ↔ a.1 < b.1 ∨ a.1 = b.1 ∧ a.2 < b.2 := by
  unfold mless
  simp [Bool.or_eq_true, Bool.and_eq_true]
theorem mless_self (a : Mk) : mless a a = false := by
  rw [Bool.eq_false_iff]
  intro h
  rw [mless_iff] at h
  omega
theorem mgreat_spec : ∀ (ms : List Mk) (a : Mk), (mgreat ms a = a ∨ mgreat ms a ∈ ms) ∧ mless (mgreat ms a) a = false ∧ ∀ m ∈ ms, mless (mgreat ms a) m = false := by
  intro ms
  induction ms with
  | nil => exact fun a => ⟨.inl rfl, mless_self a, fun _ h => by cases h⟩
  | cons m ms ih =>
    intro a
    have e : mgreat (m :: ms) a = mgreat ms (if mless a m then m else a) := rfl
    obtain ⟨h1, h2, h3⟩ := ih (if mless a m then m else a)
    rw [← e] at h1 h2 h3
    have trans : ∀ x y z : Mk, mless x y = false → mless y z = false → mless x z = false := by
      intro x y z p q
      rw [Bool.eq_false_iff] at p q ⊢
      rw [Ne, mless_iff] at p q ⊢
      omega
    by_cases h : mless a m = true
    · rw [if_pos h] at h1 h2
      have ham : mless m a = false := by
        rw [Bool.eq_false_iff, Ne, mless_iff]
        rw [mless_iff] at h
        omega
      refine ⟨.inr ?_, trans _ _ _ h2 ham, fun x hx => ?_⟩
      · rcases h1 with h1 | h1
        · rw [h1]; exact List.mem_cons_self
        · exact List.mem_cons_of_mem _ h1
      · rcases List.mem_cons.mp hx with rfl | hx
        · exact h2
        · exact h3 x hx
    · rw [if_neg h] at h1 h2
      refine ⟨?_, h2, fun x hx => ?_⟩
      · rcases h1 with h1 | h1
        · exact .inl h1
        · exact .inr (List.mem_cons_of_mem _ h1)
      · rcases List.mem_cons.mp hx with rfl | hx
        · exact trans _ _ _ h2 (by simpa using h)
        · exact h3 x hx
theorem mgreat_great {ms : List Mk} (h : ms ≠ []) : mgreat ms (ms.headD (0, 0)) = greatM ms := by
  obtain ⟨h1, _, h3⟩ := mgreat_spec ms (ms.headD (0, 0))
  have hm : mgreat ms (ms.headD (0, 0)) ∈ ms := by
    rcases h1 with h1 | h1
    · rw [h1]
      cases ms with
      | nil => exact absurd rfl h
      | cons a r => exact List.mem_cons_self
    · exact h1
  generalize mgreat ms (ms.headD (0, 0)) = g at h3 hm
  have e1 : g.1 = maxI (ms.map Prod.fst) := by
    refine maxI_uniq (List.mem_map_of_mem hm) fun y hy => ?_
    obtain ⟨m, hm2, rfl⟩ := List.mem_map.mp hy
    have := h3 m hm2
    rw [Bool.eq_false_iff, Ne, mless_iff] at this
    omega
  have e2 : g.2 = maxI ((ms.filter fun m => m.1 == maxI (ms.map Prod.fst)).map Prod.snd) := by
    refine maxI_uniq (List.mem_map_of_mem (List.mem_filter.mpr ⟨hm, by rw [e1]; simp⟩)) fun y hy => ?_
    obtain ⟨m, hm2, rfl⟩ := List.mem_map.mp hy
    obtain ⟨hm3, hm4⟩ := List.mem_filter.mp hm2
    have hm4 : m.1 = maxI (ms.map Prod.fst) := by simpa using hm4
    have := h3 m hm3
    rw [Bool.eq_false_iff, Ne, mless_iff] at this
    omega
  exact Prod.ext e1 e2
/-! ## shapes -/
theorem shn_mk {m : Mk} {n : Nat} : ShN (n + 1) (mkD m) := shn_tup fun d hd => by
  rcases List.mem_cons.mp hd with rfl | hd
  · exact shn_int
  · rcases List.mem_cons.mp hd with rfl | hd
    · exact shn_int
    · cases hd
theorem sh_mk {m : Mk} : SeqAt.shaped (mkD m) = true := (shn_mk (n := 0)).sh (by decide)
theorem sh_mks {ms : List Mk} : SeqAt.shaped (.list (ms.map mkD)) = true := ShN.sh (n := 2) (shn_list fun d hd => by
  obtain ⟨m, _, rfl⟩ := List.mem_map.mp hd
  exact shn_mk) (by decide)
theorem sh_bls {bs : List Bool} : SeqAt.shaped (.list (bs.map PyData.bool)) = true := ShN.sh (n := 1) (shn_list fun d hd => by
  obtain ⟨m, _, rfl⟩ := List.mem_map.mp hd
  exact shn_bl) (by decide)
theorem sh_b3 {a b c : Bool} : SeqAt.shaped (.list [.bool a, .bool b, .bool c]) = true := sh_bls (bs := [a, b, c])
local macro_rules | `(tactic| tm_at "sh") => `(tactic| first | exact sh_mk | exact sh_mks | exact sh_b3)
local macro_rules | `(tactic| tm_at "at") => `(tactic| first | exact at_sel3 | exact at_sel2)
local macro_rules | `(tactic| tm_at "fn") => `(tactic| first | exact at_cell (by decide) | exact at_mark _ | exact at_less _ _ | exact at_greatest (by assumption) | exact at_great (by assumption) | exact at_rows (by assumption))
def sp_asked (K : PySem.W.Frag) : Sp := spF K (fun ms : List Mk => [.list (ms.map mkD)]) (fun ms => ms ≠ [] ∧ ms.length ≤ 200) (fun _ => .bool true)
theorem at_asked {ms : List Mk} (h : ms ≠ [] ∧ ms.length ≤ 200) : SpD K (sp_asked K) [.list (ms.map mkD)] (.bool true) := spF_at ms h
theorem ok_asked (T : Tx K mg) : DefOk P w K mg base CX0 3 "_law_asked" ["_law_rows_here"] (sp_asked K) := by
  obtain ⟨f, fd, d⟩ := T.d_law_asked
  refine d.ok (d.F.ok sc_law_asked (fun vs H Q E h => spF_len h fun _ => rfl) fun cdv A outer s H vs Q E hr h => ?_)
  obtain ⟨A0, ms, hh, s0, ha, k⟩ := h
  obtain ⟨v1, rfl, h1⟩ := dpa1 ha
  have nd := sc_law_asked.nd
  have hne := hh.1
  have G_greatest := ok_greatest (P := P) (w := w) (base := base) T
  have G_law_mark := ok_mark (P := P) (w := w) (base := base) T
  have G_law_great := ok_great (P := P) (w := w) (base := base) T
  refine ⟨_, (pss_cons (ps_set (i := 1) nd rfl (Or.inl rfl) (pe_callTy (c_list (K := K) rfl) rfl T.mn_list (by decide +kernel) (pa_cons (pv 0) pa_nil)))
      (pss_cons (ps_set (i := 2) nd rfl (Or.inl rfl) (pe_cd G_greatest (hr.mono (by decide)) rfl pass0 (pa_cons (pv 1) pa_nil)))
      (pss_one (ps_ret (pe_and (pe_cd G_law_mark (hr.mono (by decide)) rfl pass0 (pa_cons (pv 2) pa_nil)) (pe_and (pe_cmpR (o_eqD (K := K) rfl hr.units) (pv 2) (pe_cd G_law_great (hr.mono (by decide)) rfl pass0 (pa_cons (pv 0) pa_nil)) (nomark _)) (pe_one (pe_cmpR (o_eqD (K := K) rfl hr.units) (pv 1) (pv 0) (nomark _))))))))), ?_⟩
  try dsimp only [cx_K]
  refine q_asgD K s0 (d := .list (ms.map mkD)) (by tm_at "ed") fun v2 A1 B1 P1 hv2 => ?_
  refine q_asgD K P1.s (d := mkD (mgreat ms (ms.headD (0, 0)))) (by tm_at "ed") fun v3 A2 B2 P2 hv3 => ?_
  refine s_retK K P2.s (by tm_at "ed") ?_ fun v A' B' P6 hv => k v A' B' (by tm_at "pr") hv
  rw [mgreat_great hne, eqv_refl sh_mk, eqv_refl sh_mks]
  rfl
/-! ## the law -/
def sp_law (K : PySem.W.Frag) : Sp := fun vs H Q _ => ∃ (a : Addr) (ns : List Int), vs = [.ref a] ∧ SqL K H a (ns.map V.int) ∧ ns.length ≤ 63 ∧ ∀ H', Q (.bl true) H'
theorem ok_law {f : Addr} {fd : FuncData} (T : Tx K mg) (F : Fun K "law" "law" s_law f fd) : FnOk P w K mg base CX0 4 f fd ["_law_script"] (sp_law K) := by
  refine F.ok sc_law (fun vs H Q E h => ?_) fun cdv A outer s H vs Q E hr h => ?_
  · obtain ⟨a, ns, rfl, _⟩ := h; rfl
  obtain ⟨a, ns, rfl, hS, hlen, k⟩ := h
  have s0 : Ex H H := Ex.refl H
  have h1 : Dp K H (.ref a) (.list (ns.map .int)) := .lst hS dpa_ints
  have nd := sc_law.nd
  have G_less := ok_less (P := P) (w := w) (base := base) T
  have G_law_cell_at := ok_cell (P := P) (w := w) (base := base) T
  have G_law_rows := ok_rows (P := P) (w := w) (base := base) T
  have G_law_asked := ok_asked (P := P) (w := w) (base := base) T
  refine ⟨_, (pss_cons (ps_set (i := 1) nd rfl (Or.inl rfl) (pe_cd G_law_rows (hr.mono (by decide)) rfl pass0 (pa_cons (pv 0) pa_nil)))
      (pss_cons (ps_for PassesOwn.never rfl (pi_zip rfl T.mn_zip (pa_cons (pv 1) (pa_cons (pe_op op_cat (pe_slice (slL (K := K) rfl) (pv 1) (po_some pe_int) po_none) (pe_slice (slL (K := K) rfl) (pv 1) po_none (po_some pe_int))) pa_nil))) (pg_tup rfl (pgs_cons (pg_name (i := 2) nd rfl (Or.inl rfl)) (pgs_cons (pg_name (i := 3) nd rfl (Or.inl rfl)) pgs_nil))) (pss_cons (ps_set (i := 4) nd rfl (Or.inl rfl) (pe_or (pe_cmpR op_lt (pe_ix (ixT (K := K) rfl) (pv 2) pe_int (fun _ _ => rfl)) (pe_ix (ixT (K := K) rfl) (pv 3) pe_int (fun _ _ => rfl)) (nomark _)) (pe_one (pe_and (pe_cmpR op_eq (pe_ix (ixT (K := K) rfl) (pv 2) pe_int (fun _ _ => rfl)) (pe_ix (ixT (K := K) rfl) (pv 3) pe_int (fun _ _ => rfl)) (nomark _)) (pe_one (pe_cmpR op_lt (pe_ix (ixT (K := K) rfl) (pv 2) pe_int (fun _ _ => rfl)) (pe_ix (ixT (K := K) rfl) (pv 3) pe_int (fun _ _ => rfl)) (nomark _)))))))
        (pss_cons (ps_set (i := 5) nd rfl (Or.inl rfl) (pe_or (pe_cmpR op_lt (pe_ix (ixT (K := K) rfl) (pv 3) pe_int (fun _ _ => rfl)) (pe_ix (ixT (K := K) rfl) (pv 2) pe_int (fun _ _ => rfl)) (nomark _)) (pe_one (pe_and (pe_cmpR op_eq (pe_ix (ixT (K := K) rfl) (pv 2) pe_int (fun _ _ => rfl)) (pe_ix (ixT (K := K) rfl) (pv 3) pe_int (fun _ _ => rfl)) (nomark _)) (pe_one (pe_cmpR op_lt (pe_ix (ixT (K := K) rfl) (pv 3) pe_int (fun _ _ => rfl)) (pe_ix (ixT (K := K) rfl) (pv 2) pe_int (fun _ _ => rfl)) (nomark _)))))))
        (pss_cons (ps_set (i := 6) nd rfl (Or.inl rfl) (pe_lst (pa_cons (pe_cd G_less (hr.mono (by decide)) rfl pass0 (pa_cons (pv 2) (pa_cons (pv 3) pa_nil))) (pa_cons (pe_cd G_less (hr.mono (by decide)) rfl pass0 (pa_cons (pv 3) (pa_cons (pv 2) pa_nil))) (pa_cons (pe_cd G_less (hr.mono (by decide)) rfl pass0 (pa_cons (pv 2) (pa_cons (pv 2) pa_nil))) pa_nil)))))
        (pss_one (ps_if (PW.pt (pw_or (pt_cmpR (o_neD (K := K) rfl hr.units) (pv 6) (pe_lst (pa_cons (pv 4) (pa_cons (pv 5) (pa_cons pe_bl pa_nil)))) (nomark _)) (pw_or1 (pt_not (pt_val (pe_callB (c_all (K := K) rfl rfl) rfl T.mn_all (by decide +kernel) (pa_cons (pe_lc (own := [("_law_found", 7)]) (g := gName 7) rfl nd (pi_list (pv 6)) (blkOk_by (own := [("_law_found", 7)]) (N := ["_law_script", "_law_rows_here", "_law_one", "_law_other", "_law_due", "_law_back", "_law_told", "_law_found"]) (sc := defScope s_law) (by decide +kernel)) (fun _ _ _ _ _ => pg_name (i := 7) nd rfl (Or.inl rfl)) (fun _ _ _ _ _ => pts_nil) (fun _ _ _ _ _ => (pe_callB (c_isi (K := K) rfl) rfl T.mn_isinstance (by decide +kernel) (pa_cons (pv 7) (pa_cons (pe_ty (T := "bool") rfl T.mn_bool (by decide +kernel)) pa_nil))))) pa_nil))))))) (pss_one (ps_ret pe_bl)) pss_nil))))))
      (pss_cons (ps_if (pt_cmpR (o_eqD (K := K) rfl hr.units) (pv 1) (pe_lst pa_nil) (nomark _)) (pss_one (ps_ret pe_bl)) pss_nil)
      (pss_one (ps_ret (pe_and (pe_cd G_law_asked (hr.mono (by decide)) rfl pass0 (pa_cons (pv 1) pa_nil)) (pe_one (pe_cd G_law_asked (hr.mono (by decide)) rfl pass0 (pa_cons (pe_slice (slL (K := K) rfl) (pv 1) po_none (po_some (pe_op op_add pe_int (pe_op op_mod (pe_op op_fdiv (pe_cd G_law_cell_at (hr.mono (by decide)) rfl pass0 (pa_cons (pv 0) (pa_cons pe_int pa_nil))) pe_int) (pe_callB (c_len (K := K) rfl) rfl T.mn_len (by decide +kernel) (pa_cons (pv 1) pa_nil)))))) pa_nil))))))))), ?_⟩
  try dsimp only [cx_K]
  refine q_asgD K s0 (d := .list ((rowsF ns).map mkD)) (by tm_at "ed") fun v2 A1 B1 P1 hv2 => ?_
  have hl := rowsF_len hlen
  generalize hms : rowsF ns = ms at hv2 hl
  have hes : cutL (ms.map mkD) (some 1) none ++ cutL (ms.map mkD) none (some 1) = (cutL ms (some 1) none ++ cutL ms none (some 1)).map mkD := by rw [cutL_map, cutL_map, List.map_append]
  have hcl : (cutL (ms.map mkD) (some 1) none).length + (cutL (ms.map mkD) none (some 1)).length ≤ 100000 := by
    have a1 := cutL_len (ms.map mkD) (some 1) none
    have a2 := cutL_len (ms.map mkD) none (some 1)
    rw [List.length_map] at a1 a2
    omega
  refine q_forZ K P1.s (by tm_at "ea") (fun _ σ A' _ => ∃ w2 w3 w4 w5 w6 w7, σ = [some (.ref a), some v2, w2, w3, w4, w5, w6, w7]) ?_ ?_ ?_
  · intro A2 B2 P2
    exact ⟨_, _, _, _, _, _, rfl⟩
  · rintro A2 B2 P2 t d e y z σ A3 B3 hd he P3 hy hz ⟨w2, w3, w4, w5, w6, w7, rfl⟩ B4 P4
    obtain ⟨m, _, rfl⟩ := List.mem_map.mp (List.mem_of_getElem? hd)
    rw [hes] at he
    obtain ⟨m2, _, rfl⟩ := List.mem_map.mp (List.mem_of_getElem? he)
    refine q_asgD K P4.s (d := .bool (mless m m2)) (by exact ed_is (by tm_at "ed") (by rfl)) fun y1 A5 B5 P5 hy1 => ?_
    cases hy1
    refine q_asgD K P5.s (d := .bool (mless m2 m)) (by exact ed_is (by tm_at "ed") (by unfold mless; rw [Bool.beq_comm])) fun y2 A6 B6 P6 hy2 => ?_
    cases hy2
    refine q_asgD K P6.s (d := .list [.bool (mless m m2), .bool (mless m2 m), .bool (mless m m)]) (by tm_at "ed") fun y3 A7 B7 P7 hy3 => ?_
    refine s_ifE (b := false) P7.s (et_or (a := !PyData.eqv (.list [.bool (mless m m2), .bool (mless m2 m), .bool (mless m m)]) (.list [.bool (mless m m2), .bool (mless m2 m), .bool false])) (by tm_at "et") fun _ => et_not (et_DB (ed_all (bs := [true, true, true]) (ed_is (ed_n (en_lcL1 (fun _ => .bool true) (ds := [.bool (mless m m2), .bool (mless m2 m), .bool (mless m m)]) (by tm_at "ed") (by show 3 ≤ 40000; decide) (fun _ => rfl) fun d hd v H1 ex hv => ?_)) rfl)))) ?_ (fun h => by cases h) fun _ B8 P8 => ?_
    · have : ∃ b, d = .bool b := by
        rcases List.mem_cons.mp hd with rfl | hd
        · exact ⟨_, rfl⟩
        · rcases List.mem_cons.mp hd with rfl | hd
          · exact ⟨_, rfl⟩
          · rcases List.mem_cons.mp hd with rfl | hd
            · exact ⟨_, rfl⟩
            · cases hd
      obtain ⟨b, rfl⟩ := this
      tm_at "ed"
    · rw [mless_self, eqv_refl sh_b3]; rfl
    · exact ⟨_, by tm_at "pr", _, _, _, _, _, _, rfl⟩
  · rintro A2 B2 σ A3 B3 P2 P3 ⟨w2, w3, w4, w5, w6, w7, rfl⟩
    refine q_ifE (b := PyData.eqv (.list (ms.map mkD)) (.list [])) P3.s (by tm_at "et") rfl (fun _ B4 P4 => s_retK K P4.s (by tm_at "ed") (by rfl) fun v A' B' P6 hv => by cases hv; exact k _) fun hb B4 P4 => q_next ?_
    have hne : ms ≠ [] := by
      rintro rfl
      cases hb
    have hp : 0 < ((ms.map mkD).length : Int) := by
      rw [List.length_map]
      have := List.length_pos_iff.mpr hne
      omega
    have hh : ms ≠ [] ∧ ms.length ≤ 200 := ⟨hne, hl⟩
    have hq : ∀ j : Int, 0 ≤ j → cutL ms none (some (1 + j)) ≠ [] ∧ (cutL ms none (some (1 + j))).length ≤ 200 := by
      intro j hj
      refine ⟨fun z => ?_, Nat.le_trans (cutL_len _ _ _) hl⟩
      have := congrArg List.length z
      unfold cutL at this
      obtain ⟨n, rfl⟩ : ∃ n : Nat, j = (n : Int) := ⟨j.toNat, by omega⟩
      rw [show (1 : Int) + (n : Int) = ((1 + n : Nat) : Int) by omega, HT.sIx_nat, List.length_take, List.length_drop, HT.sIx_none] at this
      have q := List.length_pos_iff.mpr hne
      simp only [List.length_nil] at this
      omega
    have hg := hq (cell ns 0 / 4 % ((ms.map mkD).length : Int)) (Int.emod_nonneg _ (by omega))
    refine s_retK K P4.s (d := .bool (true && true)) (ed_and (ed_call (by tm_at "ea") (at_asked hh)) fun _ => ed_call (ea_consD (ed_is (by tm_at "ed") (congrArg PyData.list (cutL_map mkD ms _ _))) ea_nilD) (at_asked hg)) rfl fun v A' B' P6 hv => by cases hv; exact k _
end

end K1

namespace K1
open PySem L2 Evl Ob
theorem all_mk {l : PySem.W.OpenLaw} {w : World} {K : PySem.W.Frag} {h : Heap} {mg : Str → Option Value} {fa : Addr} (X : K.In h) (G : h.Ns mainGlobals mg) (hfa : mg "law" = some (.ref fa))
    {f0 : Addr} {od0 an0 : Option Addr} {sl0 : Array (Option Value)} {oc0 kV0 dc0 pm0 cd0 ct0 : Value}
    {f1 : Addr} {od1 an1 : Option Addr} {sl1 : Array (Option Value)} {oc1 kV1 dc1 pm1 cd1 ct1 : Value}
    {f2 : Addr} {od2 an2 : Option Addr} {sl2 : Array (Option Value)} {oc2 kV2 dc2 pm2 cd2 ct2 : Value}
    {f3 : Addr} {od3 an3 : Option Addr} {sl3 : Array (Option Value)} {oc3 kV3 dc3 pm3 cd3 ct3 : Value}
    {f4 : Addr} {od4 an4 : Option Addr} {sl4 : Array (Option Value)} {oc4 kV4 dc4 pm4 cd4 ct4 : Value}
    {f5 : Addr} {od5 an5 : Option Addr} {sl5 : Array (Option Value)} {oc5 kV5 dc5 pm5 cd5 ct5 : Value}
    {f6 : Addr} {od6 an6 : Option Addr} {sl6 : Array (Option Value)} {oc6 kV6 dc6 pm6 cd6 ct6 : Value}
    {f7 : Addr} {od7 an7 : Option Addr} {sl7 : Array (Option Value)} {oc7 kV7 dc7 pm7 cd7 ct7 : Value}
    {f8 : Addr} {od8 an8 : Option Addr} {sl8 : Array (Option Value)} {oc8 kV8 dc8 pm8 cd8 ct8 : Value}
    (a0 : PySem.W.nsIn K mainGlobals "less" = some (some (.ref f0))) (l0 : K.lookup f0 = some ⟨oc0, od0, .func (PySem.W.fnOf "less" "less" (defArgs s_less) (defBody s_less) (defScope s_less) .none kV0 dc0 pm0 an0 cd0 ct0), sl0⟩) (c0 : PySem.W.codeIn K cd0 "less" = true) (k0 : PySem.W.keepIn K (.ref f0) = true)
    (a1 : PySem.W.nsIn K mainGlobals "greatest" = some (some (.ref f1))) (l1 : K.lookup f1 = some ⟨oc1, od1, .func (PySem.W.fnOf "greatest" "greatest" (defArgs s_greatest) (defBody s_greatest) (defScope s_greatest) .none kV1 dc1 pm1 an1 cd1 ct1), sl1⟩) (c1 : PySem.W.codeIn K cd1 "greatest" = true) (k1 : PySem.W.keepIn K (.ref f1) = true)
    (a2 : PySem.W.nsIn K mainGlobals "_law_whole" = some (some (.ref f2))) (l2 : K.lookup f2 = some ⟨oc2, od2, .func (PySem.W.fnOf "_law_whole" "_law_whole" (defArgs s_law_whole) (defBody s_law_whole) (defScope s_law_whole) .none kV2 dc2 pm2 an2 cd2 ct2), sl2⟩) (c2 : PySem.W.codeIn K cd2 "_law_whole" = true) (k2 : PySem.W.keepIn K (.ref f2) = true)
    (a3 : PySem.W.nsIn K mainGlobals "_law_cell_at" = some (some (.ref f3))) (l3 : K.lookup f3 = some ⟨oc3, od3, .func (PySem.W.fnOf "_law_cell_at" "_law_cell_at" (defArgs s_law_cell_at) (defBody s_law_cell_at) (defScope s_law_cell_at) .none kV3 dc3 pm3 an3 cd3 ct3), sl3⟩) (c3 : PySem.W.codeIn K cd3 "_law_cell_at" = true) (k3 : PySem.W.keepIn K (.ref f3) = true)
    (a4 : PySem.W.nsIn K mainGlobals "_law_mark" = some (some (.ref f4))) (l4 : K.lookup f4 = some ⟨oc4, od4, .func (PySem.W.fnOf "_law_mark" "_law_mark" (defArgs s_law_mark) (defBody s_law_mark) (defScope s_law_mark) .none kV4 dc4 pm4 an4 cd4 ct4), sl4⟩) (c4 : PySem.W.codeIn K cd4 "_law_mark" = true) (k4 : PySem.W.keepIn K (.ref f4) = true)
    (a5 : PySem.W.nsIn K mainGlobals "_law_rows" = some (some (.ref f5))) (l5 : K.lookup f5 = some ⟨oc5, od5, .func (PySem.W.fnOf "_law_rows" "_law_rows" (defArgs s_law_rows) (defBody s_law_rows) (defScope s_law_rows) .none kV5 dc5 pm5 an5 cd5 ct5), sl5⟩) (c5 : PySem.W.codeIn K cd5 "_law_rows" = true) (k5 : PySem.W.keepIn K (.ref f5) = true)
    (a6 : PySem.W.nsIn K mainGlobals "_law_great" = some (some (.ref f6))) (l6 : K.lookup f6 = some ⟨oc6, od6, .func (PySem.W.fnOf "_law_great" "_law_great" (defArgs s_law_great) (defBody s_law_great) (defScope s_law_great) .none kV6 dc6 pm6 an6 cd6 ct6), sl6⟩) (c6 : PySem.W.codeIn K cd6 "_law_great" = true) (k6 : PySem.W.keepIn K (.ref f6) = true)
    (a7 : PySem.W.nsIn K mainGlobals "_law_asked" = some (some (.ref f7))) (l7 : K.lookup f7 = some ⟨oc7, od7, .func (PySem.W.fnOf "_law_asked" "_law_asked" (defArgs s_law_asked) (defBody s_law_asked) (defScope s_law_asked) .none kV7 dc7 pm7 an7 cd7 ct7), sl7⟩) (c7 : PySem.W.codeIn K cd7 "_law_asked" = true) (k7 : PySem.W.keepIn K (.ref f7) = true)
    (a8 : PySem.W.nsIn K mainGlobals "law" = some (some (.ref f8))) (l8 : K.lookup f8 = some ⟨oc8, od8, .func (PySem.W.fnOf "law" "law" (defArgs s_law) (defBody s_law) (defScope s_law) .none kV8 dc8 pm8 an8 cd8 ct8), sl8⟩) (c8 : PySem.W.codeIn K cd8 "law" = true) (k8 : PySem.W.keepIn K (.ref f8) = true)
    (z_isinstance : PySem.W.nsIn K mainGlobals "isinstance" = some none)
    (z_int : PySem.W.nsIn K mainGlobals "int" = some none)
    (z_bool : PySem.W.nsIn K mainGlobals "bool" = some none)
    (z_len : PySem.W.nsIn K mainGlobals "len" = some none)
    (z_tuple : PySem.W.nsIn K mainGlobals "tuple" = some none)
    (z_range : PySem.W.nsIn K mainGlobals "range" = some none)
    (z_max : PySem.W.nsIn K mainGlobals "max" = some none)
    (z_list : PySem.W.nsIn K mainGlobals "list" = some none)
    (z_zip : PySem.W.nsIn K mainGlobals "zip" = some none)
    (z_all : PySem.W.nsIn K mainGlobals "all" = some none) :
    ∃ fd : FuncData, (∀ (s : Shared) (v : Value), BindsTo s fd ⟨[v], []⟩ [("_law_script", v)]) ∧ ∀ base : Heap, K.In base → base.Ns mainGlobals mg → FnOk l.prog w K mg base CX0 4 fa fd ["_law_script"] (sp_law K) := by
  have e := hfa.symm.trans (PySem.W.mg_of X G a8)
  cases e
  have F0 := fun_mk (st := s_less) l0 c0 k0
  have b0 := F0.binds (ps := ["one", "other"]) fun _ _ _ _ _ _ us hl => match us, hl with | [_, _], _ => rfl
  have F1 := fun_mk (st := s_greatest) l1 c1 k1
  have b1 := F1.binds (ps := ["marks"]) fun _ _ _ _ _ _ us hl => match us, hl with | [_], _ => rfl
  have F2 := fun_mk (st := s_law_whole) l2 c2 k2
  have b2 := F2.binds (ps := ["_law_found"]) fun _ _ _ _ _ _ us hl => match us, hl with | [_], _ => rfl
  have F3 := fun_mk (st := s_law_cell_at) l3 c3 k3
  have b3 := F3.binds (ps := ["_law_script", "_law_k"]) fun _ _ _ _ _ _ us hl => match us, hl with | [_, _], _ => rfl
  have F4 := fun_mk (st := s_law_mark) l4 c4 k4
  have b4 := F4.binds (ps := ["_law_found"]) fun _ _ _ _ _ _ us hl => match us, hl with | [_], _ => rfl
  have F5 := fun_mk (st := s_law_rows) l5 c5 k5
  have b5 := F5.binds (ps := ["_law_script"]) fun _ _ _ _ _ _ us hl => match us, hl with | [_], _ => rfl
  have F6 := fun_mk (st := s_law_great) l6 c6 k6
  have b6 := F6.binds (ps := ["_law_rows_here"]) fun _ _ _ _ _ _ us hl => match us, hl with | [_], _ => rfl
  have F7 := fun_mk (st := s_law_asked) l7 c7 k7
  have b7 := F7.binds (ps := ["_law_rows_here"]) fun _ _ _ _ _ _ us hl => match us, hl with | [_], _ => rfl
  have F8 := fun_mk (st := s_law) l8 c8 k8
  have T : Tx K mg := ⟨⟨_, _, F0, PySem.W.mg_of X G a0, b0⟩, ⟨_, _, F1, PySem.W.mg_of X G a1, b1⟩, ⟨_, _, F2, PySem.W.mg_of X G a2, b2⟩, ⟨_, _, F3, PySem.W.mg_of X G a3, b3⟩, ⟨_, _, F4, PySem.W.mg_of X G a4, b4⟩, ⟨_, _, F5, PySem.W.mg_of X G a5, b5⟩, ⟨_, _, F6, PySem.W.mg_of X G a6, b6⟩, ⟨_, _, F7, PySem.W.mg_of X G a7, b7⟩, PySem.W.mg_none_of X G z_isinstance, PySem.W.mg_none_of X G z_int, PySem.W.mg_none_of X G z_bool, PySem.W.mg_none_of X G z_len, PySem.W.mg_none_of X G z_tuple, PySem.W.mg_none_of X G z_range, PySem.W.mg_none_of X G z_max, PySem.W.mg_none_of X G z_list, PySem.W.mg_none_of X G z_zip, PySem.W.mg_none_of X G z_all⟩
  exact ⟨PySem.W.fnOf "law" "law" (defArgs s_law) (defBody s_law) (defScope s_law) .none kV8 dc8 pm8 an8 cd8 ct8, fun s v => .of_eq rfl, fun base _ _ => ok_law T F8⟩
theorem walk {l : PySem.W.OpenLaw} {q : Program} {loose : List Str} {XP : (Str → Option Value) → Heap → Prop} {YP : World → Heap → Prop} {d : DefRec} {K : Params → PySem.W.Frag} (hn : l.most = some 63) (hdf : d.params.defaults = [])
    (hY : ∀ (w : World) (h : Heap), YP w h → (K w.params).In h)
    (F : ∀ (w : World) (mg : Str → Option Value) (fa : Addr) (h : Heap), (K w.params).In h → h.Ns mainGlobals mg → mg d.name = some (.ref fa) →
      ∃ fd : FuncData, (∀ (s : Shared) (u : Value), BindsTo s fd ⟨[u], []⟩ [("_law_script", u)]) ∧ ∀ base : Heap, (K w.params).In base → base.Ns mainGlobals mg → FnOk l.prog w (K w.params) mg base CX0 4 fa fd ["_law_script"] (sp_law (K w.params))) :
    PySem.W.WalkO q loose XP YP l.row.toRowW d [] (fun f vs => PySem.call f vs) :=
  L2.walk_of (n := 63) (k := 4) (x := "_law_script") (CX := fun _ => CX0) (sp := fun w => sp_law (K w.params)) hn (by decide) hdf ⟨rfl, by decide, by decide⟩ hY F (fun _ _ a ns hl _ hS => ⟨a, ns, rfl, hS, hl, fun _ => rfl⟩) fun _ _ _ _ _ z => z
end K1
open PySem PySem.W PyProof.Rows
set_option maxRecDepth 100000 in
set_option maxHeartbeats 0 in
theorem PySem.Challenge.cw_onebell_k01_marks_in_order_holds : PySem.Challenge.rw_onebell_k01_marks_in_order.Holds := by
  w_on; o_law; k_head; (case hw => w_witness2)
  k_fill
  refine K1.walk (l := PySem.Challenge.rw_onebell_k01_marks_in_order) rfl rfl (fun w h Y => PySem.W.kIn_of Y) ?F
  case F =>
    intro w mg fa h KX G hmg
    refine' K1.all_mk KX G hmg ?a0 ?l0 ?c0 ?k0 ?a1 ?l1 ?c1 ?k1 ?a2 ?l2 ?c2 ?k2 ?a3 ?l3 ?c3 ?k3 ?a4 ?l4 ?c4 ?k4 ?a5 ?l5 ?c5 ?k5 ?a6 ?l6 ?c6 ?k6 ?a7 ?l7 ?c7 ?k7 ?a8 ?l8 ?c8 ?k8 ?z_isinstance ?z_int ?z_bool ?z_len ?z_tuple ?z_range ?z_max ?z_list ?z_zip ?z_all
    (case a0 => k_is)
    (case l0 => k_is)
    (case c0 => k_is)
    (case k0 => k_is)
    (case a1 => k_is)
    (case l1 => k_is)
    (case c1 => k_is)
    (case k1 => k_is)
    (case a2 => k_is)
    (case l2 => k_is)
    (case c2 => k_is)
    (case k2 => k_is)
    (case a3 => k_is)
    (case l3 => k_is)
    (case c3 => k_is)
    (case k3 => k_is)
    (case a4 => k_is)
    (case l4 => k_is)
    (case c4 => k_is)
    (case k4 => k_is)
    (case a5 => k_is)
    (case l5 => k_is)
    (case c5 => k_is)
    (case k5 => k_is)
    (case a6 => k_is)
    (case l6 => k_is)
    (case c6 => k_is)
    (case k6 => k_is)
    (case a7 => k_is)
    (case l7 => k_is)
    (case c7 => k_is)
    (case k7 => k_is)
    (case a8 => k_is)
    (case l8 => k_is)
    (case c8 => k_is)
    (case k8 => k_is)
    (case z_isinstance => k_is)
    (case z_int => k_is)
    (case z_bool => k_is)
    (case z_len => k_is)
    (case z_tuple => k_is)
    (case z_range => k_is)
    (case z_max => k_is)
    (case z_list => k_is)
    (case z_zip => k_is)
    (case z_all => k_is)
#print axioms PySem.Challenge.cw_onebell_k01_marks_in_order_holds

