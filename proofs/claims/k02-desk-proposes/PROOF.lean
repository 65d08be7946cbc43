import PyProof.Rows.All
import Wide.All
import OpenK.AllK
import Wide.FinOn
import HandS.ForMost
import HandS.ForExc
import HandS.Evl
import HandS.Walk
import HandS.Steps
import HandS.IsInst
import HandS.FStr
import HandS.ExcCtx
import HandS.Text
import HandS.ExcIs
import HandS.HotCalls
import HandS.Conv
import HandS.SetFor
import HandS.Style
import PySem.Challenge.RW_onebell_k02_a_desk_proposes
set_option Elab.async false
set_option linter.all false
set_option maxRecDepth 100000
set_option maxHeartbeats 4000000
set_option Elab.async false
set_option linter.all false
set_option maxRecDepth 100000
set_option maxHeartbeats 2000000
namespace Ob
open PySem L2 Evl
abbrev D := PyData
/-! ## data and heaps that grow -/
mutual
theorem dp_ex {K : PySem.W.Frag} {H H' : Hp} (e : Ex H H') : ∀ {v : V} {d : D}, Dp K H v d → Dp K H' v d
  | _, _, .non => .non
  | _, _, .bl b => .bl b
  | _, _, .int i => .int i
  | _, _, .str x => .str x
  | _, _, .lst s a => .lst (ex_l e s) (dpa_ex e a)
  | _, _, .tup s a => .tup (ex_t e s) (dpa_ex e a)
theorem dpa_ex {K : PySem.W.Frag} {H H' : Hp} (e : Ex H H') : ∀ {v : List V} {d : List D}, DpAll K H v d → DpAll K H' v d
  | _, _, .nil => .nil
  | _, _, .cons h t => .cons (dp_ex e h) (dpa_ex e t)
end
section
variable {K : PySem.W.Frag} {H H' H1 H2 : Hp} {σ : L2.St} {v : V} {vs xs : List V} {d d' e : D} {ds es : List D}
theorem dpa_len : ∀ {vs : List V} {ds : List D}, DpAll K H vs ds → vs.length = ds.length
  | _, _, .nil => rfl
  | _, _, .cons _ t => by simp [dpa_len t]
theorem dpa_get : ∀ {vs : List V} {ds : List D} {i : Nat} {d : D}, DpAll K H vs ds → ds[i]? = some d → ∃ v, vs[i]? = some v ∧ Dp K H v d
  | _, _, _, _, .nil, h => by simp at h
  | _, _, 0, _, .cons a _, h => by simp at h; subst h; exact ⟨_, rfl, a⟩
  | _, _, i + 1, _, .cons _ t, h => by
    obtain ⟨v, h1, h2⟩ := dpa_get (i := i) t (by simpa using h)
    exact ⟨v, by simpa using h1, h2⟩
theorem dpa_getV : ∀ {vs : List V} {ds : List D} {i : Nat} {v : V}, DpAll K H vs ds → vs[i]? = some v → ∃ d, ds[i]? = some d ∧ Dp K H v d
  | _, _, _, _, .nil, h => by simp at h
  | _, _, 0, _, .cons a _, h => by simp at h; subst h; exact ⟨_, rfl, a⟩
  | _, _, i + 1, _, .cons _ t, h => by
    obtain ⟨v, h1, h2⟩ := dpa_getV (i := i) t (by simpa using h)
    exact ⟨v, by simpa using h1, h2⟩
theorem dpa_app : ∀ {vs : List V} {ds : List D} {ws : List V} {es : List D}, DpAll K H vs ds → DpAll K H ws es → DpAll K H (vs ++ ws) (ds ++ es)
  | _, _, _, _, .nil, h => h
  | _, _, _, _, .cons a t, h => .cons a (dpa_app t h)
theorem dpa_take : ∀ (n : Nat) {vs : List V} {ds : List D}, DpAll K H vs ds → DpAll K H (vs.take n) (ds.take n)
  | 0, _, _, _ => .nil
  | _ + 1, _, _, .nil => .nil
  | n + 1, _, _, .cons a t => .cons a (dpa_take n t)
theorem dpa_drop : ∀ (n : Nat) {vs : List V} {ds : List D}, DpAll K H vs ds → DpAll K H (vs.drop n) (ds.drop n)
  | 0, _, _, h => h
  | _ + 1, _, _, .nil => .nil
  | n + 1, _, _, .cons _ t => dpa_drop n t
theorem dpa_ints : ∀ {ns : List Int}, DpAll K H (ns.map V.int) (ns.map PyData.int)
  | [] => .nil
  | _ :: _ => .cons (.int _) dpa_ints
theorem dpa_ints_inv : ∀ {vs : List V} {ns : List Int}, DpAll K H vs (ns.map PyData.int) → vs = ns.map V.int
  | [], [], _ => rfl
  | _, _ :: _, .cons a t => by cases a; rw [List.map_cons, dpa_ints_inv t]
theorem dpa_bls_inv : ∀ {vs : List V} {ns : List Bool}, DpAll K H vs (ns.map PyData.bool) → vs = ns.map V.bl
  | [], [], _ => rfl
  | _, _ :: _, .cons a t => by cases a; rw [List.map_cons, dpa_bls_inv t]
theorem dpa1 (h : DpAll K H vs [d]) : ∃ v, vs = [v] ∧ Dp K H v d := by
  cases h with | cons a t => cases t; exact ⟨_, rfl, a⟩
theorem dpa2 {d1 d2 : D} (h : DpAll K H vs [d1, d2]) : ∃ v1 v2, vs = [v1, v2] ∧ Dp K H v1 d1 ∧ Dp K H v2 d2 := by
  cases h with | cons a t => obtain ⟨v, rfl, b⟩ := dpa1 t; exact ⟨_, _, rfl, a, b⟩
theorem dpa3 {d1 d2 d3 : D} (h : DpAll K H vs [d1, d2, d3]) : ∃ v1 v2 v3, vs = [v1, v2, v3] ∧ Dp K H v1 d1 ∧ Dp K H v2 d2 ∧ Dp K H v3 d3 := by
  cases h with | cons a t => obtain ⟨v, w, rfl, b, c⟩ := dpa2 t; exact ⟨_, _, _, rfl, a, b, c⟩
/-- a slice's items, of any list -/
def cutL {α : Type} (xs : List α) (lo hi : Option Int) : List α := (xs.drop (HT.sIx xs.length 0 lo)).take (HT.sIx xs.length xs.length hi - HT.sIx xs.length 0 lo)
theorem dpa_cut {lo hi : Option Int} (h : DpAll K H vs ds) : DpAll K H (cutV vs lo hi) (cutL ds lo hi) := by
  unfold cutV cutL
  rw [dpa_len h]
  exact dpa_take _ (dpa_drop _ h)
theorem cutL_map {α β : Type} (f : α → β) (xs : List α) (lo hi : Option Int) : cutL (xs.map f) lo hi = (cutL xs lo hi).map f := by
  unfold cutL
  rw [List.length_map, List.map_take, List.map_drop]
theorem cutL_len {α : Type} (xs : List α) (lo hi : Option Int) : (cutL xs lo hi).length ≤ xs.length := by
  unfold cutL
  rw [List.length_take, List.length_drop]
  omega
theorem cutL_mem {α : Type} {xs : List α} {lo hi : Option Int} {x : α} (h : x ∈ cutL xs lo hi) : x ∈ xs := List.mem_of_mem_drop (List.mem_of_mem_take h)
theorem atI_some {α : Type} {xs : List α} {i : Int} {x : α} (h : atI xs i = some x) : ∃ j, ixN xs.length i = some j ∧ xs[j]? = some x := by
  unfold atI at h
  cases q : ixN xs.length i with
  | none => rw [q] at h; cases h
  | some j => rw [q] at h; exact ⟨j, rfl, h⟩
theorem dpa_at {i : Int} (h : DpAll K H vs ds) (ha : atI ds i = some d) : ∃ v, atI vs i = some v ∧ Dp K H v d := by
  obtain ⟨j, h1, h2⟩ := atI_some ha
  obtain ⟨v, h3, h4⟩ := dpa_get h h2
  refine ⟨v, ?_, h4⟩
  unfold atI
  rw [dpa_len h, h1]
  exact h3
theorem dp_list (h : Dp K H v (.list ds)) : ∃ a xs, v = .ref a ∧ SqL K H a xs ∧ DpAll K H xs ds := by
  cases h with | lst s a => exact ⟨_, _, rfl, s, a⟩
theorem dp_tuple (h : Dp K H v (.tuple ds)) : ∃ a xs, v = .ref a ∧ SqT K H a xs ∧ DpAll K H xs ds := by
  cases h with | tup s a => exact ⟨_, _, rfl, s, a⟩

/-! ## what evaluates to which data: A the heap of the data, B the whole heap -/
structure Pr (A B A' B' : Hp) : Prop where
  a : Ex A A'
  b : Ex B B'
  s : Ex A' B'
  n : ∀ x, A x = none → B x ≠ none → A' x = none
theorem Pr.refl {A B : Hp} (h : Ex A B) : Pr A B A B := ⟨Ex.refl _, Ex.refl _, h, fun _ q _ => q⟩
theorem Pr.trans {A B A' B' A'' B'' : Hp} (h : Pr A B A' B') (k : Pr A' B' A'' B'') : Pr A B A'' B'' :=
  ⟨h.a.trans k.a, h.b.trans k.b, k.s, fun x q r => k.n x (h.n x q r) fun z => r (fresh_back h.b z)⟩
theorem Ex.upd2 {A B : Hp} {p : Addr} {o : HO} (h : Ex A B) : Ex (upd A p o) (upd B p o) := fun a u e => by
  by_cases q : a = p
  · subst q; rw [upd_same] at e; rw [upd_same]; exact e
  · rw [upd_ne q] at e; rw [upd_ne q]; exact h a u e
theorem Pr.new {A B : Hp} {p : Addr} {o : HO} (h : Ex A B) (hp : B p = none) : Pr A B (upd A p o) (upd B p o) :=
  ⟨Ex.new (fresh_back h hp), Ex.new hp, Ex.upd2 h, fun x q r => by rw [upd_ne (fun (z : x = p) => r (by rw [z]; exact hp))]; exact q⟩
theorem Pr.priv {A B : Hp} {p : Addr} {o : HO} (h : Ex A B) (hp : B p = none) : Pr A B A (upd B p o) :=
  ⟨Ex.refl _, Ex.new hp, h.trans (Ex.new hp), fun _ q _ => q⟩
theorem Pr.up {A B B' : Hp} (h : Ex A B) (e : Ex B B') : Pr A B A B' := ⟨Ex.refl _, e, h.trans e, fun _ q _ => q⟩
/-- the whole heap alone has grown -/
structure Pu (A B B' : Hp) : Prop where
  z : Ex A B
  e : Ex B B'
theorem Pu.s {A B B' : Hp} (h : Pu A B B') : Ex A B' := h.z.trans h.e
theorem Pu.pr {A B B' : Hp} (h : Pu A B B') : Pr A B A B' := Pr.up h.z h.e
theorem Pr.whole {B A' B' : Hp} (h : Pr B B A' B') : Ex B B' := h.b
def EvD (K : PySem.W.Frag) (te : TE) (σ : L2.St) (H : Hp) (d : D) : Prop := ∀ A B, Ex H A → Ex A B → ∀ Q : VK, (∀ v A' B', Pr A B A' B' → Dp K A' v d → Q v B') → te σ B Q
/-- a new list of such data -/
def EvN (K : PySem.W.Frag) (te : TE) (σ : L2.St) (H : Hp) (ds : List D) : Prop := ∀ A B, Ex H A → Ex A B → ∀ Q : VK, (∀ p xs A' B', B p = none → Pr A B A' B' → A' p = none → B' p = some (.lst xs) → DpAll K A' xs ds → Q (.ref p) B') → te σ B Q
/-- a list that is tracked -/
def EvK (K : PySem.W.Frag) (te : TE) (σ : L2.St) (H : Hp) (ds : List D) : Prop := ∀ A B, Ex H A → Ex A B → ∀ Q : VK, (∀ p xs A' B', Pr A B A' B' → B' p = some (.lst xs) → DpAll K A' xs ds → Q (.ref p) B') → te σ B Q
def EvAD (K : PySem.W.Frag) (ta : TA) (σ : L2.St) (H : Hp) (ds : List D) : Prop := ∀ A B, Ex H A → Ex A B → ∀ Q : List V → Hp → Prop, (∀ vs A' B', Pr A B A' B' → DpAll K A' vs ds → Q vs B') → ta σ B Q
variable {ta tb te tl : TE} {t u : TT} {tr : TA}
theorem EvD.mono (e : Ex H H') (h : EvD K te σ H d) : EvD K te σ H' d := fun A B a => h A B (e.trans a)
theorem EvN.mono (e : Ex H H') (h : EvN K te σ H ds) : EvN K te σ H' ds := fun A B a => h A B (e.trans a)
theorem ed_is (h : EvD K te σ H d) (q : d = d') : EvD K te σ H d' := q ▸ h
theorem en_is (h : EvN K te σ H ds) (q : ds = es) : EvN K te σ H es := q ▸ h
theorem ed_n (h : EvN K te σ H ds) : EvD K te σ H (.list ds) := fun A B e s Q q => h A B e s Q fun p xs A' B' hp P hA h2 a =>
  q (.ref p) (upd A' p (.lst xs)) B' ⟨P.a.trans (Ex.new hA), P.b, fun x o z => by
    by_cases w : x = p
    · subst w; rw [upd_same] at z; rw [h2]; exact z
    · rw [upd_ne w] at z; exact P.s x o z, fun x y z => by rw [upd_ne (fun (w : x = p) => z (by rw [w]; exact hp))]; exact P.n x y z⟩ (.lst (sq_of upd_same) (dpa_ex (Ex.new hA) a))
theorem ek_n (h : EvN K te σ H ds) : EvK K te σ H ds := fun A B e s Q q => h A B e s Q fun p xs A' B' _ P _ => q p xs A' B' P
theorem ek_var {i : Nat} {p : Addr} (h : σ[i]? = some (some (.ref p))) (hp : H p = some (.lst xs)) (ha : DpAll K H xs ds) : EvK K (tVar i) σ H ds := fun A B e s Q q => ⟨_, h, q p xs A B (Pr.refl s) (s _ _ (e _ _ hp)) (dpa_ex e ha)⟩
theorem ed_v (h : Ev te σ H v) (hd : Dp K H v d) : EvD K te σ H d := fun A B e s Q q => h B (e.trans s) Q fun B' e2 => q v A B' (Pr.up s e2) (dp_ex e hd)
theorem ed_var {i : Nat} (h : σ[i]? = some (some v)) (hd : Dp K H v d) : EvD K (tVar i) σ H d := ed_v (ev_var h) hd
theorem ed_int {i : Int} : EvD K (tC (.int i)) σ H (.int i) := ed_v ev_c (.int i)
theorem ed_str {i : Str} : EvD K (tC (.str i)) σ H (.str i) := ed_v ev_c (.str i)
theorem ed_bl {i : Bool} : EvD K (tC (.bl i)) σ H (.bool i) := ed_v ev_c (.bl i)
theorem ed_non : EvD K (tC .non) σ H .none := ed_v ev_c .non
theorem v_int {i : Int} (h : EvD K te σ H (.int i)) : Ev te σ H (.int i) := fun H1 e Q q => h H1 H1 e (Ex.refl _) Q fun v _ H2 P hv => by cases hv; exact q H2 P.b
theorem v_bl {i : Bool} (h : EvD K te σ H (.bool i)) : Ev te σ H (.bl i) := fun H1 e Q q => h H1 H1 e (Ex.refl _) Q fun v _ H2 P hv => by cases hv; exact q H2 P.b
theorem v_str {i : Str} (h : EvD K te σ H (.str i)) : Ev te σ H (.str i) := fun H1 e Q q => h H1 H1 e (Ex.refl _) Q fun v _ H2 P hv => by cases hv; exact q H2 P.b
theorem v_non (h : EvD K te σ H .none) : Ev te σ H .non := fun H1 e Q q => h H1 H1 e (Ex.refl _) Q fun v _ H2 P hv => by cases hv; exact q H2 P.b
/-- two operands -/
theorem ed_op {r : R2} {d1 d2 : D} (ha : EvD K ta σ H d1) (hb : EvD K tb σ H d2) (hr : ∀ x y A B, Ex H A → Ex A B → Dp K A x d1 → Dp K A y d2 → ∀ Q : VK, (∀ v A' B', Pr A B A' B' → Dp K A' v d → Q v B') → r x y B Q) : EvD K (tOp r ta tb) σ H d := fun A B e s Q q =>
  ha A B e s _ fun x A2 B2 P2 hx => hb A2 B2 (e.trans P2.a) P2.s _ fun y A3 B3 P3 hy => hr x y A3 B3 ((e.trans P2.a).trans P3.a) P3.s (dp_ex P3.a hx) hy Q fun v A4 B4 P4 => q v A4 B4 ((P2.trans P3).trans P4)
/-- the answer is no new thing -/
theorem ed_opB {r : R2} {d1 d2 : D} (ha : EvD K ta σ H d1) (hb : EvD K tb σ H d2) (hr : ∀ x y B, Dp K B x d1 → Dp K B y d2 → ∀ Q : VK, (∀ v, (∀ A, Ex A B → Dp K A x d1 → Dp K A y d2 → Dp K A v d) → Q v B) → r x y B Q) : EvD K (tOp r ta tb) σ H d :=
  ed_op ha hb fun x y A B _ s hx hy Q q => hr x y B (dp_ex s hx) (dp_ex s hy) Q fun v hv => q v A B (Pr.refl s) (hv A s hx hy)
theorem ed_Ii {f : Int → Int → Int} {i j : Int} (ha : EvD K ta σ H (.int i)) (hb : EvD K tb σ H (.int j)) : EvD K (tOp (rI0 fun i j => .int (f i j)) ta tb) σ H (.int (f i j)) :=
  ed_v (ev_op (v_int ha) (v_int hb) rv_I0) (.int _)
theorem ed_Ib {f : Int → Int → Bool} {i j : Int} (ha : EvD K ta σ H (.int i)) (hb : EvD K tb σ H (.int j)) : EvD K (tOp (rI0 fun i j => .bl (f i j)) ta tb) σ H (.bool (f i j)) :=
  ed_v (ev_op (v_int ha) (v_int hb) rv_I0) (.bl _)
theorem ed_Ic {C : Int → Int → Prop} {f : Int → Int → Int} {i j : Int} (ha : EvD K ta σ H (.int i)) (hb : EvD K tb σ H (.int j)) (hc : C i j) : EvD K (tOp (rI C fun i j => .int (f i j)) ta tb) σ H (.int (f i j)) :=
  ed_v (ev_op (v_int ha) (v_int hb) (rv_I hc)) (.int _)
theorem ed_eqi {i j : Int} (ha : EvD K ta σ H (.int i)) (hb : EvD K tb σ H (.int j)) : EvD K (tOp rEq ta tb) σ H (.bool (i == j)) :=
  ed_v (ev_op (v_int ha) (v_int hb) (rv_eq rfl)) (by rw [dec_int]; exact .bl _)
theorem ed_nei {i j : Int} (ha : EvD K ta σ H (.int i)) (hb : EvD K tb σ H (.int j)) : EvD K (tOp rNe ta tb) σ H (.bool (!(i == j))) :=
  ed_v (ev_op (v_int ha) (v_int hb) (rv_ne rfl)) (by rw [dec_int]; exact .bl _)
theorem ed_eqs {i j : Str} (ha : EvD K ta σ H (.str i)) (hb : EvD K tb σ H (.str j)) : EvD K (tOp rEq ta tb) σ H (.bool (i == j)) :=
  ed_v (ev_op (v_str ha) (v_str hb) (rv_eq rfl)) (by rw [dec_str]; exact .bl _)
theorem ed_nes {i j : Str} (ha : EvD K ta σ H (.str i)) (hb : EvD K tb σ H (.str j)) : EvD K (tOp rNe ta tb) σ H (.bool (!(i == j))) :=
  ed_v (ev_op (v_str ha) (v_str hb) (rv_ne rfl)) (by rw [dec_str]; exact .bl _)
theorem ed_eqb {i j : Bool} (ha : EvD K ta σ H (.bool i)) (hb : EvD K tb σ H (.bool j)) : EvD K (tOp rEq ta tb) σ H (.bool (i == j)) :=
  ed_v (ev_op (v_bl ha) (v_bl hb) (rv_eq rfl)) (by rw [dec_bl]; exact .bl _)
theorem ed_neb {i j : Bool} (ha : EvD K ta σ H (.bool i)) (hb : EvD K tb σ H (.bool j)) : EvD K (tOp rNe ta tb) σ H (.bool (!(i == j))) :=
  ed_v (ev_op (v_bl ha) (v_bl hb) (rv_ne rfl)) (by rw [dec_bl]; exact .bl _)
theorem ed_eqD {d1 d2 : D} (ha : EvD K ta σ H d1) (hb : EvD K tb σ H d2) (s1 : SeqAt.shaped d1 = true) (s2 : SeqAt.shaped d2 = true) : EvD K (tOp (rEqD K) ta tb) σ H (.bool (PyData.eqv d1 d2)) :=
  ed_opB ha hb fun _ _ _ hx hy _ q => ⟨d1, d2, hx, hy, s1, s2, q _ fun _ _ _ _ => .bl _⟩
theorem ed_neD {d1 d2 : D} (ha : EvD K ta σ H d1) (hb : EvD K tb σ H d2) (s1 : SeqAt.shaped d1 = true) (s2 : SeqAt.shaped d2 = true) : EvD K (tOp (rNeD K) ta tb) σ H (.bool (!PyData.eqv d1 d2)) :=
  ed_opB ha hb fun _ _ _ hx hy _ q => ⟨d1, d2, hx, hy, s1, s2, q _ fun _ _ _ _ => .bl _⟩
theorem ed_ixL {i : Int} (ha : EvD K ta σ H (.list ds)) (hb : EvD K tb σ H (.int i)) (h : atI ds i = some d) : EvD K (tOp (rIxL K) ta tb) σ H d :=
  ed_op ha hb fun _ _ A B _ s hx hy _ q => by
    obtain ⟨a, xs, rfl, sq, al⟩ := dp_list hx
    cases hy
    obtain ⟨v, h1, h2⟩ := dpa_at al h
    exact ⟨a, xs, i, v, rfl, rfl, ex_l s sq, h1, q v A B (Pr.refl s) h2⟩
theorem ed_ixT {i : Int} (ha : EvD K ta σ H (.tuple ds)) (hb : EvD K tb σ H (.int i)) (h : atI ds i = some d) : EvD K (tOp (rIxT K) ta tb) σ H d :=
  ed_op ha hb fun _ _ A B _ s hx hy _ q => by
    obtain ⟨a, xs, rfl, sq, al⟩ := dp_tuple hx
    cases hy
    obtain ⟨v, h1, h2⟩ := dpa_at al h
    exact ⟨a, xs, i, v, rfl, rfl, ex_t s sq, h1, q v A B (Pr.refl s) h2⟩
theorem ed_ixS {w : Str} {i : Int} {c : Nat} (ha : EvD K ta σ H (.str w)) (hb : EvD K tb σ H (.int i)) (hl : w.length ≤ 100000) (h : atI w.cps.toList i = some c) : EvD K (tOp rIxS ta tb) σ H (.str ⟨#[c]⟩) :=
  ed_v (ev_op (v_str ha) (v_int hb) (rv_ixS hl h)) (.str _)
theorem ea_nilD : EvAD K tNil σ H [] := fun A B _ s _ q => q [] A B (Pr.refl s) .nil
theorem ea_consD (h : EvD K ta σ H d) (hr : EvAD K tr σ H ds) : EvAD K (tCons ta tr) σ H (d :: ds) := fun A B e s _ q =>
  h A B e s _ fun v A2 B2 P2 hv => hr A2 B2 (e.trans P2.a) P2.s _ fun vs A3 B3 P3 ha => q _ A3 B3 (P2.trans P3) (.cons (dp_ex P3.a hv) ha)
theorem ed_tup (h : EvAD K tr σ H ds) (hl : ds.length ≤ 100000) : EvD K (tTup tr) σ H (.tuple ds) := fun A B e s _ q =>
  h A B e s _ fun vs A2 B2 P2 ha => ⟨sz_of (by rw [dpa_len ha]; exact hl), fun p hp => q _ (upd A2 p (.tup vs)) _ (P2.trans (Pr.new P2.s hp)) (.tup (st_of upd_same) (dpa_ex (Ex.new (fresh_back P2.s hp)) ha))⟩
theorem en_lst (h : EvAD K tr σ H ds) (hl : ds.length ≤ 100000) : EvN K (tLst tr) σ H ds := fun A B e s _ q =>
  h A B e s _ fun vs A2 B2 P2 ha => ⟨sz_of (by rw [dpa_len ha]; exact hl), fun p hp => q p vs A2 _ (fresh_back P2.b hp) (P2.trans (Pr.priv P2.s hp)) (fresh_back P2.s hp) upd_same ha⟩
theorem en_cat (ha : EvK K ta σ H ds) (hb : EvK K tb σ H es) (hl : ds.length + es.length ≤ 100000) : EvN K (tOp rCat ta tb) σ H (ds ++ es) := fun A B e s Q q =>
  ha A B e s _ fun p xs A2 B2 P2 hp h1 => hb A2 B2 (e.trans P2.a) P2.s _ fun r ys A3 B3 P3 hr h2 => ⟨p, r, xs, ys, rfl, rfl, P3.b _ _ hp, hr, sz_of (by rw [dpa_len h1, dpa_len h2]; exact hl), fun z hz =>
    q z _ A3 _ (fresh_back (P2.b.trans P3.b) hz) ((P2.trans P3).trans (Pr.priv P3.s hz)) (fresh_back P3.s hz) upd_same (dpa_app (dpa_ex P3.a h1) h2)⟩
/-- a slice's bound; the written part stands by -/
def EvOK (_ : PySem.W.Frag) (to : TO) (σ : L2.St) (H : Hp) (o : Option Int) : Prop := EvO to σ H o
theorem eo_noneD : EvOK K tNoPart σ H none := fun H1 _ _ q => q H1 (Ex.refl H1)
theorem eo_someD {i : Int} (h : EvD K te σ H (.int i)) : EvOK K (tPart te) σ H (some i) := fun H1 e _ q => v_int h H1 e _ fun H2 e2 => ⟨i, rfl, q H2 e2⟩
theorem en_slice {lo hi : Option Int} {t1 t2 : TO} (h : EvD K te σ H (.list ds)) (h1 : EvOK K t1 σ H lo) (h2 : EvOK K t2 σ H hi) : EvN K (tSl (rSlL K) te t1 t2) σ H (cutL ds lo hi) := fun A B e s Q q =>
  h A B e s _ fun v A2 B2 P2 hv => h1 B2 ((e.trans P2.a).trans P2.s) _ fun B3 e3 => h2 B3 (((e.trans P2.a).trans P2.s).trans e3) _ fun B4 e4 => by
    obtain ⟨a, xs, rfl, sq, al⟩ := dp_list hv
    have s4 := (P2.s.trans e3).trans e4
    exact ⟨a, xs, rfl, ex_l s4 sq, fun p hp => q p _ A2 _ (fresh_back ((P2.b.trans e3).trans e4) hp) (P2.trans ((Pr.up P2.s (e3.trans e4)).trans (Pr.priv s4 hp))) (fresh_back s4 hp) upd_same (dpa_cut al)⟩
theorem ed_sliceS {x : Str} {lo hi : Option Int} {t1 t2 : TO} (h : EvD K te σ H (.str x)) (hl : x.length ≤ 100000) (h1 : EvOK K t1 σ H lo) (h2 : EvOK K t2 σ H hi) : EvD K (tSl rSlS te t1 t2) σ H (.str (cutS x lo hi)) :=
  ed_v (v := .str (cutS x lo hi)) (fun H1 e Q q => v_str h H1 e _ fun H2 e2 => h1 H2 (e.trans e2) _ fun H3 e3 => h2 H3 ((e.trans e2).trans e3) _ fun H4 e4 => ⟨x, rfl, sz_of hl, q H4 ((e2.trans e3).trans e4)⟩) (.str _)
theorem ed_call1 {r : List V → Hp → VK → Prop} (h : EvD K ta σ H d) (hr : ∀ v B, Dp K B v d → ∀ Q : VK, (∀ w, (∀ A, Dp K A w e) → Q w B) → r [v] B Q) : EvD K (tCB r (tCons ta tNil)) σ H e := fun A B a s Q q =>
  h A B a s _ fun v A2 B2 P2 hv => hr v B2 (dp_ex P2.s hv) Q fun w hw => q w A2 B2 P2 (hw A2)
theorem ed_len (h : EvD K ta σ H (.list ds)) : EvD K (tCB (rLenS K) (tCons ta tNil)) σ H (.int (ds.length : Int)) := ed_call1 h fun _ B hv _ q => by
  obtain ⟨a, xs, rfl, s, al⟩ := dp_list hv
  refine ⟨a, xs, rfl, .inl s, ?_⟩
  rw [dpa_len al]
  exact q _ fun _ => .int _
theorem ed_lenT (h : EvD K ta σ H (.tuple ds)) : EvD K (tCB (rLenS K) (tCons ta tNil)) σ H (.int (ds.length : Int)) := ed_call1 h fun _ B hv _ q => by
  obtain ⟨a, xs, rfl, s, al⟩ := dp_tuple hv
  refine ⟨a, xs, rfl, .inr s, ?_⟩
  rw [dpa_len al]
  exact q _ fun _ => .int _
theorem en_listof (h : EvD K ta σ H (.list ds)) : EvN K (tCB (rListS K) (tCons ta tNil)) σ H ds := fun A B e s Q q =>
  h A B e s _ fun v A2 B2 P2 hv => by
    obtain ⟨a, xs, rfl, sq, al⟩ := dp_list hv
    exact ⟨a, xs, rfl, .inl (ex_l P2.s sq), fun p hp => q p xs A2 _ (fresh_back P2.b hp) (P2.trans (Pr.priv P2.s hp)) (fresh_back P2.s hp) upd_same al⟩
/-- the name of a datum's type -/
def tyN : D → String
  | .none => "NoneType" | .bool _ => "bool" | .int _ => "int" | .str _ => "str" | .list _ => "list" | .tuple _ => "tuple" | .dict _ => "dict"
theorem tyX_dp (h : Dp K H v d) : TyX K H v (.type (tyN d)) := by
  cases h with
  | non => exact .base .non
  | bl b => exact .base (.bl b)
  | int b => exact .base (.int b)
  | str b => exact .base (.str b)
  | lst s a =>
    rcases s with (s | ⟨o, s⟩) | ⟨ob, vs, n, e, c, _⟩
    · exact .base (.lst s)
    · exact .base (.frz s)
    · exact .kList e c
  | tup s a =>
    rcases s with (s | ⟨o, s⟩) | ⟨ob, vs, n, e, c, _⟩
    · exact .base (.tup s)
    · exact .fTuple s
    · exact .kTuple e c
theorem ed_isi {n : String} {b : Bool} (h : EvD K ta σ H d) (hk : kitB (tyN d) n = some b) : EvD K (tCB (rIsi K) (tCons ta (tCons (tC (.ty n)) tNil))) σ H (.bool b) := fun A B e s Q q =>
  h A B e s _ fun v A2 B2 P2 hv => ⟨v, .ty n, _, _, b, rfl, .ty n, tyX_dp (dp_ex P2.s hv), kit_ty hk, q _ A2 B2 P2 (.bl b)⟩
theorem ki_ii : kitB "int" "int" = some true := by decide +kernel
theorem ki_ib : kitB "int" "bool" = some false := by decide +kernel
theorem ki_bb : kitB "bool" "bool" = some true := by decide +kernel
theorem ki_bi : kitB "bool" "int" = some true := by decide +kernel
theorem ki_nb : kitB "NoneType" "bool" = some false := by decide +kernel
theorem ki_sb : kitB "str" "bool" = some false := by decide +kernel
theorem ki_lb : kitB "list" "bool" = some false := by decide +kernel
theorem ki_tb : kitB "tuple" "bool" = some false := by decide +kernel
theorem ki_ni : kitB "NoneType" "int" = some false := by decide +kernel
theorem ki_si : kitB "str" "int" = some false := by decide +kernel
theorem ki_li : kitB "list" "int" = some false := by decide +kernel
theorem ki_ti : kitB "tuple" "int" = some false := by decide +kernel
theorem ki_di : kitB "dict" "int" = some false := by decide +kernel
theorem ki_tt : kitB "tuple" "tuple" = some true := by decide +kernel
theorem ki_lt : kitB "list" "tuple" = some false := by decide +kernel
theorem ki_st : kitB "str" "tuple" = some false := by decide +kernel
theorem ki_it : kitB "int" "tuple" = some false := by decide +kernel
theorem ki_bt : kitB "bool" "tuple" = some false := by decide +kernel
theorem ki_nt : kitB "NoneType" "tuple" = some false := by decide +kernel
theorem ki_ll : kitB "list" "list" = some true := by decide +kernel
theorem ki_tl : kitB "tuple" "list" = some false := by decide +kernel
theorem ki_sl : kitB "str" "list" = some false := by decide +kernel
theorem ki_nl : kitB "NoneType" "list" = some false := by decide +kernel
theorem ki_il : kitB "int" "list" = some false := by decide +kernel
theorem ki_bl : kitB "bool" "list" = some false := by decide +kernel
theorem ki_ss : kitB "str" "str" = some true := by decide +kernel
theorem ki_ts : kitB "tuple" "str" = some false := by decide +kernel
theorem ki_ls : kitB "list" "str" = some false := by decide +kernel
theorem ki_ns : kitB "NoneType" "str" = some false := by decide +kernel
theorem ki_is : kitB "int" "str" = some false := by decide +kernel
theorem ki_bs : kitB "bool" "str" = some false := by decide +kernel
/-- a test; the written part stands by -/
def EvB (_ : PySem.W.Frag) (t : TT) (σ : L2.St) (H : Hp) (b : Bool) : Prop := EvT t σ H b
theorem eb_D {b : Bool} (h : EvD K te σ H (.bool b)) : EvB K (tTest te) σ H b := et_test (v_bl h)
theorem eb_DB {b : Bool} (h : EvD K te σ H (.bool b)) : EvB K (tB te) σ H b := et_B (v_bl h)
theorem eb_yes : EvB K tYes σ H true := fun H1 _ _ q => q H1 (Ex.refl H1)
theorem eb_not {a : Bool} (h : EvB K t σ H a) : EvB K (tNot t) σ H (!a) := et_not h
theorem eb_and {a b : Bool} (h1 : EvB K t σ H a) (h2 : a = true → EvB K u σ H b) : EvB K (tAnd t u) σ H (a && b) := Evl.et_and h1 h2
theorem eb_or {a b : Bool} (h1 : EvB K t σ H a) (h2 : a = false → EvB K u σ H b) : EvB K (tOr t u) σ H (a || b) := Evl.et_or h1 h2
theorem eb_is {a b : Bool} (h : EvB K t σ H a) (e : a = b) : EvB K t σ H b := e ▸ h
theorem ed_and {a b : Bool} (h1 : EvD K ta σ H (.bool a)) (h2 : a = true → EvD K tb σ H (.bool b)) : EvD K (tAndV ta tb) σ H (.bool (a && b)) := ed_v (ev_andV (v_bl h1) fun q => v_bl (h2 q)) (.bl _)
theorem ed_or {a b : Bool} (h1 : EvD K ta σ H (.bool a)) (h2 : a = false → EvD K tb σ H (.bool b)) : EvD K (tOrV ta tb) σ H (.bool (a || b)) := ed_v (ev_orV (v_bl h1) fun q => v_bl (h2 q)) (.bl _)
theorem ed_not {a : Bool} (h1 : EvD K ta σ H (.bool a)) : EvD K (tNotV ta) σ H (.bool (!a)) := ed_v (ev_notV (v_bl h1)) (.bl _)
/-- max of ints, all of bools -/
def maxI (ns : List Int) : Int := ns.foldl max (ns.headD 0)
theorem foldl_max_ge : ∀ (ns : List Int) (a : Int), a ≤ ns.foldl max a ∧ ∀ n ∈ ns, n ≤ ns.foldl max a
  | [], a => ⟨Int.le_refl _, fun _ h => by simp at h⟩
  | n :: ns, a => by
    obtain ⟨h1, h2⟩ := foldl_max_ge ns (max a n)
    refine ⟨?_, fun m hm => ?_⟩
    · simp only [List.foldl_cons]; omega
    · simp only [List.foldl_cons]
      rcases List.mem_cons.mp hm with rfl | hm
      · omega
      · exact h2 m hm
theorem foldl_max_mem : ∀ (ns : List Int) (a : Int), ns.foldl max a = a ∨ ns.foldl max a ∈ ns
  | [], a => .inl rfl
  | n :: ns, a => by
    simp only [List.foldl_cons]
    rcases foldl_max_mem ns (max a n) with h | h
    · by_cases q : a ≤ n
      · right; rw [h]; simp; left; omega
      · left; rw [h]; omega
    · right; exact List.mem_cons_of_mem _ h
theorem maxI_mem {ns : List Int} (h : ns ≠ []) : maxI ns ∈ ns := by
  cases ns with
  | nil => exact absurd rfl h
  | cons n ns =>
    unfold maxI
    rcases foldl_max_mem (n :: ns) n with q | q
    · simp only [List.headD_cons]; rw [q]; exact List.mem_cons_self
    · exact q
theorem maxI_ge {ns : List Int} : ∀ n ∈ ns, n ≤ maxI ns := (foldl_max_ge ns _).2
theorem maxI_uniq {ns : List Int} {m : Int} (h1 : m ∈ ns) (h2 : ∀ y, y ∈ ns → y ≤ m) : m = maxI ns := by
  have a := maxI_ge m h1
  have b := h2 _ (maxI_mem (List.ne_nil_of_mem h1))
  omega
theorem ed_max {ns : List Int} (h : EvD K ta σ H (.list (ns.map .int))) (hn : ns ≠ []) : EvD K (tCB (rMax K) (tCons ta tNil)) σ H (.int (maxI ns)) := ed_call1 h fun _ B hv _ q => by
  obtain ⟨a, xs, rfl, s, al⟩ := dp_list hv
  rw [dpa_ints_inv al] at s
  refine ⟨a, ns, rfl, s, List.length_pos_iff.mpr hn, fun m h1 h2 => ?_⟩
  rw [maxI_uniq h1 h2]
  exact q _ fun _ => .int _
theorem ed_all {bs : List Bool} (h : EvD K ta σ H (.list (bs.map .bool))) : EvD K (tCB (rAll K) (tCons ta tNil)) σ H (.bool (bs.all id)) := ed_call1 h fun _ B hv _ q => by
  obtain ⟨a, xs, rfl, s, al⟩ := dp_list hv
  rw [dpa_bls_inv al] at s
  exact ⟨a, bs, rfl, s, q _ fun _ => .bl _⟩
/-! ## comprehensions -/
/-- between two turns: the list at L holds what is made, the data lean on A' -/
structure LcI (K : PySem.W.Frag) (A B : Hp) (L : Addr) (es : List D) (H' : Hp) : Prop where
  ex : ∃ A' ys, Ex A A' ∧ Ex A' H' ∧ A' L = none ∧ H' L = some (.lst ys) ∧ DpAll K A' ys es ∧ (∀ x, A x = none → B x ≠ none → A' x = none)
  b : Ex B H'
theorem lci_start {A B : Hp} {L : Addr} (s : Ex A B) (hL : B L = none) : LcI K A B L [] (upd B L (.lst [])) :=
  ⟨⟨A, [], Ex.refl _, s.trans (Ex.new hL), fresh_back s hL, upd_same, .nil, fun _ q _ => q⟩, Ex.new hL⟩
theorem lci_turn {A B H1 : Hp} {L : Addr} {g : D} {f : Bool} (hB : B L = none) (p : LcI K A B L es H1) (hz : es.length < 100000)
    (ht : ∀ A', Ex A A' → EvB K t σ A' f) (he : f = true → ∀ A', Ex A A' → EvD K te σ A' g) :
    t σ H1 fun b H3 => if b = true then te σ H3 fun y H4 => ∃ acc, H4 L = some (.lst acc) ∧ acc.length < sizeLine ∧ LcI K A B L (if f then es ++ [g] else es) (upd H4 L (.lst (acc ++ [y]))) else LcI K A B L (if f then es ++ [g] else es) H3 := by
  obtain ⟨⟨A', ys, a1, a2, a3, a4, a5, a6⟩, a7⟩ := p
  refine ht A' a1 H1 a2 _ fun H3 e3 => ?_
  cases f with
  | true =>
    refine iteT ?_
    refine he rfl A' a1 A' H3 (Ex.refl _) (a2.trans e3) _ fun y A4 H4 P4 hy => ?_
    have e4 : H4 L = some (.lst ys) := P4.b _ _ (e3 _ _ a4)
    have n4 : A4 L = none := P4.n L a3 (by rw [e3 _ _ a4]; simp)
    refine ⟨ys, e4, sz_lt (by rw [dpa_len a5]; exact hz), ⟨⟨A4, ys ++ [y], a1.trans P4.a, ?_, n4, upd_same, dpa_app (dpa_ex P4.a a5) (.cons hy .nil), fun x q r => ?_⟩, ?_⟩⟩
    · exact Ex.mut P4.s n4
    · exact P4.n x (a6 x q r) fun z => r (fresh_back (a7.trans e3) z)
    · exact Ex.mut ((a7.trans e3).trans P4.b) hB
  | false =>
    refine iteF ?_
    exact ⟨⟨A', ys, a1, a2.trans e3, a3, e3 _ _ a4, a5, a6⟩, a7.trans e3⟩
theorem lci_end {A B H' : Hp} {L : Addr} {Q : VK} (hB : B L = none) (p : LcI K A B L es H') (q : ∀ p xs A' B', B p = none → Pr A B A' B' → A' p = none → B' p = some (.lst xs) → DpAll K A' xs es → Q (.ref p) B') : Q (.ref L) H' := by
  obtain ⟨⟨A', ys, a1, a2, a3, a4, a5, a6⟩, a7⟩ := p
  exact q L ys A' H' hB ⟨a1, a7, a2, a6⟩ a3 a4 a5
theorem take_f (f : D → Bool) (g : D → D) {i : Nat} (h : ds[i]? = some d) : ((ds.take (i + 1)).filter f).map g = if f d = true then ((ds.take i).filter f).map g ++ [g d] else ((ds.take i).filter f).map g := by
  have tk : ds.take (i + 1) = ds.take i ++ [d] := by rw [List.take_succ, h]; rfl
  rw [tk, List.filter_append, List.map_append]
  cases hf : f d with
  | true => simp [hf]
  | false => simp [hf]
theorem en_lcL {j : Nat} {ws : List Nat} (f : D → Bool) (g : D → D) (h : EvD K tl σ H (.list ds)) (hz : ds.length ≤ 40000) (hw : ∀ x, wipe ((wipe σ ws).set j (some x)) ws = wipe σ ws)
    (ht : ∀ d ∈ ds, ∀ v H1, Ex H H1 → Dp K H1 v d → EvB K t ((wipe σ ws).set j (some v)) H1 (f d)) (he : ∀ d ∈ ds, f d = true → ∀ v H1, Ex H H1 → Dp K H1 v d → EvD K te ((wipe σ ws).set j (some v)) H1 (g d)) :
    EvN K (tLc (iList K tl) (gName j) t te ws) σ H ((ds.filter f).map g) := fun A B e s Q q => h A B e s _ fun v A1 B1 P1 hv => by
  obtain ⟨a, xs, rfl, sq, al⟩ := dp_list hv
  refine ⟨a, rfl, ⟨xs, ex_l P1.s sq⟩, fun L hL => lc_list (xs := xs) (fun i H' => LcI K A1 B1 L (((ds.take i).filter f).map g) H') (lci_start P1.s hL) (fun i H' _ p => ex_l (P1.s.trans p.b) sq) ?_ ?_⟩
  · intro i x H' hi p
    obtain ⟨d, hd, hx⟩ := dpa_getV al hi
    have hm : d ∈ ds := List.mem_of_getElem? hd
    have hil : i < ds.length := (List.getElem?_eq_some_iff.mp hd).1
    refine ⟨hw x, ?_⟩
    rw [take_f f g hd]
    refine lci_turn hL p ?_ (fun A' ea => ht d hm x A' ((e.trans P1.a).trans ea) (dp_ex ea hx)) (fun hf A' ea => he d hm hf x A' ((e.trans P1.a).trans ea) (dp_ex ea hx))
    have q2 := List.length_filter_le f (ds.take i)
    rw [List.length_take] at q2
    rw [List.length_map]
    omega
  · intro H' p
    rw [dpa_len al, List.take_length] at p
    exact lci_end hL p fun p xs A' B' hp P => q p xs A' B' (fresh_back P1.b hp) (P1.trans P)
/-- without a test -/
theorem en_lcL1 {j : Nat} {ws : List Nat} (g : D → D) (h : EvD K tl σ H (.list ds)) (hz : ds.length ≤ 40000) (hw : ∀ x, wipe ((wipe σ ws).set j (some x)) ws = wipe σ ws)
    (he : ∀ d ∈ ds, ∀ v H1, Ex H H1 → Dp K H1 v d → EvD K te ((wipe σ ws).set j (some v)) H1 (g d)) :
    EvN K (tLc (iList K tl) (gName j) tYes te ws) σ H (ds.map g) := by
  have := en_lcL (t := tYes) (te := te) (j := j) (ws := ws) (fun _ => true) g h hz hw (fun _ _ _ _ _ _ => eb_yes) (fun d hm _ => he d hm)
  rwa [List.filter_eq_self.mpr (by simp)] at this
/-- over range(n) -/
theorem en_lcR {j : Nat} {m : Int} {ws : List Nat} (g : Nat → D) (h : EvD K te σ H (.int m)) (hz : 0 ≤ m ∧ m ≤ 40000) (hw : ∀ x, wipe ((wipe σ ws).set j (some x)) ws = wipe σ ws)
    (he : ∀ i : Nat, (i : Int) < m → ∀ H1, Ex H H1 → EvD K tb ((wipe σ ws).set j (some (.int (i : Int)))) H1 (g i)) :
    EvN K (tLc (iRng1 (tCons te tNil)) (gName j) tYes tb ws) σ H ((List.range m.toNat).map g) := fun A B e s Q q => h A B e s _ fun v A1 B1 P1 hv => by
  cases hv
  refine ⟨m, rfl, by omega, by omega, fun L hL => lc_range (lo := 0) (n := m.toNat) (fun i H' => LcI K A1 B1 L ((List.range i).map g) H') (lci_start P1.s hL) ?_ ?_⟩
  · intro i H' hi p
    have e0 : (0 : Int) + (i : Int) = (i : Int) := Int.zero_add _
    show wipe ((wipe σ ws).set j (some (.int ((0 : Int) + (i : Int))))) ws = wipe σ ws ∧ tYes ((wipe σ ws).set j (some (.int ((0 : Int) + (i : Int))))) H' fun b H3 => if b = true then tb ((wipe σ ws).set j (some (.int ((0 : Int) + (i : Int))))) H3 fun y H4 => ∃ acc, H4 L = some (.lst acc) ∧ acc.length < sizeLine ∧ LcI K A1 B1 L ((List.range (i + 1)).map g) (upd H4 L (.lst (acc ++ [y]))) else LcI K A1 B1 L ((List.range (i + 1)).map g) H3
    rw [e0]
    refine ⟨hw _, ?_⟩
    have z : (List.range (i + 1)).map g = if true = true then (List.range i).map g ++ [g i] else (List.range i).map g := by rw [if_pos rfl, List.range_succ, List.map_append]; rfl
    rw [z]
    refine lci_turn (f := true) hL p ?_ (fun A' _ => eb_yes) (fun _ A' ea => he i (by omega) A' ((e.trans P1.a).trans ea))
    rw [List.length_map, List.length_range]
    omega
  · intro H' p
    exact lci_end hL p fun p xs A' B' hp P => q p xs A' B' (fresh_back P1.b hp) (P1.trans P)
/-! ## statements -/
variable (K) {Dd : Ends} {ts tw tz : TS} {A A0 H0 B : Hp}
theorem s_asgD {i : Nat} (s : Ex A H) (h : EvD K te σ A d) (k : ∀ v A' B', Pr A H A' B' → Dp K A' v d → Dd.nx (σ.set i (some v)) B') : tAsg te (gName i) Dd σ H := h A H (Ex.refl _) s _ k
theorem s_asgN {i : Nat} (s : Ex A H) (h : EvN K te σ A ds) (k : ∀ p xs A' B', H p = none → Pr A H A' B' → A' p = none → B' p = some (.lst xs) → DpAll K A' xs ds → Dd.nx (σ.set i (some (.ref p))) B') : tAsg te (gName i) Dd σ H := h A H (Ex.refl _) s _ k
theorem s_retD (s : Ex A H) (h : EvD K te σ A d) (k : ∀ v A' B', Pr A H A' B' → Dp K A' v d → Dd.rt v B') : tRet te Dd σ H := h A H (Ex.refl _) s _ k
theorem q_appD {i : Nat} {l : Addr} {t2 : TS} (s : Ex A H) (hi : σ[i]? = some (some (.ref l))) (hl : H l = some (.lst xs)) (hz : xs.length < 100000) (h : EvD K te σ A d)
    (k : ∀ v A' B', Pr A H A' B' → Dp K A' v d → t2 Dd σ (upd B' l (.lst (xs ++ [v])))) : tSeq (tDrop (tBM K "list" rAppend (tVar i) (tCons te tNil))) t2 Dd σ H :=
  ⟨.ref l, hi, .inl ⟨rfl, xs, sq_of hl⟩, h A H (Ex.refl _) s _ fun v A' B' P hv => ⟨l, xs, v, rfl, rfl, P.b _ _ hl, sz_lt hz, k v A' B' P hv⟩⟩
theorem s_retK (s : Ex A H) (h : EvD K te σ A d) (q : d = d') (k : ∀ v A' B', Pr A H A' B' → Dp K A' v d' → Dd.rt v B') : tRet te Dd σ H := by
  subst q
  exact h A H (Ex.refl _) s _ k
/-- the ends of a statement that another one follows -/
def go (Dd : Ends) (t2 : TS) : Ends := { Dd with nx := t2 Dd }
theorem s_seq {t1 t2 : TS} (h : t1 (go Dd t2) σ H) : tSeq t1 t2 Dd σ H := h
theorem go_nx {t2 : TS} (h : t2 Dd σ H) : (go Dd t2).nx σ H := h
theorem s_next (h : Dd.nx σ H) : tNext Dd σ H := h
theorem q_next {t2 : TS} (h : t2 Dd σ H) : tNext (go Dd t2) σ H := h
theorem q_asgD {i : Nat} {t2 : TS} (s : Ex A H) (h : EvD K te σ A d) (k : ∀ v A' B', Pr A H A' B' → Dp K A' v d → t2 Dd (σ.set i (some v)) B') : tSeq (tAsg te (gName i)) t2 Dd σ H := h A H (Ex.refl _) s _ k
theorem q_asgN {i : Nat} {t2 : TS} (s : Ex A H) (h : EvN K te σ A ds) (k : ∀ p xs A' B', H p = none → Pr A H A' B' → A' p = none → B' p = some (.lst xs) → DpAll K A' xs ds → t2 Dd (σ.set i (some (.ref p))) B') : tSeq (tAsg te (gName i)) t2 Dd σ H := h A H (Ex.refl _) s _ k
theorem s_ifD {b : Bool} (s : Ex A H) (h : EvB K t σ A b) (h1 : b = true → ∀ B', Pu A H B' → tw Dd σ B') (h2 : b = false → ∀ B', Pu A H B' → tz Dd σ B') : tIfS t tw tz Dd σ H := h H s _ fun B' e => by
  cases b with
  | true => exact iteT (h1 rfl B' ⟨s, e⟩)
  | false => exact iteF (h2 rfl B' ⟨s, e⟩)
theorem q_ifD {b : Bool} {t2 : TS} (s : Ex A H) (h : EvB K t σ A b) (h1 : b = true → ∀ B', Pu A H B' → tw (go Dd t2) σ B') (h2 : b = false → ∀ B', Pu A H B' → tz (go Dd t2) σ B') : tSeq (tIfS t tw tz) t2 Dd σ H := s_ifD K (Dd := go Dd t2) s h h1 h2
theorem q_ifE {b b' : Bool} {t2 : TS} (s : Ex A H) (h : EvB K t σ A b') (q : b' = b) (h1 : b = true → ∀ B', Pu A H B' → tw (go Dd t2) σ B') (h2 : b = false → ∀ B', Pu A H B' → tz (go Dd t2) σ B') : tSeq (tIfS t tw tz) t2 Dd σ H := s_ifD K (Dd := go Dd t2) s (q ▸ h) h1 h2
theorem s_ifE {b b' : Bool} (s : Ex A H) (h : EvB K t σ A b') (q : b' = b) (h1 : b = true → ∀ B', Pu A H B' → tw Dd σ B') (h2 : b = false → ∀ B', Pu A H B' → tz Dd σ B') : tIfS t tw tz Dd σ H := s_ifD K s (q ▸ h) h1 h2
theorem ed_abs {K : PySem.W.Frag} {p : Prop} (h : p) (hn : ¬ p) : EvD K te σ H (.bool false) := absurd h hn
theorem eb_abs {K : PySem.W.Frag} {p : Prop} (h : p) (hn : ¬ p) : EvB K t σ H false := absurd h hn
/-- a for over a list of data: J of the turn, the slots, the data's heap, the whole heap -/
theorem s_forD {g : TG} (s : Ex A H) (h : EvD K tl σ A (.list ds)) (J : Nat → L2.St → Hp → Hp → Prop) (h0 : ∀ A1 B1, Pr A H A1 B1 → J 0 σ A1 B1)
    (hs : ∀ A1 B1, Pr A H A1 B1 → ∀ i d v σ' A' B', ds[i]? = some d → Pr A1 B1 A' B' → Dp K A' v d → J i σ' A' B' →
      g v σ' B' fun σ2 H2 => ts { Dd with nx := fun σ3 H3 => ∃ A3, Pr A1 B1 A3 H3 ∧ J (i + 1) σ3 A3 H3, ct := fun σ3 H3 => ∃ A3, Pr A1 B1 A3 H3 ∧ J (i + 1) σ3 A3 H3, bk := Dd.nx } σ2 H2)
    (hd : ∀ A1 B1 σ' A' B', Pr A H A1 B1 → Pr A1 B1 A' B' → J ds.length σ' A' B' → Dd.nx σ' B') : tFor (iList K tl) g ts Dd σ H := h A H (Ex.refl _) s _ fun v A1 B1 P1 hv => by
  obtain ⟨a, xs, rfl, sq, al⟩ := dp_list hv
  have hlen := dpa_len al
  refine ⟨a, rfl, ⟨xs, ex_l P1.s sq⟩, for_list (xs := xs) (fun i σ' H' => ∃ A', Pr A1 B1 A' H' ∧ J i σ' A' H') ⟨A1, Pr.refl P1.s, h0 A1 B1 P1⟩ (fun i σ' H' _ ⟨A', P, _⟩ => ex_l (P.a.trans P.s) sq) ?_ ?_⟩
  · rintro i x σ' H' hi' ⟨A', P, p⟩
    obtain ⟨d, hdd, hx⟩ := dpa_getV al hi'
    exact hs A1 B1 P1 i d x σ' A' H' hdd P (dp_ex P.a hx) p
  · rintro σ' H' ⟨A', P, p⟩
    rw [hlen] at p
    exact hd A1 B1 σ' A' H' P1 P p
/-- .. over range(n) -/
theorem s_forR {j : Nat} {n : Int} (s : Ex A H) (h : EvAD K tr σ A [.int n]) (hn : -100000 ≤ n ∧ n ≤ 100000) (J : Nat → L2.St → Hp → Hp → Prop) (h0 : ∀ A1 B1, Pr A H A1 B1 → J 0 σ A1 B1)
    (hs : ∀ A1 B1, Pr A H A1 B1 → ∀ (i : Nat) σ' A' B', (i : Int) < n → Pr A1 B1 A' B' → J i σ' A' B' →
      ts { Dd with nx := fun σ3 H3 => ∃ A3, Pr A1 B1 A3 H3 ∧ J (i + 1) σ3 A3 H3, ct := fun σ3 H3 => ∃ A3, Pr A1 B1 A3 H3 ∧ J (i + 1) σ3 A3 H3, bk := Dd.nx } (σ'.set j (some (.int (i : Int)))) B')
    (hd : ∀ A1 B1 σ' A' B', Pr A H A1 B1 → Pr A1 B1 A' B' → J n.toNat σ' A' B' → Dd.nx σ' B') : tFor (iRng1 tr) (gName j) ts Dd σ H := h A H (Ex.refl _) s _ fun vs A1 B1 P1 hv => by
  obtain ⟨v, rfl, hv1⟩ := dpa1 hv
  cases hv1
  refine ⟨n, rfl, by omega, by omega, for_range (lo := 0) (n := n.toNat) (fun i σ' H' => ∃ A', Pr A1 B1 A' H' ∧ J i σ' A' H') ⟨A1, Pr.refl P1.s, h0 A1 B1 P1⟩ ?_ ?_⟩
  · rintro i σ' H' hi ⟨A', P, p⟩
    have e0 : (0 : Int) + (i : Int) = (i : Int) := Int.zero_add _
    show ts _ (σ'.set j (some (.int ((0 : Int) + (i : Int))))) H'
    rw [e0]
    exact hs A1 B1 P1 i σ' A' H' (by omega) P p
  · rintro σ' H' ⟨A', P, p⟩
    exact hd A1 B1 σ' A' H' P1 P p
/-- the turns of range(lo, hi, c) -/
def rgN (lo hi c : Int) : Nat := (if lo < hi then (hi - lo - 1) / c + 1 else 0).toNat
theorem rgN_lt {lo hi c : Int} (hc : 0 < c) {i : Nat} (h : i < rgN lo hi c) : lo + i * c < hi := by
  unfold rgN at h
  split at h
  · rename_i q
    have z0 : 0 ≤ (hi - lo - 1) / c := Int.ediv_nonneg (by omega) (by omega)
    have z1 : (i : Int) ≤ (hi - lo - 1) / c := by omega
    have z3 : (i : Int) * c ≤ hi - lo - 1 := (Int.le_ediv_iff_mul_le hc).mp z1
    omega
  · simp at h
theorem rgc_up {lo hi c : Int} (hc : 0 < c) (hc2 : c < 1000) (h1 : -100000 ≤ lo ∧ lo ≤ 100000) (h2 : -100000 ≤ hi ∧ hi ≤ 100000) : RgC lo hi c (rgN lo hi c) := by
  have e : Builtin.Range.rangeSize lo hi c = (rgN lo hi c : Int) := by
    unfold Builtin.Range.rangeSize rgN
    rw [if_pos (by omega)]
    split
    · have z0 : 0 ≤ (hi - lo - 1) / c := Int.ediv_nonneg (by omega) (by omega)
      omega
    · rfl
  have hn : (rgN lo hi c : Int) ≤ 200000 := by
    unfold rgN
    split
    · have z0 : 0 ≤ (hi - lo - 1) / c := Int.ediv_nonneg (by omega) (by omega)
      have z1 : (hi - lo - 1) / c ≤ hi - lo - 1 := Int.ediv_le_self _ (by omega)
      omega
    · simp
  refine ⟨by omega, by omega, ?_, e⟩
  unfold Builtin.Range.small
  rw [e]
  simp only [Builtin.Range.rangeFitsLong, Bool.and_eq_true, Bool.or_eq_true, decide_eq_true_eq, beq_iff_eq]
  refine ⟨⟨⟨⟨⟨by omega, by omega⟩, by omega, by omega⟩, by omega, by omega⟩, by omega, by omega⟩, .inr ?_⟩
  rw [if_pos hc, Bool.and_eq_true, decide_eq_true_eq, decide_eq_true_eq]
  omega
/-- .. over range(lo, hi, c), c a small positive number -/
theorem s_forR3 {j : Nat} {lo hi c : Int} (s : Ex A H) (h : EvAD K tr σ A [.int lo, .int hi, .int c]) (hc : 0 < c ∧ c < 1000) (hn : -100000 ≤ lo ∧ lo ≤ 100000 ∧ -100000 ≤ hi ∧ hi ≤ 100000) (J : Nat → L2.St → Hp → Hp → Prop) (h0 : ∀ A1 B1, Pr A H A1 B1 → J 0 σ A1 B1)
    (hs : ∀ A1 B1, Pr A H A1 B1 → ∀ (i : Nat) σ' A' B', lo + i * c < hi → Pr A1 B1 A' B' → J i σ' A' B' →
      ts { Dd with nx := fun σ3 H3 => ∃ A3, Pr A1 B1 A3 H3 ∧ J (i + 1) σ3 A3 H3, ct := fun σ3 H3 => ∃ A3, Pr A1 B1 A3 H3 ∧ J (i + 1) σ3 A3 H3, bk := Dd.nx } (σ'.set j (some (.int (lo + (i : Nat) * c)))) B')
    (hd : ∀ A1 B1 σ' A' B', Pr A H A1 B1 → Pr A1 B1 A' B' → J (rgN lo hi c) σ' A' B' → Dd.nx σ' B') : tFor (iRng3 tr) (gName j) ts Dd σ H := h A H (Ex.refl _) s _ fun vs A1 B1 P1 hv => by
  obtain ⟨v1, v2, v3, rfl, hv1, hv2, hv3⟩ := dpa3 hv
  cases hv1; cases hv2; cases hv3
  refine ⟨lo, hi, c, _, rfl, rgc_up hc.1 hc.2 ⟨by omega, by omega⟩ ⟨by omega, by omega⟩, for_it (walk_rangeC (lo := lo) (c := c) (n := rgN lo hi c)) (fun i σ' H' => ∃ A', Pr A1 B1 A' H' ∧ J i σ' A' H') ⟨A1, Pr.refl P1.s, h0 A1 B1 P1⟩ (fun _ _ _ _ _ => trivial) ?_ ?_⟩
  · rintro i x σ' H' H'' hi' ⟨A', P, p⟩ ⟨rfl, rfl⟩
    exact hs A1 B1 P1 i σ' A' H'' (rgN_lt hc.1 hi') P p
  · rintro σ' H' ⟨A', P, p⟩
    exact hd A1 B1 σ' A' H' P1 P p
/-! ### lists that grow: owned ones, not yet data -/
theorem Pr.mut {A B A' B' : Hp} {l : Addr} {o : HO} (P : Pr A B A' B') (hB : B l = none) (hA : A' l = none) : Pr A B A' (upd B' l o) :=
  ⟨P.a, Ex.mut P.b hB, Ex.mut P.s hA, P.n⟩
theorem Ex.frz {A B : Hp} {l : Addr} {o : HO} (s : Ex A B) (hB : B l = some o) : Ex (upd A l o) B := fun x u z => by
  by_cases w : x = l
  · subst w; rw [upd_same] at z; rw [hB]; exact z
  · rw [upd_ne w] at z; exact s x u z
/-- an owned list becomes a datum -/
theorem Pr.frz {A B A' B' : Hp} {l : Addr} {o : HO} (P : Pr A B A' B') (hB : B l = none) (hA : A' l = none) (h : B' l = some o) : Pr A B (upd A' l o) B' :=
  ⟨P.a.trans (Ex.new hA), P.b, Ex.frz P.s h, fun x y z => by rw [upd_ne (fun (w : x = l) => z (by rw [w]; exact hB))]; exact P.n x y z⟩
theorem Pr.owned {A B A' B' : Hp} {l : Addr} (P : Pr A B A' B') (hA : A l = none) {o : HO} (h : B l = some o) : A' l = none ∧ B' l = some o :=
  ⟨P.n l hA (by rw [h]; simp), P.b _ _ h⟩
theorem s_appD {i : Nat} {l : Addr} (s : Ex A H) (hi : σ[i]? = some (some (.ref l))) (hl : H l = some (.lst xs)) (hz : xs.length < 100000) (h : EvD K te σ A d)
    (k : ∀ v A' B', Pr A H A' B' → Dp K A' v d → Dd.nx σ (upd B' l (.lst (xs ++ [v])))) : tDrop (tBM K "list" rAppend (tVar i) (tCons te tNil)) Dd σ H :=
  ⟨.ref l, hi, .inl ⟨rfl, xs, sq_of hl⟩, h A H (Ex.refl _) s _ fun v A' B' P hv => ⟨l, xs, v, rfl, rfl, P.b _ _ hl, sz_lt hz, k v A' B' P hv⟩⟩
/-- loops with an owned list: J tells all -/
theorem s_forR3x {j : Nat} {lo hi c : Int} (s : Ex A H) (h : EvAD K tr σ A [.int lo, .int hi, .int c]) (hc : 0 < c ∧ c < 1000) (hn : -100000 ≤ lo ∧ lo ≤ 100000 ∧ -100000 ≤ hi ∧ hi ≤ 100000) (J : Nat → L2.St → Hp → Prop) (h0 : ∀ A1 B1, Pr A H A1 B1 → J 0 σ B1)
    (hs : ∀ (i : Nat) σ' B', lo + i * c < hi → J i σ' B' → ts { Dd with nx := J (i + 1), ct := J (i + 1), bk := Dd.nx } (σ'.set j (some (.int (lo + (i : Nat) * c)))) B')
    (hd : ∀ σ' B', J (rgN lo hi c) σ' B' → Dd.nx σ' B') : tFor (iRng3 tr) (gName j) ts Dd σ H := h A H (Ex.refl _) s _ fun vs A1 B1 P1 hv => by
  obtain ⟨v1, v2, v3, rfl, hv1, hv2, hv3⟩ := dpa3 hv
  cases hv1; cases hv2; cases hv3
  refine ⟨lo, hi, c, _, rfl, rgc_up hc.1 hc.2 ⟨by omega, by omega⟩ ⟨by omega, by omega⟩, for_it (walk_rangeC (lo := lo) (c := c) (n := rgN lo hi c)) J (h0 A1 B1 P1) (fun _ _ _ _ _ => trivial) ?_ hd⟩
  rintro i x σ' H' H'' hi' p ⟨rfl, rfl⟩
  exact hs i σ' H'' (rgN_lt hc.1 hi') p
/-- for a, b in zip(list, list) -/
theorem s_forZ {i j : Nat} (s : Ex A H) (h : EvAD K tr σ A [.list ds, .list es]) (J : Nat → L2.St → Hp → Hp → Prop) (h0 : ∀ A1 B1, Pr A H A1 B1 → J 0 σ A1 B1)
    (hs : ∀ A1 B1, Pr A H A1 B1 → ∀ t d e v w σ' A' B', ds[t]? = some d → es[t]? = some e → Pr A1 B1 A' B' → Dp K A' v d → Dp K A' w e → J t σ' A' B' →
      ∀ B2, Pu A' B' B2 → ts { Dd with nx := fun σ3 H3 => ∃ A3, Pr A1 B1 A3 H3 ∧ J (t + 1) σ3 A3 H3, ct := fun σ3 H3 => ∃ A3, Pr A1 B1 A3 H3 ∧ J (t + 1) σ3 A3 H3, bk := Dd.nx } ((σ'.set i (some v)).set j (some w)) B2)
    (hd : ∀ A1 B1 σ' A' B', Pr A H A1 B1 → Pr A1 B1 A' B' → J (min ds.length es.length) σ' A' B' → Dd.nx σ' B') : tFor (iZip K tr) (gTup K 2 (gCons (gName i) (gCons (gName j) gNil))) ts Dd σ H := h A H (Ex.refl _) s _ fun vs A1 B1 P1 hv => by
  obtain ⟨v1, v2, rfl, hv1, hv2⟩ := dpa2 hv
  obtain ⟨a, xs, rfl, sq, al⟩ := dp_list hv1
  obtain ⟨b, ys, rfl, sq2, al2⟩ := dp_list hv2
  refine ⟨a, b, xs, ys, rfl, ex_l P1.s sq, ex_l P1.s sq2, for_it (walk_zip (xs := xs) (ys := ys) (n := min ds.length es.length) (by rw [dpa_len al, dpa_len al2])) (fun i σ' H' => ∃ A', Pr A1 B1 A' H' ∧ J i σ' A' H') ⟨A1, Pr.refl P1.s, h0 A1 B1 P1⟩ (fun i σ' H' _ ⟨A', P, _⟩ => ⟨ex_l (P.a.trans P.s) sq, ex_l (P.a.trans P.s) sq2⟩) ?_ ?_⟩
  · rintro t v σ' H' H'' ht ⟨A', P, p⟩ ⟨T, x, y, rfl, hT, rfl, hx, hy⟩
    obtain ⟨d, hd1, hd2⟩ := dpa_getV al hx
    obtain ⟨e, he1, he2⟩ := dpa_getV al2 hy
    exact ⟨T, [x, y], rfl, st_of upd_same, rfl, x, [y], rfl, y, [], rfl, rfl, hs A1 B1 P1 t d e x y σ' A' H' hd1 he1 P (dp_ex P.a hd2) (dp_ex P.a he2) p _ ⟨P.s, Ex.new hT⟩⟩
  · rintro σ' H' ⟨A', P, p⟩
    exact hd A1 B1 σ' A' H' P1 P p
theorem q_forD {t2 : TS} {g : TG} (s : Ex A H) (h : EvD K tl σ A (.list ds)) (J : Nat → L2.St → Hp → Hp → Prop) (h0 : ∀ A1 B1, Pr A H A1 B1 → J 0 σ A1 B1)
    (hs : ∀ A1 B1, Pr A H A1 B1 → ∀ i d v σ' A' B', ds[i]? = some d → Pr A1 B1 A' B' → Dp K A' v d → J i σ' A' B' →
      g v σ' B' fun σ2 H2 => ts { (go Dd t2) with nx := fun σ3 H3 => ∃ A3, Pr A1 B1 A3 H3 ∧ J (i + 1) σ3 A3 H3, ct := fun σ3 H3 => ∃ A3, Pr A1 B1 A3 H3 ∧ J (i + 1) σ3 A3 H3, bk := t2 Dd } σ2 H2)
    (hd : ∀ A1 B1 σ' A' B', Pr A H A1 B1 → Pr A1 B1 A' B' → J ds.length σ' A' B' → t2 Dd σ' B') : tSeq (tFor (iList K tl) g ts) t2 Dd σ H := s_forD K (Dd := go Dd t2) s h J h0 hs hd
theorem q_forR {t2 : TS} {j : Nat} {n : Int} (s : Ex A H) (h : EvAD K tr σ A [.int n]) (hn : -100000 ≤ n ∧ n ≤ 100000) (J : Nat → L2.St → Hp → Hp → Prop) (h0 : ∀ A1 B1, Pr A H A1 B1 → J 0 σ A1 B1)
    (hs : ∀ A1 B1, Pr A H A1 B1 → ∀ (i : Nat) σ' A' B', (i : Int) < n → Pr A1 B1 A' B' → J i σ' A' B' →
      ts { (go Dd t2) with nx := fun σ3 H3 => ∃ A3, Pr A1 B1 A3 H3 ∧ J (i + 1) σ3 A3 H3, ct := fun σ3 H3 => ∃ A3, Pr A1 B1 A3 H3 ∧ J (i + 1) σ3 A3 H3, bk := t2 Dd } (σ'.set j (some (.int (i : Int)))) B')
    (hd : ∀ A1 B1 σ' A' B', Pr A H A1 B1 → Pr A1 B1 A' B' → J n.toNat σ' A' B' → t2 Dd σ' B') : tSeq (tFor (iRng1 tr) (gName j) ts) t2 Dd σ H := s_forR K (Dd := go Dd t2) s h hn J h0 hs hd
theorem q_forR3 {t2 : TS} {j : Nat} {lo hi c : Int} (s : Ex A H) (h : EvAD K tr σ A [.int lo, .int hi, .int c]) (hc : 0 < c ∧ c < 1000) (hn : -100000 ≤ lo ∧ lo ≤ 100000 ∧ -100000 ≤ hi ∧ hi ≤ 100000) (J : Nat → L2.St → Hp → Hp → Prop) (h0 : ∀ A1 B1, Pr A H A1 B1 → J 0 σ A1 B1)
    (hs : ∀ A1 B1, Pr A H A1 B1 → ∀ (i : Nat) σ' A' B', lo + i * c < hi → Pr A1 B1 A' B' → J i σ' A' B' →
      ts { (go Dd t2) with nx := fun σ3 H3 => ∃ A3, Pr A1 B1 A3 H3 ∧ J (i + 1) σ3 A3 H3, ct := fun σ3 H3 => ∃ A3, Pr A1 B1 A3 H3 ∧ J (i + 1) σ3 A3 H3, bk := t2 Dd } (σ'.set j (some (.int (lo + (i : Nat) * c)))) B')
    (hd : ∀ A1 B1 σ' A' B', Pr A H A1 B1 → Pr A1 B1 A' B' → J (rgN lo hi c) σ' A' B' → t2 Dd σ' B') : tSeq (tFor (iRng3 tr) (gName j) ts) t2 Dd σ H := s_forR3 K (Dd := go Dd t2) s h hc hn J h0 hs hd
theorem q_forR3x {t2 : TS} {j : Nat} {lo hi c : Int} (s : Ex A H) (h : EvAD K tr σ A [.int lo, .int hi, .int c]) (hc : 0 < c ∧ c < 1000) (hn : -100000 ≤ lo ∧ lo ≤ 100000 ∧ -100000 ≤ hi ∧ hi ≤ 100000) (J : Nat → L2.St → Hp → Prop) (h0 : ∀ A1 B1, Pr A H A1 B1 → J 0 σ B1)
    (hs : ∀ (i : Nat) σ' B', lo + i * c < hi → J i σ' B' → ts { (go Dd t2) with nx := J (i + 1), ct := J (i + 1), bk := t2 Dd } (σ'.set j (some (.int (lo + (i : Nat) * c)))) B')
    (hd : ∀ σ' B', J (rgN lo hi c) σ' B' → t2 Dd σ' B') : tSeq (tFor (iRng3 tr) (gName j) ts) t2 Dd σ H := s_forR3x K (Dd := go Dd t2) s h hc hn J h0 hs hd
theorem q_forZ {t2 : TS} {i j : Nat} (s : Ex A H) (h : EvAD K tr σ A [.list ds, .list es]) (J : Nat → L2.St → Hp → Hp → Prop) (h0 : ∀ A1 B1, Pr A H A1 B1 → J 0 σ A1 B1)
    (hs : ∀ A1 B1, Pr A H A1 B1 → ∀ t d e v w σ' A' B', ds[t]? = some d → es[t]? = some e → Pr A1 B1 A' B' → Dp K A' v d → Dp K A' w e → J t σ' A' B' →
      ∀ B2, Pu A' B' B2 → ts { (go Dd t2) with nx := fun σ3 H3 => ∃ A3, Pr A1 B1 A3 H3 ∧ J (t + 1) σ3 A3 H3, ct := fun σ3 H3 => ∃ A3, Pr A1 B1 A3 H3 ∧ J (t + 1) σ3 A3 H3, bk := t2 Dd } ((σ'.set i (some v)).set j (some w)) B2)
    (hd : ∀ A1 B1 σ' A' B', Pr A H A1 B1 → Pr A1 B1 A' B' → J (min ds.length es.length) σ' A' B' → t2 Dd σ' B') : tSeq (tFor (iZip K tr) (gTup K 2 (gCons (gName i) (gCons (gName j) gNil))) ts) t2 Dd σ H := s_forZ K (Dd := go Dd t2) s h J h0 hs hd
variable {K}
/-! ### shapes of data -/
def ShN (n : Nat) (d : D) : Prop := d.canLay0 = true ∧ d.depth ≤ n
theorem shn_int {n : Nat} {i : Int} : ShN n (.int i) := ⟨rfl, Nat.zero_le _⟩
theorem shn_bl {n : Nat} {i : Bool} : ShN n (.bool i) := ⟨rfl, Nat.zero_le _⟩
theorem shn_non {n : Nat} : ShN n .none := ⟨rfl, Nat.zero_le _⟩
theorem shn_all {n : Nat} : ∀ {ds : List D}, (∀ d ∈ ds, ShN n d) → PyData.canLayAll0 ds = true ∧ PyData.depthAll ds ≤ n
  | [], _ => ⟨rfl, Nat.zero_le _⟩
  | d :: ds, h => by
    obtain ⟨a, b⟩ := h d List.mem_cons_self
    obtain ⟨c, e⟩ := shn_all (ds := ds) fun x hx => h x (List.mem_cons_of_mem _ hx)
    refine ⟨?_, ?_⟩
    · show (d.canLay0 && PyData.canLayAll0 ds) = true
      rw [a, c]; rfl
    · show max d.depth (PyData.depthAll ds) ≤ n
      omega
theorem shn_tup {n : Nat} (h : ∀ d ∈ ds, ShN n d) : ShN (n + 1) (.tuple ds) := by
  obtain ⟨a, b⟩ := shn_all h
  exact ⟨a, Nat.succ_le_succ b⟩
theorem shn_list {n : Nat} (h : ∀ d ∈ ds, ShN n d) : ShN (n + 1) (.list ds) := by
  obtain ⟨a, b⟩ := shn_all h
  exact ⟨a, Nat.succ_le_succ b⟩
theorem ShN.sh {n : Nat} (h : ShN n d) (hn : n ≤ 64) : SeqAt.shaped d = true := by
  unfold SeqAt.shaped
  rw [h.1, decide_eq_true (Nat.le_trans h.2 hn)]
  rfl
theorem eqv_refl (h : SeqAt.shaped d = true) : PyData.eqv d d = true := by
  have := (Bool.and_eq_true_iff.mp h).1
  exact SeqAt.eqv_refl d this
/-! ## promises over data -/
/-- to such arguments such an answer -/
def SpD (K : PySem.W.Frag) (sp : Sp) (ds : List D) (d : D) : Prop := ∀ A B vs Q E, Ex A B → DpAll K A vs ds → (∀ v A' B', Pr A B A' B' → Dp K A' v d → Q v B') → sp vs B Q E
theorem ed_call {sp : Sp} {E : XK} (h : EvAD K tr σ H ds) (hs : SpD K sp ds d) : EvD K (tCall sp [] E tr) σ H d := fun A B e s Q q => h A B e s _ fun vs A2 B2 P2 ha => by
  show sp (vs ++ []) B2 Q E
  rw [List.append_nil]
  exact hs A2 B2 vs Q E P2.s ha fun v A3 B3 P3 => q v A3 B3 (P2.trans P3)
end
/-- the promise of a def whose answer is the datum res x, to the arguments args x -/
def spF (K : PySem.W.Frag) {α : Type} (args : α → List D) (ok : α → Prop) (res : α → D) : Sp := fun vs H Q _ => ∃ A x, ok x ∧ Ex A H ∧ DpAll K A vs (args x) ∧ ∀ v A' B', Pr A H A' B' → Dp K A' v (res x) → Q v B'
theorem spF_len {K : PySem.W.Frag} {α : Type} {args : α → List D} {ok : α → Prop} {res : α → D} {vs : List V} {H : Hp} {Q : VK} {E : XK} {n : Nat} (h : spF K args ok res vs H Q E) (hl : ∀ x, (args x).length = n) : vs.length = n := by
  obtain ⟨A, x, _, _, ha, _⟩ := h
  rw [dpa_len ha, hl x]
theorem spF_at {K : PySem.W.Frag} {α : Type} {args : α → List D} {ok : α → Prop} {res : α → D} (x : α) (h : ok x) : SpD K (spF K args ok res) (args x) (res x) := fun A _ _ _ _ s ha k => ⟨A, x, h, s, ha, k⟩
theorem cx_K {CX : CXT} {P : Program} {w : World} {K : PySem.W.Frag} {mg : Str → Option Value} {base : Heap} {N : List Str} {qual : Str} {scope : Scope} {f : Addr} {cd : Value} {A : Around} {outer : List Env} {s : Shared} {H : Hp} {E : XK} :
    (cxOf CX P w K mg base N qual scope f cd A outer s H E).nox.K = K := rfl
/-- one def of the text, ready to be called by its name -/
def DefOk (P : Program) (w : World) (K : PySem.W.Frag) (mg : Str → Option Value) (base : Heap) (CX : CXT) (k : Nat) (x : Str) (ps : List Str) (sp : Sp) : Prop :=
  ∃ f fd, mg x = some (.ref f) ∧ PySem.W.keepIn K (.ref f) = true ∧ Binds K fd ps [] ∧ FnOk P w K mg base CX k f fd ps sp
/-- what the top says of a def -/
structure DefAt (K : PySem.W.Frag) (mg : Str → Option Value) (x : Str) (st : Stmt) (ps : List Str) (f : Addr) (fd : FuncData) : Prop where
  F : Fun K x x st f fd
  g : mg x = some (.ref f)
  b : Binds K fd ps []
theorem DefAt.ok {P : Program} {w : World} {K : PySem.W.Frag} {mg : Str → Option Value} {base : Heap} {CX : CXT} {k : Nat} {x : Str} {st : Stmt} {ps : List Str} {f : Addr} {fd : FuncData} {sp : Sp} (d : DefAt K mg x st ps f fd) (h : FnOk P w K mg base CX k f fd ps sp) : DefOk P w K mg base CX k x ps sp :=
  ⟨f, fd, d.g, d.F.kp, d.b, h⟩
section
variable {X : Cx} {CX : CXT} {k : Nat} {x : Str} {ps : List Str} {sp : Sp} {E : XK} {p pos : Pos} {e : Expr} {es : List Expr} {t : TA}
theorem pe_cd (G : DefOk X.prog X.w X.K X.mg X.base CX k x ps sp) (hr : Room k X.A) (hg : Gl X x) (hx : Passes CX X E) (ha : PA X (e :: es) t) (hdb : (x == ("__debug__" : Str)) = false := by decide)
    (he : starEach (e :: es) X.env = (false, eval e X.env) :: starEach es X.env := by rfl) (hpl : (backTo pos (starEach es X.env)).any (·.1) = false := by rfl) : PE X (.Call (.Name x p) (e :: es) [] pos) (tCall sp [] E t) := by
  obtain ⟨f, fd, h1, h2, h3, h4⟩ := G
  exact pe_call h4 hr hg h1 h2 h3 .nil hx ha hdb he hpl
theorem pe_ty {T : String} (hg : Gl X x) (hm : X.mg x = none) (hv : bootBuiltins x = some (.type T)) (hn : x ≠ "__name__" := by decide) (hd : (x == ("__debug__" : Str)) = false := by decide) : PE X (.Name x p) (tC (.ty T)) :=
  pe_bltn (v := .ty T) hg hm hv rfl hn hd
/-! built-in words, the written part a letter -/
section
variable {K : PySem.W.Frag}
theorem ixT (h : X.K = K) : IxR X (rIxT K) := h ▸ ix_tup
theorem ixL (h : X.K = K) : IxR X (rIxL K) := h ▸ ix_list
theorem slL (h : X.K = K) : SlR X (rSlL K) := h ▸ sl_list
theorem o_eqD (h : X.K = K) (hu : X.A.units + 64 < cLine) : OpR X (compareOp .Eq) (rEqD K) := h ▸ op_eqD hu
theorem o_neD (h : X.K = K) (hu : X.A.units + 64 < cLine) : OpR X (compareOp .NotEq) (rNeD K) := h ▸ op_neD hu
theorem o_in (h : X.K = K) : OpR X (compareOp .In) (rIn K false) := h ▸ op_in_seq
theorem o_notIn (h : X.K = K) : OpR X (compareOp .NotIn) (rIn K true) := h ▸ op_notIn_seq
theorem c_len (h : X.K = K) : CallR X (.builtin "len") (rLenS K) := h ▸ call_len_seq
theorem c_list (h : X.K = K) : CallR X (.type "list") (rListS K) := h ▸ call_list_of
theorem c_isi (h : X.K = K) : CallR X (.builtin "isinstance") (rIsi K) := h ▸ call_isi
theorem c_max (h : X.K = K) (hc : X.calm = true) : CallR X (.builtin "max") (rMax K) := h ▸ cr_max hc
theorem c_all (h : X.K = K) (hc : X.calm = true) : CallR X (.builtin "all") (rAll K) := h ▸ cr_all hc
end
end
end Ob

set_option Elab.async false
set_option linter.all false
set_option maxRecDepth 100000
set_option maxHeartbeats 2000000
namespace Ob
open PySem L2 Evl
section
variable {X : Cx} {K : PySem.W.Frag} {H H' H1 : Hp} {σ : L2.St} {v : V} {ds es : List D} {d d' : D} {ta tb te to tl : TE} {tr : TA}
/-! ## texts -/
theorem o_addS : OpR X (binaryOp .Add) rAddS := op_add_str
theorem ed_addS {x y : Str} (ha : EvD K ta σ H (.str x)) (hb : EvD K tb σ H (.str y)) (hl : x.length + y.length ≤ 100000) : EvD K (tOp rAddS ta tb) σ H (.str (x ++ y)) :=
  ed_v (ev_op (v_str ha) (v_str hb) (rv_val fun _ _ _ q => ⟨x, y, rfl, rfl, sz_of hl, q⟩)) (.str _)
/-- the figures of a whole number -/
def numS (i : Int) : Str := Str.ofString (toString i)
def rStrI : List V → Hp → VK → Prop := fun xs H Q => ∃ i : Int, xs = [.int i] ∧ i.natAbs.log2 < 1920 ∧ Q (.str (numS i)) H
theorem c_strI : CallR X (.type "str") rStrI := call_str_int
theorem ed_strI {i : Int} (h : EvD K ta σ H (.int i)) (hl : i.natAbs.log2 < 1920) : EvD K (tCB rStrI (tCons ta tNil)) σ H (.str (numS i)) := ed_call1 h fun _ B hv _ q => by
  cases hv
  exact ⟨i, rfl, hl, q _ fun _ => .str _⟩
def rIntS : List V → Hp → VK → Prop := fun xs H Q => ∃ a n, xs = [.str a] ∧ PySem.intText? a = some n ∧ a.length ≤ 640 ∧ Q (.int n) H
theorem c_intS : CallR X (.type "int") rIntS := call_int_str
theorem ed_intS {w : Str} {n : Int} (h : EvD K ta σ H (.str w)) (hn : PySem.intText? w = some n) (hl : w.length ≤ 640) : EvD K (tCB rIntS (tCons ta tNil)) σ H (.int n) := ed_call1 h fun _ B hv _ q => by
  cases hv
  exact ⟨w, n, rfl, hn, hl, q _ fun _ => .int _⟩
def rLenT : List V → Hp → VK → Prop := fun xs H Q => ∃ z : Str, xs = [.str z] ∧ z.length ≤ sizeLine ∧ Q (.int z.length) H
theorem c_lenS : CallR X (.builtin "len") rLenT := call_len_str
theorem ed_lenS {w : Str} (h : EvD K ta σ H (.str w)) (hl : w.length ≤ 100000) : EvD K (tCB rLenT (tCons ta tNil)) σ H (.int (w.length : Int)) := ed_call1 h fun _ B hv _ q => by
  cases hv
  exact ⟨w, rfl, sz_of hl, q _ fun _ => .int _⟩
theorem ed_fmtI {i : Int} (h : EvD K te σ H (.int i)) (hl : i.natAbs.log2 < 1920) : EvD K (tFmt te) σ H (.str (numS i)) :=
  ed_v (v := .str (numS i)) (fun H1 e Q q => v_int h H1 e _ fun H2 e2 => .inr ⟨i, rfl, hl, q H2 e2⟩) (.str _)
/-- the parts of an f-string -/
def tJn (ts : List TE) : TE := fun σ H Q => tJs ts Str.empty σ H fun out H1 => Q (.str out) H1
theorem pe_jn {v1 v2 : Expr} {rest : List Expr} {ts : List TE} {pos : Pos} (h : PJ X (v1 :: v2 :: rest) ts) : PE X (.JoinedStr (v1 :: v2 :: rest) pos) (tJn ts) := pe_joined h
def EvJ (_ : PySem.W.Frag) (ts : List TE) (acc : Str) (σ : L2.St) (H : Hp) (out : Str) : Prop := ∀ H1, Ex H H1 → ∀ Q : Str → Hp → Prop, (∀ H2, Ex H1 H2 → Q out H2) → tJs ts acc σ H1 Q
theorem ej_nil {acc : Str} : EvJ K [] acc σ H acc := fun H1 _ _ q => q H1 (Ex.refl _)
theorem ej_cons {t : TE} {ts : List TE} {acc y out : Str} (h : EvD K t σ H (.str y)) (hl : acc.length + y.length ≤ 100000) (r : EvJ K ts (acc ++ y) σ H out) : EvJ K (t :: ts) acc σ H out := fun H1 e Q q =>
  v_str h H1 e _ fun H2 e2 => ⟨y, rfl, sz_of (by rw [show (acc ++ y).length = acc.length + y.length from Str.length_append _ _]; exact hl), r H2 (e.trans e2) Q fun H3 e3 => q H3 (e2.trans e3)⟩
theorem ed_jn {ts : List TE} {out : Str} (h : EvJ K ts Str.empty σ H out) : EvD K (tJn ts) σ H (.str out) :=
  ed_v (v := .str out) (fun H1 e Q q => h H1 e _ fun H2 e2 => q H2 e2) (.str _)
def rSplit : V → List V → Hp → VK → Prop := fun x xs H Q => ∃ a b, x = .str a ∧ xs = [.str b] ∧ (b.length == 0) = false ∧ a.length + 2 ≤ sizeLine ∧ rNewStrs (Txt.split a b) H Q
theorem pe_splitN {o e : Expr} {apos pos : Pos} (ho : PE X o to) (he : PE X e te) (hs : starEach [e] X.env = [(false, eval e X.env)] := by rfl) (hbase : attributeBase o "split" X.env (eval o X.env) = eval o X.env := by rfl) (hline : (apos.endLine == pos.line) = true := by rfl) :
    PE X (.Call (.Attribute o "split" apos) [e] [] pos) (tM1 rSplit to te) := pe_split ho he hs hbase hline
theorem dpa_strs : ∀ {ns : List Str}, DpAll K H (ns.map V.str) (ns.map PyData.str)
  | [] => .nil
  | _ :: _ => .cons (.str _) dpa_strs
theorem en_split {a b : Str} (h1 : EvD K to σ H (.str a)) (h2 : EvD K te σ H (.str b)) (hb : (b.length == 0) = false) (hl : a.length ≤ 100000) : EvN K (tM1 rSplit to te) σ H ((Txt.split a b).map PyData.str) := fun A B e s Q q =>
  v_str h1 B (e.trans s) _ fun B2 e2 => ⟨⟨a, rfl⟩, v_str h2 B2 ((e.trans s).trans e2) _ fun B3 e3 => ⟨a, b, rfl, rfl, hb, Nat.le_trans (show a.length + 2 ≤ 100002 by omega) (by decide), fun p hp =>
    q p _ A _ (fresh_back (e2.trans e3) hp) ((Pr.up s (e2.trans e3)).trans (Pr.priv (s.trans (e2.trans e3)) hp)) (fresh_back (s.trans (e2.trans e3)) hp) upd_same dpa_strs⟩⟩
theorem shn_str {n : Nat} {x : Str} (h : PyData.strOk x = true) : ShN n (.str x) := ⟨h, Nat.zero_le _⟩
/-! ## in -/
def flatD : D → Bool
  | .none => true | .bool _ => true | .int _ => true | .str _ => true | _ => false
theorem flat_V (h : Dp K H v d) (hf : flatD d = true) : flatV v = true := by
  cases h <;> first | rfl | cases hf
theorem eqv_V {w : V} {e : D} (h : Dp K H v d) (h' : Dp K H w e) (hf : flatD d = true) (hf' : flatD e = true) : eqV v w = PyData.eqv d e := by
  cases h <;> first | (cases hf; done) | (cases h' <;> first | (cases hf'; done) | rfl | (simp [eqV, PyData.eqv]))
theorem flat_all : ∀ {vs : List V} {ds : List D}, DpAll K H vs ds → ds.all flatD = true → vs.all flatV = true
  | _, _, .nil, _ => rfl
  | _, _, .cons a t, h => by
    rw [List.all_cons, Bool.and_eq_true] at h
    rw [List.all_cons, flat_V a h.1, flat_all t h.2]
    rfl
theorem inV_D {w : V} {e : D} (h : Dp K H w e) (hf : flatD e = true) : ∀ {vs : List V} {ds : List D}, DpAll K H vs ds → ds.all flatD = true → inV w vs = ds.any fun y => PyData.eqv y e
  | _, _, .nil, _ => rfl
  | _, _, .cons a t, q => by
    rw [List.all_cons, Bool.and_eq_true] at q
    unfold inV
    rw [List.any_cons, List.any_cons, eqv_V a h q.1 hf]
    have := inV_D h hf t q.2
    unfold inV at this
    rw [this]
theorem ed_inT (ha : EvD K ta σ H d) (hb : EvD K tb σ H (.tuple ds)) (hf : flatD d = true) (hs : ds.all flatD = true) : EvD K (tOp (rIn K false) ta tb) σ H (.bool (ds.any fun y => PyData.eqv y d)) :=
  ed_opB ha hb fun _ _ _ hx hy _ q => by
    obtain ⟨a, xs, rfl, s, al⟩ := dp_tuple hy
    refine ⟨a, xs, rfl, .inr s, flat_V hx hf, flat_all al hs, q _ fun _ _ _ _ => ?_⟩
    rw [← inV_D hx hf al hs]
    exact .bl _
theorem ed_niT (ha : EvD K ta σ H d) (hb : EvD K tb σ H (.tuple ds)) (hf : flatD d = true) (hs : ds.all flatD = true) : EvD K (tOp (rIn K true) ta tb) σ H (.bool (!ds.any fun y => PyData.eqv y d)) :=
  ed_opB ha hb fun _ _ _ hx hy _ q => by
    obtain ⟨a, xs, rfl, s, al⟩ := dp_tuple hy
    refine ⟨a, xs, rfl, .inr s, flat_V hx hf, flat_all al hs, q _ fun _ _ _ _ => ?_⟩
    rw [← inV_D hx hf al hs]
    exact .bl _
theorem ed_inL (ha : EvD K ta σ H d) (hb : EvD K tb σ H (.list ds)) (hf : flatD d = true) (hs : ds.all flatD = true) : EvD K (tOp (rIn K false) ta tb) σ H (.bool (ds.any fun y => PyData.eqv y d)) :=
  ed_opB ha hb fun _ _ _ hx hy _ q => by
    obtain ⟨a, xs, rfl, s, al⟩ := dp_list hy
    refine ⟨a, xs, rfl, .inl s, flat_V hx hf, flat_all al hs, q _ fun _ _ _ _ => ?_⟩
    rw [← inV_D hx hf al hs]
    exact .bl _
theorem ed_niL (ha : EvD K ta σ H d) (hb : EvD K tb σ H (.list ds)) (hf : flatD d = true) (hs : ds.all flatD = true) : EvD K (tOp (rIn K true) ta tb) σ H (.bool (!ds.any fun y => PyData.eqv y d)) :=
  ed_opB ha hb fun _ _ _ hx hy _ q => by
    obtain ⟨a, xs, rfl, s, al⟩ := dp_list hy
    refine ⟨a, xs, rfl, .inl s, flat_V hx hf, flat_all al hs, q _ fun _ _ _ _ => ?_⟩
    rw [← inV_D hx hf al hs]
    exact .bl _
theorem c_max2 (hc : X.calm = true) : CallR X (.builtin "max") rMax2 := call_max2 hc
theorem ed_max2 {i j : Int} (ha : EvD K ta σ H (.int i)) (hb : EvD K tb σ H (.int j)) : EvD K (tCB rMax2 (tCons ta (tCons tb tNil))) σ H (.int (if j > i then j else i)) := ed_v (ev_max2 (v_int ha) (v_int hb)) (.int _)
theorem ed_neg {i : Int} (h : EvD K ta σ H (.int i)) : EvD K (tUn (rU fun i => .int (-i)) ta) σ H (.int (-i)) := ed_v (ev_un (v_int h) ru_neg) (.int _)
/-- one sign in a text -/
theorem ed_inSg {c : Nat} {z : Str} (ha : EvD K ta σ H (.str ⟨#[c]⟩)) (hb : EvD K tb σ H (.str z)) : EvD K (tOp rInS ta tb) σ H (.bool (decide (c ∈ z.cps.toList))) :=
  ed_v (ev_op (v_str ha) (v_str hb) (rv_val fun _ _ _ q => ⟨c, z, rfl, rfl, q⟩)) (.bl _)
theorem ed_niSg {c : Nat} {z : Str} (ha : EvD K ta σ H (.str ⟨#[c]⟩)) (hb : EvD K tb σ H (.str z)) : EvD K (tOp rNotInS ta tb) σ H (.bool (!decide (c ∈ z.cps.toList))) :=
  ed_v (ev_op (v_str ha) (v_str hb) (rv_val fun _ _ _ q => ⟨c, z, rfl, rfl, q⟩)) (.bl _)
/-- is None -/
def isNone : D → Bool
  | .none => true
  | _ => false
theorem dec_non (h : Dp K H v d) : decide (v = .non) = isNone d := by
  cases h <;> first | rfl | (rw [decide_eq_false]; rfl; intro z; cases z)
theorem ed_isN (h : EvD K ta σ H d) : EvD K (tOp rIsN ta (tC .non)) σ H (.bool (isNone d)) := fun A B e s Q q => h A B e s _ fun v A2 B2 P2 hv => ⟨rfl, by rw [dec_non hv]; exact q _ A2 B2 P2 (.bl _)⟩
theorem ed_notN (h : EvD K ta σ H d) : EvD K (tOp rNotN ta (tC .non)) σ H (.bool (!isNone d)) := fun A B e s Q q => h A B e s _ fun v A2 B2 P2 hv => ⟨rfl, by rw [dec_non hv]; exact q _ A2 B2 P2 (.bl _)⟩
/-- two names at once -/
theorem q_asg2 (K : PySem.W.Frag) {Dd : Ends} {A : Hp} {t2 : TS} {i j : Nat} {d1 d2 : D} (s : Ex A H) (h : EvD K te σ A (.tuple [d1, d2])) (k : ∀ v1 v2 A' B', Pr A H A' B' → Dp K A' v1 d1 → Dp K A' v2 d2 → t2 Dd ((σ.set i (some v1)).set j (some v2)) B') :
    tSeq (tAsg te (gTup K 2 (gCons (gName i) (gCons (gName j) gNil)))) t2 Dd σ H := h A H (Ex.refl _) s _ fun v A' B' P hv => by
  obtain ⟨a, xs, rfl, sq, al⟩ := dp_tuple hv
  obtain ⟨v1, v2, rfl, h1, h2⟩ := dpa2 al
  exact ⟨a, [v1, v2], rfl, ex_t P.s sq, rfl, v1, [v2], rfl, v2, [], rfl, rfl, k v1 v2 A' B' P h1 h2⟩
/-- a for over a text's signs -/
theorem q_forS (K : PySem.W.Frag) {Dd : Ends} {A : Hp} {g : TG} {ts t2 : TS} {z : Str} (s : Ex A H) (h : EvD K tl σ A (.str z)) (J : Nat → L2.St → Hp → Hp → Prop) (h0 : ∀ A1 B1, Pr A H A1 B1 → J 0 σ A1 B1)
    (hs : ∀ A1 B1, Pr A H A1 B1 → ∀ i c σ' A' B', z.cps.toList[i]? = some c → Pr A1 B1 A' B' → J i σ' A' B' →
      g (.str ⟨#[c]⟩) σ' B' fun σ2 H2 => ts { (go Dd t2) with nx := fun σ3 H3 => ∃ A3, Pr A1 B1 A3 H3 ∧ J (i + 1) σ3 A3 H3, ct := fun σ3 H3 => ∃ A3, Pr A1 B1 A3 H3 ∧ J (i + 1) σ3 A3 H3, bk := t2 Dd } σ2 H2)
    (hd : ∀ A1 B1 σ' A' B', Pr A H A1 B1 → Pr A1 B1 A' B' → J z.cps.toList.length σ' A' B' → t2 Dd σ' B') : tSeq (tFor (iStr tl) g ts) t2 Dd σ H := h A H (Ex.refl _) s _ fun v A1 B1 P1 hv => by
  cases hv
  refine ⟨z, rfl, for_it walk_str (fun i σ' H' => ∃ A', Pr A1 B1 A' H' ∧ J i σ' A' H') ⟨A1, Pr.refl P1.s, h0 A1 B1 P1⟩ (fun _ _ _ _ _ => trivial) ?_ ?_⟩
  · rintro i x σ' H' H'' hi ⟨A', P, p⟩ ⟨rfl, c, hc, rfl⟩
    exact hs A1 B1 P1 i c σ' A' H'' (by rw [Array.getElem?_toList]; exact hc) P p
  · rintro σ' H' ⟨A', P, p⟩
    exact hd A1 B1 σ' A' H' P1 P (by rw [Array.length_toList]; exact p)
/-! ## what may raise: r = none -/
def EvX (K : PySem.W.Frag) (te : TE) (σ : L2.St) (H : Hp) (r : Option D) (R : Hp → Prop) : Prop :=
  ∀ A B, Ex H A → Ex A B → ∀ Q : VK, (∀ d, r = some d → ∀ v A' B', Pr A B A' B' → Dp K A' v d → Q v B') → (r = none → ∀ B', Ex B B' → R B') → te σ B Q
def EvAX (K : PySem.W.Frag) (ta : TA) (σ : L2.St) (H : Hp) (r : Option (List D)) (R : Hp → Prop) : Prop :=
  ∀ A B, Ex H A → Ex A B → ∀ Q : List V → Hp → Prop, (∀ ds, r = some ds → ∀ vs A' B', Pr A B A' B' → DpAll K A' vs ds → Q vs B') → (r = none → ∀ B', Ex B B' → R B') → ta σ B Q
variable {r r1 : Option D} {R : Hp → Prop}
theorem ex_d (h : EvD K te σ H d) : EvX K te σ H (some d) R := fun A B e s Q q _ => h A B e s Q fun v A' B' P hv => q d rfl v A' B' P hv
theorem ex_is (h : EvX K te σ H r R) (q : r = r1) : EvX K te σ H r1 R := q ▸ h
theorem eax_nil : EvAX K tNil σ H (some []) R := fun A B _ s _ q _ => q [] rfl [] A B (Pr.refl s) .nil
def consO (r : Option D) (q : Option (List D)) : Option (List D) := match r, q with
  | some d, some ds => some (d :: ds)
  | _, _ => none
theorem eax_cons {q : Option (List D)} (h : EvX K ta σ H r R) (hr : EvAX K tr σ H q R) : EvAX K (tCons ta tr) σ H (consO r q) R := fun A B e s Q k x =>
  h A B e s _ (fun d hd v A2 B2 P2 hv => hr A2 B2 (e.trans P2.a) P2.s _ (fun ds hds vs A3 B3 P3 ha => k (d :: ds) (by rw [hd, hds]; rfl) _ A3 B3 (P2.trans P3) (.cons (dp_ex P3.a hv) ha)) fun hn B3 e3 => x (by rw [hd, hn]; rfl) B3 (P2.b.trans e3)) fun hn B2 e2 => x (by rw [hn]; rfl) B2 e2
theorem ex_tup {q : Option (List D)} (h : EvAX K tr σ H q R) (hl : ∀ ds, q = some ds → ds.length ≤ 100000) : EvX K (tTup tr) σ H (q.map .tuple) R := fun A B e s Q k x =>
  h A B e s _ (fun ds hds vs A2 B2 P2 ha => ⟨sz_of (by rw [dpa_len ha]; exact hl ds hds), fun p hp => k (.tuple ds) (by rw [hds]; rfl) _ (upd A2 p (.tup vs)) _ (P2.trans (Pr.new P2.s hp)) (.tup (st_of upd_same) (dpa_ex (Ex.new (fresh_back P2.s hp)) ha))⟩) fun hn B2 e2 => x (by rw [hn]; rfl) B2 e2
/-- to such arguments such an answer, or C is raised -/
def SpX (K : PySem.W.Frag) (sp : Sp) (C : Addr) (ds : List D) (r : Option D) : Prop := ∀ A B vs Q E, Ex A B → DpAll K A vs ds → (∀ d, r = some d → ∀ v A' B', Pr A B A' B' → Dp K A' v d → Q v B') → (r = none → ∀ B', Ex B B' → E (.ref C) none B') → sp vs B Q E
theorem ex_callS {sp : Sp} {C : Addr} {E : L2.St → XK} (h : EvAD K tr σ H ds) (hs : SpX K sp C ds r) (hR : ∀ B', R B' → E σ (.ref C) none B') : EvX K (tCallS sp E tr) σ H r R := fun A B e s Q q x => h A B e s _ fun vs A2 B2 P2 ha =>
  hs A2 B2 vs Q (E σ) P2.s ha (fun d hd v A3 B3 P3 => q d hd v A3 B3 (P2.trans P3)) fun hn B3 e3 => hR B3 (x hn B3 (P2.b.trans e3))
def spX (K : PySem.W.Frag) (C : Addr) {α : Type} (args : α → List D) (ok : α → Prop) (res : α → Option D) : Sp := fun vs H Q E => ∃ A x, ok x ∧ Ex A H ∧ DpAll K A vs (args x) ∧ (∀ d, res x = some d → ∀ v A' B', Pr A H A' B' → Dp K A' v d → Q v B') ∧ (res x = none → ∀ B', Ex H B' → E (.ref C) none B')
theorem spX_len {C : Addr} {α : Type} {args : α → List D} {ok : α → Prop} {res : α → Option D} {vs : List V} {Q : VK} {E : XK} {n : Nat} (h : spX K C args ok res vs H Q E) (hl : ∀ x, (args x).length = n) : vs.length = n := by
  obtain ⟨A, x, _, _, ha, _⟩ := h
  rw [dpa_len ha, hl x]
theorem spX_at {C : Addr} {α : Type} {args : α → List D} {ok : α → Prop} {res : α → Option D} (x : α) (h : ok x) : SpX K (spX K C args ok res) C (args x) (res x) := fun A _ _ _ _ s ha k q => ⟨A, x, h, s, ha, k, q⟩
/-- a call that raises nothing -/
theorem spX_ok {C : Addr} {α : Type} {args : α → List D} {ok : α → Prop} {res : α → Option D} (x : α) (h : ok x) (hd : res x = some d) : SpD K (spX K C args ok res) (args x) d := fun A _ _ _ _ s ha k =>
  ⟨A, x, h, s, ha, fun d' h' => by rw [hd] at h'; cases h'; exact k, fun h' => by rw [hd] at h'; cases h'⟩
/-! statements -/
variable (K) {Dd : Ends} {t2 : TS} {A : Hp}
theorem q_asgX {i : Nat} (s : Ex A H) (h : EvX K te σ A r R) (k : ∀ d, r = some d → ∀ v A' B', Pr A H A' B' → Dp K A' v d → t2 Dd (σ.set i (some v)) B') (x : r = none → ∀ B', Ex H B' → R B') : tSeq (tAsg te (gName i)) t2 Dd σ H := h A H (Ex.refl _) s _ k x
theorem s_retX (s : Ex A H) (h : EvX K te σ A r R) (k : ∀ d, r = some d → ∀ v A' B', Pr A H A' B' → Dp K A' v d → Dd.rt v B') (x : r = none → ∀ B', Ex H B' → R B') : tRet te Dd σ H := h A H (Ex.refl _) s _ k x
end
/-! ## defs that raise -/
section
variable {X : Cx}
/-- a module's whole number -/
theorem pe_gi {x : Str} {i : Int} {pos : Pos} (hg : Gl X x) (h : ∃ t, X.mg x = some (.int i t)) (hd : (x == ("__debug__" : Str)) = false := by decide) : PE X (.Name x pos) (tC (.int i)) := by
  obtain ⟨t, e⟩ := h
  exact pe_glob (v := .int i) hg e ⟨t, rfl⟩ hd
/-- what the top says of an own class of errors -/
structure ExcCl (K : PySem.W.Frag) (mg : Str → Option Value) (x : Str) (C : Addr) : Prop where
  g : mg x = some (.ref C)
  k : PySem.W.keepIn K (.ref C) = true
  x : PySem.W.excIn K C [.type "ValueError", .type "Exception", .type "BaseException", .type "object"] "ValueError.__new__" = true
  b : PySem.W.subIn K (.ref C) (.type "BaseException") = some true
  t : PySem.W.typeIn K (.ref C) = some (.type "type")
def tRaiseC (C : Addr) (W : WX) : TS := fun _ σ H => W (.ref C) none σ H
theorem ps_rs {x m : Str} {C : Addr} {W : WX} {j : Nat} {p p2 pos pos2 : Pos} (hc : X.calm = true) (tk : L2N.Takes X W) (T : ExcCl X.K X.mg x C) (hg : Gl X x) (hdb : (x == ("__debug__" : Str)) = false := by decide) :
    PS X (.Raise (some (.Call (.Name x p) [.Constant (.str m) j p2] [] pos)) none pos2) (tRaiseC C W) :=
  L2N.ps_raise hc tk (L2N.pmk_own PySem.F.excBase_ValueError T.x T.g T.k (raises_own T.b T.t) hg hdb)
/-- nothing is wished of an error: none comes -/
theorem passN {X : Cx} : Passes (L2N.CX X.prog X.w) X E0 := fun _ _ _ _ _ _ _ c =>
  let ⟨_, _, _, _, _, _, _, _, _, _, _, _, z⟩ := c
  z.elim
theorem okN {P : Program} {w : World} {K : PySem.W.Frag} {mg : Str → Option Value} {base : Heap} {x qual : Str} {st : Stmt} {f : Addr} {fd : FuncData} {N ps : List Str} {k : Nat} {sp : Sp} (F : Fun K x qual st f fd) (S : FnScope N ps (defScope st))
    (len : ∀ vs H Q E, sp vs H Q E → vs.length = ps.length)
    (body : ∀ cdv A outer s H vs Q E, Room k (A.deeper (PyProof.Rows.envOfC qual (defScope st) s.heap.objs.size f cdv)) → sp vs H Q E →
      ∃ t, PSs (cxOf (L2N.CX P w) P w K mg base N qual (defScope st) f cdv A outer s H E) (defBody st) t ∧ t ⟨fun _ H' => Q .non H', Q, fun _ _ => False, fun _ _ => False⟩ (L2.start N vs) H) : FnOk P w K mg base (L2N.CX P w) (k + 1) f fd ps sp := by
  obtain ⟨_, _, _, _, _, _, _, _, _, e, lk, hc⟩ := F.ex
  subst e
  exact fn_of lk hc S len fun A outer s H vs Q E hr hs => body _ A outer s H vs Q E hr hs
variable {CX : CXT} {k : Nat} {x : Str} {ps : List Str} {sp : Sp} {E : L2.St → XK} {p pos : Pos} {e : Expr} {es : List Expr} {t : TA}
theorem pe_cs (G : DefOk X.prog X.w X.K X.mg X.base CX k x ps sp) (hr : Room k X.A) (hg : Gl X x) (hx : ∀ σ, PassesAt CX X σ (E σ)) (ha : PA X (e :: es) t) (hdb : (x == ("__debug__" : Str)) = false := by decide)
    (he : starEach (e :: es) X.env = (false, eval e X.env) :: starEach es X.env := by rfl) (hpl : (backTo pos (starEach es X.env)).any (·.1) = false := by rfl) : PE X (.Call (.Name x p) (e :: es) [] pos) (tCallS sp E t) := by
  obtain ⟨f, fd, h1, h2, h3, h4⟩ := G
  exact pe_callS h4 hr hg h1 h2 h3 hx ha hdb he hpl
theorem cx_K2 {CX : CXT} {P : Program} {w : World} {K : PySem.W.Frag} {mg : Str → Option Value} {base : Heap} {N : List Str} {qual : Str} {scope : Scope} {f : Addr} {cd : Value} {A : Around} {outer : List Env} {s : Shared} {H : Hp} {E : XK} :
    (cxOf CX P w K mg base N qual scope f cd A outer s H E).K = K := rfl
end
end Ob

set_option Elab.async false
set_option linter.all false
set_option maxRecDepth 100000
set_option maxHeartbeats 2000000
namespace Ob
open PySem PySem.Spec PyProof.Rows L2 L2H HotX
/-! ## within an except suite -/
section
variable {prog : Program} {w : World} {A : Around} {E : Value → Shared → Prop} {z : Shared}
/-- a list's iterator ends while an error is handled -/
theorem nx_endH {it l x1 : Addr} {i : Nat} {its : Array Value} {Q : Option Value → Shared → Prop} (hot : HotAt A x1 z.heap) (hI : z.heap.IsListIter it l i) (hL : z.heap.IsList l its) (hx : its[i]? = none)
    (hQ : ∀ g, (∀ b o, b ≠ it → z.heap.get? b = some o → g.get? b = some o) → Q none { z with heap := g }) : wpAny (model prog w) A (pyNext (.ref it)) Q E z := by
  obtain ⟨oI, eI, cI, dI⟩ := id hI
  obtain ⟨oL, eL, _, nL, dL⟩ := hL
  obtain ⟨hh, o1, vs1, e1, d1, c1⟩ := hot
  have n1 : x1 ≠ it := fun y => by
    rw [y, eI] at e1
    cases e1
    rw [dI] at d1
    cases d1
    simp at c1
  unfold pyNext
  refine wpAny_bind (wpAny_attempt (wpAny_callSpecial?_slot (name := Str.ofString "__next__") hI.typeIs slot_listiter_next (wpAny_call_entry slot_listiter_next hI.typeIs entry_listiter_next ?_ (args_listiter_next _))))
  show wpAny _ _ (field (.ref it) 0 >>= _) _ _ z
  refine wpAny_bind (wpAny_field eI dI (x := .ref l) rfl ?_)
  show wpAny _ _ (if (Value.ref l == Value.none) = true then _ else _) _ _ z
  rw [if_neg (by intro y; cases y)]
  show wpAny _ _ (field (.ref it) 1 >>= _) _ _ z
  refine wpAny_bind (wpAny_field eI dI (x := .int i 0) rfl ?_)
  show wpAny _ _ (seqItems? (.ref l) >>= _) _ _ z
  refine wpAny_bind (wpAny_seqItems eL dL ?_)
  simp only [Int.toNat_natCast, hx]
  refine wpAny_bind (wpAny_rule (wpAny_bind (wpAny_setField eI dI (by simp) ?_)))
  have g1 := (Heap.get?_update_other z.heap (Obj.mapFields (·.setIfInBounds 0 Value.none)) (Ne.symm n1)).trans e1
  have kp : ∀ b o, b ≠ it → z.heap.get? b = some o → (z.heap.update it (Obj.mapFields (·.setIfInBounds 0 Value.none))).get? b = some o := fun b o nb e => (Heap.get?_update_other _ _ (Ne.symm nb)).trans e
  generalize (z.heap.update it (Obj.mapFields (·.setIfInBounds 0 Value.none))) = h2 at g1 kp ⊢
  show wpAny _ _ (newExc (.type "StopIteration") [] >>= _) _ _ _
  refine wpAny_bind ?_
  simp only [newExc, newTuple]
  refine wpAny_bind (wpAny_newObj_type ?_ (by size_fits))
  refine wpAny_bind (m := firstArgMember _ _) (wpAny_of_eq (a := Value.none) (by first | rfl | (simp only [firstArgMember]; rfl)) ?_)
  refine wpAny_newObj_type ?_ (by size_fits)
  refine raiseNew_hot ⟨hh, o1, vs1, Heap.get?_push_of_some _ (Heap.get?_push_of_some _ g1), d1, c1⟩ (Nat.ne_of_lt (Heap.lt_size (Heap.get?_push_of_some _ g1))) (Heap.get?_push_size _ rfl) rfl (by first | (simp; done) | (simp; omega) | (simp only [Array.size_append]; simp; omega)) ?_
  refine wpAny_bind (wpAny_isInstance (T := "StopIteration") (b := true) ⟨_, Heap.get?_update_self _ (Heap.get?_push_size _ rfl) rfl, rfl⟩ isSubtype_stop ?_)
  refine wpAny_pure (hQ _ fun b o nb e => ?_)
  have e2 := kp b o nb e
  rw [Heap.get?_update_other _ _ (Nat.ne_of_gt (Heap.lt_size (Heap.get?_push_of_some _ e2)))]
  exact Heap.get?_push_of_some _ (Heap.get?_push_of_some _ e2)
end
/-- what a turn over a list asks, an error handled somewhere in the state -/
theorem list_doneH {X : Cx} {pins : List (Addr × Obj)} {σ : L2.St} {H : Hp} {z : Shared} {E : Value → Shared → Prop} {a it : Addr} {i : Nat} (hot : ∃ x1, HotAt X.A x1 z.heap) (I : Inv X pins σ H z) (hf : FpOk X pins H it) (st : z.heap.IsListIter it a i) (hs : (Itl X.K a).stop i H) :
    wpAny (model X.prog X.w) X.A (pyNext (.ref it)) (fun r s1 => r = none ∧ Inv X pins σ H s1) E z := by
  obtain ⟨xs, hq, hx⟩ := hs
  obtain ⟨its, rv, p, hz⟩ := I.list hq
  obtain ⟨f0, f1, f2, f3, f4, f5⟩ := hf
  obtain ⟨x1, hot⟩ := hot
  have hl := rv.length
  exact nx_endH hot st p.isList (by simp; omega) fun g eb => ⟨rfl, I.turned (t' := z.toks) (fun b o hb e => eb b o hb e) f0 f1 f3 f4 f5⟩
theorem list_itemH {X : Cx} {tg : Expr} {pins : List (Addr × Obj)} {σ : L2.St} {H : Hp} {z : Shared} {E : Value → Shared → Prop} {a it : Addr} {i : Nat} (I : Inv X pins σ H z) (hf : FpOk X pins H it) (st : z.heap.IsListIter it a i) (hg : (Itl X.K a).go i H) :
    wpAny (model X.prog X.w) X.A (pyNext (.ref it)) (fun r s1 => ∃ u, r = some u ∧
      wpAny (model X.prog X.w) X.A (letOwnedTupleGo tg (.ref it) u) (fun _ s2 => ∃ x H', Inv X pins σ H' s2 ∧ RelV x u ∧ (Itl X.K a).yld i H x H' ∧ s2.heap.IsListIter it a (i + 1) ∧ ∀ b ∈ [it], H' b = none) E s1) E z := by
  obtain ⟨xs, x, hq, hx⟩ := hg
  obtain ⟨its, rv, p, hz⟩ := I.list hq
  obtain ⟨u, hu, ru⟩ := rv.get hx
  obtain ⟨f0, f1, f2, f3, f4, f5⟩ := hf
  refine wpAny_pyNext_list_item st p.isList (x := u) (by simpa using hu) fun g st' sb => ?_
  have I1 : Inv X pins σ H { z with heap := g } := I.turned (t' := z.toks) (fun b o hb e => (sb.2 b hb).trans e) f0 f1 f3 f4 f5
  obtain ⟨o, e, c, d⟩ := id st'
  refine ⟨u, rfl, go_of (s := { z with heap := g }) e c d (by decide) ⟨x, H, I1, ru, ⟨rfl, fun ys hy => ?_⟩, st', fun b hb => ?_⟩⟩
  · rw [I.list_inj hy hq]; exact hx
  · rw [List.mem_singleton.mp hb]; exact f0
theorem turn_listH {P : Program} {w : World} {K : PySem.W.Frag} {tg : Expr} (a it : Addr) : TurnH P w K tg (Itl K a) [it] it (fun i h => h.IsListIter it a i) where
  mem := by simp
  obj := fun i h st b hb => by
    rw [List.mem_singleton.mp hb]
    obtain ⟨o, e, _, d⟩ := st
    exact ⟨o, e, fun v y => by rw [d] at y; cases y⟩
  keep := fun i h h' st k => st.at fun o e => k it (by simp) o e
  item := by
    intro Y hP hw hK hc i pins z σ H E I hf st hg
    subst hP hw hK
    exact list_itemH I (hf it (by simp)) st hg
  done := by
    intro Y hP hw hK hc i pins z σ H E I hf st hg
    subst hP hw hK
    exact list_doneH (hc.at I) I (hf it (by simp)) st hg
  self := fun _ _ _ _ _ st h => wpAny_pyIter_listiter st h
theorem pi_listH {X : Cx} {tg l : Expr} {tl : TE} (hl : PE X l tl) : PIH X tg l (iList X.K tl) := by
  refine ⟨fun pins z σ H R I h => thn (hl.run pins z σ H _ I h) fun v z1 ⟨x, H1, I1, r1, q1⟩ => ?_⟩
  obtain ⟨a, e, ⟨xs, hq⟩, q⟩ := q1
  subst e
  cases r1
  obtain ⟨its, rv, p, hz⟩ := I1.list hq
  refine wpAny_pyIter_list p.isList ⟨z1.heap.objs.size, [z1.heap.objs.size], _, _, H1, rfl, I1.kept (t' := z1.toks) fun b o e => Heap.get?_push_of_some _ e, turn_listH a _, ⟨_, Heap.get?_push_size _ rfl, rfl, rfl⟩, fun b hb => ?_, q⟩
  rw [List.mem_singleton.mp hb]
  exact I1.fpOk (Nat.le_refl _) (I1.hok.fresh (Nat.le_refl _))
/-! ### a list comprehension there -/
section
variable {X : Cx}
theorem pe_lcH {elt tg iter : Expr} {ifs : List Expr} {scope : Scope} {own : List (Str × Nat)} {pos : Pos} {tl : TE} {g : TG} {tt : TT} {te : TE} (hot : HotC X) (hN : X.N.Nodup) (hl : PE X iter tl) (ok : BlkOk X.N X.env.scope scope own)
    (hg : ∀ (y : Shared) (H : Hp) (C : Addr) (cl : List (Str × Addr)) (fp : List Addr), PG (X.blk y H scope (compEnvC scope cl C X.env) fp) tg g) (ht : ∀ (y : Shared) (H : Hp) (C : Addr) (cl : List (Str × Addr)) (fp : List Addr), PTs (X.blk y H scope (compEnvC scope cl C X.env) fp) ifs tt)
    (he : ∀ (y : Shared) (H : Hp) (C : Addr) (cl : List (Str × Addr)) (fp : List Addr), PE (X.blk y H scope (compEnvC scope cl C X.env) fp) elt te) (hs : ∀ x, foldedSetIterable iter X.env x = pure x := by intro _; rfl) :
    PE X (.ListComp elt [⟨tg, iter, ifs, 0⟩] scope pos) (tLc (iList X.K tl) g tt te (own.map (·.2))) := by
  refine ⟨fun pins z σ H Q I hw => ?_⟩
  rw [eval_ListComp]
  have hfree : ∀ y ∈ scope.names, y.2 = .free → ∃ c, X.env.cells.lookup y.1 = some c := fun y hy e => (ok.free y hy e).elim (fun k => I.ok.has _ (.inl k)) fun k => I.ok.has _ (.inr k)
  refine wpAny_comprehension_free (use := none) rfl hs (closure_ok hfree) ok.kind (fun y hy e => by rw [ok.uniq y hy, e]) (thn (hl.run pins z σ H _ I hw) fun v z1 ⟨x, H1, I1, r1, q1⟩ => ?_)
  obtain ⟨a, e, ⟨xs, hq⟩, q⟩ := q1
  subst e
  cases r1
  obtain ⟨its, rv, p, hz⟩ := I1.list hq
  refine wpAny_pyIter_list p.isList ?_
  generalize hz2 : ({ z1 with heap := z1.heap.push { cls := .type "list_iterator", data := .fields #[.ref a, .int 0 0] } } : Shared) = z2
  have I2 : Inv X pins σ H1 z2 := by rw [← hz2]; exact I1.kept (t' := z1.toks) fun b o e => Heap.get?_push_of_some _ e
  generalize hit : z1.heap.objs.size = it
  have st2 : z2.heap.IsListIter it a 0 := by rw [← hz2, ← hit]; exact ⟨_, Heap.get?_push_size _ rfl, rfl, rfl⟩
  have f2 : FpOk X pins H1 it := by rw [← hit]; exact I1.fpOk (Nat.le_refl _) (I1.hok.fresh (Nat.le_refl _))
  refine wpAny_newObj_type (newEnv_comp ?_) (by show 0 ≤ sizeLine; decide)
  generalize hD : z2.heap.objs.size = D
  have hDn : H1 D = none := I2.hok.fresh (Nat.le_of_eq hD)
  obtain ⟨W, ⟨m0, w0⟩, turn⟩ := q D hDn
  generalize hz3 : ({ z2 with heap := z2.heap.push { cls := .type "list", data := .seq ([] : List Value).toArray } } : Shared) = z3
  have I3 : Inv X pins σ (upd H1 D (.lst [])) z3 := by
    rw [← hz3]
    refine I2.laid (t' := z2.toks) (fun b o e => Heap.get?_push_of_some _ e) (Nat.le_of_eq hD) ⟨Nat.zero_le _, [], 0, .nil, ?_⟩
    rw [← hD]
    exact Heap.get?_push_size _ rfl
  have h3 : z3.heap = z2.heap.push { cls := .type "list", data := .seq ([] : List Value).toArray } := by rw [← hz3]
  have hlt : it < z2.heap.objs.size := by obtain ⟨o, e, _⟩ := id st2; exact Heap.lt_size e
  have f3 : ∀ b ∈ [it], FpOk X pins (upd H1 D (.lst [])) b ∧ b < z3.heap.objs.size := fun b hb => by
    rw [List.mem_singleton.mp hb]
    refine ⟨⟨?_, f2.2⟩, by rw [h3, Heap.size_push]; exact Nat.lt_succ_of_lt hlt⟩
    rw [upd_ne (by rw [← hD]; exact Nat.ne_of_lt hlt)]
    exact f2.1
  have st3 : z3.heap.IsListIter it a 0 := st2.at fun o e => by rw [h3]; exact Heap.get?_push_of_some _ e
  have I4 := block_start I3 ok hN f3
  have pg := hg z3 (upd H1 D (.lst [])) z3.heap.objs.size (cellsFrom (z3.heap.objs.size + 1) scope.names (cloFrom X.env.cells scope.names [])) [it]
  have pt := ht z3 (upd H1 D (.lst [])) z3.heap.objs.size (cellsFrom (z3.heap.objs.size + 1) scope.names (cloFrom X.env.cells scope.names [])) [it]
  have pe := he z3 (upd H1 D (.lst [])) z3.heap.objs.size (cellsFrom (z3.heap.objs.size + 1) scope.names (cloFrom X.env.cells scope.names [])) [it]
  -- the handled error stands at the block's entry
  obtain ⟨px, ⟨hh, v1, ed, ec⟩, hpx⟩ := hot
  obtain ⟨p1, p2, p3, p4, p5⟩ := I3.pin px (List.mem_append_left _ hpx)
  have p6 : px.1 ∉ frs X.stack := fun y => (List.mem_cons.mp (I3.stkSub _ y)).elim p3 p4
  have p7 : px.1 ∉ [it] := fun y => (f3 it (by simp)).1.2.2.2.2.2 px (List.mem_append_left _ hpx) (List.mem_singleton.mp y)
  show codeAny _ _ (.compStart (.ListComp elt [⟨tg, iter, ifs, 0⟩] scope pos) 0 (.ref it) (.ref D) (compEnvC scope (cellsFrom (z3.heap.objs.size + 1) scope.names (cloFrom X.env.cells scope.names [])) z3.heap.objs.size X.env)) (compPost (model X.prog X.w) X.A X.xe none (EP X pins σ Q) (.ref D) z3.heap.objs.size) { z3 with heap := pushCells (z3.heap.push { cls := .type "dict", data := .dict #[] }) scope.names }
  generalize hce : compEnvC scope (cellsFrom (z3.heap.objs.size + 1) scope.names (cloFrom X.env.cells scope.names [])) z3.heap.objs.size X.env = ce at I4 pg pt pe ⊢
  have cL : ce.locals = z3.heap.objs.size := by subst hce; rfl
  have nfp : ∀ b ∈ [it], (upd H1 D (.lst [])) b = none := fun b hb => (f3 b hb).1.1
  generalize hH3 : upd H1 D (.lst []) = H3 at I3 I4 pg pt pe w0 nfp f3 p2
  have st4 : ({ z3 with heap := pushCells (z3.heap.push { cls := .type "dict", data := .dict #[] }) scope.names } : Shared).heap.IsListIter it a 0 := st3.at fun o e => pushCells_keeps _ _ _ _ (Heap.get?_push_of_some _ e)
  generalize hz4 : ({ z3 with heap := pushCells (z3.heap.push { cls := .type "dict", data := .dict #[] }) scope.names } : Shared) = z4 at I4 st4 ⊢
  have stat : ∀ {σ' : L2.St} {H' : Hp} {z' : Shared}, Inv (X.blk z3 H3 scope ce [it]) [] σ' H' z' → (∀ b ∈ [it], H' b = none) → ∀ b ∈ [it], FpOk (X.blk z3 H3 scope ce [it]) [] H' b := fun {σ' H' z'} J hn b hb =>
    ⟨hn b hb, (J.ok.exf b hb).1, J.ok.exfs b hb, .inl hb, fun x c e => (J.ok.exf b hb).2 x c e, fun p hp => absurd (show p ∈ ([] : List (Addr × Obj)) ++ [] from hp) (by simp)⟩
  have loop : codeAny (model X.prog X.w) X.A (.compLoop (.ListComp elt [⟨tg, iter, ifs, 0⟩] scope pos) 0 (.ref it) (.ref D) ce) (compPost (model X.prog X.w) X.A X.xe none (EP X pins σ Q) (.ref D) z3.heap.objs.size) z4 := by
    refine compLoop_any (fun n z' => ∃ i H', Inv (X.blk z3 H3 scope ce [it]) [] (wipe σ (own.map (·.2))) H' z' ∧ z'.heap.IsListIter it a i ∧ (∀ b ∈ [it], H' b = none) ∧ W i n H') ?_ m0 ⟨0, H3, I4, st4, nfp, w0⟩
    rintro n z5 ⟨i, H5, I5, st5, n5, w5⟩
    have hot5 : ∃ x1, HotAt X.A x1 z5.heap := ⟨px.1, hh, px.2, v1, I5.base.keep px.1 px.2 p1 p2 p6 p7, ed, ec⟩
    rcases turn i n H5 w5 with ⟨stop, qq⟩ | ⟨go, Nx, hNx, step⟩
    · refine thnF (list_doneH (X := X.blk z3 H3 scope ce [it]) hot5 I5 (stat I5 n5 it (by simp)) st5 stop) fun r z6 ⟨hr, I6⟩ => ?_
      subst hr
      have I7 : Inv X pins σ H5 z6 := I3.call' (ch := [it]) I6.os I6.base I6.hok I6.bare fun b hb => ⟨(f3 b hb).1.2.2.2.1, (f3 b hb).1.2.1, (f3 b hb).1.2.2.2.2.1, (f3 b hb).1.2.2.2.2.2⟩
      have nC : H5 z3.heap.objs.size = none := by
        have y : H5 ce.locals = none := I6.free
        rw [cL] at y
        exact y
      obtain ⟨m, hn, _⟩ := I6.loc
      have hn : z6.heap.Ns ce.locals m := hn
      rw [cL] at hn
      refine ⟨m, hn, fun g sb => ?_⟩
      obtain ⟨g0, g1, g2, g3, g4, g5⟩ := I3.fpOk (H' := H5) (Nat.le_refl _) nC
      exact ⟨.ref D, H5, I7.turned (t' := z6.toks) (fun b o hb e => (sb.2 b hb).trans e) g0 g1 g3 g4 g5, rfl, qq⟩
    · refine thnF (list_itemH (X := X.blk z3 H3 scope ce [it]) (tg := tg) I5 (stat I5 n5 it (by simp)) st5 go) fun r z6 ⟨u, hr, h6⟩ => ?_
      subst hr
      refine thnF h6 fun _ z7 ⟨x, H7, I7, r7, y7, st7, n7⟩ => ?_
      obtain ⟨o7, e7, c7, d7⟩ := id st7
      have ob7 : ∀ b ∈ [it], ∃ o, z7.heap.get? b = some o ∧ ∀ v, o.data ≠ .cell v := fun b hb => by
        rw [List.mem_singleton.mp hb]
        exact ⟨o7, e7, fun v y => by rw [d7] at y; cases y⟩
      have I7' := I7.pinned (stat I7 n7) ob7
      refine thnF (pg.run _ z7 _ H7 x u _ I7' r7 (step x H7 y7)) fun _ z8 ⟨σ8, H8, I8, hw8, q8⟩ => ?_
      refine thnF (pt.run _ z8 σ8 H8 _ I8 q8) fun b z9 ⟨H9, I9, q9⟩ => ?_
      have fin : ∀ {z' : Shared} {H' : Hp}, Inv (X.blk z3 H3 scope ce [it]) ([] ++ pinsAt [it] z7.heap) σ8 H' z' → Nx H' → ∃ m, m < n ∧ ∃ i H', Inv (X.blk z3 H3 scope ce [it]) [] (wipe σ (own.map (·.2))) H' z' ∧ z'.heap.IsListIter it a i ∧ (∀ b ∈ [it], H' b = none) ∧ W i m H' := fun {z' H'} J nx => by
        obtain ⟨m', hm, w'⟩ := hNx H' nx
        have pin' : ∀ b ∈ [it], ∀ o, z7.heap.get? b = some o → z'.heap.get? b = some o ∧ H' b = none := fun b hb o e =>
          let y := J.pin (b, o) (List.mem_append_right _ (List.mem_append_right _ (mem_pinsAt hb e)))
          ⟨y.1, y.2.1⟩
        have hln : (wipe σ (own.map (·.2))).length = σ8.length := by rw [← hw8, wipe_length]
        refine ⟨m', hm, i + 1, H', (J.unpinned (pins := [])).weak hln (fun j v e => ?_), st7.at fun o e => (pin' it (by simp) o e).1, fun b hb => ?_, w'⟩
        · rw [← hw8] at e
          exact (wipe_some e).1
        · obtain ⟨o, e, _⟩ := ob7 b hb
          exact (pin' b hb o e).2
      cases b with
      | false =>
        simp only [Bool.false_eq_true, if_false] at q9 ⊢
        exact fin I9 q9
      | true =>
        simp only [if_true] at q9 ⊢
        refine thnF (pe.run _ z9 σ8 H9 _ I9 q9) fun y z10 ⟨yv, H10, I10, r10, acc, hD10, hz10, nx⟩ => ?_
        exact app_ok (X := X.blk z3 H3 scope ce [it]) I10 hD10 hz10 r10 fun z11 I11 => fin I11 nx
  exact codeAny_compStart_list loop (wpAny_pyIter_listiter st4 loop)
end
/-! ### defs called there, whose promise sees the error that is handled -/
structure FnP (P : Program) (w : World) (K : PySem.W.Frag) (mg : Str → Option Value) (base : Heap) (CX : CXT) (k : Nat) (f : Addr) (fd : FuncData) (ps : List Str) (sp : Addr → Value → Option Addr → Sp) : Prop where
  len : ∀ a cls d vs H Q E, sp a cls d vs H Q E → vs.length = ps.length
  go : ∀ (p : Addr × Obj) (A : Around) (outer : List Env) (z : Shared) (H : Hp) (args : Args) (us : List Value) (vs : List V) (Q : VK) (E : XK), RoomH k A → Hot1 A p → PinOk outer H z p → Env0 P w K mg base A outer z H → BindsTo z fd args (ps.zip us) → Vals vs us → sp p.1 p.2.cls p.2.dict vs H Q E →
    codeAny (model P w) A (.call (.ref f) args) (CR CX outer P w H z Q E) z
theorem fnP {CX : CXT} {P : Program} {w : World} {K : PySem.W.Frag} {mg : Str → Option Value} {base : Heap} {x qual : Str} {st : Stmt} {f : Addr} {fd : FuncData} {N ps : List Str} {k : Nat} {sp : Addr → Value → Option Addr → Sp} (F : Fun K x qual st f fd) (S : FnScope N ps (defScope st))
    (len : ∀ a cls d vs H Q E, sp a cls d vs H Q E → vs.length = ps.length)
    (body : ∀ cdv (A : Around) (outer : List Env) (z : Shared) (H : Hp) (vs : List V) (Q : VK) (E : XK) (p : Addr × Obj), Hot1 (A.deeper (envOfC qual (defScope st) z.heap.objs.size f cdv)) p → RoomH k (A.deeper (envOfC qual (defScope st) z.heap.objs.size f cdv)) → sp p.1 p.2.cls p.2.dict vs H Q E →
      ∃ t, PSs (cxH CX P w K mg base N qual (defScope st) f cdv A outer z H E p) (defBody st) t ∧ t ⟨fun _ H' => Q .non H', Q, fun _ _ => False, fun _ _ => False⟩ (L2.start N vs) H) : FnP P w K mg base CX (k + 1) f fd ps sp := by
  obtain ⟨oc, od, kV, doc, pm, an, cdv, ct, osl, e, lk, hc⟩ := F.ex
  subst e
  refine ⟨len, fun p A outer z H args us vs Q E hr hot hp e0 hb r hsp => ?_⟩
  have hl := len _ _ _ _ _ _ _ hsp
  have kI : K.In z.heap := e0.mod.kin.keeps fun b o e => (e0.bs b o e).1
  have nL : z.heap.NoLimit := e0.mod.nolimit.keeps fun b o e => (e0.bs b o e).1
  have hkind : ∀ y ∈ ps.zip us, (defScope st).names.lookup y.1 = some .local ∨ ((defScope st).names.lookup y.1 = some .cell ∧ ((cellsFrom (z.heap.objs.size + 1) (defScope st).names []).lookup y.1).isSome = true) := fun ⟨n, v⟩ hy =>
    (S.par n (List.of_mem_zip hy).1).elim .inl fun q => .inr ⟨q, PySem.W.cellsFrom_some _ _ _ (.inl q)⟩
  refine codeAny_call_function hr.depth (kI _ _ lk) rfl S.co S.gen rfl (PySem.W.codeRec_of kI hc) (hb _ _ _ _ (wpAny_newFunctionEnv_cells S.kind hkind fun env he z1 x => ?_))
  subst he
  refine ⟨nL.keeps x.toInCall.keep, codeAny_func ?_⟩
  obtain ⟨t, ht, hq⟩ := body cdv A outer z H vs Q E p hot (hr.deeper _) hsp
  have I : Inv (cxH CX P w K mg base N qual (defScope st) f cdv A outer z H E p) [] (L2.start N vs) H z1 := inv_startH S hp e0 hl r x
  refine wpAny_mono (ht.run [] z1 (L2.start N vs) H _ I hq) (fun fl z' h' => ?_) fun e z' h' => h'
  cases fl with
  | ret u => obtain ⟨v, σ', H', J, rv, q⟩ := h'; exact ⟨v, H', J.os, J.bare, J.base, J.hok, rv, q⟩
  | next => obtain ⟨σ', H', J, q⟩ := h'; exact ⟨V.non, H', J.os, J.bare, J.base, J.hok, rfl, q⟩
  | brk => obtain ⟨_, _, _, q⟩ := h'; exact q.elim
  | cont => obtain ⟨_, _, _, q⟩ := h'; exact q.elim
structure DefP (P : Program) (w : World) (K : PySem.W.Frag) (mg : Str → Option Value) (base : Heap) (CX : CXT) (k : Nat) (x : Str) (ps : List Str) (sp : Addr → Value → Option Addr → Sp) : Prop where
  ex : ∃ f fd, FnP P w K mg base CX k f fd ps sp ∧ mg x = some (.ref f) ∧ PySem.W.keepIn K (.ref f) = true ∧ Binds K fd ps []
theorem DefAt.okP {P : Program} {w : World} {K : PySem.W.Frag} {mg : Str → Option Value} {base : Heap} {x : Str} {st : Stmt} {ps : List Str} {f : Addr} {fd : FuncData} {CX : CXT} {k : Nat} {sp : Addr → Value → Option Addr → Sp} (d : DefAt K mg x st ps f fd) (h : FnP P w K mg base CX k f fd ps sp) : DefP P w K mg base CX k x ps sp :=
  ⟨f, fd, h, d.g, d.F.kp, d.b⟩
section
variable {X : Cx} {CX : CXT} {k : Nat} {ps : List Str} {sp : Addr → Value → Option Addr → Sp} {E : L2.St → XK} {x : Str} {q pos : Pos} {e : Expr} {es : List Expr} {t : TA} {p : Addr × Obj}
theorem pe_callP (D : DefP X.prog X.w X.K X.mg X.base CX k x ps sp) (hr : RoomH k X.A) (hot : Hot1 X.A p) (hp : p ∈ X.pn) (hg : Gl X x) (hx : ∀ σ, PassesAt CX X σ (E σ)) (ha : PA X (e :: es) t)
    (hdb : (x == ("__debug__" : Str)) = false := by decide) (he : starEach (e :: es) X.env = (false, eval e X.env) :: starEach es X.env := by rfl) (hpl : (backTo pos (starEach es X.env)).any (·.1) = false := by rfl) : PE X (.Call (.Name x q) (e :: es) [] pos) (tCallS (sp p.1 p.2.cls p.2.dict) E t) := by
  obtain ⟨f, fd, F, hm, hk, hb⟩ := D
  refine ⟨fun pins z σ H Q I h => wpAny_Call_Name_kw (ld_glob I hg hm ?_ hdb)⟩
  refine PySem.W.callWith_K (h₀ := X.base) I.ok.mod.kin hk (thn (ha.run pos pins z σ H _ I h) fun us z1 ⟨vs, H1, I1, r, q1⟩ => ⟨I1.kIn, ?_⟩) he hpl
  have hl : us.length = ps.length := by rw [← r.length]; exact F.len _ _ _ _ _ _ _ q1
  have b := hb z1 us I1.kIn (by rw [List.append_nil]; exact hl)
  rw [List.append_nil] at b
  obtain ⟨p1, p2, p3, p4, p5⟩ := I1.pin p (List.mem_append_left _ hp)
  have pok : PinOk X.stack H1 z1 p := ⟨p1, p2, fun y => (List.mem_cons.mp (I1.stkSub p.1 y)).elim p3 p4, p5⟩
  refine wpAny_call (codeAny_mono (F.go p X.A X.stack z1 H1 ⟨us, []⟩ us vs Q (E σ) hr hot pok I1.env0 b r q1) fun r z' y => ?_)
  cases r with
  | error u => exact hx σ pins H1 z1 u z' I1 y
  | ok fl =>
    cases fl with
    | ret u => exact I1.after y
    | next => exact y.elim
    | brk => exact y.elim
    | cont => exact y.elim
end
/-! ### isinstance of the handled error -/
theorem c_isH {X : Cx} {p : Addr × Obj} {D : Addr} (C : ExcC X.K D) (hp : p ∈ X.pn) (hz : Zc (.ref D) none p.2) (hf : ∃ vs, p.2.data = .fields vs) : CallR X (.builtin "isinstance") (rIsE X.K D p.1) := by
  intro pins z σ H xs us Q I r h
  obtain ⟨c, cv, b, rfl, hcv, e, q⟩ := h
  cases r with
  | cons rx rr =>
    cases rr with
    | cons rt rr =>
      cases rr
      cases rx
      have ec := hcv _ rt
      subst ec
      obtain ⟨hget, _⟩ := I.pin p (List.mem_append_left _ hp)
      obtain ⟨vs, hv⟩ := hf
      have J : PySem.W.InstAt z.heap p.1 p.2 D none := by
        obtain ⟨a, oc, od, oda, osl⟩ := p
        obtain ⟨h1, h2⟩ := hz
        dsimp only at h1 h2 hv
        subst h1 h2 hv
        exact ⟨hget, rfl, rfl, trivial⟩
      exact PySem.W.kia_one (PySem.W.handS_kitx_exc C.hg C.hk C.hs C.hd C.ha C.hn C.ht C.hm) I.kIn J e (fun y => nomatch y) fun tk => ⟨.bl b, H, I.kept (t' := tk) fun _ _ y => y, rfl, q⟩
theorem c_isHK {X : Cx} {K : PySem.W.Frag} {p : Addr × Obj} {D : Addr} (h : X.K = K) (C : ExcC K D) (hp : p ∈ X.pn) (hz : Zc (.ref D) none p.2) (hf : ∃ vs, p.2.data = .fields vs) : CallR X (.builtin "isinstance") (rIsE K D p.1) := by
  subst h
  exact c_isH C hp hz hf
theorem ed_isE {K : PySem.W.Frag} {σ : L2.St} {H : Hp} {D a : Addr} {i : Nat} {cv : V} {u : Value} {b : Bool} (hσ : σ[i]? = some (some (.ref a))) (hc : ClsV cv u) (hk : PySem.W.kitOne K (.ref D) u = some b) : EvD K (tCB (rIsE K D a) (tCons (tVar i) (tCons (tC cv) tNil))) σ H (.bool b) :=
  fun A B e s Q q => ⟨_, hσ, cv, u, b, rfl, fun _ r => hc.eq r, hk, q _ A B (Pr.refl s) (.bl _)⟩
theorem hot_suite {X : Cx} {a : Addr} {oe : Obj} {cls : Value} {d : Option Addr} {pn : List (Addr × Obj)} (hz : L2N.Zn cls d oe) (hf : ∃ vs, oe.data = .fields vs) : Hot1 (X.suite a ((a, oe) :: pn)).A (a, oe) := by
  obtain ⟨vs, e⟩ := hf
  exact ⟨rfl, vs, e, hz.2.2 vs e⟩
theorem passA0 {X : Cx} {E : L2.St → XK} : ∀ σ, PassesAt CX0 X σ (E σ) := fun _ _ _ _ _ _ _ z => z.elim
theorem takes0 {X : Cx} : L2N.Takes X (fun _ _ _ _ => False) := fun _ _ x => by
  obtain ⟨_, _, _, _, _, _, _, _, _, _, _, _, _, _, _, _, z⟩ := x
  exact z.elim
theorem roomHm {k : Nat} {A : Around} {u : Option Value} (r : Room k A) : RoomH k (A.mark u) := ⟨r.dp, r.un⟩
theorem huH {k : Nat} {A : Around} (r : RoomH k A) : A.units + 64 < cLine := by have := r.un; omega
section
variable {X : Cx} {CX : CXT} {k : Nat} {ps : List Str} {sp : Addr → Value → Option Addr → Sp} {E : L2.St → XK} {x : Str} {q pos : Pos} {e : Expr} {es : List Expr} {t : TA} {a : Addr} {oe : Obj} {cls : Value} {d : Option Addr} {pn : List (Addr × Obj)}
/-- a def called in the suite itself -/
theorem pe_callZ (D : DefP X.prog X.w X.K X.mg X.base CX k x ps sp) (hr : Room k X.A) (hz : L2N.Zn cls d oe) (hf : ∃ vs, oe.data = .fields vs) (hg : Gl (X.suite a ((a, oe) :: pn)) x) (hx : ∀ σ, PassesAt CX (X.suite a ((a, oe) :: pn)) σ (E σ)) (ha : PA (X.suite a ((a, oe) :: pn)) (e :: es) t)
    (hdb : (x == ("__debug__" : Str)) = false := by decide) (he : starEach (e :: es) X.env = (false, eval e X.env) :: starEach es X.env := by rfl) (hpl : (backTo pos (starEach es X.env)).any (·.1) = false := by rfl) : PE (X.suite a ((a, oe) :: pn)) (.Call (.Name x q) (e :: es) [] pos) (tCallS (sp a cls d) E t) := by
  have y := pe_callP (X := X.suite a ((a, oe) :: pn)) (p := (a, oe)) (q := q) (pos := pos) D (roomHm hr) (hot_suite hz hf) List.mem_cons_self hg hx ha hdb he hpl
  obtain ⟨h1, h2, _⟩ := hz
  subst h1 h2
  exact y
end
/-- the facts of a class that an error may be of -/
theorem kitF {K : PySem.W.Frag} {t : Value} {C : Addr} {b : Bool} (hd : PySem.W.hasDictIn K C = true) (ht : PySem.W.typeIn K (.ref C) = some (.type "type")) (hs : PySem.W.subIn K t (.ref C) = some b) (hn : (t == .ref C) = true → b = true) : PySem.W.kitOne K t (.ref C) = some b := by
  obtain ⟨cd, hc, _⟩ := PySem.W.any_some hd
  unfold PySem.W.kitOne
  by_cases h : (t == .ref C) = true
  · rw [if_pos h, hn h]
  · rw [if_neg h]
    show (if ((PySem.W.clsIn K C).isSome && PySem.W.typeIn K (.ref C) == some (.type "type")) = true then PySem.W.subIn K t (.ref C) else none) = some b
    rw [if_pos (by rw [hc, ht]; rfl)]
    exact hs
theorem kitR {K : PySem.W.Frag} {C : Addr} : PySem.W.kitOne K (.ref C) (.ref C) = some true := by
  unfold PySem.W.kitOne
  rw [if_pos (beq_self_eq_true _)]
theorem kitV {K : PySem.W.Frag} {t : Value} (hs : PySem.W.subIn K t (.type "ValueError") = some true) : PySem.W.kitOne K t (.type "ValueError") = some true := by
  unfold PySem.W.kitOne
  by_cases h : (t == .type "ValueError") = true
  · rw [if_pos h]
  · rw [if_neg h]
    show (if PySem.W.kitMeta "ValueError" = true then PySem.W.subIn K t (.type "ValueError") else none) = some true
    rw [if_pos (by decide +kernel)]
    exact hs
theorem kitN {C D : Addr} (hn : (C == D) = false) : ((Value.ref C : Value) == .ref D) = true → false = true := fun h => by
  have e : C = D := Value.ref.inj (beq_iff_eq.mp h)
  rw [e] at hn
  simp at hn
theorem hotC_mk {X : Cx} {p : Addr × Obj} (hot : Hot1 X.A p) (hp : p ∈ X.pn) : HotC X := ⟨p, hot, hp⟩
theorem cx_KH {CX : CXT} {P : Program} {w : World} {K : PySem.W.Frag} {mg : Str → Option Value} {base : Heap} {N : List Str} {qual : Str} {scope : Scope} {f : Addr} {cd : Value} {A : Around} {outer : List Env} {z : Shared} {H : Hp} {E : XK} {p : Addr × Obj} :
    (cxH CX P w K mg base N qual scope f cd A outer z H E p).K = K := rfl
theorem Pr.appfrz {A B A' B' : Hp} {l : Addr} {o : HO} (P : Pr A B A' B') (hB : B l = none) (hA : A' l = none) : Pr A B (upd A' l o) (upd B' l o) := (P.mut hB hA).frz hB hA upd_same
section
open Evl
variable {K : PySem.W.Frag} {H : Hp} {σ : L2.St} {tl te : TE}
/-- a list of what a text's signs give -/
theorem en_lcS {j : Nat} {z : Str} {ws : List Nat} (g : Nat → D) (h : EvD K tl σ H (.str z)) (hz : z.length ≤ 40000) (hw : ∀ x, wipe ((wipe σ ws).set j (some x)) ws = wipe σ ws)
    (he : ∀ y ∈ z.cps.toList, ∀ H1, Ex H H1 → EvD K te ((wipe σ ws).set j (some (.str ⟨#[y]⟩))) H1 (g y)) :
    EvN K (tLc (iStr tl) (gName j) tYes te ws) σ H (z.cps.toList.map g) := fun A B e s Q q => h A B e s _ fun v A1 B1 P1 hv => by
  cases hv
  refine ⟨z, rfl, fun L hL => lc_it walk_str (fun i H' => LcI K A1 B1 L ((z.cps.toList.take i).map g) H') (lci_start P1.s hL) (fun _ _ _ _ => trivial) ?_ ?_⟩
  · rintro i x H' H'' hi p ⟨rfl, y, hy, rfl⟩
    have hy' : z.cps.toList[i]? = some y := by rw [Array.getElem?_toList]; exact hy
    refine ⟨hw _, ?_⟩
    have tk : (z.cps.toList.take (i + 1)).map g = if true = true then (z.cps.toList.take i).map g ++ [g y] else (z.cps.toList.take i).map g := by rw [if_pos rfl, List.take_succ, hy', List.map_append]; rfl
    rw [tk]
    refine lci_turn (f := true) hL p ?_ (fun A' _ => eb_yes) (fun _ A' ea => he y (List.mem_of_getElem? hy') A' ((e.trans P1.a).trans ea))
    rw [List.length_map, List.length_take, Array.length_toList]
    have : z.cps.size ≤ 40000 := hz
    omega
  · intro H' p
    have e1 : z.cps.toList.take z.cps.size = z.cps.toList := by rw [← Array.length_toList, List.take_length]
    rw [e1] at p
    exact lci_end hL p fun p xs A' B' hp P => q p xs A' B' (fresh_back P1.b hp) (P1.trans P)
/-- one of some texts -/
def pickS (ws : List Str) (i : Int) : Str := ws.getD i.toNat ""
theorem at_pickS (ws : List Str) {i : Int} (h0 : 0 ≤ i) (h1 : i < ws.length) : atI (ws.map PyData.str) i = some (.str (pickS ws i)) := by
  obtain ⟨n, rfl⟩ : ∃ n : Nat, i = (n : Int) := ⟨i.toNat, by omega⟩
  have hn : n < ws.length := by omega
  unfold atI
  rw [List.length_map, ixN_nat hn]
  show (ws.map PyData.str)[n]? = _
  rw [List.getElem?_map]
  unfold pickS
  rw [show ((n : Int).toNat) = n from rfl, List.getD_eq_getElem?_getD, List.getElem?_eq_getElem hn]
  rfl
theorem pickS_mem {ws : List Str} {i : Int} (h0 : 0 ≤ i) (h1 : i < ws.length) : pickS ws i ∈ ws := by
  have hn : i.toNat < ws.length := by omega
  unfold pickS
  rw [List.getD_eq_getElem?_getD, List.getElem?_eq_getElem hn]
  exact List.getElem_mem hn
theorem pickS_len {ws : List Str} {n : Nat} (h : ∀ x ∈ ws, x.length ≤ n) (i : Int) : (pickS ws i).length ≤ n := by
  unfold pickS
  rw [List.getD_eq_getElem?_getD]
  cases e : ws[i.toNat]? with
  | none => exact Nat.zero_le _
  | some x => exact h x (List.mem_of_getElem? e)
end
end Ob

set_option Elab.async false
set_option linter.all false
set_option maxRecDepth 100000
set_option maxHeartbeats 2000000
namespace Ob
open PySem L2 Evl
/-! ## what may change -/
/-- data A in the heap B grew to A' in B'; what stood at F may have changed -/
structure PrM (F : Addr → Prop) (A B A' B' : Hp) : Prop where
  a : Ex A A'
  b : ∀ x u, ¬ F x → B x = some u → B' x = some u
  s : Ex A' B'
  n : ∀ x, A x = none → B x ≠ none → A' x = none
  f : ∀ x, B x ≠ none → B' x ≠ none
section
variable {F G : Addr → Prop} {A B A' B' A'' B'' : Hp} {l p : Addr} {o : HO}
theorem ex_some {H H' : Hp} (e : Ex H H') {x : Addr} (h : H x ≠ none) : H' x ≠ none := by
  cases z : H x with
  | none => exact absurd z h
  | some u => rw [e _ _ z]; simp
theorem Pr.m (h : Pr A B A' B') : PrM F A B A' B' := ⟨h.a, fun x u _ e => h.b x u e, h.s, h.n, fun _ z => ex_some h.b z⟩
theorem PrM.refl (h : Ex A B) : PrM F A B A B := (Pr.refl h).m
theorem PrM.mono (h : PrM F A B A' B') (i : ∀ x, F x → G x) : PrM G A B A' B' := ⟨h.a, fun x u n e => h.b x u (fun z => n (i x z)) e, h.s, h.n, h.f⟩
theorem PrM.trans (h : PrM F A B A' B') (k : PrM F A' B' A'' B'') : PrM F A B A'' B'' :=
  ⟨h.a.trans k.a, fun x u n e => k.b x u n (h.b x u n e), k.s, fun x e n => k.n x (h.n x e n) (h.f x n), fun x n => k.f x (h.f x n)⟩
/-- then something that may change only what is new -/
theorem PrM.then (h : PrM F A B A' B') (k : PrM G A' B' A'' B'') (i : ∀ x, G x → F x ∨ B x = none) : PrM F A B A'' B'' :=
  ⟨h.a.trans k.a, fun x u n e => k.b x u (fun z => (i x z).elim n fun y => by rw [y] at e; cases e) (h.b x u n e), k.s, fun x e n => k.n x (h.n x e n) (h.f x n), fun x n => k.f x (h.f x n)⟩
theorem PrM.up (h : PrM F A B A' B') (e : Ex B' B'') : PrM F A B A' B'' := h.trans (Pr.up h.s e).m
theorem PrM.pr (h : PrM F A B A' B') (k : Pr A' B' A'' B'') : PrM F A B A'' B'' := h.trans k.m
/-- a thing of F, or a new one, is written -/
theorem PrM.put (h : PrM F A B A' B') (i : F l ∨ B l = none) (hA : A' l = none) : PrM F A B A' (upd B' l o) :=
  ⟨h.a, fun x u n e => by
    have ne : x ≠ l := fun z => i.elim (fun y => n (z ▸ y)) fun y => by rw [z, y] at e; cases e
    rw [upd_ne ne]
    exact h.b x u n e, Ex.mut h.s hA, h.n, fun x n => by
    by_cases z : x = l
    · rw [z, upd_same]; simp
    · rw [upd_ne z]; exact h.f x n⟩
theorem PrM.fresh (h : PrM F A B A' B') (hp : B' p = none) : B p = none := by
  cases z : B p with
  | none => rfl
  | some u => exact absurd hp (h.f p (by rw [z]; simp))
/-- a new thing that is no datum -/
theorem PrM.new (h : PrM F A B A' B') (hp : B' p = none) : PrM F A B A' (upd B' p o) := h.put (.inr (h.fresh hp)) (fresh_back h.s hp)
/-- a new datum -/
theorem PrM.newD (h : PrM F A B A' B') (hp : B' p = none) : PrM F A B (upd A' p o) (upd B' p o) := h.trans (Pr.new h.s hp).m
/-- a thing that was made here becomes a datum -/
theorem PrM.frz (h : PrM F A B A' B') (hB : B l = none) (hA : A' l = none) (hl : B' l = some o) : PrM F A B (upd A' l o) B' :=
  ⟨h.a.trans (Ex.new hA), h.b, Ex.frz h.s hl, fun x e n => by rw [upd_ne (fun z : x = l => n (z ▸ hB))]; exact h.n x e n, h.f⟩
theorem Pu.of {H : Hp} (s : Ex A B) (e : Ex B H) : Pu A B H := ⟨s, e⟩
end
/-! ## evaluation beside what may change -/
section
variable {X : Cx} {K : PySem.W.Frag} {A B H H' : Hp} {σ : L2.St} {v : V} {ds es : List D} {d d' d1 d2 : D} {ta tb te to td ty tl : TE} {tr : TA} {a l m : Addr}
def EvP (K : PySem.W.Frag) (te : TE) (σ : L2.St) (A B : Hp) (d : D) : Prop := ∀ A1 B1, Pr A B A1 B1 → ∀ Q : VK, (∀ v A' B', Pr A1 B1 A' B' → Dp K A' v d → Q v B') → te σ B1 Q
def EvPA (K : PySem.W.Frag) (ta : TA) (σ : L2.St) (A B : Hp) (ds : List D) : Prop := ∀ A1 B1, Pr A B A1 B1 → ∀ Q : List V → Hp → Prop, (∀ vs A' B', Pr A1 B1 A' B' → DpAll K A' vs ds → Q vs B') → ta σ B1 Q
theorem ep_ed (h : EvD K te σ A d) : EvP K te σ A B d := fun A1 B1 P Q q => h A1 B1 P.a P.s Q q
theorem ep_v (h : Ev te σ B v) (hd : Dp K A v d) : EvP K te σ A B d := fun A1 B1 P Q q => h B1 P.b Q fun B' e => q v A1 B' (Pr.up P.s e) (dp_ex P.a hd)
theorem ep_is (h : EvP K te σ A B d) (e : d = d') : EvP K te σ A B d' := e ▸ h
/-- a number, a truth, a text: read with all that stands there -/
theorem ep_i {i : Int} (h : EvD K te σ B (.int i)) : EvP K te σ A B (.int i) := ep_v (v_int h) (.int i)
theorem ep_b {i : Bool} (h : EvD K te σ B (.bool i)) : EvP K te σ A B (.bool i) := ep_v (v_bl h) (.bl i)
theorem ep_s {i : Str} (h : EvD K te σ B (.str i)) : EvP K te σ A B (.str i) := ep_v (v_str h) (.str i)
theorem ep_n (h : EvD K te σ B .none) : EvP K te σ A B .none := ep_v (v_non h) .non
theorem epa_nil : EvPA K tNil σ A B [] := fun A1 B1 P _ q => q [] A1 B1 (Pr.refl P.s) .nil
theorem epa_cons (h : EvP K ta σ A B d) (hr : EvPA K tr σ A B ds) : EvPA K (tCons ta tr) σ A B (d :: ds) := fun A1 B1 P _ q =>
  h A1 B1 P _ fun v A2 B2 P2 hv => hr A2 B2 (P.trans P2) _ fun vs A3 B3 P3 hs => q _ A3 B3 (P2.trans P3) (.cons (dp_ex P3.a hv) hs)
theorem ep_tup (h : EvPA K tr σ A B ds) (hl : ds.length ≤ 100000) : EvP K (tTup tr) σ A B (.tuple ds) := fun A1 B1 P Q q =>
  h A1 B1 P _ fun vs A2 B2 P2 hs => ⟨sz_of (by rw [dpa_len hs]; exact hl), fun p hp => q _ (upd A2 p (.tup vs)) _ (P2.trans (Pr.new P2.s hp)) (.tup (st_of upd_same) (dpa_ex (Ex.new (fresh_back P2.s hp)) hs))⟩
theorem ep_call {sp : Sp} {E : XK} (h : EvPA K tr σ A B ds) (hs : SpD K sp ds d) : EvP K (tCall sp [] E tr) σ A B d := fun A1 B1 P Q q => h A1 B1 P _ fun vs A2 B2 P2 ha => by
  rw [List.append_nil]
  exact hs A2 B2 vs Q E P2.s ha fun v A3 B3 P3 => q v A3 B3 (P2.trans P3)
/-! fields, dicts -/
theorem ev_fld {C dx : Addr} {fs : List (Str × V)} {f : Str} (h : Ev ta σ H (.ref a)) (ha : H a = some (.ins C dx fs)) (c : Cls K C) (n : NoAttr K C f) (hv : fs.lookup f = some v) : Ev (tFld K ta f) σ H v := fun H1 e Q q =>
  h H1 e _ fun H2 e2 => ⟨a, C, dx, fs, v, rfl, e2 _ _ (e _ _ ha), c, n, hv, q H2 e2⟩
theorem ed_ev (h : Ev te σ H v) (hd : Dp K H v d) : EvD K te σ H d := ed_v h hd
theorem ex_rd {u : HO} (e : Ex H H') (h : Rd H a u) : Rd H' a u := h.elim (fun z => .inl (e _ _ z)) fun ⟨o, z⟩ => .inr ⟨o, e _ _ z⟩
theorem ev_dget {kvs : List (Key × V)} {i : Int} (h : Ev td σ H (.ref m)) (hm : Rd H m (.dK kvs)) (hi : EvD K ty σ H (.int i)) (hv : valV kvs (.inl i) = some v) : Ev (tDGet td ty) σ H v := fun H1 e Q q =>
  h H1 e _ fun H2 e2 => v_int hi H2 (e.trans e2) _ fun H3 e3 => ⟨m, v, rfl, .inl ⟨kvs, .inl i, ex_rd ((e.trans e2).trans e3) hm, rfl, hv.symm⟩, q H3 (e2.trans e3)⟩
theorem ev_dgetS {kvs : List (Key × V)} {i : Str} (h : Ev td σ H (.ref m)) (hm : Rd H m (.dK kvs)) (hi : EvD K ty σ H (.str i)) (hv : valV kvs (.inr i) = some v) : Ev (tDGet td ty) σ H v := fun H1 e Q q =>
  h H1 e _ fun H2 e2 => v_str hi H2 (e.trans e2) _ fun H3 e3 => ⟨m, v, rfl, .inl ⟨kvs, .inr i, ex_rd ((e.trans e2).trans e3) hm, rfl, hv.symm⟩, q H3 (e2.trans e3)⟩
theorem ed_din {kvs : List (Key × V)} {i : Int} (hi : EvD K ty σ H (.int i)) (h : Ev td σ H (.ref m)) (hm : Rd H m (.dK kvs)) : EvD K (tDIn ty td) σ H (.bool (valV kvs (.inl i)).isSome) :=
  ed_v (v := .bl (valV kvs (.inl i)).isSome) (fun H1 e Q q => v_int hi H1 e _ fun H2 e2 => h H2 (e.trans e2) _ fun H3 e3 => ⟨m, _, rfl, .inl ⟨kvs, .inl i, ex_rd ((e.trans e2).trans e3) hm, rfl, rfl⟩, q H3 (e2.trans e3)⟩) (.bl _)
theorem ed_dnin {kvs : List (Key × V)} {i : Int} (hi : EvD K ty σ H (.int i)) (h : Ev td σ H (.ref m)) (hm : Rd H m (.dK kvs)) : EvD K (tDNotIn ty td) σ H (.bool (!(valV kvs (.inl i)).isSome)) :=
  ed_v (v := .bl (!(valV kvs (.inl i)).isSome)) (fun H1 e Q q => v_int hi H1 e _ fun H2 e2 => h H2 (e.trans e2) _ fun H3 e3 => ⟨m, _, rfl, .inl ⟨kvs, .inl i, ex_rd ((e.trans e2).trans e3) hm, rfl, rfl⟩, q H3 (e2.trans e3)⟩) (.bl _)
/-- a place of a list, its thing itself -/
theorem ev_ixL {xs : List V} {i : Int} (h : Ev ta σ H (.ref l)) (hl : SqL K H l xs) (hi : EvD K tb σ H (.int i)) (hv : atI xs i = some v) : Ev (tOp (rIxL K) ta tb) σ H v := fun H1 e Q q =>
  h H1 e _ fun H2 e2 => v_int hi H2 (e.trans e2) _ fun H3 e3 => ⟨l, xs, i, v, rfl, rfl, ex_l ((e.trans e2).trans e3) hl, hv, q H3 (e2.trans e3)⟩
theorem ed_isB {a b : Bool} (ha : EvD K ta σ H (.bool a)) (hb : EvD K tb σ H (.bool b)) : EvD K (tOp rIsB ta tb) σ H (.bool (decide (a = b))) :=
  ed_v (ev_op (v_bl ha) (v_bl hb) (rv_val fun _ _ _ q => ⟨a, b, rfl, rfl, q⟩)) (.bl _)
theorem ed_notB {a b : Bool} (ha : EvD K ta σ H (.bool a)) (hb : EvD K tb σ H (.bool b)) : EvD K (tOp rNotB ta tb) σ H (.bool (!decide (a = b))) :=
  ed_v (ev_op (v_bl ha) (v_bl hb) (rv_val fun _ _ _ q => ⟨a, b, rfl, rfl, q⟩)) (.bl _)
theorem Ev.mono {H' : Hp} (h : Ev te σ H v) (e : Ex H H') : Ev te σ H' v := fun H1 e1 => h H1 (e.trans e1)
/-! ## statements -/
variable (K) {Dd : Ends} {t : TT} {tw tz t2 ts : TS}
theorem q_asgP {i : Nat} (s : Ex A H) (h : EvP K te σ A H d) (k : ∀ v A' B', Pr A H A' B' → Dp K A' v d → t2 Dd (σ.set i (some v)) B') : tSeq (tAsg te (gName i)) t2 Dd σ H := h A H (Pr.refl s) _ k
theorem s_asgP {i : Nat} (s : Ex A H) (h : EvP K te σ A H d) (k : ∀ v A' B', Pr A H A' B' → Dp K A' v d → Dd.nx (σ.set i (some v)) B') : tAsg te (gName i) Dd σ H := h A H (Pr.refl s) _ k
/-- a name for a thing itself -/
theorem q_asgV {i : Nat} (h : Ev te σ H v) (k : ∀ B', Ex H B' → t2 Dd (σ.set i (some v)) B') : tSeq (tAsg te (gName i)) t2 Dd σ H := h H (Ex.refl _) _ k
theorem s_asgV {i : Nat} (h : Ev te σ H v) (k : ∀ B', Ex H B' → Dd.nx (σ.set i (some v)) B') : tAsg te (gName i) Dd σ H := h H (Ex.refl _) _ k
/-- a name for a new list -/
theorem q_asgL {i : Nat} (k : ∀ p, H p = none → t2 Dd (σ.set i (some (.ref p))) (upd H p (.lst []))) : tSeq (tAsg (tLst tNil) (gName i)) t2 Dd σ H := ⟨sz_of (by decide), k⟩
theorem s_retP (s : Ex A H) (h : EvP K te σ A H d) (k : ∀ v A' B', Pr A H A' B' → Dp K A' v d → Dd.rt v B') : tRet te Dd σ H := h A H (Pr.refl s) _ k
theorem s_retV (h : Ev te σ H v) (k : ∀ B', Ex H B' → Dd.rt v B') : tRet te Dd σ H := h H (Ex.refl _) _ k
theorem q_ifM {b b' : Bool} (h : EvB K t σ H b') (q : b' = b) (h1 : b = true → ∀ B', Ex H B' → tw (go Dd t2) σ B') (h2 : b = false → ∀ B', Ex H B' → tz (go Dd t2) σ B') : tSeq (tIfS t tw tz) t2 Dd σ H :=
  q_ifE K (Ex.refl H) h q (fun z B' P => h1 z B' P.e) (fun z B' P => h2 z B' P.e)
theorem s_ifM {b b' : Bool} (h : EvB K t σ H b') (q : b' = b) (h1 : b = true → ∀ B', Ex H B' → tw Dd σ B') (h2 : b = false → ∀ B', Ex H B' → tz Dd σ B') : tIfS t tw tz Dd σ H :=
  s_ifE K (Ex.refl H) h q (fun z B' P => h1 z B' P.e) (fun z B' P => h2 z B' P.e)
/-- a field is set -/
theorem s_fld {C dx : Addr} {fs : List (Str × V)} {f : Str} (s : Ex A H) (hv : EvP K te σ A H d) (ha : Ev ta σ H (.ref a)) (hB : H a = some (.ins C dx fs)) (c : Cls K C) (n : NoAttr K C f) (hl : fs.length < 1000)
    (k : ∀ v A' B', Pr A H A' B' → Dp K A' v d → Dd.nx σ (upd B' a (.ins C dx (putF f v fs)))) : sFld K ta te f Dd σ H := hv A H (Pr.refl s) _ fun v A1 B1 P hd =>
  ha B1 P.b _ fun B2 e2 => ⟨a, C, dx, fs, rfl, e2 _ _ (P.b _ _ hB), c, n, hl, k v A1 B2 (P.trans (Pr.up P.s e2)) hd⟩
theorem s_fldD {C dx : Addr} {fs : List (Str × V)} {f : Str} (ha : Ev ta σ H (.ref a)) (hB : H a = some (.ins C dx fs)) (c : Cls K C) (n : NoAttr K C f) (hl : fs.length < 1000)
    (k : ∀ p B', H p = none → Ex (upd H p (.dK [])) B' → Dd.nx σ (upd B' a (.ins C dx (putF f (.ref p) fs)))) : sFld K ta tDNewK f Dd σ H := fun p hp =>
  ha (upd H p (.dK [])) (Ex.new hp) _ fun B2 e2 => ⟨a, C, dx, fs, rfl, e2 _ _ (Ex.new hp _ _ hB), c, n, hl, k p B2 hp e2⟩
theorem s_fldL {C dx : Addr} {fs : List (Str × V)} {f : Str} (ha : Ev ta σ H (.ref a)) (hB : H a = some (.ins C dx fs)) (c : Cls K C) (n : NoAttr K C f) (hl : fs.length < 1000)
    (k : ∀ p B', H p = none → Ex (upd H p (.lst [])) B' → Dd.nx σ (upd B' a (.ins C dx (putF f (.ref p) fs)))) : sFld K ta (tLst tNil) f Dd σ H := ⟨sz_of (by decide), fun p hp =>
  ha (upd H p (.lst [])) (Ex.new hp) _ fun B2 e2 => ⟨a, C, dx, fs, rfl, e2 _ _ (Ex.new hp _ _ hB), c, n, hl, k p B2 hp e2⟩⟩
/-- a field is set to a thing itself -/
theorem s_fldV {C dx : Addr} {fs : List (Str × V)} {f : Str} (hv : Ev te σ H v) (ha : Ev ta σ H (.ref a)) (hB : H a = some (.ins C dx fs)) (c : Cls K C) (n : NoAttr K C f) (hl : fs.length < 1000)
    (k : ∀ B', Ex H B' → Dd.nx σ (upd B' a (.ins C dx (putF f v fs)))) : sFld K ta te f Dd σ H := hv H (Ex.refl _) _ fun B1 e1 =>
  ha B1 e1 _ fun B2 e2 => ⟨a, C, dx, fs, rfl, e2 _ _ (e1 _ _ hB), c, n, hl, k B2 (e1.trans e2)⟩
/-- a dict's key is set -/
theorem s_dput {kvs : List (Key × V)} {i : Int} (s : Ex A H) (hv : EvP K te σ A H d) (hd : Ev td σ H (.ref m)) (hi : EvD K ty σ H (.int i)) (hm : H m = some (.dK kvs)) (hl : kvs.length < 100000)
    (k : ∀ v A' B', Pr A H A' B' → Dp K A' v d → Dd.nx σ (upd B' m (.dK (putK kvs (.inl i) v)))) : sDPut td ty te Dd σ H := hv A H (Pr.refl s) _ fun v A1 B1 P hd' =>
  hd B1 P.b _ fun B2 e2 => v_int hi B2 (P.b.trans e2) _ fun B3 e3 => ⟨m, _, rfl, .inl ⟨kvs, .inl i, e3 _ _ (e2 _ _ (P.b _ _ hm)), rfl, sz_lt hl, rfl⟩, k v A1 B3 (P.trans (Pr.up P.s (e2.trans e3))) hd'⟩
theorem s_dputS {kvs : List (Key × V)} {i : Str} (hv : Ev te σ H v) (hd : Ev td σ H (.ref m)) (hi : EvD K ty σ H (.str i)) (hm : H m = some (.dK kvs)) (hl : kvs.length < 100000)
    (k : ∀ B', Ex H B' → Dd.nx σ (upd B' m (.dK (putK kvs (.inr i) v)))) : sDPut td ty te Dd σ H := hv H (Ex.refl _) _ fun B1 e1 =>
  hd B1 e1 _ fun B2 e2 => v_str hi B2 (e1.trans e2) _ fun B3 e3 => ⟨m, _, rfl, .inl ⟨kvs, .inr i, e3 _ _ (e2 _ _ (e1 _ _ hm)), rfl, sz_lt hl, rfl⟩, k B3 ((e1.trans e2).trans e3)⟩
/-- a key is taken out -/
theorem s_dpop {kvs : List (Key × V)} {i : Int} {v : V} (hd : Ev td σ H (.ref m)) (hi : EvD K ty σ H (.int i)) (hm : H m = some (.dK kvs)) (hv : valV kvs (.inl i) = some v)
    (k : ∀ B', Ex H B' → Dd.nx σ (upd B' m (.dK (dropK kvs (.inl i))))) : tDrop (tDPop1 td ty) Dd σ H := hd H (Ex.refl _) _ fun B1 e1 =>
  ⟨m, rfl, .inl ⟨kvs, .inl (e1 _ _ hm)⟩, v_int hi B1 e1 _ fun B2 e2 => ⟨kvs, .inl i, v, e2 _ _ (e1 _ _ hm), rfl, hv, k B2 (e1.trans e2)⟩⟩
/-- a datum is appended to a list -/
theorem s_app {xs : List V} (s : Ex A H) (ho : Ev to σ H (.ref l)) (h : EvP K te σ A H d) (hl : H l = some (.lst xs)) (hz : xs.length < 100000)
    (k : ∀ v A' B', Pr A H A' B' → Dp K A' v d → Dd.nx σ (upd B' l (.lst (xs ++ [v])))) : tDrop (tBM K "list" rAppend to (tCons te tNil)) Dd σ H := ho H (Ex.refl _) _ fun B1 e1 =>
  ⟨.inl ⟨rfl, xs, sq_of (e1 _ _ hl)⟩, h A B1 (Pr.up s e1) _ fun v A' B' P hv => ⟨l, xs, v, rfl, rfl, P.b _ _ (e1 _ _ hl), sz_lt hz, k v A' B' ((Pr.up s e1).trans P) hv⟩⟩
/-- a thing itself is appended -/
theorem s_appV {xs : List V} (ho : Ev to σ H (.ref l)) (h : Ev te σ H v) (hl : H l = some (.lst xs)) (hz : xs.length < 100000)
    (k : ∀ B', Ex H B' → Dd.nx σ (upd B' l (.lst (xs ++ [v])))) : tDrop (tBM K "list" rAppend to (tCons te tNil)) Dd σ H := ho H (Ex.refl _) _ fun B1 e1 =>
  ⟨.inl ⟨rfl, xs, sq_of (e1 _ _ hl)⟩, h B1 e1 _ fun B2 e2 => ⟨l, xs, v, rfl, rfl, e2 _ _ (e1 _ _ hl), sz_lt hz, k B2 (e1.trans e2)⟩⟩
theorem s_clear {xs : List V} (ho : Ev to σ H (.ref l)) (hl : H l = some (.lst xs)) (k : ∀ B', Ex H B' → Dd.nx σ (upd B' l (.lst []))) : tDrop (tBM0 K "list" rClear to) Dd σ H := ho H (Ex.refl _) _ fun B1 e1 =>
  ⟨.inl ⟨rfl, xs, sq_of (e1 _ _ hl)⟩, ⟨l, xs, rfl, rfl, e1 _ _ hl, k B1 e1⟩⟩
/-- as the first of two -/
theorem q_do {t1 : TS} (h : t1 (go Dd t2) σ H) : tSeq t1 t2 Dd σ H := h
/-- a for over a list that stays, whose body only reads and names -/
theorem s_forL {j : Nat} {xs : List V} (h : Ev tl σ H (.ref l)) (hl : SqL K H l xs) (J : Nat → L2.St → Prop) (h0 : J 0 σ)
    (hs : ∀ i x σ' B', xs[i]? = some x → Ex H B' → J i σ' → ts { Dd with nx := fun σ3 H3 => Ex H H3 ∧ J (i + 1) σ3, ct := fun σ3 H3 => Ex H H3 ∧ J (i + 1) σ3, bk := Dd.nx } (σ'.set j (some x)) B')
    (hd : ∀ σ' B', Ex H B' → J xs.length σ' → Dd.nx σ' B') : tFor (iList K tl) (gName j) ts Dd σ H := h H (Ex.refl _) _ fun B1 e1 =>
  ⟨l, rfl, ⟨xs, ex_l e1 hl⟩, for_it (walk_list (xs := xs)) (fun i σ' H' => Ex H H' ∧ J i σ') ⟨e1, h0⟩ (fun i σ' H' _ p => ex_l p.1 hl)
    (fun i x σ' H' H'' _ p y => by obtain ⟨rfl, hx⟩ := y; exact hs i x σ' _ hx p.1 p.2) (fun σ' H' p => hd σ' H' p.1 p.2)⟩
/-- for i, x in enumerate(list), whose body only reads and names -/
theorem s_forE {i j : Nat} {xs : List V} (h : Ev tl σ H (.ref l)) (hl : SqL K H l xs) (J : Nat → L2.St → Prop) (h0 : J 0 σ)
    (hs : ∀ (t : Nat) x σ' B', xs[t]? = some x → Ex H B' → J t σ' → ts { Dd with nx := fun σ3 H3 => Ex H H3 ∧ J (t + 1) σ3, ct := fun σ3 H3 => Ex H H3 ∧ J (t + 1) σ3, bk := Dd.nx } ((σ'.set i (some (.int (t : Int)))).set j (some x)) B')
    (hd : ∀ σ' B', Ex H B' → J xs.length σ' → Dd.nx σ' B') : tFor (iEnum K (tCons tl tNil)) (gTup K 2 (gCons (gName i) (gCons (gName j) gNil))) ts Dd σ H := h H (Ex.refl _) _ fun B1 e1 =>
  ⟨l, xs, rfl, ex_l e1 hl, for_it (walk_enum (xs := xs)) (fun t σ' H' => Ex H H' ∧ J t σ') ⟨e1, h0⟩ (fun t σ' H' _ p => ex_l p.1 hl)
    (fun t x σ' H' H'' _ p y => by
      obtain ⟨T, u, z, rfl, hT, rfl, hu, hz⟩ := y
      cases hu
      exact ⟨T, [.int (t : Nat), z], rfl, st_of upd_same, rfl, _, [z], rfl, z, [], rfl, rfl, hs t z σ' _ hz (p.1.trans (Ex.new hT)) p.2⟩) (fun σ' H' p => hd σ' H' p.1 p.2)⟩
/-- for i in range(n), whose body changes things: J tells all -/
theorem s_forRM {j : Nat} {n : Int} (h : EvD K te σ H (.int n)) (hn : 0 ≤ n ∧ n ≤ 40000) (J : Nat → L2.St → Hp → Prop) (h0 : ∀ B', Ex H B' → J 0 σ B')
    (hs : ∀ (i : Nat) σ' B', (i : Int) < n → J i σ' B' → ts { Dd with nx := J (i + 1), ct := J (i + 1), bk := Dd.nx } (σ'.set j (some (.int (i : Int)))) B')
    (hd : ∀ σ' B', J n.toNat σ' B' → Dd.nx σ' B') : tFor (iRng1 (tCons te tNil)) (gName j) ts Dd σ H := v_int h H (Ex.refl _) _ fun B1 e1 =>
  ⟨n, rfl, by omega, by omega, for_it walk_range J (h0 B1 e1) (fun _ _ _ _ _ => trivial)
    (fun i x σ' H' H'' hi p y => by
      obtain ⟨rfl, rfl⟩ := y
      show ts _ (σ'.set j (some (.int (0 + (i : Nat))))) _
      rw [Int.zero_add]
      exact hs i σ' _ (by omega) p) (fun σ' H' p => hd σ' H' p)⟩
/-- a for over a new list, whose body changes things -/
theorem s_forNM {j : Nat} (s : Ex A H) (h : EvN K tl σ A ds) (k : ∀ q xs A1 B1, H q = none → Pr A H A1 B1 → A1 q = none → B1 q = some (.lst xs) → DpAll K A1 xs ds → ∃ J : Nat → L2.St → Hp → Prop, J 0 σ B1 ∧ (∀ i σ' B', J i σ' B' → SqL K B' q xs) ∧
      (∀ i x σ' B', xs[i]? = some x → J i σ' B' → ts { Dd with nx := J (i + 1), ct := J (i + 1), bk := Dd.nx } (σ'.set j (some x)) B') ∧ ∀ σ' B', J xs.length σ' B' → Dd.nx σ' B') : tFor (iList K tl) (gName j) ts Dd σ H := h A H (Ex.refl _) s _ fun q xs A1 B1 hq P nq bq hxs => by
  obtain ⟨J, j0, j1, j2, j3⟩ := k q xs A1 B1 hq P nq bq hxs
  refine ⟨q, rfl, ⟨xs, sq_of bq⟩, for_it (walk_list (xs := xs)) J j0 (fun i σ' H' _ p => j1 i σ' H' p) (fun i x σ' H' H'' _ p y => ?_) j3⟩
  obtain ⟨rfl, hx⟩ := y
  exact j2 i x σ' _ hx p
/-- a for over a dict's keys, whose body only reads and names -/
theorem s_forK {j : Nat} {kvs : List (Key × V)} (h : ∀ H', (∀ x u, x ≠ m → H x = some u → H' x = some u) → Ev tl σ H' (.ref m)) (hm : H m = some (.dK kvs)) (J : Nat → L2.St → Prop) (h0 : J 0 σ)
    (hs : ∀ i kv σ' B', kvs[i]? = some kv → Rd B' m (.dK kvs) → (∀ x u, x ≠ m → H x = some u → B' x = some u) → J i σ' → ∀ N : L2.St → Hp → Prop, (∀ σ3 B3, Ex B' B3 → J (i + 1) σ3 → N σ3 B3) → ∀ Dn : Ends, Dn.nx = N → ts Dn (σ'.set j (some (kV kv.1))) B')
    (hd : ∀ σ' B', Ex H B' → J kvs.length σ' → Dd.nx σ' B') : tLock (tFor (iKeys tl) (gName j) ts) Dd σ H := by
  refine ⟨m, _, hm, trivial, fun od => ?_⟩
  have k0 : ∀ x u, x ≠ m → H x = some u → (upd H m (.frz od (.dK kvs))) x = some u := fun x u n e => by rw [upd_ne n]; exact e
  refine h _ k0 _ (Ex.refl _) _ fun B1 e1 => ⟨m, od, rfl, .inl ⟨kvs, e1 _ _ upd_same, ?_⟩⟩
  refine for_it (walk_keys (kvs := kvs)) (fun i σ' H' => Ex (upd H m (.frz od (.dK kvs))) H' ∧ J i σ') ⟨e1, h0⟩ (fun i σ' H' _ p => p.1 _ _ upd_same) (fun i x σ' H' H'' _ p y => ?_) (fun σ' H' p => ?_)
  · obtain ⟨rfl, k, v, hk, rfl⟩ := y
    exact hs i (k, v) σ' _ hk (.inr ⟨od, p.1 _ _ upd_same⟩) (fun x u n e => p.1 _ _ (k0 x u n e)) p.2 _ (fun σ3 B3 e3 j3 => ⟨p.1.trans e3, j3⟩) _ rfl
  · refine ⟨p.1 _ _ upd_same, hd σ' _ (fun x u e => ?_) p.2⟩
    by_cases n : x = m
    · rw [n] at e ⊢
      rw [hm] at e
      cases e
      exact upd_same
    · rw [upd_ne n]
      exact p.1 _ _ (k0 x u n e)
end
/-! ## methods, and things made of a class -/
/-- where a method stands -/
structure MethAt (K : PySem.W.Frag) (C : Addr) (qual m : Str) (st : Stmt) (ps : List Str) (f : Addr) (fd : FuncData) : Prop where
  F : Fun K m qual st f fd
  m : Meth K C m f
  b : Binds K fd ps []
/-- a method keeps its promise -/
def MethOk (P : Program) (w : World) (K : PySem.W.Frag) (mg : Str → Option Value) (base : Heap) (CX : CXT) (k : Nat) (C : Addr) (m : Str) (ps : List Str) (sp : Sp) : Prop :=
  ∃ f fd, Meth K C m f ∧ Binds K fd ps [] ∧ FnOk P w K mg base CX k f fd ps sp
/-- so does the making -/
def MkOk (P : Program) (w : World) (K : PySem.W.Frag) (mg : Str → Option Value) (base : Heap) (CX : CXT) (k : Nat) (C : Addr) (ps : List Str) (sp : Sp) : Prop :=
  ∃ f fd, Mk K C f ∧ Binds K fd ps [] ∧ FnOk P w K mg base CX k f fd ps sp
theorem MethAt.ok {P : Program} {w : World} {K : PySem.W.Frag} {mg : Str → Option Value} {base : Heap} {CX : CXT} {k : Nat} {C : Addr} {qual m : Str} {st : Stmt} {ps : List Str} {f : Addr} {fd : FuncData} {sp : Sp} (d : MethAt K C qual m st ps f fd) (h : FnOk P w K mg base CX k f fd ps sp) : MethOk P w K mg base CX k C m ps sp :=
  ⟨f, fd, d.m, d.b, h⟩
section
variable {X : Cx} {CX : CXT} {k : Nat} {C : Addr} {ps : List Str} {sp : Sp} {x m : Str} {p pos apos : Pos} {e o : Expr} {es : List Expr} {ta : TE} {t : TA}
theorem pe_md {E : XK} {pl : Sem Bool} (he : PE X o ta) (c : Cls X.K C) (G : MethOk X.prog X.w X.K X.mg X.base CX k C m ps sp) (hr : Room k X.A) (hx : Passes CX X E) (ha : PA X (e :: es) t)
    (hst : starEach (e :: es) X.env = (false, eval e X.env) :: starEach es X.env := by rfl) (hpl : (backTo pos (starEach es X.env)).any (·.1) = false := by rfl)
    (ht : eval (.Call (.Attribute o m apos) (e :: es) [] pos) X.env = (do
      let ov ← eval o X.env
      standAt apos.atName
      let (g, first) ← holding [ov] (getMethod ov m pl)
      callWith pos g first (backTo pos (starEach (e :: es) X.env)) (backToKw pos (keywordEach [] X.env))) := by rfl) :
    PE X (.Call (.Attribute o m apos) (e :: es) [] pos) (tMeth C m sp [] E ta t) := by
  obtain ⟨f, fd, h1, h2, h3⟩ := G
  exact pe_meth (pl := pl) he c h1 h3 hr h2 .nil hx ha hst hpl ht
theorem pe_md0 {E : XK} {pl : Sem Bool} (he : PE X o ta) (c : Cls X.K C) (G : MethOk X.prog X.w X.K X.mg X.base CX k C m ps sp) (hr : Room k X.A) (hx : Passes CX X E)
    (ht : eval (.Call (.Attribute o m apos) [] [] pos) X.env = (do
      let ov ← eval o X.env
      standAt apos.atName
      let (g, first) ← holding [ov] (getMethod ov m pl)
      callWith pos g first (backTo pos (starEach [] X.env)) (backToKw pos (keywordEach [] X.env))) := by rfl) :
    PE X (.Call (.Attribute o m apos) [] [] pos) (tMeth C m sp [] E ta tNil) := by
  obtain ⟨f, fd, h1, h2, h3⟩ := G
  exact pe_meth0 (pl := pl) he c h1 h3 hr h2 .nil hx ht
/-- a method that may raise, what comes of that told by the names' values -/
def tMethX (C : Addr) (m : Str) (sp : Sp) (E : L2.St → XK) (ta : TE) (t : TA) : TE := fun σ H Q => ta σ H fun x H1 => ∃ a dx fs, x = .ref a ∧ H1 a = some (.ins C dx fs) ∧ fs.lookup m = none ∧ t σ H1 fun vs H2 => sp (x :: vs) H2 Q (E σ)
theorem pe_mdX {E : L2.St → XK} {pl : Sem Bool} (he : PE X o ta) (c : Cls X.K C) (G : MethOk X.prog X.w X.K X.mg X.base CX k C m ps sp) (hr : Room k X.A) (hx : ∀ σ, PassesAt CX X σ (E σ)) (ha : PA X (e :: es) t)
    (hst : starEach (e :: es) X.env = (false, eval e X.env) :: starEach es X.env := by rfl) (hpl : (backTo pos (starEach es X.env)).any (·.1) = false := by rfl)
    (ht : eval (.Call (.Attribute o m apos) (e :: es) [] pos) X.env = (do
      let ov ← eval o X.env
      standAt apos.atName
      let (g, first) ← holding [ov] (getMethod ov m pl)
      callWith pos g first (backTo pos (starEach (e :: es) X.env)) (backToKw pos (keywordEach [] X.env))) := by rfl) :
    PE X (.Call (.Attribute o m apos) (e :: es) [] pos) (tMethX C m sp E ta t) := by
  obtain ⟨f, fd, hm, hb, F⟩ := G
  refine ⟨fun pins z σ H Q I h => PySem.W.methodCall_KW (pl := pl) (thn (he.run pins z σ H _ I h) fun u z1 ⟨y, H1, I1, ry, a, dx, fs, ey, ea, l, q⟩ => ?_) ht⟩
  subst ey
  obtain rfl : u = Value.ref a := ry
  refine getmeth_ok I1 ea c hm l (PySem.W.callWith_K (first := [.ref a]) (h₀ := X.base) I.ok.mod.kin hm.kp (thn (ha.run pos pins z1 σ H1 _ I1 q) fun us z2 ⟨vs, H2, I2, r, q2⟩ => ⟨I2.kIn, ?_⟩) hst hpl)
  exact run_fnS (us := .ref a :: us) (vs := .ref a :: vs) F hr hb (hx σ) I2 (.cons rfl r) q2
theorem pe_mk {E : XK} (hg : Gl X x) (hm : X.mg x = some (.ref C)) (G : MkOk X.prog X.w X.K X.mg X.base CX k C ps sp) (hr : Room (k + 1) X.A) (hx : Passes CX X E) (ha : PA X (e :: es) t)
    (hdb : (x == ("__debug__" : Str)) = false := by decide) (he : starEach (e :: es) X.env = (false, eval e X.env) :: starEach es X.env := by rfl) (hpl : (backTo pos (starEach es X.env)).any (·.1) = false := by rfl) :
    PE X (.Call (.Name x p) (e :: es) [] pos) (tMake C sp [] E t) := by
  obtain ⟨f, fd, h1, h2, h3⟩ := G
  exact pe_make h1 h3 hr hg hm h2 .nil hx ha hdb he hpl
end
section
variable {K : PySem.W.Frag} {A B H : Hp} {σ : L2.St} {ds : List D} {C a dx : Addr} {m : Str} {fs : List (Str × V)} {sp : Sp} {E : XK} {EX : L2.St → XK} {ta : TE} {t : TA} {Q : VK}
theorem m_call (s : Ex A H) (ha : Ev ta σ H (.ref a)) (hB : H a = some (.ins C dx fs)) (hl : fs.lookup m = none) (h : EvPA K t σ A H ds) (k : ∀ vs A1 B1, Pr A H A1 B1 → DpAll K A1 vs ds → sp (.ref a :: vs) B1 Q E) : tMeth C m sp [] E ta t σ H Q :=
  ha H (Ex.refl _) _ fun B1 e1 => ⟨a, dx, fs, rfl, e1 _ _ hB, hl, h A B1 (Pr.up s e1) _ fun vs A2 B2 P2 hv => by rw [List.append_nil]; exact k vs A2 B2 ((Pr.up s e1).trans P2) hv⟩
theorem m_callX (s : Ex A H) (ha : Ev ta σ H (.ref a)) (hB : H a = some (.ins C dx fs)) (hl : fs.lookup m = none) (h : EvPA K t σ A H ds) (k : ∀ vs A1 B1, Pr A H A1 B1 → DpAll K A1 vs ds → sp (.ref a :: vs) B1 Q (EX σ)) : tMethX C m sp EX ta t σ H Q :=
  ha H (Ex.refl _) _ fun B1 e1 => ⟨a, dx, fs, rfl, e1 _ _ hB, hl, h A B1 (Pr.up s e1) _ fun vs A2 B2 P2 hv => k vs A2 B2 ((Pr.up s e1).trans P2) hv⟩
end
end Ob

/-! ## the tactics: ed (EvD), ea (EvAD), en (EvN), ek (EvK), eo (EvO), et (EvT), dp (Dp), pr (Pr), at (atI), fn (a def's promise), sz (sizes) -/
open PySem L2 Evl Ob
local macro_rules | `(tactic| tm_at "sz") => `(tactic| first | decide | (simp only [List.length_cons, List.length_nil]; decide) | omega | assumption)
local macro_rules | `(tactic| tm_at "at") => `(tactic| first | assumption | exact rfl)
local macro_rules | `(tactic| tm_at "cc") => `(tactic| first | (exact ⟨by decide, by decide⟩) | (show (0 : Int) < _; decide) | (exact ⟨by decide, by decide, by decide⟩) | assumption)
local macro_rules | `(tactic| tm_at "exa") => `(tactic| first | exact Ex.refl _ | assumption | exact Pr.a (by assumption) | (refine Ex.trans ?_ (Pr.a (by assumption)); tm_at "exa") | (refine Ex.trans ?_ (by assumption); tm_at "exa"))
local macro_rules | `(tactic| tm_at "dp") => `(tactic| first | assumption | exact Dp.int _ | exact Dp.bl _ | exact Dp.str _ | exact Dp.non | (refine dp_ex ?e (by assumption); tm_at "exa"))
local macro_rules | `(tactic| tm_at "pr") => `(tactic| first | assumption | exact Pu.pr (by assumption) | (with_reducible exact Pr.refl (by first | assumption | exact Pr.s (by assumption) | exact Pu.s (by assumption))) | (refine Pr.trans ?_ (by assumption); tm_at "pr") | (refine Pr.trans ?_ (Pu.pr (by assumption)); tm_at "pr"))
local macro_rules | `(tactic| tm_at "exs") => `(tactic| first | assumption | exact Pr.s (by assumption) | exact Pu.s (by assumption))
local macro_rules | `(tactic| tm_at "sh") => `(tactic| first | assumption | exact rfl)
local macro_rules | `(tactic| tm_at "fn") => `(tactic| fail)
local macro_rules | `(tactic| tm_at "ki") => `(tactic| first | exact ki_ii | exact ki_ib | exact ki_bb | exact ki_bi | exact ki_nb | exact ki_sb | exact ki_lb | exact ki_tb | exact ki_ni | exact ki_si | exact ki_li | exact ki_ti | exact ki_tt | exact ki_lt | exact ki_st | exact ki_it | exact ki_bt | exact ki_nt | exact ki_ll | exact ki_tl | exact ki_sl | exact ki_nl | exact ki_il | exact ki_bl | exact ki_ss | exact ki_ts | exact ki_ls | exact ki_ns | exact ki_is | exact ki_bs)
local macro_rules | `(tactic| tm_at "ea") => `(tactic| first | exact ea_nilD | (apply ea_consD; tm_at "ed"; tm_at "ea"))
local macro_rules | `(tactic| tm_at "eo") => `(tactic| first | exact eo_noneD | (apply eo_someD; tm_at "ed"))
local macro_rules | `(tactic| tm_at "le") => `(tactic| first | omega | (simp only [Str.length_append]; omega))
local macro_rules | `(tactic| tm_at "exs2") => `(tactic| first | exact Ex.refl _ | exact Pr.b (by assumption) | exact Pu.e (by assumption) | (refine Ex.trans ?_ (Pr.b (by assumption)); tm_at "exs2") | (refine Ex.trans ?_ (Pu.e (by assumption)); tm_at "exs2"))
local macro_rules | `(tactic| tm_at "l2") => `(tactic| first | assumption | decide)
local macro_rules | `(tactic| tm_at "ej") => `(tactic| first | exact ej_nil | (apply ej_cons; tm_at "ed"; tm_at "sz"; tm_at "ej"))
local macro_rules | `(tactic| tm_at "ek") => `(tactic| first | (apply ek_n; tm_at "en") | (apply ek_var; exact rfl; assumption; assumption))
local macro_rules | `(tactic| tm_at "en") => `(tactic| first
  | ((with_reducible apply en_lst); tm_at "ea"; tm_at "sz")
  | ((with_reducible apply en_cat); tm_at "ek"; tm_at "ek"; tm_at "sz")
  | ((with_reducible apply en_slice); tm_at "ed"; tm_at "eo"; tm_at "eo")
  | ((with_reducible apply en_split); tm_at "ed"; tm_at "ed"; exact rfl; tm_at "sz")
  | ((with_reducible apply en_listof); tm_at "ed"))
local macro_rules | `(tactic| tm_at "et") => `(tactic| first
  | ((with_reducible exact eb_yes))
  | ((with_reducible apply eb_D); tm_at "ed")
  | ((with_reducible apply eb_DB); tm_at "ed")
  | ((with_reducible apply eb_not); tm_at "et")
  | ((with_reducible apply eb_and); tm_at "et"; intro h; first | (exact eb_abs h (by decide)) | tm_at "et")
  | ((with_reducible apply eb_or); tm_at "et"; intro h; first | (exact eb_abs h (by decide)) | tm_at "et"))
local macro_rules | `(tactic| tm_at "ed") => `(tactic| first
  | ((with_reducible apply ed_var); exact rfl; tm_at "dp")
  | ((with_reducible exact ed_int))
  | ((with_reducible exact ed_str))
  | ((with_reducible exact ed_bl))
  | ((with_reducible exact ed_non))
  | ((with_reducible apply ed_Ii); tm_at "ed"; tm_at "ed")
  | ((with_reducible apply ed_Ib); tm_at "ed"; tm_at "ed")
  | ((with_reducible apply ed_Ic); tm_at "ed"; tm_at "ed"; tm_at "cc")
  | ((with_reducible apply ed_ixT); tm_at "ed"; tm_at "ed"; tm_at "at")
  | ((with_reducible apply ed_ixL); tm_at "ed"; tm_at "ed"; tm_at "at")
  | ((with_reducible apply ed_eqi); tm_at "ed"; tm_at "ed")
  | ((with_reducible apply ed_nei); tm_at "ed"; tm_at "ed")
  | ((with_reducible apply ed_eqs); tm_at "ed"; tm_at "ed")
  | ((with_reducible apply ed_nes); tm_at "ed"; tm_at "ed")
  | ((with_reducible apply ed_eqb); tm_at "ed"; tm_at "ed")
  | ((with_reducible apply ed_neb); tm_at "ed"; tm_at "ed")
  | ((with_reducible apply ed_eqD); tm_at "ed"; tm_at "ed"; tm_at "sh"; tm_at "sh")
  | ((with_reducible apply ed_neD); tm_at "ed"; tm_at "ed"; tm_at "sh"; tm_at "sh")
  | ((with_reducible apply ed_and); tm_at "ed"; intro h; first | (exact ed_abs h (by decide)) | tm_at "ed")
  | ((with_reducible apply ed_or); tm_at "ed"; intro h; first | (exact ed_abs h (by decide)) | tm_at "ed")
  | ((with_reducible apply ed_not); tm_at "ed")
  | ((with_reducible apply ed_isi); tm_at "ed"; tm_at "ki")
  | ((with_reducible apply ed_tup); tm_at "ea"; tm_at "sz")
  | ((with_reducible apply ed_call); tm_at "ea"; tm_at "fn")
  | ((with_reducible apply ed_len); tm_at "ed")
  | ((with_reducible apply ed_lenT); tm_at "ed")
  | ((with_reducible apply ed_all); tm_at "ed")
  | ((with_reducible apply ed_addS); tm_at "ed"; tm_at "ed"; tm_at "sz")
  | ((with_reducible apply ed_strI); tm_at "ed"; tm_at "l2")
  | ((with_reducible apply ed_lenS); tm_at "ed"; tm_at "sz")
  | ((with_reducible apply ed_jn); tm_at "ej")
  | ((with_reducible apply ed_fmtI); tm_at "ed"; tm_at "l2")
  | ((with_reducible apply ed_isN); tm_at "ed")
  | ((with_reducible apply ed_notN); tm_at "ed")
  | ((with_reducible apply ed_ixS); tm_at "ed"; tm_at "ed"; tm_at "sz"; tm_at "at")
  | ((with_reducible apply ed_sliceS); tm_at "ed"; tm_at "sz"; tm_at "eo"; tm_at "eo")
  | ((with_reducible apply ed_inT); tm_at "ed"; tm_at "ed"; exact rfl; exact rfl)
  | ((with_reducible apply ed_niT); tm_at "ed"; tm_at "ed"; exact rfl; exact rfl)
  | ((with_reducible apply ed_inSg); tm_at "ed"; tm_at "ed")
  | ((with_reducible apply ed_niSg); tm_at "ed"; tm_at "ed")
  | ((with_reducible apply ed_neg); tm_at "ed")
  | ((with_reducible apply ed_max2); tm_at "ed"; tm_at "ed")
  | (apply ed_n; tm_at "en"))

namespace K2
open PySem L2 Evl Ob
def top (i : Nat) : Stmt := PySem.Challenge.pw_onebell_k02_a_desk_proposes.main.body.getD i (.Pass ⟨0, 0, 0, 0⟩)
abbrev Mk := Int × Int
abbrev mkD (m : Mk) : D := .tuple [.int m.1, .int m.2]

-- less  slots: 0=one 1=other
abbrev s_less : Stmt := top 12
theorem sc_less : FnScope ["one", "other"] ["one", "other"] (defScope s_less) := ⟨rfl, rfl, rfl, by decide +kernel, rfl, by decide +kernel, by decide +kernel⟩
-- Desk.__init__  slots: 0=self 1=hand
abbrev s_Desk___init__ : Stmt := inClass (top 14) 0
theorem sc_Desk___init__ : FnScope ["self", "hand"] ["self", "hand"] (defScope s_Desk___init__) := ⟨rfl, rfl, rfl, by decide +kernel, rfl, by decide +kernel, by decide +kernel⟩
-- Desk.clock  slots: 0=self
abbrev s_Desk_clock : Stmt := inClass (top 14) 1
theorem sc_Desk_clock : FnScope ["self"] ["self"] (defScope s_Desk_clock) := ⟨rfl, rfl, rfl, by decide +kernel, rfl, by decide +kernel, by decide +kernel⟩
-- Desk.propose  slots: 0=self 1=letter
abbrev s_Desk_propose : Stmt := inClass (top 14) 2
theorem sc_Desk_propose : FnScope ["self", "letter"] ["self", "letter"] (defScope s_Desk_propose) := ⟨rfl, rfl, rfl, by decide +kernel, rfl, by decide +kernel, by decide +kernel⟩
-- Desk.waiting  slots: 0=self 1=left 2=found 3=best 4=letter
abbrev s_Desk_waiting : Stmt := inClass (top 14) 6
theorem sc_Desk_waiting : FnScope ["self", "left", "found", "best", "letter"] ["self"] (defScope s_Desk_waiting) := ⟨rfl, rfl, rfl, by decide +kernel, rfl, by decide +kernel, by decide +kernel⟩
-- Desk.handed  slots: 0=self
abbrev s_Desk_handed : Stmt := inClass (top 14) 7
theorem sc_Desk_handed : FnScope ["self"] ["self"] (defScope s_Desk_handed) := ⟨rfl, rfl, rfl, by decide +kernel, rfl, by decide +kernel, by decide +kernel⟩
-- _law_whole  slots: 0=_law_found
abbrev s_law_whole : Stmt := top 16
theorem sc_law_whole : FnScope ["_law_found"] ["_law_found"] (defScope s_law_whole) := ⟨rfl, rfl, rfl, by decide +kernel, rfl, by decide +kernel, by decide +kernel⟩
-- _law_cell_at  slots: 0=_law_script 1=_law_k
abbrev s_law_cell_at : Stmt := top 17
theorem sc_law_cell_at : FnScope ["_law_script", "_law_k"] ["_law_script", "_law_k"] (defScope s_law_cell_at) := ⟨rfl, rfl, rfl, by decide +kernel, rfl, by decide +kernel, by decide +kernel⟩
-- _law_mark  slots: 0=_law_found
abbrev s_law_mark : Stmt := top 18
theorem sc_law_mark : FnScope ["_law_found"] ["_law_found"] (defScope s_law_mark) := ⟨rfl, rfl, rfl, by decide +kernel, rfl, by decide +kernel, by decide +kernel⟩
-- _law_only  slots: 0=_law_error 1=_law_word 2=_law_kinds 3=_law_names 4=_law_name
abbrev s_law_only : Stmt := top 19
theorem sc_law_only : FnScope ["_law_error", "_law_word", "_law_kinds", "_law_names", "_law_name"] ["_law_error", "_law_word"] (defScope s_law_only) := ⟨rfl, rfl, rfl, by decide +kernel, rfl, by decide +kernel, by decide +kernel⟩
-- _law_told  slots: 0=_law_desk 1=_law_letter 2=_law_error
abbrev s_law_told : Stmt := top 20
theorem sc_law_told : FnScope ["_law_desk", "_law_letter", "_law_error"] ["_law_desk", "_law_letter"] (defScope s_law_told) := ⟨rfl, rfl, rfl, by decide +kernel, rfl, by decide +kernel, by decide +kernel⟩
-- _law_met  slots: 0=_law_desk 1=_law_hand 2=_law_met_here 3=_law_letter 4=_law_found
abbrev s_law_met : Stmt := top 21
theorem sc_law_met : FnScope ["_law_desk", "_law_hand", "_law_met_here", "_law_letter", "_law_found"] ["_law_desk", "_law_hand", "_law_met_here", "_law_letter"] (defScope s_law_met) := ⟨rfl, rfl, rfl, by decide +kernel, rfl, by decide +kernel, by decide +kernel⟩
-- _law_waits  slots: 0=_law_desk 1=_law_hand 2=_law_met_here 3=_law_kept 4=_law_found 5=_law_k 6=_law_one 7=_law_time
abbrev s_law_waits : Stmt := top 22
theorem sc_law_waits : FnScope ["_law_desk", "_law_hand", "_law_met_here", "_law_kept", "_law_found", "_law_k", "_law_one", "_law_time"] ["_law_desk", "_law_hand", "_law_met_here", "_law_kept"] (defScope s_law_waits) := ⟨rfl, rfl, rfl, by decide +kernel, rfl, by decide +kernel, by decide +kernel⟩
-- law  slots: 0=_law_script 1=_law_hands 2=_law_desks 3=_law_met_here 4=_law_kept 5=_law_k 6=_law_cell 7=_law_letter
abbrev s_law : Stmt := top 23
theorem sc_law : FnScope ["_law_script", "_law_hands", "_law_desks", "_law_met_here", "_law_kept", "_law_k", "_law_cell", "_law_letter"] ["_law_script"] (defScope s_law) := ⟨rfl, rfl, rfl, by decide +kernel, rfl, by decide +kernel, by decide +kernel⟩
structure Cs where
  BellError : Addr
  BadCount : Addr
  NoHand : Addr
  NoLetter : Addr
  NoMail : Addr
  Twice : Addr
  NotOpen : Addr
  BadMark : Addr
  NoNote : Addr
  Desk : Addr
/-- an error's class D, the j-th kind -/
structure ExcD (K : PySem.W.Frag) (c : Cs) (D : Addr) (j : Nat) : Prop where
  i : ExcC K D
  v : PySem.W.kitOne K (.ref D) (.type "ValueError") = some true
  e : PySem.W.exmOne K (.ref D) (.ref c.BellError) = some true
  k0 : PySem.W.kitOne K (.ref D) (.ref c.BadCount) = some (0 == j)
  k1 : PySem.W.kitOne K (.ref D) (.ref c.NoHand) = some (1 == j)
  k2 : PySem.W.kitOne K (.ref D) (.ref c.NoLetter) = some (2 == j)
  k3 : PySem.W.kitOne K (.ref D) (.ref c.NoMail) = some (3 == j)
  k4 : PySem.W.kitOne K (.ref D) (.ref c.Twice) = some (4 == j)
  k5 : PySem.W.kitOne K (.ref D) (.ref c.NotOpen) = some (5 == j)
  k6 : PySem.W.kitOne K (.ref D) (.ref c.BadMark) = some (6 == j)
  k7 : PySem.W.kitOne K (.ref D) (.ref c.NoNote) = some (7 == j)
structure Tx (K : PySem.W.Frag) (mg : Str → Option Value) (c : Cs) : Prop where
  x_BellError : ExcCl K mg "BellError" c.BellError
  x_BadCount : ExcCl K mg "BadCount" c.BadCount
  x_NoHand : ExcCl K mg "NoHand" c.NoHand
  x_NoLetter : ExcCl K mg "NoLetter" c.NoLetter
  x_NoMail : ExcCl K mg "NoMail" c.NoMail
  x_Twice : ExcCl K mg "Twice" c.Twice
  x_NotOpen : ExcCl K mg "NotOpen" c.NotOpen
  x_BadMark : ExcCl K mg "BadMark" c.BadMark
  x_NoNote : ExcCl K mg "NoNote" c.NoNote
  i_Twice : ExcD K c c.Twice 4
  d_less : ∃ f fd, DefAt K mg "less" s_less ["one", "other"] f fd
  d_law_whole : ∃ f fd, DefAt K mg "_law_whole" s_law_whole ["_law_found"] f fd
  d_law_cell_at : ∃ f fd, DefAt K mg "_law_cell_at" s_law_cell_at ["_law_script", "_law_k"] f fd
  d_law_mark : ∃ f fd, DefAt K mg "_law_mark" s_law_mark ["_law_found"] f fd
  d_law_only : ∃ f fd, DefAt K mg "_law_only" s_law_only ["_law_error", "_law_word"] f fd
  d_law_told : ∃ f fd, DefAt K mg "_law_told" s_law_told ["_law_desk", "_law_letter"] f fd
  d_law_met : ∃ f fd, DefAt K mg "_law_met" s_law_met ["_law_desk", "_law_hand", "_law_met_here", "_law_letter"] f fd
  d_law_waits : ∃ f fd, DefAt K mg "_law_waits" s_law_waits ["_law_desk", "_law_hand", "_law_met_here", "_law_kept"] f fd
  g_Desk : mg "Desk" = some (.ref c.Desk)
  c_Desk : Cls K c.Desk
  k_Desk : ∃ f fd, L2.Mk K c.Desk f ∧ Fun K "__init__" "Desk.__init__" s_Desk___init__ f fd ∧ Binds K fd ["self", "hand"] []
  m_Desk_clock : ∃ f fd, MethAt K c.Desk "Desk.clock" "clock" s_Desk_clock ["self"] f fd
  m_Desk_propose : ∃ f fd, MethAt K c.Desk "Desk.propose" "propose" s_Desk_propose ["self", "letter"] f fd
  m_Desk_waiting : ∃ f fd, MethAt K c.Desk "Desk.waiting" "waiting" s_Desk_waiting ["self"] f fd
  m_Desk_handed : ∃ f fd, MethAt K c.Desk "Desk.handed" "handed" s_Desk_handed ["self"] f fd
  na_Desk_hand : NoAttr K c.Desk "hand"
  na_Desk_time : NoAttr K c.Desk "time"
  na_Desk_known : NoAttr K c.Desk "known"
  na_Desk_marked : NoAttr K c.Desk "marked"
  na_Desk_done : NoAttr K c.Desk "done"
  na_Desk_row : NoAttr K c.Desk "row"
  mn_list : mg "list" = none
  mn_isinstance : mg "isinstance" = none
  mn_int : mg "int" = none
  mn_bool : mg "bool" = none
  mn_len : mg "len" = none
  mn_tuple : mg "tuple" = none
  mn_ValueError : mg "ValueError" = none
  mn_enumerate : mg "enumerate" = none
  mn_range : mg "range" = none

/-! ## shapes -/
theorem shn_mk {m : Mk} {n : Nat} : ShN (n + 1) (mkD m) := shn_tup fun d hd => by
  rcases List.mem_cons.mp hd with rfl | hd
  · exact shn_int
  · rcases List.mem_cons.mp hd with rfl | hd
    · exact shn_int
    · cases hd
theorem sh_mk {m : Mk} : SeqAt.shaped (mkD m) = true := (shn_mk (n := 0)).sh (by decide)
theorem sh_mks {ms : List Mk} : SeqAt.shaped (.list (ms.map mkD)) = true := ShN.sh (n := 2) (shn_list fun d hd => by
  obtain ⟨m, _, rfl⟩ := List.mem_map.mp hd
  exact shn_mk) (by decide)
theorem sh_bls {bs : List Bool} : SeqAt.shaped (.list (bs.map PyData.bool)) = true := ShN.sh (n := 1) (shn_list fun d hd => by
  obtain ⟨m, _, rfl⟩ := List.mem_map.mp hd
  exact shn_bl) (by decide)
theorem sh_b3 {a b c : Bool} : SeqAt.shaped (.list [.bool a, .bool b, .bool c]) = true := sh_bls (bs := [a, b, c])
local macro_rules | `(tactic| tm_at "sh") => `(tactic| first | exact sh_mk | exact sh_mks | exact sh_b3)

section
variable {P : Program} {w : World} {K : PySem.W.Frag} {mg : Str → Option Value} {base : Heap} {c : Cs}
def mless (a b : Mk) : Bool := decide (a.1 < b.1) || (a.1 == b.1 && decide (a.2 < b.2))
def sp_less (K : PySem.W.Frag) : Sp := spF K (fun x : Mk × Mk => [mkD x.1, mkD x.2]) (fun _ => True) (fun x => .bool (mless x.1 x.2))
theorem at_less (a b : Mk) : SpD K (sp_less K) [mkD a, mkD b] (.bool (mless a b)) := spF_at (a, b) trivial
theorem ok_less (T : Tx K mg c) : DefOk P w K mg base CX0 1 "less" ["one", "other"] (sp_less K) := by
  obtain ⟨f, fd, d⟩ := T.d_less
  refine d.ok (d.F.ok sc_less (fun vs H Q E h => spF_len h fun _ => rfl) fun cdv A outer s H vs Q E hr h => ?_)
  obtain ⟨A0, ⟨a, b⟩, _, s0, ha, k⟩ := h
  obtain ⟨v1, v2, rfl, h1, h2⟩ := dpa2 ha
  have nd := sc_less.nd
  refine ⟨_, (pss_one (ps_ret (pe_or (pe_cmpR op_lt (pe_ix (ixT (K := K) rfl) (pv 0) pe_int (fun _ _ => rfl)) (pe_ix (ixT (K := K) rfl) (pv 1) pe_int (fun _ _ => rfl)) (nomark _)) (pe_one (pe_and (pe_cmpR op_eq (pe_ix (ixT (K := K) rfl) (pv 0) pe_int (fun _ _ => rfl)) (pe_ix (ixT (K := K) rfl) (pv 1) pe_int (fun _ _ => rfl)) (nomark _)) (pe_one (pe_cmpR op_lt (pe_ix (ixT (K := K) rfl) (pv 0) pe_int (fun _ _ => rfl)) (pe_ix (ixT (K := K) rfl) (pv 1) pe_int (fun _ _ => rfl)) (nomark _)))))))), ?_⟩
  try dsimp only [cx_K]
  exact s_retK K s0 (by tm_at "ed") (by rfl) k
end
local macro_rules | `(tactic| tm_at "fn") => `(tactic| exact at_less _ _)

/-! ## of what kind an error is -/
def kindNames : List Str := ["BadCount",
  "NoHand", "NoLetter", "NoMail", "Twice",
  "NotOpen", "BadMark", "NoNote"]
def onlyB (j : Nat) (x : Str) : Bool := PyData.eqv (.list ([0, 1, 2, 3, 4, 5, 6, 7].map fun q : Nat => PyData.bool (q == j))) (.list (kindNames.map fun n => .bool (n == x)))
def isSF (x : Str) : D → D
  | .str n => .bool (n == x)
  | d => d
section
variable {P : Program} {w : World} {K : PySem.W.Frag} {mg : Str → Option Value} {base : Heap} {c : Cs}
def sp_only (K : PySem.W.Frag) (c : Cs) : Addr → Value → Option Addr → Sp := fun a cls d vs H Q _ => ∃ A D j x, cls = .ref D ∧ d = none ∧ ExcD K c D j ∧ vs = [.ref a, .str x] ∧ Ex A H ∧ ∀ v A' B', Pr A H A' B' → Dp K A' v (.bool (onlyB j x)) → Q v B'
theorem ed_only {a D : Addr} {j : Nat} {x : Str} {σ : L2.St} {i : Nat} {tw : TE} {E : L2.St → XK} {H : Hp} (hD : ExcD K c D j) (hσ : σ[i]? = some (some (.ref a))) (hw : EvD K tw σ H (.str x)) : EvD K (tCallS (sp_only K c a (.ref D) none) E (tCons (tVar i) (tCons tw tNil))) σ H (.bool (onlyB j x)) :=
  fun A B e s Q q => ⟨_, hσ, hw A B e s _ fun v A1 B1 P1 hv => by
    cases hv
    exact ⟨A1, D, j, x, rfl, rfl, hD, rfl, P1.s, fun v A' B' P => q v A' B' (P1.trans P)⟩⟩
local macro_rules | `(tactic| tm_at "ed") => `(tactic| ((with_reducible apply ed_isE); exact rfl; (first | exact ClsV.own _ | exact ClsV.ty _); assumption))
theorem ok_only (T : Tx K mg c) : DefP P w K mg base CX0 1 "_law_only" ["_law_error", "_law_word"] (sp_only K c) := by
  obtain ⟨f, fd, dd⟩ := T.d_law_only
  refine dd.okP (fnP dd.F sc_law_only (fun a cls d vs H Q E h => ?_) fun cdv A outer z H vs Q E p hot hr h => ?_)
  · obtain ⟨_, _, _, _, _, _, _, e, _⟩ := h
    rw [e]
    rfl
  obtain ⟨A0, D, j, x, h1, h2, hD, rfl, s0, k⟩ := h
  have nd := sc_law_only.nd
  have hz : Zc (.ref D) none p.2 := ⟨h1, h2⟩
  have hf : ∃ vs, p.2.data = .fields vs := let ⟨u, e, _⟩ := hot.2; ⟨u, e⟩
  have hC := hD.i
  refine ⟨_, (pss_cons (ps_set (i := 2) nd rfl (Or.inl rfl) (pe_lst (pa_cons (pe_callB (c_isHK (K := K) (p := p) rfl hC List.mem_cons_self hz hf) rfl T.mn_isinstance (by decide +kernel) (pa_cons (pv 0) (pa_cons (pe_glob (v := .ref c.BadCount) rfl T.x_BadCount.g rfl) pa_nil))) (pa_cons (pe_callB (c_isHK (K := K) (p := p) rfl hC List.mem_cons_self hz hf) rfl T.mn_isinstance (by decide +kernel) (pa_cons (pv 0) (pa_cons (pe_glob (v := .ref c.NoHand) rfl T.x_NoHand.g rfl) pa_nil))) (pa_cons (pe_callB (c_isHK (K := K) (p := p) rfl hC List.mem_cons_self hz hf) rfl T.mn_isinstance (by decide +kernel) (pa_cons (pv 0) (pa_cons (pe_glob (v := .ref c.NoLetter) rfl T.x_NoLetter.g rfl) pa_nil))) pa_nil)))))
      (pss_cons (ps_expr (pe_bm PySem.F.plainAttrs_list PySem.F.slot_list_append PySem.F.type_list_append mt_append (pv 2) (pa_cons (pe_callB (c_isHK (K := K) (p := p) rfl hC List.mem_cons_self hz hf) rfl T.mn_isinstance (by decide +kernel) (pa_cons (pv 0) (pa_cons (pe_glob (v := .ref c.NoMail) rfl T.x_NoMail.g rfl) pa_nil))) pa_nil)))
      (pss_cons (ps_set (i := 2) nd rfl (Or.inl rfl) (pe_op op_cat (pv 2) (pe_lst (pa_cons (pe_callB (c_isHK (K := K) (p := p) rfl hC List.mem_cons_self hz hf) rfl T.mn_isinstance (by decide +kernel) (pa_cons (pv 0) (pa_cons (pe_glob (v := .ref c.Twice) rfl T.x_Twice.g rfl) pa_nil))) (pa_cons (pe_callB (c_isHK (K := K) (p := p) rfl hC List.mem_cons_self hz hf) rfl T.mn_isinstance (by decide +kernel) (pa_cons (pv 0) (pa_cons (pe_glob (v := .ref c.NotOpen) rfl T.x_NotOpen.g rfl) pa_nil))) (pa_cons (pe_callB (c_isHK (K := K) (p := p) rfl hC List.mem_cons_self hz hf) rfl T.mn_isinstance (by decide +kernel) (pa_cons (pv 0) (pa_cons (pe_glob (v := .ref c.BadMark) rfl T.x_BadMark.g rfl) pa_nil))) pa_nil))))))
      (pss_cons (ps_set (i := 3) nd rfl (Or.inl rfl) (pe_lst (pa_cons pe_str (pa_cons pe_str (pa_cons pe_str (pa_cons pe_str (pa_cons pe_str (pa_cons pe_str (pa_cons pe_str (pa_cons pe_str pa_nil))))))))))
      (pss_cons (ps_expr (pe_bm PySem.F.plainAttrs_list PySem.F.slot_list_append PySem.F.type_list_append mt_append (pv 2) (pa_cons (pe_callB (c_isHK (K := K) (p := p) rfl hC List.mem_cons_self hz hf) rfl T.mn_isinstance (by decide +kernel) (pa_cons (pv 0) (pa_cons (pe_glob (v := .ref c.NoNote) rfl T.x_NoNote.g rfl) pa_nil))) pa_nil)))
      (pss_one (ps_ret (pe_and (pe_callB (c_isHK (K := K) (p := p) rfl hC List.mem_cons_self hz hf) rfl T.mn_isinstance (by decide +kernel) (pa_cons (pv 0) (pa_cons (pe_ty (T := "ValueError") rfl T.mn_ValueError (by decide +kernel)) pa_nil))) (pe_one (pe_cmpR (o_eqD (K := K) rfl (huH hr)) (pv 2) (pe_lcH (own := [("_law_name", 4)]) (g := gName 4) (hotC_mk hot List.mem_cons_self) nd (pv 3) (blkOk_by (own := [("_law_name", 4)]) (N := ["_law_error", "_law_word", "_law_kinds", "_law_names", "_law_name"]) (sc := defScope s_law_only) (by decide +kernel)) (fun _ _ _ _ _ => pg_name (i := 4) nd rfl (Or.inl rfl)) (fun _ _ _ _ _ => pts_nil) (fun _ _ _ _ _ => (pe_cmpR op_eq (pv 4) (pv 1) (nomark _)))) (nomark _))))))))))), ?_⟩
  try dsimp only [cx_KH]
  have k0 := hD.k0; have k1 := hD.k1; have k2 := hD.k2; have k3 := hD.k3; have k4 := hD.k4; have k5 := hD.k5; have k6 := hD.k6; have k7 := hD.k7; have kv := hD.v
  refine q_asgN K s0 (by tm_at "en") fun p1 xs1 A1 B1 hn1 P1 hA1 hB1 ha1 => ?_
  have z1 : xs1.length = 3 := dpa_len ha1
  refine q_appD K P1.s rfl hB1 (by omega) (by tm_at "ed") fun v2 A2 B2 P2 hv2 => ?_
  have n2 := (P2.owned hA1 hB1).1
  have Q2 := (P1.trans P2).appfrz (o := .lst (xs1 ++ [v2])) hn1 n2
  have a2 := dpa_ex (Ex.new n2 (o := .lst (xs1 ++ [v2]))) (dpa_app (dpa_ex P2.a ha1) (.cons hv2 .nil))
  refine q_asgN K Q2.s (en_cat (ek_var rfl upd_same a2) (ek_n (by tm_at "en")) (by show 4 + 3 ≤ 100000; decide)) fun p3 xs3 A3 B3 hn3 P3 hA3 hB3 ha3 => ?_
  have z3 : xs3.length = 7 := dpa_len ha3
  refine q_asgD K P3.s (by tm_at "ed") fun v4 A4 B4 P4 hv4 => ?_
  obtain ⟨o4, b4⟩ := P4.owned hA3 hB3
  refine q_appD K P4.s rfl b4 (by omega) (by tm_at "ed") fun v5 A5 B5 P5 hv5 => ?_
  have n5 := (P5.owned o4 b4).1
  have Q5 := (((Q2.trans P3).trans P4).trans P5).appfrz (o := .lst (xs3 ++ [v5])) (fresh_back Q2.b hn3) n5
  have e5 := Ex.new n5 (o := .lst (xs3 ++ [v5]))
  have a5 := dpa_ex e5 (dpa_app (dpa_ex (P4.a.trans P5.a) ha3) (.cons hv5 .nil))
  have hv4' := dp_ex (P5.a.trans e5) hv4
  refine s_retK K (d' := .bool (onlyB j x)) Q5.s (ed_and (a := true) (by tm_at "ed") fun _ => ed_eqD (ed_var rfl (Dp.lst (sq_of upd_same) a5)) (ed_n (en_lcL1 (isSF x) (ed_var rfl hv4') (by decide) (fun _ => rfl) fun d hd v H1 ex hv => ?e)) ?s1 ?s2) (by rfl) fun v A' B' P hv => k v A' B' (Q5.trans P) hv
  case e =>
    simp only [List.mem_cons, List.not_mem_nil, or_false] at hd
    rcases hd with rfl | rfl | rfl | rfl | rfl | rfl | rfl | rfl <;> exact ed_eqs (ed_var rfl hv) (ed_var rfl (.str _))
  case s1 => exact sh_bls (bs := [_, _, _, _, _, _, _, _])
  case s2 => exact sh_bls (bs := [_, _, _, _, _, _, _, _])
end

/-! ## a desk -/
/-- where a desk's things stand -/
structure DP where
  a : Addr
  dx : Addr
  k : Addr
  m : Addr
  d : Addr
  r : Addr
def DP.foot (p : DP) : List Addr := [p.a, p.k, p.m, p.d, p.r]
/-- what it holds -/
structure DS where
  hand : Int
  time : Int
  known : List Int
  marked : List (Int × Mk)
  done : List Int
  row : List Int
def deskFs (p : DP) (s : DS) : List (Str × V) := [("hand", .int s.hand), ("time", .int s.time), ("known", .ref p.k), ("marked", .ref p.m), ("done", .ref p.d), ("row", .ref p.r)]
def flags (l : List Int) : List (Key × V) := l.map fun i => (.inl i, .bl true)
def MkKvs (K : PySem.W.Frag) (A : Hp) (kvs : List (Key × V)) (l : List (Int × Mk)) : Prop := Paired (fun kv e => kv.1 = .inl e.1 ∧ Dp K A kv.2 (mkD e.2)) kvs l
structure DeskAt (K : PySem.W.Frag) (C : Addr) (A B : Hp) (p : DP) (s : DS) : Prop where
  ia : B p.a = some (.ins C p.dx (deskFs p s))
  ik : B p.k = some (.dK (flags s.known))
  im : ∃ kvs, B p.m = some (.dK kvs) ∧ MkKvs K A kvs s.marked
  id : B p.d = some (.dK (flags s.done))
  ir : B p.r = some (.lst (s.row.map V.int))
  nd : p.foot.Nodup
  na : ∀ x ∈ p.foot, A x = none
/-! its dicts -/
theorem flags_val (i : Int) : ∀ l : List Int, (valV (flags l) (.inl i)).isSome = decide (i ∈ l)
  | [] => rfl
  | x :: r => by
    have ih := flags_val i r
    by_cases h : x = i
    · subst h
      rw [show flags (x :: r) = (Sum.inl x, V.bl true) :: flags r from rfl, valV_pos rfl]
      simp
    · rw [show flags (x :: r) = (Sum.inl x, V.bl true) :: flags r from rfl, valV_neg (fun z => h (Sum.inl.inj z)), ih]
      simp [List.mem_cons, Ne.symm h]
theorem flags_put {i : Int} {l : List Int} (h : i ∉ l) : putK (flags l) (.inl i) (.bl true) = flags (l ++ [i]) := by
  have e := valV_any (.inl i) (flags l)
  rw [flags_val, decide_eq_false h] at e
  unfold putK
  rw [e]
  simp [flags]
/-- the mark of a letter -/
def lkM (l : List (Int × Mk)) (i : Int) : Option Mk := (l.find? fun e => decide (e.1 = i)).map (·.2)
def putM (l : List (Int × Mk)) (i : Int) (m : Mk) : List (Int × Mk) := if (l.any fun e => decide (e.1 = i)) = true then l.map (fun e => if e.1 = i then (e.1, m) else e) else l ++ [(i, m)]
def dropM (l : List (Int × Mk)) (i : Int) : List (Int × Mk) := l.filter fun e => decide (e.1 ≠ i)
theorem MkKvs.mono {K : PySem.W.Frag} {A A' : Hp} (e : Ex A A') : ∀ {kvs : List (Key × V)} {l : List (Int × Mk)}, MkKvs K A kvs l → MkKvs K A' kvs l
  | _, _, .nil => .nil
  | _, _, .cons h t => .cons ⟨h.1, dp_ex e h.2⟩ (MkKvs.mono e t)
theorem MkKvs.lk {K : PySem.W.Frag} {A : Hp} {i : Int} : ∀ {kvs : List (Key × V)} {l : List (Int × Mk)}, MkKvs K A kvs l → ∀ {m : Mk}, lkM l i = some m → ∃ v, valV kvs (.inl i) = some v ∧ Dp K A v (mkD m)
  | _, _, .nil, m, h => by cases h
  | _, _, .cons (a := kv) (b := e) (l₁ := r) (l₂ := s) hh t, m, h => by
    obtain ⟨k, v⟩ := kv
    obtain ⟨h1, h2⟩ := hh
    dsimp only at h1 h2
    subst h1
    by_cases q : e.1 = i
    · refine ⟨v, by rw [valV_pos (by rw [q])], ?_⟩
      have : lkM (e :: s) i = some e.2 := by simp [lkM, List.find?_cons, q]
      rw [this] at h
      cases h
      exact h2
    · have : lkM (e :: s) i = lkM s i := by simp [lkM, List.find?_cons, q]
      rw [this] at h
      obtain ⟨v', e1, e2⟩ := MkKvs.lk t h
      exact ⟨v', by rw [valV_neg (fun z => q (Sum.inl.inj z))]; exact e1, e2⟩
theorem MkKvs.some {K : PySem.W.Frag} {A : Hp} {i : Int} : ∀ {kvs : List (Key × V)} {l : List (Int × Mk)}, MkKvs K A kvs l → (valV kvs (.inl i)).isSome = (lkM l i).isSome
  | _, _, .nil => rfl
  | _, _, .cons (a := kv) (b := e) (l₁ := r) (l₂ := s) hh t => by
    obtain ⟨k, v⟩ := kv
    obtain ⟨h1, h2⟩ := hh
    dsimp only at h1 h2
    subst h1
    by_cases q : e.1 = i
    · rw [valV_pos (by rw [q])]
      simp [lkM, List.find?_cons, q]
    · rw [valV_neg (fun z => q (Sum.inl.inj z)), MkKvs.some t]
      simp [lkM, List.find?_cons, q]
theorem MkKvs.any {K : PySem.W.Frag} {A : Hp} {i : Int} : ∀ {kvs : List (Key × V)} {l : List (Int × Mk)}, MkKvs K A kvs l → (kvs.any fun kv => decide (kv.1 = Sum.inl i)) = (l.any fun e => decide (e.1 = i))
  | _, _, .nil => rfl
  | _, _, .cons hh t => by
    rw [List.any_cons, List.any_cons, MkKvs.any t, hh.1]
    congr 1
    exact decide_eq_decide.mpr ⟨fun z => Sum.inl.inj z, fun z => by rw [z]⟩
theorem MkKvs.len {K : PySem.W.Frag} {A : Hp} {kvs : List (Key × V)} {l : List (Int × Mk)} (h : MkKvs K A kvs l) : kvs.length = l.length := Paired.length h
theorem lk_put (i : Int) (m : Mk) : ∀ l : List (Int × Mk), lkM (putM l i m) i = some m := by
  intro l
  unfold putM
  by_cases q : (l.any fun e => decide (e.1 = i)) = true
  · rw [if_pos q]
    induction l with
    | nil => cases q
    | cons e r ih =>
      rw [List.map_cons]
      by_cases z : e.1 = i
      · simp [lkM, z]
      · rw [List.any_cons, decide_eq_false z, Bool.false_or] at q
        have := ih q
        simp only [lkM, if_neg z, List.find?_cons, decide_eq_false z] at this ⊢
        exact this
  · rw [if_neg q]
    have hn : l.find? (fun e => decide (e.1 = i)) = none := by
      rw [List.find?_eq_none]
      intro x hx h
      exact q (List.any_eq_true.mpr ⟨x, hx, h⟩)
    simp [lkM, List.find?_append, hn]
theorem paired_snoc {α β : Type} {R : α → β → Prop} {x : α} {y : β} (hr : R x y) : ∀ {xs : List α} {ys : List β}, Paired R xs ys → Paired R (xs ++ [x]) (ys ++ [y])
  | _, _, .nil => .cons hr .nil
  | _, _, .cons h t => .cons h (paired_snoc hr t)
theorem MkKvs.put {K : PySem.W.Frag} {A : Hp} {i : Int} {v : V} {m : Mk} {kvs : List (Key × V)} {l : List (Int × Mk)} (h : MkKvs K A kvs l) (hv : Dp K A v (mkD m)) : MkKvs K A (putK kvs (.inl i) v) (putM l i m) := by
  unfold putK putM
  rw [h.any]
  by_cases q : (l.any fun e => decide (e.1 = i)) = true
  · rw [if_pos q, if_pos q]
    clear q
    induction h with
    | nil => exact .nil
    | @cons kv e r s hh t ih =>
      refine .cons ?_ ih
      show (if kv.1 = Sum.inl i then (kv.1, v) else kv).1 = Sum.inl (if e.1 = i then (e.1, m) else e).1 ∧ Dp K A (if kv.1 = Sum.inl i then (kv.1, v) else kv).2 (mkD (if e.1 = i then (e.1, m) else e).2)
      by_cases z : e.1 = i
      · rw [if_pos (by rw [hh.1, z]), if_pos z]
        exact ⟨hh.1, hv⟩
      · rw [if_neg (by rw [hh.1]; exact fun y => z (Sum.inl.inj y)), if_neg z]
        exact hh
  · rw [if_neg q, if_neg q]
    exact paired_snoc ⟨rfl, hv⟩ h
theorem MkKvs.drop {K : PySem.W.Frag} {A : Hp} {i : Int} {kvs : List (Key × V)} {l : List (Int × Mk)} (h : MkKvs K A kvs l) : MkKvs K A (dropK kvs (.inl i)) (dropM l i) := by
  unfold dropK dropM
  induction h with
  | nil => exact .nil
  | @cons kv e r s hh t ih =>
    by_cases z : e.1 = i
    · rw [List.filter_cons_of_neg (by rw [hh.1, z]; simp), List.filter_cons_of_neg (by simp [z])]
      exact ih
    · rw [List.filter_cons_of_pos (by rw [hh.1]; simpa using z), List.filter_cons_of_pos (by simpa using z)]
      exact .cons hh ih
theorem MkKvs.keys {K : PySem.W.Frag} {A : Hp} : ∀ {kvs : List (Key × V)} {l : List (Int × Mk)}, MkKvs K A kvs l → (kvs.map fun kv => kV kv.1) = (l.map (·.1)).map V.int
  | _, _, .nil => rfl
  | _, _, .cons hh t => by
    rw [List.map_cons, List.map_cons, List.map_cons, MkKvs.keys t, hh.1]
    rfl
section
variable {K : PySem.W.Frag} {C : Addr} {A B A' B' : Hp} {p : DP} {s : DS} {F : Addr → Prop}
theorem DeskAt.mono (D : DeskAt K C A B p s) (P : PrM F A B A' B') (h : ∀ x ∈ p.foot, ¬ F x) : DeskAt K C A' B' p s := by
  have f1 : p.a ∈ p.foot := by simp [DP.foot]
  have f2 : p.k ∈ p.foot := by simp [DP.foot]
  have f3 : p.m ∈ p.foot := by simp [DP.foot]
  have f4 : p.d ∈ p.foot := by simp [DP.foot]
  have f5 : p.r ∈ p.foot := by simp [DP.foot]
  obtain ⟨kvs, e3, hk⟩ := D.im
  refine ⟨P.b _ _ (h _ f1) D.ia, P.b _ _ (h _ f2) D.ik, ⟨kvs, P.b _ _ (h _ f3) e3, hk.mono P.a⟩, P.b _ _ (h _ f4) D.id, P.b _ _ (h _ f5) D.ir, D.nd, fun x hx => P.n x (D.na x hx) ?_⟩
  simp only [DP.foot, List.mem_cons, List.not_mem_nil, or_false] at hx
  rcases hx with rfl | rfl | rfl | rfl | rfl
  · rw [D.ia]; simp
  · rw [D.ik]; simp
  · rw [e3]; simp
  · rw [D.id]; simp
  · rw [D.ir]; simp
theorem DeskAt.pr (D : DeskAt K C A B p s) (P : Pr A B A' B') : DeskAt K C A' B' p s := D.mono (F := fun _ => False) P.m fun _ _ z => z
theorem DeskAt.up (D : DeskAt K C A B p s) (e : Ex A B) (h : Ex B B') : DeskAt K C A B' p s := D.pr (Pr.up e h)
theorem DeskAt.ne (D : DeskAt K C A B p s) : p.a ≠ p.k ∧ p.a ≠ p.m ∧ p.a ≠ p.d ∧ p.a ≠ p.r ∧ p.k ≠ p.m ∧ p.k ≠ p.d ∧ p.k ≠ p.r ∧ p.m ≠ p.d ∧ p.m ≠ p.r ∧ p.d ≠ p.r := by
  have h := D.nd
  simp only [DP.foot, List.nodup_cons, List.mem_cons, List.not_mem_nil, or_false, not_or, not_false_eq_true, List.nodup_nil, and_true] at h
  obtain ⟨⟨h1, h2, h3, h4⟩, ⟨h5, h6, h7⟩, ⟨h8, h9⟩, h10⟩ := h
  exact ⟨h1, h2, h3, h4, h5, h6, h7, h8, h9, h10⟩
end

end K2

namespace K2
open PySem L2 Evl Ob

local macro_rules | `(tactic| tm_at "sh") => `(tactic| first | exact sh_mk | exact sh_mks | exact sh_b3)

section
variable {P : Program} {w : World} {K : PySem.W.Frag} {mg : Str → Option Value} {base : Heap} {c : Cs}
/-! a new desk -/
def sp_mkDesk (K : PySem.W.Frag) (C : Addr) : Sp := fun vs H Q _ => ∃ A a dx h, vs = [.ref a, .int h] ∧ Ex A H ∧ H a = some (.ins C dx []) ∧ A a = none ∧
  ∀ p H', p.a = a → PrM (fun x => x = a) A H A H' → (∀ x ∈ p.foot, x = a ∨ H x = none) → DeskAt K C A H' p ⟨h, 0, [], [], [], []⟩ → Q .non H'
theorem ok_Desk_init (T : Tx K mg c) : MkOk P w K mg base (L2N.CX P w) 1 c.Desk ["self", "hand"] (sp_mkDesk K c.Desk) := by
  obtain ⟨f, fd, mk, F, b⟩ := T.k_Desk
  refine ⟨f, fd, mk, b, okN F sc_Desk___init__ (fun vs H Q E h => ?_) fun cdv A outer s H vs Q E hr h => ?_⟩
  · obtain ⟨_, _, _, _, e, _⟩ := h
    rw [e]
    rfl
  obtain ⟨A0, a, dx, hh, rfl, s0, hB, nA, k⟩ := h
  have nd := sc_Desk___init__.nd
  refine ⟨_, (pss_cons (ps_fld (pv 0) (pv 1) rfl)
      (pss_cons (ps_fld (pv 0) pe_int rfl)
      (pss_cons (ps_fld (pv 0) pe_dnewK rfl)
      (pss_cons (ps_fld (pv 0) pe_dnewK rfl)
      (pss_cons (ps_fld (pv 0) pe_dnewK rfl)
      (pss_one (ps_fld (pv 0) (pe_lst pa_nil) rfl))))))), ?_⟩
  try dsimp only [cx_K2]
  have P0 : PrM (fun x => x = a) A0 H A0 H := PrM.refl s0
  refine q_do (s_fldV K (ev_var rfl) (ev_var rfl) hB T.c_Desk T.na_Desk_hand (by decide) fun B1 e1 => go_nx ?_)
  have P1 := (P0.up e1).put (l := a) (o := .ins c.Desk dx (putF "hand" (.int hh) [])) (.inl rfl) nA
  generalize hH1 : upd B1 a (.ins c.Desk dx (putF "hand" (.int hh) [])) = H1 at P1 ⊢
  have g1 : H1 a = some (.ins c.Desk dx (putF "hand" (.int hh) [])) := by rw [← hH1]; exact upd_same
  refine q_do (s_fldV K ev_c (ev_var rfl) g1 T.c_Desk T.na_Desk_time (by show 1 < 1000; decide) fun B2 e2 => go_nx ?_)
  have P2 := (P1.up e2).put (l := a) (o := .ins c.Desk dx (putF "time" (.int 0) (putF "hand" (.int hh) []))) (.inl rfl) nA
  generalize hH2 : upd B2 a (.ins c.Desk dx (putF "time" (.int 0) (putF "hand" (.int hh) []))) = H2 at P2 ⊢
  have g2 : H2 a = some (.ins c.Desk dx (putF "time" (.int 0) (putF "hand" (.int hh) []))) := by rw [← hH2]; exact upd_same
  refine q_do (s_fldD K (ev_var rfl) g2 T.c_Desk T.na_Desk_known (by show 2 < 1000; decide) fun p3 B3 hp3 e3 => go_nx ?_)
  have n3 : p3 ≠ a := fun z => by rw [z, g2] at hp3; cases hp3
  have P3 := ((P2.new (o := .dK []) hp3).up e3).put (l := a) (o := .ins c.Desk dx (putF "known" (.ref p3) (putF "time" (.int 0) (putF "hand" (.int hh) [])))) (.inl rfl) nA
  have f3 : (upd B3 a (.ins c.Desk dx (putF "known" (.ref p3) (putF "time" (.int 0) (putF "hand" (.int hh) []))))) p3 = some (.dK []) := by rw [upd_ne n3]; exact e3 _ _ upd_same
  generalize hH3 : upd B3 a (.ins c.Desk dx (putF "known" (.ref p3) (putF "time" (.int 0) (putF "hand" (.int hh) [])))) = H3 at P3 f3 ⊢
  have g3 : H3 a = some (.ins c.Desk dx (putF "known" (.ref p3) (putF "time" (.int 0) (putF "hand" (.int hh) [])))) := by rw [← hH3]; exact upd_same
  refine q_do (s_fldD K (ev_var rfl) g3 T.c_Desk T.na_Desk_marked (by show 3 < 1000; decide) fun p4 B4 hp4 e4 => go_nx ?_)
  have n4 : p4 ≠ a := fun z => by rw [z, g3] at hp4; cases hp4
  have n43 : p4 ≠ p3 := fun z => by rw [z, f3] at hp4; cases hp4
  have P4 := ((P3.new (o := .dK []) hp4).up e4).put (l := a) (o := .ins c.Desk dx (putF "marked" (.ref p4) (putF "known" (.ref p3) (putF "time" (.int 0) (putF "hand" (.int hh) []))))) (.inl rfl) nA
  have f4 : (upd B4 a (.ins c.Desk dx (putF "marked" (.ref p4) (putF "known" (.ref p3) (putF "time" (.int 0) (putF "hand" (.int hh) [])))))) p4 = some (.dK []) := by rw [upd_ne n4]; exact e4 _ _ upd_same
  have f43 : (upd B4 a (.ins c.Desk dx (putF "marked" (.ref p4) (putF "known" (.ref p3) (putF "time" (.int 0) (putF "hand" (.int hh) [])))))) p3 = some (.dK []) := by rw [upd_ne n3]; exact e4 _ _ (by rw [upd_ne (Ne.symm n43)]; exact f3)
  generalize hH4 : upd B4 a (.ins c.Desk dx (putF "marked" (.ref p4) (putF "known" (.ref p3) (putF "time" (.int 0) (putF "hand" (.int hh) []))))) = H4 at P4 f4 f43 ⊢
  have g4 : H4 a = some (.ins c.Desk dx (putF "marked" (.ref p4) (putF "known" (.ref p3) (putF "time" (.int 0) (putF "hand" (.int hh) []))))) := by rw [← hH4]; exact upd_same
  refine q_do (s_fldD K (ev_var rfl) g4 T.c_Desk T.na_Desk_done (by show 4 < 1000; decide) fun p5 B5 hp5 e5 => go_nx ?_)
  have n5 : p5 ≠ a := fun z => by rw [z, g4] at hp5; cases hp5
  have n53 : p5 ≠ p3 := fun z => by rw [z, f43] at hp5; cases hp5
  have n54 : p5 ≠ p4 := fun z => by rw [z, f4] at hp5; cases hp5
  have P5 := ((P4.new (o := .dK []) hp5).up e5).put (l := a) (o := .ins c.Desk dx (putF "done" (.ref p5) (putF "marked" (.ref p4) (putF "known" (.ref p3) (putF "time" (.int 0) (putF "hand" (.int hh) [])))))) (.inl rfl) nA
  have up5 : ∀ x u, x ≠ a → x ≠ p5 → H4 x = some u → (upd B5 a (.ins c.Desk dx (putF "done" (.ref p5) (putF "marked" (.ref p4) (putF "known" (.ref p3) (putF "time" (.int 0) (putF "hand" (.int hh) []))))))) x = some u := fun x u na np e => by
    rw [upd_ne na]; exact e5 _ _ (by rw [upd_ne np]; exact e)
  have f5 : (upd B5 a (.ins c.Desk dx (putF "done" (.ref p5) (putF "marked" (.ref p4) (putF "known" (.ref p3) (putF "time" (.int 0) (putF "hand" (.int hh) []))))))) p5 = some (.dK []) := by rw [upd_ne n5]; exact e5 _ _ upd_same
  have f53 := up5 p3 _ n3 (Ne.symm n53) f43
  have f54 := up5 p4 _ n4 (Ne.symm n54) f4
  generalize hH5 : upd B5 a (.ins c.Desk dx (putF "done" (.ref p5) (putF "marked" (.ref p4) (putF "known" (.ref p3) (putF "time" (.int 0) (putF "hand" (.int hh) [])))))) = H5 at P5 f5 f53 f54 ⊢
  have g5 : H5 a = some (.ins c.Desk dx (putF "done" (.ref p5) (putF "marked" (.ref p4) (putF "known" (.ref p3) (putF "time" (.int 0) (putF "hand" (.int hh) [])))))) := by rw [← hH5]; exact upd_same
  refine s_fldL K (ev_var rfl) g5 T.c_Desk T.na_Desk_row (by show 5 < 1000; decide) fun p6 B6 hp6 e6 => ?_
  have n6 : p6 ≠ a := fun z => by rw [z, g5] at hp6; cases hp6
  have n63 : p6 ≠ p3 := fun z => by rw [z, f53] at hp6; cases hp6
  have n64 : p6 ≠ p4 := fun z => by rw [z, f54] at hp6; cases hp6
  have n65 : p6 ≠ p5 := fun z => by rw [z, f5] at hp6; cases hp6
  have P6 := ((P5.new (o := .lst []) hp6).up e6).put (l := a) (o := .ins c.Desk dx (putF "row" (.ref p6) (putF "done" (.ref p5) (putF "marked" (.ref p4) (putF "known" (.ref p3) (putF "time" (.int 0) (putF "hand" (.int hh) []))))))) (.inl rfl) nA
  have up6 : ∀ x u, x ≠ a → x ≠ p6 → H5 x = some u → (upd B6 a (.ins c.Desk dx (putF "row" (.ref p6) (putF "done" (.ref p5) (putF "marked" (.ref p4) (putF "known" (.ref p3) (putF "time" (.int 0) (putF "hand" (.int hh) [])))))))) x = some u := fun x u na np e => by
    rw [upd_ne na]; exact e6 _ _ (by rw [upd_ne np]; exact e)
  have fr3 := P2.fresh hp3
  have fr4 := P3.fresh hp4
  have fr5 := P4.fresh hp5
  have fr6 := P5.fresh hp6
  refine k ⟨a, dx, p3, p4, p5, p6⟩ _ rfl P6 (fun x hx => ?_) ⟨upd_same, up6 p3 _ n3 (Ne.symm n63) f53, ⟨[], up6 p4 _ n4 (Ne.symm n64) f54, .nil⟩, up6 p5 _ n5 (Ne.symm n65) f5, ?_, ?_, fun x hx => ?_⟩
  · simp only [DP.foot, List.mem_cons, List.not_mem_nil, or_false] at hx
    rcases hx with rfl | rfl | rfl | rfl | rfl
    · exact .inl rfl
    · exact .inr fr3
    · exact .inr fr4
    · exact .inr fr5
    · exact .inr fr6
  · show (upd B6 a _) p6 = _
    rw [upd_ne n6]
    exact e6 _ _ upd_same
  · simp only [DP.foot, List.nodup_cons, List.mem_cons, List.not_mem_nil, or_false, not_or, not_false_eq_true, List.nodup_nil, and_true]
    exact ⟨⟨Ne.symm n3, Ne.symm n4, Ne.symm n5, Ne.symm n6⟩, ⟨Ne.symm n43, Ne.symm n53, Ne.symm n63⟩, ⟨Ne.symm n54, Ne.symm n64⟩, Ne.symm n65⟩
  · have nH : ∀ y, H y = none → A0 y = none := fun y e => fresh_back s0 e
    simp only [DP.foot, List.mem_cons, List.not_mem_nil, or_false] at hx
    rcases hx with rfl | rfl | rfl | rfl | rfl
    · exact nA
    · exact nH _ fr3
    · exact nH _ fr4
    · exact nH _ fr5
    · exact nH _ fr6
/-! its clock, its row -/
def sp_clock (K : PySem.W.Frag) (C : Addr) : Sp := fun vs H Q _ => ∃ A p s, vs = [.ref p.a] ∧ DeskAt K C A H p s ∧ ∀ H', Ex H H' → Q (.int s.time) H'
theorem ok_clock (T : Tx K mg c) : MethOk P w K mg base (L2N.CX P w) 1 c.Desk "clock" ["self"] (sp_clock K c.Desk) := by
  obtain ⟨f, fd, d⟩ := T.m_Desk_clock
  refine d.ok (okN d.F sc_Desk_clock (fun vs H Q E h => ?_) fun cdv A outer s H vs Q E hr h => ?_)
  · obtain ⟨_, _, _, e, _⟩ := h
    rw [e]
    rfl
  obtain ⟨A0, p, st, rfl, hD, k⟩ := h
  have nd := sc_Desk_clock.nd
  refine ⟨_, (pss_one (ps_ret (pe_fld (pv 0) rfl))), ?_⟩
  try dsimp only [cx_K2]
  exact s_retV (ev_fld (ev_var rfl) hD.ia T.c_Desk T.na_Desk_time rfl) k
def sp_row (K : PySem.W.Frag) (C : Addr) : Sp := fun vs H Q _ => ∃ A p s, vs = [.ref p.a] ∧ DeskAt K C A H p s ∧ ∀ q H', H q = none → Ex H H' → H' q = some (.lst (s.row.map V.int)) → Q (.ref q) H'
theorem ok_row (T : Tx K mg c) : MethOk P w K mg base (L2N.CX P w) 1 c.Desk "handed" ["self"] (sp_row K c.Desk) := by
  obtain ⟨f, fd, d⟩ := T.m_Desk_handed
  refine d.ok (okN d.F sc_Desk_handed (fun vs H Q E h => ?_) fun cdv A outer s H vs Q E hr h => ?_)
  · obtain ⟨_, _, _, e, _⟩ := h
    rw [e]
    rfl
  obtain ⟨A0, p, st, rfl, hD, k⟩ := h
  have nd := sc_Desk_handed.nd
  refine ⟨_, (pss_one (ps_ret (pe_callTy (c_list (K := K) rfl) rfl T.mn_list (by decide +kernel) (pa_cons (pe_fld (pv 0) rfl) pa_nil)))), ?_⟩
  try dsimp only [cx_K2]
  have e : Ev (tFld K (tVar 0) "row") (L2.start ["self"] [V.ref p.a]) H (.ref p.r) := ev_fld (ev_var rfl) hD.ia T.c_Desk T.na_Desk_row rfl
  exact e H (Ex.refl _) _ fun B1 e1 => ⟨p.r, _, rfl, .inl (sq_of (e1 _ _ hD.ir)), fun q hq => k q _ (fresh_back e1 hq) (e1.trans (Ex.new hq)) upd_same⟩
/-! a letter is met -/
def DS.prop (s : DS) (l : Int) : DS := ⟨s.hand, s.time + 1, s.known ++ [l], putM s.marked l (s.time + 1, s.hand), s.done, s.row⟩
def sp_propose (K : PySem.W.Frag) (C Tw : Addr) : Sp := fun vs H Q E => ∃ A p s l, vs = [.ref p.a, .int l] ∧ Ex A H ∧ DeskAt K C A H p s ∧ s.known.length < 90000 ∧ s.marked.length < 90000 ∧
  (l ∉ s.known → ∀ v A' H', PrM (fun x => x ∈ p.foot) A H A' H' → DeskAt K C A' H' p (s.prop l) → Dp K A' v (mkD (s.time + 1, s.hand)) → Q v H') ∧ (l ∈ s.known → ∀ H', Ex H H' → E (.ref Tw) none H')
theorem ok_propose (T : Tx K mg c) : MethOk P w K mg base (L2N.CX P w) 1 c.Desk "propose" ["self", "letter"] (sp_propose K c.Desk c.Twice) := by
  obtain ⟨f, fd, d⟩ := T.m_Desk_propose
  refine d.ok (okN d.F sc_Desk_propose (fun vs H Q E h => ?_) fun cdv A outer s H vs Q E hr h => ?_)
  · obtain ⟨_, _, _, _, e, _⟩ := h
    rw [e]
    rfl
  obtain ⟨A0, p, st, l, rfl, s0, hD, hl1, hl2, k, kx⟩ := h
  have nd := sc_Desk_propose.nd
  refine ⟨_, (pss_cons (ps_if (pt_cmp (pc_din (hu_of hr) (pv 1) (pe_fld (pv 0) rfl))) (pss_one (ps_rs rfl (L2N.takes_of rfl rfl rfl rfl) T.x_Twice rfl)) pss_nil)
      (pss_cons (ps_dput (hu_of hr) (pe_fld (pv 0) rfl) (pv 1) pe_bl rfl)
      (pss_cons (ps_fld (pv 0) (pe_op op_add (pe_fld (pv 0) rfl) pe_int) rfl)
      (pss_cons (ps_dput (hu_of hr) (pe_fld (pv 0) rfl) (pv 1) (pe_tup (pa_cons (pe_fld (pv 0) rfl) (pa_cons (pe_fld (pv 0) rfl) pa_nil))) rfl)
      (pss_one (ps_ret (pe_dget (hu_of hr) (pe_fld (pv 0) rfl) (pv 1) (fun _ _ => rfl)))))))), ?_⟩
  try dsimp only [cx_K2]
  obtain ⟨ne1, ne2, ne3, ne4, ne5, ne6, ne7, ne8, ne9, ne10⟩ := hD.ne
  have f1 : p.a ∈ p.foot := by simp [DP.foot]
  have f2 : p.k ∈ p.foot := by simp [DP.foot]
  have f3 : p.m ∈ p.foot := by simp [DP.foot]
  have hself : ∀ B fs, B p.a = some (.ins c.Desk p.dx fs) → ∀ (f : Str) (v : V), NoAttr K c.Desk f → fs.lookup f = some v → Ev (tFld K (tVar 0) f) (L2.start ["self", "letter"] [V.ref p.a, V.int l]) B v := fun B fs hB f v na hv => ev_fld (ev_var rfl) hB T.c_Desk na hv
  refine q_ifM K (b := decide (l ∈ st.known)) (eb_DB (ed_din (ed_var rfl (.int l)) (hself H _ hD.ia "known" _ T.na_Desk_known rfl) (.inl hD.ik))) (flags_val _ _) (fun hb B1 e1 => ?_) (fun hb B1 e1 => q_next ?_)
  · exact kx (of_decide_eq_true hb) B1 e1
  have hk := of_decide_eq_false hb
  have P1 : PrM (fun x => x ∈ p.foot) A0 H A0 B1 := (PrM.refl s0).up e1
  have D1 := hD.up s0 e1
  refine q_do (s_dput K P1.s (ep_ed ed_bl) (hself B1 _ D1.ia "known" _ T.na_Desk_known rfl) (ed_var rfl (.int l)) D1.ik (by rw [flags, List.length_map]; omega) fun v2 A2 B2 Q2 hv2 => go_nx ?_)
  cases hv2
  rw [flags_put hk]
  have P2 := (P1.pr Q2).put (l := p.k) (o := .dK (flags (st.known ++ [l]))) (.inl f2) ((D1.pr Q2).na _ f2)
  have D2 := D1.pr Q2
  generalize hH2 : upd B2 p.k (.dK (flags (st.known ++ [l]))) = H2 at P2 ⊢
  have i2 : H2 p.a = some (.ins c.Desk p.dx (deskFs p st)) := by rw [← hH2, upd_ne ne1]; exact D2.ia
  have k2 : H2 p.k = some (.dK (flags (st.known ++ [l]))) := by rw [← hH2]; exact upd_same
  obtain ⟨kvs, m2', hm2⟩ := D2.im
  have m2 : H2 p.m = some (.dK kvs) := by rw [← hH2, upd_ne (Ne.symm ne5)]; exact m2'
  have d2 : H2 p.d = some (.dK (flags st.done)) := by rw [← hH2, upd_ne (Ne.symm ne6)]; exact D2.id
  have r2 : H2 p.r = some (.lst (st.row.map V.int)) := by rw [← hH2, upd_ne (Ne.symm ne7)]; exact D2.ir
  refine q_do (s_fldV K (v := .int (st.time + 1)) (v_int (K := K) (ed_Ii (ed_ev (hself H2 _ i2 "time" _ T.na_Desk_time rfl) (.int _)) ed_int)) (ev_var rfl) i2 T.c_Desk T.na_Desk_time (by show 6 < 1000; decide) fun B3 e3 => go_nx ?_)
  have P3 := (P2.up e3).put (l := p.a) (o := .ins c.Desk p.dx (deskFs p { st with time := st.time + 1 })) (.inl f1) (D2.na _ f1)
  have hpf : putF "time" (V.int (st.time + 1)) (deskFs p st) = deskFs p { st with time := st.time + 1 } := rfl
  rw [hpf]
  generalize hH3 : upd B3 p.a (.ins c.Desk p.dx (deskFs p { st with time := st.time + 1 })) = H3 at P3 ⊢
  have i3 : H3 p.a = some (.ins c.Desk p.dx (deskFs p { st with time := st.time + 1 })) := by rw [← hH3]; exact upd_same
  have up3 : ∀ x u, x ≠ p.a → H2 x = some u → H3 x = some u := fun x u n e => by rw [← hH3, upd_ne n]; exact e3 _ _ e
  have k3 := up3 _ _ (Ne.symm ne1) k2
  have m3 := up3 _ _ (Ne.symm ne2) m2
  have d3 := up3 _ _ (Ne.symm ne3) d2
  have r3 := up3 _ _ (Ne.symm ne4) r2
  refine q_do (s_dput K P3.s (ep_tup (epa_cons (ep_i (ed_ev (hself H3 _ i3 "time" _ T.na_Desk_time rfl) (.int _))) (epa_cons (ep_i (ed_ev (hself H3 _ i3 "hand" _ T.na_Desk_hand rfl) (.int _))) epa_nil)) (by show 2 ≤ 100000; decide)) (hself H3 _ i3 "marked" _ T.na_Desk_marked rfl) (ed_var rfl (.int l)) m3 (by rw [hm2.len]; omega) fun v4 A4 B4 Q4 hv4 => go_nx ?_)
  have nm : A4 p.m = none := Q4.n _ (D2.na _ f3) (by rw [m3]; simp)
  have P4 := (P3.pr Q4).put (l := p.m) (o := .dK (putK kvs (.inl l) v4)) (.inl f3) nm
  have hm4 := (hm2.mono Q4.a).put (i := l) (m := (st.time + 1, st.hand)) hv4
  generalize hH4 : upd B4 p.m (.dK (putK kvs (.inl l) v4)) = H4 at P4 ⊢
  have m4 : H4 p.m = some (.dK (putK kvs (.inl l) v4)) := by rw [← hH4]; exact upd_same
  have up4 : ∀ x u, x ≠ p.m → H3 x = some u → H4 x = some u := fun x u n e => by rw [← hH4, upd_ne n]; exact Q4.b _ _ e
  have i4 := up4 _ _ ne2 i3
  have D4 : DeskAt K c.Desk A4 H4 p (st.prop l) := ⟨i4, up4 _ _ ne5 k3, ⟨_, m4, hm4⟩, up4 _ _ (Ne.symm ne8) d3, up4 _ _ (Ne.symm ne9) r3, hD.nd, fun x hx => Q4.n x (D2.na x hx) (P3.f x (by
    simp only [DP.foot, List.mem_cons, List.not_mem_nil, or_false] at hx
    obtain ⟨kv0, e0, _⟩ := hD.im
    rcases hx with rfl | rfl | rfl | rfl | rfl
    · rw [hD.ia]; simp
    · rw [hD.ik]; simp
    · rw [e0]; simp
    · rw [hD.id]; simp
    · rw [hD.ir]; simp))⟩
  have hlk : lkM (putM st.marked l (st.time + 1, st.hand)) l = some (st.time + 1, st.hand) := lk_put _ _ _
  obtain ⟨v5, hv5, hd5⟩ := hm4.lk hlk
  refine s_retV (ev_dget (K := K) (hself H4 _ i4 "marked" _ T.na_Desk_marked rfl) (.inl m4) (ed_var rfl (.int l)) hv5) fun B5 e5 => ?_
  exact k hk v5 A4 B5 (P4.up e5) (D4.up P4.s e5) hd5
end

end K2

namespace K2
open PySem L2 Evl Ob

local macro_rules | `(tactic| tm_at "sh") => `(tactic| first | exact sh_mk | exact sh_mks | exact sh_b3)

/-! ## those that wait, the least mark first -/
/-- the least of some letters by their marks, the first of like ones -/
def bestF (mk : Int → Mk) : Int → List Int → Int
  | b, [] => b
  | b, x :: r => bestF mk (if mless (mk x) (mk b) = true then x else b) r
def bestL (mk : Int → Mk) (l : List Int) : Int := bestF mk (l.headD 0) l
theorem bestF_mem (mk : Int → Mk) : ∀ (l : List Int) (b : Int), bestF mk b l = b ∨ bestF mk b l ∈ l
  | [], _ => .inl rfl
  | x :: r, b => by
    unfold bestF
    by_cases h : mless (mk x) (mk b) = true
    · rw [if_pos h]
      rcases bestF_mem mk r x with e | e
      · rw [e]; exact .inr (by simp)
      · exact .inr (List.mem_cons_of_mem _ e)
    · rw [if_neg h]
      rcases bestF_mem mk r b with e | e
      · exact .inl e
      · exact .inr (List.mem_cons_of_mem _ e)
theorem bestL_mem {mk : Int → Mk} {l : List Int} (h : l ≠ []) : bestL mk l ∈ l := by
  cases l with
  | nil => exact absurd rfl h
  | cons x r =>
    rcases bestF_mem mk (x :: r) x with e | e
    · unfold bestL
      show bestF mk x (x :: r) ∈ _
      rw [e]
      simp
    · exact e
theorem bestF_take (mk : Int → Mk) : ∀ (l : List Int) (b : Int) (i : Nat) (x : Int), l[i]? = some x → bestF mk b (l.take (i + 1)) = (if mless (mk x) (mk (bestF mk b (l.take i))) = true then x else bestF mk b (l.take i))
  | [], _, _, _, h => by simp at h
  | y :: r, b, 0, x, h => by
    simp at h
    subst h
    rfl
  | y :: r, b, i + 1, x, h => bestF_take mk r _ i x (by simpa using h)
/-- the letters by their marks; n: at most so many -/
def orderL (mk : Int → Mk) : Nat → List Int → List Int
  | 0, _ => []
  | n + 1, l => if l = [] then [] else bestL mk l :: orderL mk n (l.erase (bestL mk l))
theorem orderL_succ (mk : Int → Mk) (n : Nat) (l : List Int) : orderL mk (n + 1) l = if l = [] then [] else bestL mk l :: orderL mk n (l.erase (bestL mk l)) := rfl
def mkOf (s : DS) (i : Int) : Mk := (lkM s.marked i).getD (0, 0)
def DS.keys (s : DS) : List Int := s.marked.map (·.1)
def waitD (s : DS) (i : Int) : D := .tuple [mkD (mkOf s i), .int i, .bool (decide (i ∈ s.done))]
def DS.wait (s : DS) : List D := (orderL (mkOf s) s.marked.length s.keys).map (waitD s)
theorem lk_mem {i : Int} : ∀ {l : List (Int × Mk)}, i ∈ l.map (·.1) → ∃ m, lkM l i = some m
  | [], h => by simp at h
  | e :: r, h => by
    by_cases z : e.1 = i
    · exact ⟨e.2, by simp [lkM, List.find?_cons, z]⟩
    · have : i ∈ r.map (·.1) := by
        rw [List.map_cons, List.mem_cons] at h
        exact h.elim (fun q => absurd q.symm z) id
      obtain ⟨m, hm⟩ := lk_mem this
      exact ⟨m, by simpa [lkM, List.find?_cons, z] using hm⟩
theorem first_ix {α : Type} [DecidableEq α] : ∀ {l : List α} {x : α}, x ∈ l → ∃ j, l[j]? = some x ∧ (∀ m, m < j → l[m]? ≠ some x) ∧ l.eraseIdx j = l.erase x
  | [], _, h => by simp at h
  | y :: r, x, h => by
    by_cases e : y = x
    · subst e
      exact ⟨0, rfl, fun m hm => absurd hm (Nat.not_lt_zero m), by simp⟩
    · have hr : x ∈ r := (List.mem_cons.mp h).elim (fun q => absurd q.symm e) id
      obtain ⟨j, h1, h2, h3⟩ := first_ix hr
      refine ⟨j + 1, by simpa using h1, fun m hm => ?_, ?_⟩
      · cases m with
        | zero => simpa using e
        | succ m => simpa using h2 m (by omega)
      · rw [List.eraseIdx_cons_succ, h3, List.erase_cons_tail (by simpa using e)]
section
variable {P : Program} {w : World} {K : PySem.W.Frag} {mg : Str → Option Value} {base : Heap} {c : Cs}
def sp_wait (K : PySem.W.Frag) (C : Addr) : Sp := fun vs H Q _ => ∃ A p s, vs = [.ref p.a] ∧ Ex A H ∧ DeskAt K C A H p s ∧ s.marked.length < 90000 ∧
  ∀ q xs A' H', H q = none → Pr A H A' H' → A' q = none → H' q = some (.lst xs) → DpAll K A' xs s.wait → Q (.ref q) H'
theorem ok_wait (T : Tx K mg c) : MethOk P w K mg base (L2N.CX P w) 2 c.Desk "waiting" ["self"] (sp_wait K c.Desk) := by
  obtain ⟨f, fd, d⟩ := T.m_Desk_waiting
  refine d.ok (okN d.F sc_Desk_waiting (fun vs H Q E h => ?_) fun cdv A outer s H vs Q E hr h => ?_)
  · obtain ⟨_, _, _, e, _⟩ := h
    rw [e]
    rfl
  obtain ⟨A0, p, st, rfl, s0, hD, hl, k⟩ := h
  have nd := sc_Desk_waiting.nd
  have G_less := ok_less (P := P) (w := w) (base := base) T
  refine ⟨_, (pss_cons (ps_set (i := 1) nd rfl (Or.inl rfl) (pe_callTy (call_list_dK rfl) rfl T.mn_list (by decide +kernel) (pa_cons (pe_fld (pv 0) rfl) pa_nil)))
      (pss_cons (ps_set (i := 2) nd rfl (Or.inl rfl) (pe_lst pa_nil))
      (pss_cons (ps_while (passes_of rfl) (pt_cmpR (o_neD (K := K) rfl hr.units) (pv 1) (pe_lst pa_nil) (nomark _)) (pss_cons (ps_set (i := 3) nd rfl (Or.inl rfl) (pe_ix (ixL (K := K) rfl) (pv 1) pe_int (fun _ _ => rfl)))
        (pss_cons (ps_for (passes_of rfl) rfl (pi_list (pv 1)) (pg_name (i := 4) nd rfl (Or.inl rfl)) (pss_one (ps_if (pt_val (pe_cd G_less (hr.mono (by decide)) rfl pass0 (pa_cons (pe_dget (hu_of hr) (pe_fld (pv 0) rfl) (pv 4) (fun _ _ => rfl)) (pa_cons (pe_dget (hu_of hr) (pe_fld (pv 0) rfl) (pv 3) (fun _ _ => rfl)) pa_nil)))) (pss_one (ps_set (i := 3) nd rfl (Or.inl rfl) (pv 4))) pss_nil)))
        (pss_cons (ps_expr (pe_bm PySem.F.plainAttrs_list PySem.F.slot_list_remove PySem.F.type_list_remove mt_remove (pv 1) (pa_cons (pv 3) pa_nil)))
        (pss_one (ps_expr (pe_bm PySem.F.plainAttrs_list PySem.F.slot_list_append PySem.F.type_list_append mt_append (pv 2) (pa_cons (pe_tup (pa_cons (pe_dget (hu_of hr) (pe_fld (pv 0) rfl) (pv 3) (fun _ _ => rfl)) (pa_cons (pv 3) (pa_cons (pe_cmp (pc_din (hu_of hr) (pv 3) (pe_fld (pv 0) rfl))) pa_nil)))) pa_nil))))))))
      (pss_one (ps_ret (pv 2)))))), ?_⟩
  try dsimp only [cx_K2]
  have hself : ∀ B (σ : L2.St), Ex H B → σ[0]? = some (some (.ref p.a)) → ∀ (f : Str) (v : V), NoAttr K c.Desk f → (deskFs p st).lookup f = some v → Ev (tFld K (tVar 0) f) σ B v := fun B σ e hσ f v na hv => ev_fld (ev_var hσ) (e _ _ hD.ia) T.c_Desk na hv
  obtain ⟨kvs, hm, hmk⟩ := hD.im
  have hkeys : (kvs.map fun kv => kV kv.1) = st.keys.map V.int := hmk.keys
  -- the marks, read
  have mark : ∀ A1 B (σ : L2.St) (ti : TE) (i : Int), Ex A0 A1 → Ex H B → σ[0]? = some (some (.ref p.a)) → EvD K ti σ B (.int i) → i ∈ st.keys → ∃ v, Ev (tDGet (tFld K (tVar 0) "marked") ti) σ B v ∧ Dp K A1 v (mkD (mkOf st i)) := fun A1 B σ ti i ea e hσ hi hin => by
    obtain ⟨m, hm'⟩ := lk_mem hin
    obtain ⟨v, h1, h2⟩ := hmk.lk hm'
    refine ⟨v, ev_dget (K := K) (hself B σ e hσ "marked" _ T.na_Desk_marked rfl) (.inl (e _ _ hm)) hi h1, dp_ex ea ?_⟩
    unfold mkOf
    rw [hm']
    exact h2
  -- left
  have hf0 := hself H (L2.start ["self", "left", "found", "best", "letter"] [V.ref p.a]) (Ex.refl _) rfl "marked" _ T.na_Desk_marked rfl
  refine hf0 H (Ex.refl _) _ fun B1 e1 => ⟨p.m, kvs, rfl, e1 _ _ hm, fun q1 hq1 => ?_⟩
  rw [hkeys]
  have eq1 : Ex B1 (upd B1 q1 (.lst (st.keys.map V.int))) := Ex.new hq1
  refine q_asgL fun q2 hq2 => ?_
  have n12 : q2 ≠ q1 := fun z => by rw [z, upd_same] at hq2; cases hq2
  have hq1H : H q1 = none := fresh_back e1 hq1
  have hq2H : H q2 = none := fresh_back (e1.trans eq1) hq2
  have P2 : Pr A0 H A0 (upd (upd B1 q1 (.lst (st.keys.map V.int))) q2 (.lst [])) := Pr.up s0 ((e1.trans eq1).trans (Ex.new hq2))
  -- the loop: what is left, what was found
  let J : Nat → L2.St → Hp → Prop := fun n σ B => ∃ (rest gone : List Int) (xs : List V) (A' : Hp) (w3 w4 : Option V), σ = [some (.ref p.a), some (.ref q1), some (.ref q2), w3, w4] ∧ rest.length = n ∧ (∀ i ∈ rest, i ∈ st.keys) ∧ orderL (mkOf st) st.marked.length st.keys = gone ++ orderL (mkOf st) n rest ∧ gone.length + n = st.marked.length ∧
    PrM (fun _ => False) A0 H A' B ∧ A' q1 = none ∧ A' q2 = none ∧ B q1 = some (.lst (rest.map V.int)) ∧ B q2 = some (.lst xs) ∧ DpAll K A' xs (gone.map (waitD st))
  refine ⟨J, ⟨st.keys.length, st.keys, [], [], A0, none, none, rfl, rfl, fun i h => h, ?_, ?_, P2.m, fresh_back s0 hq1H, fresh_back s0 hq2H, ?_, upd_same, .nil⟩, ?_⟩
  · rw [List.nil_append]
    unfold DS.keys
    rw [List.length_map]
  · simp [DS.keys]
  · rw [upd_ne (Ne.symm n12)]; exact upd_same
  rintro n σ B ⟨rest, gone, xs, A', w3, w4, rfl, hn, hin, hord, hcnt, PB, nq1, nq2, b1, b2, hxs⟩
  have eB : Ex H B := fun x u z => PB.b x u (fun h => h) z
  have hempty : (!PyData.eqv (.list (rest.map PyData.int)) (.list [])) = !decide (rest = []) := by cases rest <;> rfl
  have dl : Dp K B (.ref q1) (.list (rest.map PyData.int)) := .lst (sq_of b1) dpa_ints
  have shl : SeqAt.shaped (.list (rest.map PyData.int)) = true := ShN.sh (n := 1) (shn_list fun d hd => by
    obtain ⟨i, _, rfl⟩ := List.mem_map.mp hd
    exact shn_int) (by decide)
  refine (eb_is (eb_D (ed_neD (ed_var rfl dl) (ed_n (en_lst ea_nilD (by decide))) shl rfl)) hempty : EvB K _ _ B (!decide (rest = []))) B (Ex.refl _) _ fun B3 e3 => ?_
  by_cases hr0 : rest = []
  · rw [hr0]
    refine iteF ?_
    refine s_retV (ev_var rfl) fun B4 e4 => ?_
    have hn0 : n = 0 := by rw [← hn, hr0]; rfl
    have hdone : st.wait = gone.map (waitD st) := by
      unfold DS.wait
      rw [hord, hn0]
      simp [orderL]
    refine k q2 xs A' B4 hq2H ⟨PB.a, eB.trans (e3.trans e4), (PB.s.trans e3).trans e4, PB.n⟩ nq2 ((e3.trans e4) _ _ b2) ?_
    rw [hdone]
    exact hxs
  · rw [decide_eq_false hr0]
    refine iteT ?_
    have hpos : 0 < rest.length := by
      cases rest with
      | nil => exact absurd rfl hr0
      | cons => simp
    obtain ⟨n', rfl⟩ : ∃ n', n = n' + 1 := ⟨n - 1, by omega⟩
    refine ⟨J n', fun σ' B' h => ⟨n', Nat.lt_succ_self _, h⟩, ?_⟩
    -- best = left[0]
    have h0 : atI (rest.map PyData.int) 0 = some (.int (rest.headD 0)) := by
      cases rest with
      | nil => exact absurd rfl hr0
      | cons y r =>
        unfold atI
        rw [show ixN (List.map PyData.int (y :: r)).length (0 : Int) = some 0 from ixN_nat (j := 0) (by simp)]
        rfl
    refine q_asgV (v_int (K := K) (ed_ixL (ed_var rfl (dp_ex e3 dl)) ed_int h0)) fun B4 e4 => ?_
    have e34 : Ex B B4 := e3.trans e4
    -- for letter in left
    refine q_do (s_forL K (ev_var rfl) (sq_of (e34 _ _ b1)) (fun i σ' => ∃ w5, σ' = [some (.ref p.a), some (.ref q1), some (.ref q2), some (.int (bestF (mkOf st) (rest.headD 0) (rest.take i))), w5]) ⟨w4, rfl⟩ ?_ ?_)
    · rintro i x σ' B5 hx e5 ⟨w5, rfl⟩
      rw [List.getElem?_map] at hx
      obtain ⟨y, hy, rfl⟩ := Option.map_eq_some_iff.mp hx
      have hyin : y ∈ st.keys := hin y (List.mem_of_getElem? hy)
      have hbin : bestF (mkOf st) (rest.headD 0) (rest.take i) ∈ st.keys := by
        rcases bestF_mem (mkOf st) (rest.take i) (rest.headD 0) with z | z
        · rw [z]
          cases rest with
          | nil => exact absurd rfl hr0
          | cons a r => exact hin a (by simp)
        · exact hin _ (List.mem_of_mem_take z)
      have eB5 : Ex H B5 := (eB.trans e34).trans e5
      obtain ⟨v1, m1, d1⟩ := mark B5 B5 ([some (.ref p.a), some (.ref q1), some (.ref q2), some (.int (bestF (mkOf st) (rest.headD 0) (rest.take i))), w5].set 4 (some (.int y))) (tVar 4) y (s0.trans eB5) eB5 rfl (ed_var rfl (.int _)) hyin
      obtain ⟨v2, m2, d2⟩ := mark B5 B5 ([some (.ref p.a), some (.ref q1), some (.ref q2), some (.int (bestF (mkOf st) (rest.headD 0) (rest.take i))), w5].set 4 (some (.int y))) (tVar 3) (bestF (mkOf st) (rest.headD 0) (rest.take i)) (s0.trans eB5) eB5 rfl (ed_var rfl (.int _)) hbin
      have step := bestF_take (mkOf st) rest (rest.headD 0) i y hy
      refine s_ifM K (b := mless (mkOf st y) (mkOf st (bestF (mkOf st) (rest.headD 0) (rest.take i)))) (eb_DB (ed_call (ea_consD (ed_v m1 d1) (ea_consD (ed_v m2 d2) ea_nilD)) (at_less _ _))) rfl (fun hb B6 e6 => ?_) (fun hb B6 e6 => ?_)
      · refine s_asgV (ev_var rfl) fun B7 e7 => ⟨e5.trans (e6.trans e7), some (.int y), ?_⟩
        rw [step, if_pos hb]
        rfl
      · refine ⟨e5.trans e6, some (.int y), ?_⟩
        rw [step, if_neg (by rw [hb]; decide)]
        rfl
    · rintro σ' B5 e5 ⟨w5, rfl⟩
      rw [List.length_map, List.take_length]
      have hbest : bestF (mkOf st) (rest.headD 0) rest = bestL (mkOf st) rest := rfl
      rw [hbest]
      have hbm := bestL_mem (mk := mkOf st) hr0
      obtain ⟨j, hj1, hj2, hj3⟩ := first_ix hbm
      have e35 : Ex B B5 := e34.trans e5
      -- left.remove(best)
      refine ⟨.ref q1, rfl, .inl ⟨rfl, _, sq_of (e35 _ _ b1)⟩, _, rfl, q1, rest, _, j, rfl, rfl, e35 _ _ b1, hj1, hj2, ?_⟩
      rw [hj3]
      have PM5 : PrM (fun _ => False) A0 H A' B5 := PB.up e35
      have PM6 := PM5.put (l := q1) (o := .lst ((rest.erase (bestL (mkOf st) rest)).map V.int)) (.inr hq1H) nq1
      generalize hH6 : upd B5 q1 (.lst ((rest.erase (bestL (mkOf st) rest)).map V.int)) = B6 at PM6 ⊢
      have b61 : B6 q1 = some (.lst ((rest.erase (bestL (mkOf st) rest)).map V.int)) := by rw [← hH6]; exact upd_same
      have b62 : B6 q2 = some (.lst xs) := by rw [← hH6, upd_ne n12]; exact e35 _ _ b2
      have eB6 : Ex H B6 := fun x u z => PM6.b x u (fun h => h) z
      have hbin : bestL (mkOf st) rest ∈ st.keys := hin _ hbm
      obtain ⟨v1, m1, d1⟩ := mark A' B6 [some (.ref p.a), some (.ref q1), some (.ref q2), some (.int (bestL (mkOf st) rest)), w5] (tVar 3) (bestL (mkOf st) rest) PM6.a eB6 rfl (ed_var rfl (.int _)) hbin
      have hdn : EvD K (tDIn (tVar 3) (tFld K (tVar 0) "done")) [some (.ref p.a), some (.ref q1), some (.ref q2), some (.int (bestL (mkOf st) rest)), w5] B6 (.bool (decide (bestL (mkOf st) rest ∈ st.done))) :=
        ed_is (ed_din (ed_var rfl (.int _)) (hself B6 _ eB6 rfl "done" _ T.na_Desk_done rfl) (.inl (eB6 _ _ hD.id))) (congrArg PyData.bool (flags_val _ _))
      have hxl : xs.length = gone.length := by rw [dpa_len hxs, List.length_map]
      refine s_app K (d := waitD st (bestL (mkOf st) rest)) PM6.s (ev_var rfl) (ep_tup (epa_cons (ep_v m1 d1) (epa_cons (ep_v (ev_var rfl) (.int _)) (epa_cons (ep_b hdn) epa_nil))) (by show 3 ≤ 100000; decide)) b62 (by omega) fun v7 A7 B7 Q7 hv7 => ?_
      have nq2' : A7 q2 = none := Q7.n _ nq2 (by rw [b62]; simp)
      have nq1' : A7 q1 = none := Q7.n _ nq1 (by rw [b61]; simp)
      refine ⟨rest.erase (bestL (mkOf st) rest), gone ++ [bestL (mkOf st) rest], xs ++ [v7], A7, _, _, rfl, ?_, fun i hi => hin i (List.mem_of_mem_erase hi), ?_, ?_, (PM6.pr Q7).put (.inr hq2H) nq2', nq1', nq2', ?_, upd_same, ?_⟩
      · rw [List.length_erase_of_mem hbm, hn]; rfl
      · rw [hord, List.append_assoc]
        congr 1
        show orderL (mkOf st) (n' + 1) rest = [bestL (mkOf st) rest] ++ orderL (mkOf st) n' (rest.erase (bestL (mkOf st) rest))
        rw [orderL_succ, if_neg hr0]
        rfl
      · rw [List.length_append, List.length_singleton]; omega
      · rw [upd_ne (Ne.symm n12)]; exact Q7.b _ _ b61
      · rw [List.map_append]
        exact dpa_app (dpa_ex Q7.a hxs) (.cons hv7 .nil)
end

end K2

namespace K2
open PySem L2 Evl Ob

local macro_rules | `(tactic| tm_at "sh") => `(tactic| first | exact sh_mk | exact sh_mks | exact sh_b3)

/-! ## one desk and what the law keeps beside it -/
/-- the marks of letters met one behind the other -/
def seqM (h : Int) : Nat → List Int → List (Int × Mk)
  | _, [] => []
  | n, l :: r => (l, ((n : Int) + 1, h)) :: seqM h (n + 1) r
def metD (h : Int) (ms : List Int) : DS := ⟨h, (ms.length : Int), ms, seqM h 0 ms, [], []⟩
theorem seqM_keys (h : Int) : ∀ (ms : List Int) (n : Nat), (seqM h n ms).map (·.1) = ms
  | [], _ => rfl
  | l :: r, n => by
    show l :: (seqM h (n + 1) r).map (·.1) = l :: r
    rw [seqM_keys h r (n + 1)]
theorem seqM_len (h : Int) (ms : List Int) (n : Nat) : (seqM h n ms).length = ms.length := by
  have := congrArg List.length (seqM_keys h ms n)
  rwa [List.length_map] at this
theorem seqM_app (h : Int) (l : Int) : ∀ (ms : List Int) (n : Nat), seqM h n (ms ++ [l]) = seqM h n ms ++ [(l, (((n + ms.length : Nat) : Int) + 1, h))]
  | [], n => by simp [seqM]
  | x :: r, n => by
    show (x, _) :: seqM h (n + 1) (r ++ [l]) = (x, _) :: (seqM h (n + 1) r ++ _)
    rw [seqM_app h l r (n + 1)]
    have e : n + 1 + r.length = n + (x :: r).length := by simp; omega
    rw [e]
theorem metD_prop {h l : Int} {ms : List Int} (hn : l ∉ ms) : (metD h ms).prop l = metD h (ms ++ [l]) := by
  have e : putM (seqM h 0 ms) l ((ms.length : Int) + 1, h) = seqM h 0 (ms ++ [l]) := by
    unfold putM
    rw [if_neg, seqM_app]
    · simp
    · intro z
      obtain ⟨e, he, hd⟩ := List.any_eq_true.mp z
      have : e.1 ∈ (seqM h 0 ms).map (·.1) := List.mem_map.mpr ⟨e, he, rfl⟩
      rw [seqM_keys, of_decide_eq_true hd] at this
      exact hn this
  show DS.mk h ((ms.length : Int) + 1) (ms ++ [l]) (putM (seqM h 0 ms) l ((ms.length : Int) + 1, h)) [] [] = DS.mk h (((ms ++ [l]).length : Nat) : Int) (ms ++ [l]) (seqM h 0 (ms ++ [l])) [] []
  rw [e, List.length_append]
  simp
theorem seqM_lk (h : Int) : ∀ (ms : List Int) (n i : Nat) (l : Int), ms.Nodup → ms[i]? = some l → lkM (seqM h n ms) l = some (((n + i : Nat) : Int) + 1, h)
  | [], _, _, _, _, e => by simp at e
  | x :: r, n, 0, l, _, e => by
    simp at e
    subst e
    simp [seqM, lkM]
  | x :: r, n, i + 1, l, nd, e => by
    have e' : r[i]? = some l := by simpa using e
    have hne : x ≠ l := fun z => (List.nodup_cons.mp nd).1 (z ▸ List.mem_of_getElem? e')
    have := seqM_lk h r (n + 1) i l (List.nodup_cons.mp nd).2 e'
    show lkM ((x, _) :: seqM h (n + 1) r) l = _
    have z : lkM ((x, ((n : Int) + 1, h)) :: seqM h (n + 1) r) l = lkM (seqM h (n + 1) r) l := by simp [lkM, List.find?_cons, hne]
    rw [z, this]
    have : n + 1 + i = n + (i + 1) := by omega
    rw [this]
/-- letters that stand by their marks already -/
theorem bestF_head {mk : Int → Mk} : ∀ (l : List Int) (b : Int), (∀ x ∈ l, mless (mk x) (mk b) = false) → bestF mk b l = b
  | [], _, _ => rfl
  | x :: r, b, h => by
    show bestF mk (if mless (mk x) (mk b) = true then x else b) r = b
    rw [if_neg (by rw [h x (by simp)]; decide)]
    exact bestF_head r b fun y hy => h y (List.mem_cons_of_mem _ hy)
theorem orderL_id {mk : Int → Mk} : ∀ (l : List Int) (n : Nat), l.length ≤ n → l.Pairwise (fun a b => mless (mk b) (mk a) = false) → (∀ x ∈ l, mless (mk x) (mk x) = false) → orderL mk n l = l
  | [], n, _, _, _ => by cases n <;> simp [orderL]
  | x :: r, 0, h, _, _ => by simp at h
  | x :: r, n + 1, h, p, q => by
    have p2 := List.pairwise_cons.mp p
    have hb : bestL mk (x :: r) = x := by
      refine bestF_head (x :: r) x fun y hy => ?_
      rcases List.mem_cons.mp hy with rfl | hy
      · exact q y (by simp)
      · exact p2.1 y hy
    rw [orderL_succ, if_neg (by simp), hb, List.erase_cons_head, orderL_id r n (by simpa using h) p2.2 fun y hy => q y (List.mem_cons_of_mem _ hy)]
def metW (h : Int) (i : Nat) (l : Int) : D := .tuple [.tuple [.int ((i : Int) + 1), .int h], .int l, .bool false]
theorem metD_wait {h : Int} {ms : List Int} (nd : ms.Nodup) : (metD h ms).wait = ms.mapIdx (metW h) := by
  have hmk : ∀ (i : Nat) (l : Int), ms[i]? = some l → mkOf (metD h ms) l = ((i : Int) + 1, h) := fun i l e => by
    unfold mkOf
    show (lkM (seqM h 0 ms) l).getD (0, 0) = _
    rw [seqM_lk h ms 0 i l nd e]
    simp
  have hk : (metD h ms).keys = ms := seqM_keys h ms 0
  have hord : orderL (mkOf (metD h ms)) (metD h ms).marked.length (metD h ms).keys = ms := by
    rw [hk]
    have hl : (metD h ms).marked.length = ms.length := seqM_len h ms 0
    rw [hl]
    refine orderL_id ms ms.length (Nat.le_refl _) ?_ fun x hx => ?_
    · rw [List.pairwise_iff_getElem]
      intro i j hi hj hij
      rw [hmk i ms[i] (by simp [hi]), hmk j ms[j] (by simp [hj])]
      unfold mless
      have a : decide ((j : Int) + 1 < (i : Int) + 1) = false := decide_eq_false (by omega)
      have b : (((j : Int) + 1 == (i : Int) + 1) : Bool) = false := beq_false_of_ne (by omega)
      simp only [a, b, Bool.false_and, Bool.or_false]
    · unfold mless
      simp
  unfold DS.wait
  rw [hord]
  refine List.ext_getElem? fun i => ?_
  rw [List.getElem?_map, List.getElem?_mapIdx]
  cases e : ms[i]? with
  | none => rfl
  | some l =>
    show some (waitD (metD h ms) l) = some (metW h i l)
    unfold waitD metW
    rw [hmk i l e]
    rfl
section
variable {P : Program} {w : World} {K : PySem.W.Frag} {mg : Str → Option Value} {base : Heap} {c : Cs}
def sp_told (K : PySem.W.Frag) (C : Addr) : Sp := fun vs H Q _ => ∃ A p s l, vs = [.ref p.a, .int l] ∧ Ex A H ∧ DeskAt K C A H p s ∧ s.known.length < 90000 ∧ s.marked.length < 90000 ∧
  (l ∉ s.known → ∀ v A' H', PrM (fun x => x ∈ p.foot) A H A' H' → DeskAt K C A' H' p (s.prop l) → Dp K A' v (mkD (s.time + 1, s.hand)) → Q v H') ∧
  (l ∈ s.known → ∀ v A' H', Pr A H A' H' → Dp K A' v (.list [.bool true, .bool true]) → Q v H')
theorem ok_told (T : Tx K mg c) : DefOk P w K mg base CX0 3 "_law_told" ["_law_desk", "_law_letter"] (sp_told K c.Desk) := by
  obtain ⟨f, fd, d⟩ := T.d_law_told
  refine d.ok (d.F.ok sc_law_told (fun vs H Q E h => ?_) fun cdv A outer s H vs Q E hr h => ?_)
  · obtain ⟨_, _, _, _, e, _⟩ := h
    rw [e]
    rfl
  obtain ⟨A0, p, st, l, rfl, s0, hD, hl1, hl2, k1, k2⟩ := h
  have nd := sc_law_told.nd
  have MT_Desk_propose := ok_propose (P := P) (w := w) (base := base) T
  have G_law_only := ok_only (P := P) (w := w) (base := base) T
  refine ⟨_, (pss_one (L2N.ps_try_as (i := 2) rfl rfl nd rfl rfl ⟨rfl, by decide, Or.inl T.x_BellError.g⟩ takes0 (fun W pn xe tk po => (pss_one (ps_ret (pe_mdX (pv 0) T.c_Desk MT_Desk_propose (hr.mono (by decide)) (fun σ => L2N.passAt tk σ) (pa_cons (pv 1) pa_nil))))) (fun a oe cls d pn hz hf => (pss_one (ps_ret (pe_lst (pa_cons (pe_callZ (E := fun _ => E0) G_law_only (hr.mono (by decide)) hz hf rfl passA0 (pa_cons (pv 2) (pa_cons pe_str pa_nil))) (pa_cons pe_bl pa_nil)))))))), ?_⟩
  try dsimp only [cx_K]
  refine m_callX (K := K) s0 (ev_var rfl) hD.ia rfl (epa_cons (ep_v (ev_var rfl) (.int l)) epa_nil) fun vs A1 B1 P1 hv => ?_
  obtain ⟨v1, rfl, hv1⟩ := dpa1 hv
  cases hv1
  refine ⟨A1, p, st, l, rfl, P1.s, hD.pr P1, hl1, hl2, fun hk v A' H' PP DD hd => k1 hk v A' H' (P1.m.trans PP) DD hd, fun hk H' e => ?_⟩
  refine ⟨true, T.i_Twice.e, fun _ a na => ?_, fun z => by cases z⟩
  exact s_retK K (P1.s.trans e) (d' := .list [.bool true, .bool true]) (ed_n (en_lst (ea_consD (ed_only T.i_Twice rfl ed_str) (ea_consD ed_bl ea_nilD)) (by decide))) (by rw [show onlyB 4 "Twice" = true from by decide]) fun v A' B'' P3 hv => k2 hk v A' B'' ((P1.trans (Pr.up P1.s e)).trans P3) hv
end

section
variable {P : Program} {w : World} {K : PySem.W.Frag} {mg : Str → Option Value} {base : Heap} {c : Cs}
/-- a whole number, no truth -/
def isW : D → Bool
  | .int _ => true
  | _ => false
def sp_whole (K : PySem.W.Frag) : Sp := spF K (fun d : D => [d]) (fun _ => True) (fun d => .bool (isW d))
theorem at_whole (d : D) : SpD K (sp_whole K) [d] (.bool (isW d)) := spF_at d trivial
theorem ok_whole (T : Tx K mg c) : DefOk P w K mg base CX0 1 "_law_whole" ["_law_found"] (sp_whole K) := by
  obtain ⟨f, fd, d⟩ := T.d_law_whole
  refine d.ok (d.F.ok sc_law_whole (fun vs H Q E h => spF_len h fun _ => rfl) fun cdv A outer s H vs Q E hr h => ?_)
  obtain ⟨A0, x, _, s0, ha, k⟩ := h
  obtain ⟨v1, rfl, h1⟩ := dpa1 ha
  have nd := sc_law_whole.nd
  refine ⟨_, (pss_one (ps_ret (pe_and (pe_callB (c_isi (K := K) rfl) rfl T.mn_isinstance (by decide +kernel) (pa_cons (pv 0) (pa_cons (pe_ty (T := "int") rfl T.mn_int (by decide +kernel)) pa_nil))) (pe_one (pe_not (pe_callB (c_isi (K := K) rfl) rfl T.mn_isinstance (by decide +kernel) (pa_cons (pv 0) (pa_cons (pe_ty (T := "bool") rfl T.mn_bool (by decide +kernel)) pa_nil)))))))), ?_⟩
  try dsimp only [cx_K]
  cases x with
  | dict kvs => cases h1
  | none => exact s_retK K s0 (by tm_at "ed") (by rfl) k
  | bool b => exact s_retK K s0 (by tm_at "ed") (by rfl) k
  | int b => exact s_retK K s0 (by tm_at "ed") (by rfl) k
  | str b => exact s_retK K s0 (by tm_at "ed") (by rfl) k
  | list b => exact s_retK K s0 (by tm_at "ed") (by rfl) k
  | tuple b => exact s_retK K s0 (by tm_at "ed") (by rfl) k
end
local macro_rules | `(tactic| tm_at "fn") => `(tactic| exact at_whole _)

section
variable {P : Program} {w : World} {K : PySem.W.Frag} {mg : Str → Option Value} {base : Heap} {c : Cs}
theorem at_map {α : Type} (f : α → D) {xs : List α} {i : Nat} {x : α} (h : xs[i]? = some x) : atI (xs.map f) (i : Int) = some (f x) := by
  have hl := (List.getElem?_eq_some_iff.mp h).1
  unfold atI
  rw [show ixN (xs.map f).length (i : Int) = some i from ixN_nat (by rw [List.length_map]; exact hl)]
  show (xs.map f)[i]? = _
  rw [List.getElem?_map, h]
  rfl
/-- a cell of the script, nought behind its end -/
def cell (ns : List Int) (k : Int) : Int := ns.getD k.toNat 0
def sp_cell (K : PySem.W.Frag) : Sp := spF K (fun x : List Int × Int => [.list (x.1.map .int), .int x.2]) (fun x => 0 ≤ x.2) (fun x => .int (cell x.1 x.2))
theorem at_cell {ns : List Int} {k : Int} (h : 0 ≤ k) : SpD K (sp_cell K) [.list (ns.map .int), .int k] (.int (cell ns k)) := spF_at (ns, k) h
theorem cell_at {ns : List Int} {k : Int} (h : 0 ≤ k) (hk : k < ns.length) : atI (ns.map PyData.int) k = some (.int (cell ns k)) := by
  obtain ⟨j, rfl⟩ : ∃ j : Nat, k = (j : Int) := ⟨k.toNat, by omega⟩
  have hj : j < ns.length := by omega
  refine at_map _ ?_
  unfold cell
  rw [show ((j : Int)).toNat = j by omega, List.getElem?_eq_getElem hj, List.getD_eq_getElem?_getD, List.getElem?_eq_getElem hj]
  rfl
theorem ok_cell (T : Tx K mg c) : DefOk P w K mg base CX0 1 "_law_cell_at" ["_law_script", "_law_k"] (sp_cell K) := by
  obtain ⟨f, fd, d⟩ := T.d_law_cell_at
  refine d.ok (d.F.ok sc_law_cell_at (fun vs H Q E h => spF_len h fun _ => rfl) fun cdv A outer s H vs Q E hr h => ?_)
  obtain ⟨A0, ⟨ns, x⟩, hx, s0, ha, k⟩ := h
  obtain ⟨v1, v2, rfl, h1, h2⟩ := dpa2 ha
  have nd := sc_law_cell_at.nd
  refine ⟨_, (pss_cons (ps_if (pt_cmpR op_lt (pv 1) (pe_callB (c_len (K := K) rfl) rfl T.mn_len (by decide +kernel) (pa_cons (pv 0) pa_nil)) (nomark _)) (pss_one (ps_ret (pe_ix (ixL (K := K) rfl) (pv 0) (pv 1) (fun _ _ => rfl)))) pss_nil)
      (pss_one (ps_ret pe_int))), ?_⟩
  try dsimp only [cx_K]
  have hx : 0 ≤ x := hx
  refine q_ifD K s0 (b := decide (x < ((ns.map PyData.int).length : Int))) (by tm_at "et") (fun hb B4 P4 => ?_) (fun hb B4 P4 => ?_)
  · have hb := of_decide_eq_true hb
    rw [List.length_map] at hb
    have := cell_at hx hb
    exact s_retK K P4.s (d := .int (cell ns x)) (by tm_at "ed") (by rfl) fun v A' B' P5 hv => k v A' B' (by tm_at "pr") hv
  · have hb := of_decide_eq_false hb
    rw [List.length_map] at hb
    refine q_next ?_
    refine s_retK K P4.s (by tm_at "ed") (d' := .int (cell ns x)) ?_ fun v A' B' P5 hv => k v A' B' (by tm_at "pr") hv
    unfold cell
    rw [List.getD_eq_getElem?_getD, List.getElem?_eq_none (by omega)]
    rfl
end
local macro_rules | `(tactic| tm_at "fn") => `(tactic| exact at_cell (by decide))

section
variable {P : Program} {w : World} {K : PySem.W.Frag} {mg : Str → Option Value} {base : Heap} {c : Cs}
def isMk : D → Bool
  | .tuple [a, b] => isW a && isW b
  | _ => false
def sp_mark (K : PySem.W.Frag) : Sp := spF K (fun d : D => [d]) (fun _ => True) (fun d => .bool (isMk d))
theorem at_mark (d : D) : SpD K (sp_mark K) [d] (.bool (isMk d)) := spF_at d trivial
theorem ok_mark (T : Tx K mg c) : DefOk P w K mg base CX0 2 "_law_mark" ["_law_found"] (sp_mark K) := by
  obtain ⟨f, fd, d⟩ := T.d_law_mark
  refine d.ok (d.F.ok sc_law_mark (fun vs H Q E h => spF_len h fun _ => rfl) fun cdv A outer s H vs Q E hr h => ?_)
  obtain ⟨A0, x, _, s0, ha, k⟩ := h
  obtain ⟨v1, rfl, h1⟩ := dpa1 ha
  have nd := sc_law_mark.nd
  have G_law_whole := ok_whole (P := P) (w := w) (base := base) T
  refine ⟨_, (pss_cons (ps_if (PW.pt (pw_or (pt_not (pt_val (pe_callB (c_isi (K := K) rfl) rfl T.mn_isinstance (by decide +kernel) (pa_cons (pv 0) (pa_cons (pe_ty (T := "tuple") rfl T.mn_tuple (by decide +kernel)) pa_nil))))) (pw_or1 (pt_cmpR op_ne (pe_callB (c_len (K := K) rfl) rfl T.mn_len (by decide +kernel) (pa_cons (pv 0) pa_nil)) pe_int (nomark _))))) (pss_one (ps_ret pe_bl)) pss_nil)
      (pss_one (ps_ret (pe_and (pe_cd G_law_whole (hr.mono (by decide)) rfl pass0 (pa_cons (pe_ix (ixT (K := K) rfl) (pv 0) pe_int (fun _ _ => rfl)) pa_nil)) (pe_one (pe_cd G_law_whole (hr.mono (by decide)) rfl pass0 (pa_cons (pe_ix (ixT (K := K) rfl) (pv 0) pe_int (fun _ _ => rfl)) pa_nil))))))), ?_⟩
  try dsimp only [cx_K]
  cases x with
  | dict kvs => cases h1
  | none => exact q_ifE K s0 (b := true) (by tm_at "et") (by rfl) (fun _ B P => s_retK K P.s (by tm_at "ed") (by rfl) fun v A' B' P5 hv => k v A' B' (by tm_at "pr") hv) (fun h => by cases h)
  | bool b => exact q_ifE K s0 (b := true) (by tm_at "et") (by rfl) (fun _ B P => s_retK K P.s (by tm_at "ed") (by rfl) fun v A' B' P5 hv => k v A' B' (by tm_at "pr") hv) (fun h => by cases h)
  | int b => exact q_ifE K s0 (b := true) (by tm_at "et") (by rfl) (fun _ B P => s_retK K P.s (by tm_at "ed") (by rfl) fun v A' B' P5 hv => k v A' B' (by tm_at "pr") hv) (fun h => by cases h)
  | str b => exact q_ifE K s0 (b := true) (by tm_at "et") (by rfl) (fun _ B P => s_retK K P.s (by tm_at "ed") (by rfl) fun v A' B' P5 hv => k v A' B' (by tm_at "pr") hv) (fun h => by cases h)
  | list b => exact q_ifE K s0 (b := true) (by tm_at "et") (by rfl) (fun _ B P => s_retK K P.s (by tm_at "ed") (by rfl) fun v A' B' P5 hv => k v A' B' (by tm_at "pr") hv) (fun h => by cases h)
  | tuple ds =>
    by_cases hl : ∃ a b, ds = [a, b]
    · obtain ⟨a, b, rfl⟩ := hl
      refine q_ifE K s0 (b := false) (by tm_at "et") (by rfl) (fun h => by cases h) (fun _ B P => q_next ?_)
      exact s_retK K P.s (by tm_at "ed") (by rfl) fun v A' B' P5 hv => k v A' B' (by tm_at "pr") hv
    · have hz : ((ds.length : Int) == 2) = false := by
        match ds, hl with
        | [], _ => rfl
        | [_], _ => rfl
        | [a, b], h => exact absurd ⟨a, b, rfl⟩ h
        | _ :: _ :: _ :: r, _ => exact beq_false_of_ne (by simp only [List.length_cons]; omega)
      have e : isMk (.tuple ds) = false := by
        match ds, hl with
        | [], _ => rfl
        | [_], _ => rfl
        | [a, b], h => exact absurd ⟨a, b, rfl⟩ h
        | _ :: _ :: _ :: r, _ => rfl
      refine q_ifD K s0 (b := (!true || !((ds.length : Int) == 2))) (by tm_at "et") (fun _ B P => ?_) (fun h => by rw [hz] at h; cases h)
      exact s_retK K P.s (d' := .bool (isMk (.tuple ds))) (by tm_at "ed") (by rw [e]) fun v A' B' P5 hv => k v A' B' (by tm_at "pr") hv
end
local macro_rules | `(tactic| tm_at "fn") => `(tactic| exact at_mark _)

end K2

namespace K2
open PySem L2 Evl Ob

local macro_rules | `(tactic| tm_at "sh") => `(tactic| first | exact sh_mk | exact sh_mks | exact sh_b3)

/-! ## the law's own desks -/
structure OneAt (K : PySem.W.Frag) (C : Addr) (A B : Hp) (p : DP) (lm kd kq : Addr) (h : Int) (ms : List Int) : Prop where
  D : DeskAt K C A B p (metD h ms)
  ol : B lm = some (.lst (ms.map V.int))
  od : B kd = some (.dK [(.inr "told", .ref kq)])
  oq : B kq = some (.lst [])
  nd : (p.foot ++ [lm, kd, kq]).Nodup
  na : ∀ x ∈ [lm, kd, kq], A x = none
  om : ms.Nodup
section
variable {K : PySem.W.Frag} {C : Addr} {A B A' B' : Hp} {p : DP} {lm kd kq : Addr} {h : Int} {ms : List Int} {F : Addr → Prop}
theorem OneAt.mono (O : OneAt K C A B p lm kd kq h ms) (P : PrM F A B A' B') (hF : ∀ x ∈ p.foot ++ [lm, kd, kq], ¬ F x) : OneAt K C A' B' p lm kd kq h ms := by
  have g1 : ¬ F lm := hF lm (by simp)
  have g2 : ¬ F kd := hF kd (by simp)
  have g3 : ¬ F kq := hF kq (by simp)
  refine ⟨O.D.mono P fun x hx => hF x (List.mem_append_left _ hx), P.b _ _ g1 O.ol, P.b _ _ g2 O.od, P.b _ _ g3 O.oq, O.nd, fun x hx => P.n x (O.na x hx) ?_, O.om⟩
  simp only [List.mem_cons, List.not_mem_nil, or_false] at hx
  rcases hx with rfl | rfl | rfl
  · rw [O.ol]; simp
  · rw [O.od]; simp
  · rw [O.oq]; simp
theorem OneAt.pr (O : OneAt K C A B p lm kd kq h ms) (P : Pr A B A' B') : OneAt K C A' B' p lm kd kq h ms := O.mono (F := fun _ => False) P.m fun _ _ z => z
theorem OneAt.up (O : OneAt K C A B p lm kd kq h ms) (e : Ex A B) (k : Ex B B') : OneAt K C A B' p lm kd kq h ms := O.pr (Pr.up e k)
theorem OneAt.out (O : OneAt K C A B p lm kd kq h ms) : (∀ x ∈ p.foot, x ≠ lm ∧ x ≠ kd ∧ x ≠ kq) ∧ lm ≠ kd ∧ lm ≠ kq ∧ kd ≠ kq := by
  have := List.nodup_append.mp O.nd
  obtain ⟨_, h2, h3⟩ := this
  refine ⟨fun x hx => ⟨fun z => h3 x hx lm (by simp) z, fun z => h3 x hx kd (by simp) z, fun z => h3 x hx kq (by simp) z⟩, ?_⟩
  simp only [List.nodup_cons, List.mem_cons, List.not_mem_nil, or_false, not_or, not_false_eq_true, List.nodup_nil, and_true] at h2
  exact ⟨h2.1.1, h2.1.2, h2.2⟩
end
theorem any_int (l : Int) : ∀ ms : List Int, ((ms.map PyData.int).any fun y => PyData.eqv y (.int l)) = decide (l ∈ ms)
  | [] => rfl
  | x :: r => by
    rw [List.map_cons, List.any_cons, any_int l r]
    show ((x == l) || decide (l ∈ r)) = _
    by_cases e : x = l
    · subst e; simp
    · rw [beq_false_of_ne e]
      simp [Ne.symm e]
theorem flat_ints (ms : List Int) : (ms.map PyData.int).all flatD = true := by
  rw [List.all_map, List.all_eq_true]
  intro x _
  rfl
theorem c_callV {sp : Sp} {E : XK} {tr : TA} {σ : L2.St} {H : Hp} {vs : List V} {Q : VK} (h : EvA tr σ H vs) (k : ∀ B', Ex H B' → sp vs B' Q E) : tCall sp [] E tr σ H Q := h H (Ex.refl _) _ fun B1 e1 => by
  rw [List.append_nil]
  exact k B1 e1
def metMs (ms : List Int) (l : Int) : List Int := if l ∈ ms then ms else ms ++ [l]
section
variable {P : Program} {w : World} {K : PySem.W.Frag} {mg : Str → Option Value} {base : Heap} {c : Cs}
def sp_met (K : PySem.W.Frag) (C : Addr) : Sp := fun vs H Q _ => ∃ A p lm kd kq h ms l, vs = [.ref p.a, .int h, .ref lm, .int l] ∧ Ex A H ∧ OneAt K C A H p lm kd kq h ms ∧ ms.length < 9000 ∧
  ∀ A' H', PrM (fun x => x ∈ p.foot ++ [lm, kd, kq]) A H A' H' → OneAt K C A' H' p lm kd kq h (metMs ms l) → Q (.bl true) H'
theorem ok_met (T : Tx K mg c) : DefOk P w K mg base CX0 4 "_law_met" ["_law_desk", "_law_hand", "_law_met_here", "_law_letter"] (sp_met K c.Desk) := by
  obtain ⟨f, fd, d⟩ := T.d_law_met
  refine d.ok (d.F.ok sc_law_met (fun vs H Q E h => ?_) fun cdv A outer s H vs Q E hr h => ?_)
  · obtain ⟨_, _, _, _, _, _, _, _, e, _⟩ := h
    rw [e]
    rfl
  obtain ⟨A0, p, lm, kd, kq, h, ms, l, rfl, s0, O, hl, k⟩ := h
  have nd := sc_law_met.nd
  have G_law_told := ok_told (P := P) (w := w) (base := base) T
  have G_law_mark := ok_mark (P := P) (w := w) (base := base) T
  refine ⟨_, (pss_cons (ps_set (i := 4) nd rfl (Or.inl rfl) (pe_cd G_law_told (hr.mono (by decide)) rfl pass0 (pa_cons (pv 0) (pa_cons (pv 3) pa_nil))))
      (pss_cons (ps_if (pt_cmpR (o_in (K := K) rfl) (pv 3) (pv 2) (by rfl)) (pss_one (ps_ret (pe_cmpR (o_eqD (K := K) rfl hr.units) (pv 4) (pe_lst (pa_cons pe_bl (pa_cons pe_bl pa_nil))) (nomark _)))) pss_nil)
      (pss_cons (ps_expr (pe_bm PySem.F.plainAttrs_list PySem.F.slot_list_append PySem.F.type_list_append mt_append (pv 2) (pa_cons (pv 3) pa_nil)))
      (pss_one (ps_ret (pe_and (pe_cd G_law_mark (hr.mono (by decide)) rfl pass0 (pa_cons (pv 4) pa_nil)) (pe_one (pe_cmpR (o_eqD (K := K) rfl hr.units) (pv 4) (pe_tup (pa_cons (pe_callB (c_len (K := K) rfl) rfl T.mn_len (by decide +kernel) (pa_cons (pv 2) pa_nil)) (pa_cons (pv 1) pa_nil))) (nomark _))))))))), ?_⟩
  try dsimp only [cx_K]
  obtain ⟨hout, n1, n2, n3⟩ := O.out
  have hml : (metD h ms).marked.length = ms.length := seqM_len h ms 0
  refine q_do (c_callV (ea_cons (ev_var rfl) (ea_cons (ev_var rfl) ea_nil)) fun B1 e1 => ?_)
  have O1 := O.up s0 e1
  refine ⟨A0, p, metD h ms, l, rfl, s0.trans e1, O1.D, by show ms.length < 90000; omega, by rw [hml]; omega, fun hk v A2 B2 P2 D2 hv => go_nx ?_, fun hk v A2 B2 P2 hv => go_nx ?_⟩
  · -- a new one
    have hk : l ∉ ms := hk
    have PP : PrM (fun x => x ∈ p.foot ++ [lm, kd, kq]) A0 H A2 B2 := ((PrM.refl s0).up e1).trans (P2.mono fun x hx => List.mem_append_left _ hx)
    have hlm : B2 lm = some (.lst (ms.map V.int)) := P2.b _ _ (fun z => (hout lm z).1 rfl) O1.ol
    have nlm : A2 lm = none := P2.n _ (O.na lm (by simp)) (by rw [O1.ol]; simp)
    have dlm : Dp K B2 (.ref lm) (.list (ms.map PyData.int)) := .lst (sq_of hlm) dpa_ints
    rw [metD_prop hk] at D2
    refine q_ifM K (b := false) (eb_D (ed_inL (ed_var rfl (.int l)) (ed_var rfl dlm) rfl (flat_ints ms))) (by rw [any_int]; exact decide_eq_false hk) (fun z => by cases z) (fun _ B3 e3 => q_next ?_)
    refine q_do (s_app K (d := .int l) (P2.s.trans e3) (ev_var rfl) (ep_v (ev_var rfl) (.int l)) (e3 _ _ hlm) (by rw [List.length_map]; omega) fun v4 A4 B4 P4 hv4 => go_nx ?_)
    cases hv4
    have nlm4 : A4 lm = none := P4.n _ nlm (by rw [e3 _ _ hlm]; simp)
    have PP4 := ((PP.up e3).pr P4).put (l := lm) (o := .lst (ms.map V.int ++ [.int l])) (.inl (by simp)) nlm4
    have hmm : ms.map V.int ++ [V.int l] = (ms ++ [l]).map V.int := by rw [List.map_append]; rfl
    rw [hmm] at PP4 ⊢
    have PQ : PrM (fun x => x = lm) A2 B2 A4 (upd B4 lm (.lst ((ms ++ [l]).map V.int))) := ((((PrM.refl P2.s).up e3).pr P4)).put (.inl rfl) nlm4
    have O4 : OneAt K c.Desk A4 (upd B4 lm (.lst ((ms ++ [l]).map V.int))) p lm kd kq h (ms ++ [l]) :=
      ⟨D2.mono PQ fun x hx z => (hout x hx).1 z, upd_same, PQ.b _ _ (Ne.symm n1) (P2.b _ _ (fun z => (hout kd z).2.1 rfl) O1.od), PQ.b _ _ (Ne.symm n2) (P2.b _ _ (fun z => (hout kq z).2.2 rfl) O1.oq), O.nd,
        fun x hx => PP4.n x (O.na x hx) (by
          simp only [List.mem_cons, List.not_mem_nil, or_false] at hx
          rcases hx with rfl | rfl | rfl
          · rw [O.ol]; simp
          · rw [O.od]; simp
          · rw [O.oq]; simp), List.nodup_append.mpr ⟨O.om, by simp, fun a ha b hb z => hk (by rw [List.mem_singleton.mp hb] at z; exact z ▸ ha)⟩⟩
    have hf : Dp K (upd B4 lm (.lst ((ms ++ [l]).map V.int))) v (.tuple [.int ((ms.length : Int) + 1), .int h]) := dp_ex PP4.s (dp_ex P4.a hv)
    have dl2 : Dp K (upd B4 lm (.lst ((ms ++ [l]).map V.int))) (.ref lm) (.list ((ms ++ [l]).map PyData.int)) := .lst (sq_of upd_same) dpa_ints
    refine s_retV (v_bl (K := K) (i := true) (ed_is (ed_and (a := true) (b := true) (ed_is (ed_call (ea_consD (ed_var rfl hf) ea_nilD) (at_mark _)) rfl) fun _ => ed_is (ed_eqD (ed_var rfl hf) (ed_tup (ea_consD (ed_len (ed_var rfl dl2)) (ea_consD (ed_var rfl (.int h)) ea_nilD)) (by show 2 ≤ 100000; decide)) (sh_mk (m := ((ms.length : Int) + 1, h))) (sh_mk (m := ((((ms ++ [l]).map PyData.int).length : Int), h)))) ?_) rfl)) fun B5 e5 => ?_
    · rw [List.length_map, List.length_append]
      show PyData.bool ((((ms.length : Int) + 1 == ((ms.length + [l].length : Nat) : Int)) && ((h == h) && true))) = PyData.bool true
      simp
    · refine k A4 B5 (PP4.up e5) ?_
      rw [show metMs ms l = ms ++ [l] from if_neg hk]
      exact O4.up PP4.s e5
  · -- met before
    have hk : l ∈ ms := hk
    have hlm : B2 lm = some (.lst (ms.map V.int)) := P2.b _ _ O1.ol
    have dlm : Dp K B2 (.ref lm) (.list (ms.map PyData.int)) := .lst (sq_of hlm) dpa_ints
    refine q_ifM K (b := true) (eb_D (ed_inL (ed_var rfl (.int l)) (ed_var rfl dlm) rfl (flat_ints ms))) (by rw [any_int]; exact decide_eq_true hk) (fun _ B3 e3 => ?_) (fun z => by cases z)
    have hf : Dp K B3 v (.list [.bool true, .bool true]) := dp_ex (P2.s.trans e3) hv
    have shb : SeqAt.shaped (.list [.bool true, .bool true]) = true := sh_bls (bs := [true, true])
    refine s_retV (v_bl (K := K) (i := true) (ed_eqD (ed_var rfl hf) (ed_n (en_lst (ea_consD ed_bl (ea_consD ed_bl ea_nilD)) (by decide))) shb shb)) fun B5 e5 => ?_
    refine k A2 B5 (((PrM.refl s0).up e1).pr (P2.trans (Pr.up P2.s (e3.trans e5)))) ?_
    rw [show metMs ms l = ms from if_pos hk]
    exact (O1.pr P2).up P2.s (e3.trans e5)
end

end K2

namespace K2
open PySem L2 Evl Ob

local macro_rules | `(tactic| tm_at "sh") => `(tactic| first | exact sh_mk | exact sh_mks | exact sh_b3)

section
variable {P : Program} {w : World} {K : PySem.W.Frag} {mg : Str → Option Value} {base : Heap} {c : Cs}
theorem ed_row {A B : Hp} {C : Addr} {p : DP} {s : DS} {σ : L2.St} {ta : TE} {E : XK} (hs : Ex A B) (D : DeskAt K C A B p s) (ha : Ev ta σ B (.ref p.a)) : EvD K (tMeth C "handed" (sp_row K C) [] E ta tNil) σ B (.list (s.row.map PyData.int)) := fun A1 B1 e1 e2 Q q =>
  m_call (K := K) (A := A1) (ds := []) e2 (ha.mono (e1.trans e2)) ((e1.trans e2) _ _ D.ia) rfl epa_nil fun vs A2 B2 P2 hv => by
    cases hv
    have e12 : Ex B B2 := (e1.trans e2).trans P2.b
    refine ⟨A, p, s, rfl, D.up hs e12, fun x H' hx e hx' => ?_⟩
    have P3 := (Pr.up P2.s e).frz hx (fresh_back P2.s hx) hx'
    exact q _ _ H' (P2.trans P3) (.lst (sq_of upd_same) dpa_ints)
theorem ed_clock {A B : Hp} {C : Addr} {p : DP} {s : DS} {σ : L2.St} {ta : TE} {E : XK} (hs : Ex A B) (D : DeskAt K C A B p s) (ha : Ev ta σ B (.ref p.a)) : Ev (tMeth C "clock" (sp_clock K C) [] E ta tNil) σ B (.int s.time) := fun B1 e1 Q q =>
  m_call (K := K) (A := B1) (ds := []) (Ex.refl _) (ha.mono e1) (e1 _ _ D.ia) rfl epa_nil fun vs A2 B2 P2 hv => by
    cases hv
    exact ⟨A, p, s, rfl, D.up hs (e1.trans P2.b), fun H' e => q H' (P2.b.trans e)⟩
theorem metW_ix {h : Int} {ms : List Int} {i : Nat} {d : D} (e : (ms.mapIdx (metW h))[i]? = some d) : ∃ l, ms[i]? = some l ∧ d = metW h i l := by
  rw [List.getElem?_mapIdx] at e
  obtain ⟨l, h1, h2⟩ := Option.map_eq_some_iff.mp e
  exact ⟨l, h1, h2.symm⟩
def sp_waits (K : PySem.W.Frag) (C : Addr) : Sp := fun vs H Q _ => ∃ A p lm kd kq h ms, vs = [.ref p.a, .int h, .ref lm, .ref kd] ∧ Ex A H ∧ OneAt K C A H p lm kd kq h ms ∧ ms.length < 9000 ∧
  ∀ kq' A' H', PrM (fun x => x ∈ p.foot ++ [lm, kd, kq]) A H A' H' → H kq' = none → OneAt K C A' H' p lm kd kq' h ms → Q (.bl true) H'
theorem ok_waits (T : Tx K mg c) : DefOk P w K mg base CX0 4 "_law_waits" ["_law_desk", "_law_hand", "_law_met_here", "_law_kept"] (sp_waits K c.Desk) := by
  obtain ⟨f, fd, d⟩ := T.d_law_waits
  refine d.ok (d.F.ok sc_law_waits (fun vs H Q E h => ?_) fun cdv A outer s H vs Q E hr h => ?_)
  · obtain ⟨_, _, _, _, _, _, _, e, _⟩ := h
    rw [e]
    rfl
  obtain ⟨A0, p, lm, kd, kq, h, ms, rfl, s0, O, hl, k⟩ := h
  have nd := sc_law_waits.nd
  have MT_Desk_waiting := ok_wait (P := P) (w := w) (base := base) T
  have MT_Desk_clock := ok_clock (P := P) (w := w) (base := base) T
  have MT_Desk_handed := ok_row (P := P) (w := w) (base := base) T
  have G_law_mark := ok_mark (P := P) (w := w) (base := base) T
  have G_law_whole := ok_whole (P := P) (w := w) (base := base) T
  refine ⟨_, (pss_cons (ps_set (i := 4) nd rfl (Or.inl rfl) (pe_md0 (pv 0) T.c_Desk MT_Desk_waiting (hr.mono (by decide)) passN))
      (pss_cons (ps_if (PW.pt (pw_or (pt_not (pt_val (pe_callB (c_isi (K := K) rfl) rfl T.mn_isinstance (by decide +kernel) (pa_cons (pv 4) (pa_cons (pe_ty (T := "list") rfl T.mn_list (by decide +kernel)) pa_nil))))) (pw_or (pt_cmpR op_ne (pe_callB (c_len (K := K) rfl) rfl T.mn_len (by decide +kernel) (pa_cons (pv 4) pa_nil)) (pe_callB (c_len (K := K) rfl) rfl T.mn_len (by decide +kernel) (pa_cons (pv 2) pa_nil)) (nomark _)) (pw_or1 (pt_cmpR (o_neD (K := K) rfl hr.units) (pe_dget (hu_of hr) (pv 3) pe_str (fun _ _ => rfl)) (pe_lst pa_nil) (nomark _)))))) (pss_one (ps_ret pe_bl)) pss_nil)
      (pss_cons (ps_dput (hu_of hr) (pv 3) pe_str (pv 4) rfl)
      (pss_cons (ps_for PassesOwn.never rfl (pi_enum rfl T.mn_enumerate (pa_cons (pv 4) pa_nil)) (pg_tup rfl (pgs_cons (pg_name (i := 5) nd rfl (Or.inl rfl)) (pgs_cons (pg_name (i := 6) nd rfl (Or.inl rfl)) pgs_nil))) (pss_cons (ps_if (PW.pt (pw_or (pt_not (pt_val (pe_callB (c_isi (K := K) rfl) rfl T.mn_isinstance (by decide +kernel) (pa_cons (pv 6) (pa_cons (pe_ty (T := "tuple") rfl T.mn_tuple (by decide +kernel)) pa_nil))))) (pw_or (pt_cmpR op_ne (pe_callB (c_len (K := K) rfl) rfl T.mn_len (by decide +kernel) (pa_cons (pv 6) pa_nil)) pe_int (nomark _)) (pw_or (pt_not (pt_val (pe_cd G_law_mark (hr.mono (by decide)) rfl pass0 (pa_cons (pe_ix (ixT (K := K) rfl) (pv 6) pe_int (fun _ _ => rfl)) pa_nil)))) (pw_or1 (pt_cmpR (o_neD (K := K) rfl hr.units) (pe_ix (ixT (K := K) rfl) (pv 6) pe_int (fun _ _ => rfl)) (pe_tup (pa_cons (pe_op op_add (pv 5) pe_int) (pa_cons (pv 1) pa_nil))) (nomark _))))))) (pss_one (ps_ret pe_bl)) pss_nil)
        (pss_one (ps_if (PW.pt (pw_or (pt_not (pt_val (pe_cd G_law_whole (hr.mono (by decide)) rfl pass0 (pa_cons (pe_ix (ixT (K := K) rfl) (pv 6) pe_int (fun _ _ => rfl)) pa_nil)))) (pw_or (pt_cmpR op_ne (pe_ix (ixT (K := K) rfl) (pv 6) pe_int (fun _ _ => rfl)) (pe_ix (ixL (K := K) rfl) (pv 2) (pv 5) (fun _ _ => rfl)) (nomark _)) (pw_or1 (pt_cmpR op_notBl (pe_ix (ixT (K := K) rfl) (pv 6) pe_int (fun _ _ => rfl)) pe_bl (nomark _)))))) (pss_one (ps_ret pe_bl)) pss_nil))))
      (pss_cons (ps_expr (pe_bm0 PySem.F.plainAttrs_list PySem.F.slot_list_clear PySem.F.type_list_clear mt_clear (pv 4)))
      (pss_cons (ps_set (i := 7) nd rfl (Or.inl rfl) (pe_md0 (pv 0) T.c_Desk MT_Desk_clock (hr.mono (by decide)) passN))
      (pss_one (ps_ret (pe_and (pe_cmpR (o_eqD (K := K) rfl hr.units) (pe_md0 (pv 0) T.c_Desk MT_Desk_handed (hr.mono (by decide)) passN) (pe_lst pa_nil) (nomark _)) (pe_and (pe_cd G_law_whole (hr.mono (by decide)) rfl pass0 (pa_cons (pv 7) pa_nil)) (pe_one (pe_cmpR op_eq (pv 7) (pe_callB (c_len (K := K) rfl) rfl T.mn_len (by decide +kernel) (pa_cons (pv 2) pa_nil)) (nomark _))))))))))))), ?_⟩
  try dsimp only [cx_K]
  obtain ⟨hout, n1, n2, n3⟩ := O.out
  have hml : (metD h ms).marked.length = ms.length := seqM_len h ms 0
  refine q_do (m_call (K := K) (A := A0) (ds := []) s0 (ev_var rfl) O.D.ia rfl epa_nil fun vs A1 B1 P1 hv => ?_)
  cases hv
  have O1 := O.pr P1
  refine ⟨A1, p, metD h ms, rfl, P1.s, O1.D, by rw [hml]; omega, fun q xs A2 B2 hq P2 nq bq hxs => go_nx ?_⟩
  rw [metD_wait O.om] at hxs
  have O2 := O1.pr P2
  have hqH : H q = none := fresh_back P1.b hq
  have nqf : ∀ x ∈ p.foot ++ [lm, kd, kq], x ≠ q := fun x hx z => by
    have hn : H x ≠ none := by
      rcases List.mem_append.mp hx with hx | hx
      · have := hx
        simp only [DP.foot, List.mem_cons, List.not_mem_nil, or_false] at this
        obtain ⟨kv0, e0, _⟩ := O.D.im
        rcases this with rfl | rfl | rfl | rfl | rfl
        · rw [O.D.ia]; simp
        · rw [O.D.ik]; simp
        · rw [e0]; simp
        · rw [O.D.id]; simp
        · rw [O.D.ir]; simp
      · simp only [List.mem_cons, List.not_mem_nil, or_false] at hx
        rcases hx with rfl | rfl | rfl
        · rw [O.ol]; simp
        · rw [O.od]; simp
        · rw [O.oq]; simp
    rw [z] at hn
    exact hn hqH
  have dfound : ∀ B, Ex B2 B → Dp K B (.ref q) (.list (ms.mapIdx (metW h))) := fun B e => .lst (sq_of (e _ _ bq)) (dpa_ex (P2.s.trans e) hxs)
  have dmet : ∀ B, Ex B2 B → Dp K B (.ref lm) (.list (ms.map PyData.int)) := fun B e => .lst (sq_of (e _ _ O2.ol)) dpa_ints
  refine q_ifM K (b := false) (eb_or (a := false) (b := false) (eb_is (eb_not (eb_DB (ed_isi (ed_var rfl (dfound B2 (Ex.refl _))) ki_ll))) rfl) fun _ => eb_is (eb_or (a := false) (b := false) (eb_is (eb_D (ed_nei (ed_len (ed_var rfl (dfound B2 (Ex.refl _)))) (ed_len (ed_var rfl (dmet B2 (Ex.refl _)))))) ?_) fun _ => ?_) rfl) rfl (fun z => by cases z) (fun _ B3 e3 => q_next ?_)
  · rw [List.length_mapIdx, List.length_map]
    simp
  · exact eb_is (eb_D (ed_neD (ed_v (ev_dgetS (K := K) (ev_var rfl) (.inl O2.od) ed_str rfl) (.lst (ds := []) (sq_of O2.oq) .nil)) (ed_n (en_lst ea_nilD (by decide))) rfl rfl)) rfl
  refine q_do (s_dputS (K := K) (ev_var rfl) (ev_var rfl) ed_str (e3 _ _ O2.od) (by show 1 < 100000; decide) fun B4 e4 => go_nx ?_)
  have e34 : Ex B2 B4 := e3.trans e4
  have hput : putK [((Sum.inr "told" : Key), V.ref kq)] (.inr "told") (.ref q) = [(.inr "told", .ref q)] := rfl
  rw [hput]
  have PP : PrM (fun x => x ∈ p.foot ++ [lm, kd, kq]) A0 H A2 B4 := ((P1.trans P2).m).up e34
  have nkd : A2 kd = none := O2.na kd (by simp)
  have PP4 := PP.put (l := kd) (o := .dK [(.inr "told", .ref q)]) (.inl (by simp)) nkd
  have PQ := ((PrM.refl (F := fun x => x = kd) P2.s).up e34).put (l := kd) (o := .dK [(.inr "told", .ref q)]) (.inl rfl) nkd
  have hkd4 : (upd B4 kd (.dK [(.inr "told", .ref q)])) kd = some (.dK [(.inr "told", .ref q)]) := upd_same
  generalize upd B4 kd (.dK [(.inr "told", .ref q)]) = C4 at PP4 PQ hkd4 ⊢
  have s4 := PQ.s
  have bq4 := PQ.b q _ (fun z => nqf kd (by simp) z.symm) bq
  have blm4 := PQ.b lm _ n1 O2.ol
  have D4 : DeskAt K c.Desk A2 C4 p (metD h ms) := O2.D.mono PQ fun x hx z => (hout x hx).2.1 z
  refine q_do (s_forE K (ev_var rfl) (sq_of bq4) (fun _ σ' => ∃ w5 w6, σ' = [some (.ref p.a), some (.int h), some (.ref lm), some (.ref kd), some (.ref q), w5, w6, none]) ⟨none, none, rfl⟩ ?_ ?_)
  · rintro t x σ' B5 hx e5 ⟨w5, w6, rfl⟩
    obtain ⟨d0, hd0, hdx⟩ := dpa_getV hxs hx
    obtain ⟨l, hl0, rfl⟩ := metW_ix hd0
    have hx6 : Dp K B5 x (.tuple [.tuple [.int ((t : Int) + 1), .int h], .int l, .bool false]) := dp_ex (s4.trans e5) hdx
    have hmt : atI (ms.map PyData.int) (t : Int) = some (.int l) := at_map _ hl0
    have dl5 : Dp K B5 (.ref lm) (.list (ms.map PyData.int)) := .lst (sq_of (e5 _ _ blm4)) dpa_ints
    have shm : SeqAt.shaped (.tuple [.int ((t : Int) + 1), .int h]) = true := sh_mk (m := ((t : Int) + 1, h))
    have hq2 : (!PyData.eqv (.tuple [.int ((t : Int) + 1), .int h]) (.tuple [.int ((t : Int) + 1), .int h])) = false := by rw [eqv_refl shm]; rfl
    refine q_ifM K (b := false) (eb_or (a := false) (b := false) (eb_is (eb_not (eb_DB (ed_isi (ed_var rfl hx6) ki_tt))) rfl) fun _ => eb_is (eb_or (a := false) (b := false) (eb_is (eb_D (ed_nei (ed_lenT (ed_var rfl hx6)) ed_int)) rfl) fun _ => eb_is (eb_or (a := false) (b := false) (eb_is (eb_not (eb_DB (ed_call (ea_consD (ed_ixT (ed_var rfl hx6) ed_int rfl) ea_nilD) (at_mark _)))) rfl) fun _ =>
      eb_is (eb_D (ed_neD (ed_ixT (ed_var rfl hx6) ed_int rfl) (ed_tup (ea_consD (ed_Ii (ed_var rfl (.int _)) ed_int) (ea_consD (ed_var rfl (.int h)) ea_nilD)) (by show 2 ≤ 100000; decide)) shm shm)) hq2) rfl) rfl) rfl (fun z => by cases z) (fun _ B6 e6 => q_next ?_)
    have hx7 := dp_ex e6 hx6
    have dl6 := dp_ex e6 dl5
    refine s_ifM K (b := false) (eb_or (a := false) (b := false) (eb_is (eb_not (eb_DB (ed_call (ea_consD (ed_ixT (ed_var rfl hx7) ed_int rfl) ea_nilD) (at_whole _)))) rfl) fun _ => eb_is (eb_or (a := false) (b := false) (eb_is (eb_D (ed_nei (ed_ixT (ed_var rfl hx7) ed_int rfl) (ed_ixL (ed_var rfl dl6) (ed_var rfl (.int _)) hmt))) (by simp)) fun _ =>
      eb_is (eb_D (ed_notB (ed_ixT (ed_var rfl hx7) ed_int rfl) ed_bl)) rfl) rfl) rfl (fun z => by cases z) (fun _ B7 e7 => ?_)
    exact ⟨e5.trans (e6.trans e7), _, _, rfl⟩
  · rintro σ' B5 e5 ⟨w5, w6, rfl⟩
    refine go_nx ?_
    refine q_do (s_clear K (ev_var rfl) (e5 _ _ bq4) fun B6 e6 => go_nx ?_)
    have e56 := e5.trans e6
    have PP6 := (PP4.up e56).put (l := q) (o := .lst []) (.inr hqH) nq
    have PR := ((PrM.refl (F := fun x => x = q) s4).up e56).put (l := q) (o := .lst []) (.inl rfl) nq
    have hq6 : (upd B6 q (.lst [])) q = some (.lst []) := upd_same
    generalize upd B6 q (.lst []) = C6 at PP6 PR hq6 ⊢
    have D6 := D4.mono PR fun x hx z => nqf x (List.mem_append_left _ hx) z
    have blm6 := PR.b lm _ (fun z => nqf lm (by simp) z) blm4
    have bkd6 := PR.b kd _ (fun z => nqf kd (by simp) z) hkd4
    refine q_do (ed_clock PR.s D6 (ev_var rfl) C6 (Ex.refl _) _ fun B7 e7 => go_nx ?_)
    have D7 := D6.up PR.s e7
    have dl7 : Dp K B7 (.ref lm) (.list (ms.map PyData.int)) := .lst (sq_of (e7 _ _ blm6)) dpa_ints
    refine s_retV (v_bl (K := K) (i := true) (ed_is (ed_and (a := true) (b := true) (ed_is (ed_eqD (ed_row (PR.s.trans e7) D7 (ev_var rfl)) (ed_n (en_lst ea_nilD (by decide))) rfl rfl) rfl) fun _ => ed_is (ed_and (a := true) (b := true) (ed_is (ed_call (ea_consD (ed_var rfl (.int _)) ea_nilD) (at_whole _)) rfl) fun _ => ed_is (ed_eqi (ed_var rfl (.int _)) (ed_len (ed_var rfl dl7))) ?_) rfl) rfl)) fun B8 e8 => ?_
    · rw [List.length_map]
      show PyData.bool ((ms.length : Int) == (ms.length : Int)) = _
      rw [beq_self_eq_true]
    · have e78 := e7.trans e8
      refine k q A2 B8 (PP6.up e78) hqH ⟨D6.up PR.s e78, e78 _ _ blm6, e78 _ _ bkd6, e78 _ _ hq6, ?_, fun x hx => ?_, O.om⟩
      · have h1 := List.nodup_append.mp O.nd
        refine List.nodup_append.mpr ⟨h1.1, ?_, fun x hx y hy => ?_⟩
        · simp only [List.nodup_cons, List.mem_cons, List.not_mem_nil, or_false, not_or, not_false_eq_true, List.nodup_nil, and_true]
          exact ⟨⟨n1, nqf lm (by simp)⟩, nqf kd (by simp)⟩
        · simp only [List.mem_cons, List.not_mem_nil, or_false] at hy
          rcases hy with rfl | rfl | rfl
          · exact (hout x hx).1
          · exact (hout x hx).2.1
          · exact nqf x (List.mem_append_left _ hx)
      · simp only [List.mem_cons, List.not_mem_nil, or_false] at hx
        rcases hx with rfl | rfl | rfl
        · exact O2.na _ (by simp)
        · exact nkd
        · exact nq
end

end K2

namespace K2
open PySem L2 Evl Ob

local macro_rules | `(tactic| tm_at "sh") => `(tactic| first | exact sh_mk | exact sh_mks | exact sh_b3)

section
variable {K : PySem.W.Frag} {C : Addr} {A B H : Hp} {σ : L2.St} {te : TE} {E : XK} {Q : VK}
theorem mk_desk {hh : Int} (s : Ex A H) (h : EvD K te σ H (.int hh)) (k : ∀ p H', PrM (fun _ => False) A H A H' → (∀ x ∈ p.foot, H x = none) → DeskAt K C A H' p (metD hh []) → Q (.ref p.a) H') : tMake C (sp_mkDesk K C) [] E (tCons te tNil) σ H Q :=
  v_int h H (Ex.refl _) _ fun H1 e1 x dx hx hdx ne => by
    have P0 : PrM (fun _ => False) A H A (upd (upd H1 dx (.own x)) x (.ins C dx [])) := ((((PrM.refl s).up e1).new (o := .own x) hdx)).new (by rw [upd_ne (Ne.symm ne)]; exact hx)
    have hxH : H x = none := fresh_back e1 hx
    refine ⟨A, x, dx, hh, rfl, P0.s, upd_same, fresh_back s hxH, fun p H' pa PM foot D => ⟨rfl, ?_⟩⟩
    rw [← pa]
    refine k p H' (P0.then PM fun y hy => .inr (by rw [hy]; exact hxH)) (fun y hy => ?_) D
    rcases foot y hy with z | z
    · rw [z]; exact hxH
    · exact P0.fresh z
end
/-- the two desks of the law -/
structure Two (K : PySem.W.Frag) (C : Addr) (A B : Hp) (p : Bool → DP) (lm kd kq : Bool → Addr) (h : Bool → Int) (ms : Bool → List Int) : Prop where
  one : ∀ i, OneAt K C A B (p i) (lm i) (kd i) (kq i) (h i) (ms i)
  ap : ∀ x ∈ (p false).foot ++ [lm false, kd false, kq false], x ∉ (p true).foot ++ [lm true, kd true, kq true]
def upB {α : Type} (f : Bool → α) (i : Bool) (x : α) : Bool → α := fun j => if j = i then x else f j
theorem Two.upd {K : PySem.W.Frag} {C : Addr} {A B A' B' : Hp} {p : Bool → DP} {lm kd kq : Bool → Addr} {h : Bool → Int} {ms : Bool → List Int} (T : Two K C A B p lm kd kq h ms) (i : Bool) {kq' : Addr} {ms' : List Int}
    (P : PrM (fun x => x ∈ (p i).foot ++ [lm i, kd i, kq i]) A B A' B') (hq : kq' = kq i ∨ B kq' = none) (O : OneAt K C A' B' (p i) (lm i) (kd i) kq' (h i) ms') : Two K C A' B' p lm kd (upB kq i kq') h (upB ms i ms') := by
  have alive : ∀ j x, x ∈ (p j).foot ++ [lm j, kd j, kq j] → B x ≠ none := fun j x hx => by
    have O := T.one j
    rcases List.mem_append.mp hx with hx | hx
    · have := hx
      simp only [DP.foot, List.mem_cons, List.not_mem_nil, or_false] at this
      obtain ⟨kv0, e0, _⟩ := O.D.im
      rcases this with rfl | rfl | rfl | rfl | rfl
      · rw [O.D.ia]; simp
      · rw [O.D.ik]; simp
      · rw [e0]; simp
      · rw [O.D.id]; simp
      · rw [O.D.ir]; simp
    · simp only [List.mem_cons, List.not_mem_nil, or_false] at hx
      rcases hx with rfl | rfl | rfl
      · rw [O.ol]; simp
      · rw [O.od]; simp
      · rw [O.oq]; simp
  have other : ∀ j, j ≠ i → ∀ x, x ∈ (p j).foot ++ [lm j, kd j, kq j] → x ∉ (p i).foot ++ [lm i, kd i, kq i] := fun j hj x hx hy => by
    cases i <;> cases j
    · exact hj rfl
    · exact T.ap x hy hx
    · exact T.ap x hx hy
    · exact hj rfl
  refine ⟨fun j => ?_, fun x hx hy => ?_⟩
  · by_cases e : j = i
    · subst e
      unfold upB
      rw [if_pos rfl, if_pos rfl]
      exact O
    · unfold upB
      rw [if_neg e, if_neg e]
      exact (T.one j).mono P fun x hx => other j e x hx
  · have key : ∀ j, x ∈ (p j).foot ++ [lm j, kd j, upB kq i kq' j] → x ∈ (p j).foot ++ [lm j, kd j, kq j] ∨ (j = i ∧ x = kq') := fun j hj => by
      by_cases e : j = i
      · subst e
        rcases List.mem_append.mp hj with z | z
        · exact .inl (List.mem_append_left _ z)
        · simp only [upB, if_true, List.mem_cons, List.not_mem_nil, or_false] at z
          rcases z with z | z | z
          · exact .inl (by rw [z]; simp)
          · exact .inl (by rw [z]; simp)
          · exact .inr ⟨rfl, z⟩
      · rw [show upB kq i kq' j = kq j from if_neg e] at hj
        exact .inl hj
    rcases key false hx with a | ⟨a, a'⟩ <;> rcases key true hy with b | ⟨b, b'⟩
    · exact T.ap x a b
    · rcases hq with z | z
      · exact T.ap x a (by rw [b', z, ← b]; simp)
      · exact alive false x a (by rw [b']; exact z)
    · rcases hq with z | z
      · exact T.ap x (by rw [a', z, ← a]; simp) b
      · exact alive true x b (by rw [a']; exact z)
    · rw [← a] at b
      cases b
theorem Two.pr {K : PySem.W.Frag} {C : Addr} {A B A' B' : Hp} {p : Bool → DP} {lm kd kq : Bool → Addr} {h : Bool → Int} {ms : Bool → List Int} (T : Two K C A B p lm kd kq h ms) (P : Pr A B A' B') : Two K C A' B' p lm kd kq h ms := ⟨fun i => (T.one i).pr P, T.ap⟩
def odd (k : Int) : Bool := decide (k % 2 = 1)
theorem at_odd {α : Type} (f : Bool → α) (k : Int) : atI [f false, f true] (k % 2) = some (f (odd k)) := by
  have h : k % 2 = 0 ∨ k % 2 = 1 := by omega
  unfold odd
  rcases h with h | h <;> rw [h] <;> rfl

end K2

namespace K2
open PySem L2 Evl Ob

local macro_rules | `(tactic| tm_at "sh") => `(tactic| first | exact sh_mk | exact sh_mks | exact sh_b3)

local macro_rules | `(tactic| tm_at "fn") => `(tactic| first | exact at_whole _ | exact at_mark _ | exact at_cell (by decide))

theorem metMs_len {ms : List Int} {l : Int} : (metMs ms l).length ≤ ms.length + 1 := by
  unfold metMs
  split
  · omega
  · rw [List.length_append]; simp
theorem un_lst2 {t1 t2 : TE} {i : Nat} {t3 : TS} {Dd : Ends} {σ : L2.St} {H : Hp} : tSeq (tAsg (tLst (tCons t1 (tCons t2 tNil))) (gName i)) t3 Dd σ H = (t1 σ H fun x H1 => t2 σ H1 fun y H2 => [x, y].length ≤ sizeLine ∧ ∀ p, H2 p = none → t3 Dd (σ.set i (some (.ref p))) (upd H2 p (.lst [x, y]))) := rfl
theorem d_told {key : Str} {σ : L2.St} {H : Hp} {Q : VK} (k : ∀ k0 q0, H k0 = none → H q0 = none → q0 ≠ k0 → Q (.ref k0) (upd (upd (upd H k0 (.dK [])) q0 (.lst [])) k0 (.dK [(.inr key, .ref q0)]))) : tDisp [(tC (.str key), tLst tNil)] σ H Q := by
  intro p hp
  simp only [tPairs]
  refine ⟨sz_of (by decide), fun q hq => ?_⟩
  have ne : q ≠ p := fun z => by rw [z, upd_same] at hq; cases hq
  refine ⟨by rw [upd_ne (Ne.symm ne)]; exact upd_same, [(.inr key, .ref q)], rfl, by show 1 ≤ 15; decide, ?_⟩
  exact k p q hp (by rw [upd_ne ne] at hq; exact hq) ne
theorem un_ifcall {te : TE} {tw tz t2 : TS} {Dd : Ends} {σ : L2.St} {H : Hp} : tSeq (tIfS (tNot (tB te)) tw tz) t2 Dd σ H = te σ H fun x H1 => ∃ b, x = .bl b ∧ if (!b) = true then tw (go Dd t2) σ H1 else tz (go Dd t2) σ H1 := by
  show te σ H _ = te σ H _
  congr 1
theorem un_ifcall1 {te : TE} {tw tz : TS} {Dd : Ends} {σ : L2.St} {H : Hp} : tIfS (tNot (tB te)) tw tz Dd σ H = te σ H fun x H1 => ∃ b, x = .bl b ∧ if (!b) = true then tw Dd σ H1 else tz Dd σ H1 := rfl
section
variable {P : Program} {w : World} {K : PySem.W.Frag} {mg : Str → Option Value} {base : Heap} {c : Cs}
def sp_law (K : PySem.W.Frag) : Sp := fun vs H Q _ => ∃ (a : Addr) (ns : List Int), vs = [.ref a] ∧ SqL K H a (ns.map V.int) ∧ ns.length ≤ 63 ∧ ∀ H', Q (.bl true) H'
theorem ok_law {f : Addr} {fd : FuncData} (T : Tx K mg c) (F : Fun K "law" "law" s_law f fd) : FnOk P w K mg base CX0 6 f fd ["_law_script"] (sp_law K) := by
  refine F.ok sc_law (fun vs H Q E h => ?_) fun cdv A outer s H vs Q E hr h => ?_
  · obtain ⟨a, ns, rfl, _⟩ := h; rfl
  obtain ⟨a, ns, rfl, hS, hlen, k⟩ := h
  have s0 : Ex H H := Ex.refl H
  have h1 : Dp K H (.ref a) (.list (ns.map .int)) := .lst hS dpa_ints
  have nd := sc_law.nd
  have G_law_cell_at := ok_cell (P := P) (w := w) (base := base) T
  have MK_Desk := ok_Desk_init (P := P) (w := w) (base := base) T
  have G_law_met := ok_met (P := P) (w := w) (base := base) T
  have G_law_waits := ok_waits (P := P) (w := w) (base := base) T
  refine ⟨_, (pss_cons (ps_set (i := 1) nd rfl (Or.inl rfl) (pe_lst (pa_cons (pe_op op_mod (pe_cd G_law_cell_at (hr.mono (by decide)) rfl pass0 (pa_cons (pv 0) (pa_cons pe_int pa_nil))) pe_int) (pa_cons (pe_op op_mod (pe_op op_fdiv (pe_cd G_law_cell_at (hr.mono (by decide)) rfl pass0 (pa_cons (pv 0) (pa_cons pe_int pa_nil))) pe_int) pe_int) pa_nil))))
      (pss_cons (ps_set (i := 2) nd rfl (Or.inl rfl) (pe_lst (pa_cons (pe_mk rfl T.g_Desk MK_Desk (hr.mono (by decide)) passN (pa_cons (pe_ix (ixL (K := K) rfl) (pv 1) pe_int (fun _ _ => rfl)) pa_nil)) (pa_cons (pe_mk rfl T.g_Desk MK_Desk (hr.mono (by decide)) passN (pa_cons (pe_ix (ixL (K := K) rfl) (pv 1) pe_int (fun _ _ => rfl)) pa_nil)) pa_nil))))
      (pss_cons (ps_set (i := 3) nd rfl (Or.inl rfl) (pe_lst (pa_cons (pe_lst pa_nil) (pa_cons (pe_lst pa_nil) pa_nil))))
      (pss_cons (ps_set (i := 4) nd rfl (Or.inl rfl) (pe_lst (pa_cons (pe_disp (pps_cons pe_str (pe_lst pa_nil) pps_nil) (by rfl) (by rfl) (fun z => by cases z) (by decide)) (pa_cons (pe_disp (pps_cons pe_str (pe_lst pa_nil) pps_nil) (by rfl) (by rfl) (fun z => by cases z) (by decide)) pa_nil))))
      (pss_cons (ps_if (pt_cmpR op_eq (pe_op op_mod (pe_cd G_law_cell_at (hr.mono (by decide)) rfl pass0 (pa_cons (pv 0) (pa_cons pe_int pa_nil))) pe_int) pe_int (nomark _)) (pss_one (ps_for PassesOwn.never rfl (pi_range1 rfl T.mn_range (pa_cons pe_int pa_nil)) (pg_name (i := 5) nd rfl (Or.inl rfl)) (pss_one (ps_if (pt_not (pt_val (pe_cd G_law_met (hr.mono (by decide)) rfl pass0 (pa_cons (pe_ix (ixL (K := K) rfl) (pv 2) (pe_op op_mod (pv 5) pe_int) (fun _ _ => rfl)) (pa_cons (pe_ix (ixL (K := K) rfl) (pv 1) (pe_op op_mod (pv 5) pe_int) (fun _ _ => rfl)) (pa_cons (pe_ix (ixL (K := K) rfl) (pv 3) (pe_op op_mod (pv 5) pe_int) (fun _ _ => rfl)) (pa_cons (pe_op op_add (pe_op op_pow pe_int pe_int) (pe_op op_mul (pv 5) (pv 5))) pa_nil))))))) (pss_one (ps_ret pe_bl)) pss_nil)))) pss_nil)
      (pss_cons (ps_for PassesOwn.never rfl (pi_list (pe_slice (slL (K := K) rfl) (pv 0) (po_some pe_int) po_none)) (pg_name (i := 6) nd rfl (Or.inl rfl)) (pss_cons (ps_set (i := 7) nd rfl (Or.inl rfl) (pe_ix (ixL (K := K) rfl) (pe_lst (pa_cons (pe_op op_mod (pe_op op_fdiv (pv 6) pe_int) pe_int) (pa_cons (pe_op op_mod (pe_op op_fdiv (pv 6) pe_int) (pe_op op_pow pe_int pe_int)) pa_nil))) (pe_op op_mod (pe_op op_fdiv (pv 6) pe_int) pe_int) (fun _ _ => rfl)))
        (pss_cons (ps_if (pt_not (pt_val (pe_cd G_law_met (hr.mono (by decide)) rfl pass0 (pa_cons (pe_ix (ixL (K := K) rfl) (pv 2) (pe_op op_mod (pv 6) pe_int) (fun _ _ => rfl)) (pa_cons (pe_ix (ixL (K := K) rfl) (pv 1) (pe_op op_mod (pv 6) pe_int) (fun _ _ => rfl)) (pa_cons (pe_ix (ixL (K := K) rfl) (pv 3) (pe_op op_mod (pv 6) pe_int) (fun _ _ => rfl)) (pa_cons (pv 7) pa_nil))))))) (pss_one (ps_ret pe_bl)) pss_nil)
        (pss_one (ps_if (pt_not (pt_val (pe_cd G_law_waits (hr.mono (by decide)) rfl pass0 (pa_cons (pe_ix (ixL (K := K) rfl) (pv 2) (pe_op op_mod (pv 6) pe_int) (fun _ _ => rfl)) (pa_cons (pe_ix (ixL (K := K) rfl) (pv 1) (pe_op op_mod (pv 6) pe_int) (fun _ _ => rfl)) (pa_cons (pe_ix (ixL (K := K) rfl) (pv 3) (pe_op op_mod (pv 6) pe_int) (fun _ _ => rfl)) (pa_cons (pe_ix (ixL (K := K) rfl) (pv 4) (pe_op op_mod (pv 6) pe_int) (fun _ _ => rfl)) pa_nil))))))) (pss_one (ps_ret pe_bl)) pss_nil)))))
      (pss_cons (ps_if (pt_not (pt_val (pe_cd G_law_waits (hr.mono (by decide)) rfl pass0 (pa_cons (pe_ix (ixL (K := K) rfl) (pv 2) pe_int (fun _ _ => rfl)) (pa_cons (pe_ix (ixL (K := K) rfl) (pv 1) pe_int (fun _ _ => rfl)) (pa_cons (pe_ix (ixL (K := K) rfl) (pv 3) pe_int (fun _ _ => rfl)) (pa_cons (pe_ix (ixL (K := K) rfl) (pv 4) pe_int (fun _ _ => rfl)) pa_nil))))))) (pss_one (ps_ret pe_bl)) pss_nil)
      (pss_one (ps_ret (pe_cd G_law_waits (hr.mono (by decide)) rfl pass0 (pa_cons (pe_ix (ixL (K := K) rfl) (pv 2) pe_int (fun _ _ => rfl)) (pa_cons (pe_ix (ixL (K := K) rfl) (pv 1) pe_int (fun _ _ => rfl)) (pa_cons (pe_ix (ixL (K := K) rfl) (pv 3) pe_int (fun _ _ => rfl)) (pa_cons (pe_ix (ixL (K := K) rfl) (pv 4) pe_int (fun _ _ => rfl)) pa_nil)))))))))))))), ?_⟩
  try dsimp only [cx_K]
  -- the hands
  refine q_asgD K s0 (by tm_at "ed") fun vh A1 B1 P1 hvh => ?_
  generalize cell ns 0 % 40 = x0 at hvh
  generalize cell ns 0 / 40 % 40 = x1 at hvh
  -- the desks
  rw [un_lst2]
  refine mk_desk (hh := x0) P1.s ?a1 fun p0 B2 P2 f2 D2 => ?_
  case a1 => exact ed_ixL (i := 0) (ed_var rfl (dp_ex P1.s hvh)) ed_int rfl
  refine mk_desk (hh := x1) P2.s ?a2 fun p1 B3 P3 f3 D3 => ?_
  case a2 => exact ed_ixL (i := 1) (ed_var rfl (dp_ex P2.s hvh)) ed_int rfl
  refine ⟨sz_of (by show 2 ≤ 100000; decide), fun ld hld => ?_⟩
  have D23 : DeskAt K c.Desk A1 B3 p0 (metD x0 []) := D2.mono P3 fun _ _ z => z
  -- the lists of lists
  rw [un_lst2]
  refine ⟨sz_of (by decide), fun l0 hl0 => ⟨sz_of (by decide), fun l1 hl1 => ⟨sz_of (by show 2 ≤ 100000; decide), fun ll hll => ?_⟩⟩⟩
  -- what is kept
  rw [un_lst2]
  refine d_told fun k0 q0 hk0 hq0 nkq0 => d_told fun k1 q1 hk1 hq1 nkq1 => ⟨sz_of (by show 2 ≤ 100000; decide), fun lk hlk => ?_⟩
  -- all that stands now
  let p : Bool → DP := fun i => if i = true then p1 else p0
  let lm : Bool → Addr := fun i => if i = true then l1 else l0
  let kd : Bool → Addr := fun i => if i = true then k1 else k0
  let hh : Bool → Int := fun i => if i = true then x1 else x0
  have start : ∀ C9 : Hp, C9 = upd (upd (upd (upd (upd (upd (upd (upd (upd (upd (upd B3 ld (.lst [.ref p0.a, .ref p1.a])) l0 (.lst [])) l1 (.lst [])) ll (.lst [.ref l0, .ref l1])) k0 (.dK [])) q0 (.lst [])) k0 (.dK [(.inr "told", .ref q0)])) k1 (.dK [])) q1 (.lst [])) k1 (.dK [(.inr "told", .ref q1)])) lk (.lst [.ref k0, .ref k1]) →
      ∃ A9, Ex A1 A9 ∧ Ex A9 C9 ∧ A9 ld = some (.lst [.ref (p false).a, .ref (p true).a]) ∧ A9 ll = some (.lst [.ref (lm false), .ref (lm true)]) ∧ A9 lk = some (.lst [.ref (kd false), .ref (kd true)]) ∧ Two K c.Desk A9 C9 p lm kd (fun i => if i = true then q1 else q0) hh (fun _ => []) := by
    intro C9 hC9
    have nn : ∀ (C : Hp) (x y : Addr) (o : HO), C x = none → C y = some o → y ≠ x := fun C x y o h1 h2 z => by rw [z, h1] at h2; cases h2
    have keep : ∀ (C : Hp) (x y : Addr) (o o' : HO), C x = none → C y = some o → (upd C x o') y = some o := fun C x y o o' h1 h2 => by rw [upd_ne (nn C x y o h1 h2)]; exact h2
    have R1 := (PrM.refl (F := fun _ => False) P3.s).newD (o := .lst [.ref p0.a, .ref p1.a]) hld
    have c1ld : (upd B3 ld (.lst [.ref p0.a, .ref p1.a])) ld = some (.lst [.ref p0.a, .ref p1.a]) := upd_same
    generalize upd B3 ld (.lst [.ref p0.a, .ref p1.a]) = C1 at *
    have R2 := R1.new (o := .lst []) hl0
    have c2l0 : (upd C1 l0 (.lst [])) l0 = some (.lst []) := upd_same
    have c2ld := keep C1 l0 ld _ (.lst []) hl0 c1ld
    have y1 : ld ≠ l0 := nn C1 l0 ld _ hl0 c1ld
    generalize upd C1 l0 (.lst []) = C2 at *
    have R3 := R2.new (o := .lst []) hl1
    have c3l1 : (upd C2 l1 (.lst [])) l1 = some (.lst []) := upd_same
    have c3l0 := keep C2 l1 l0 _ (.lst []) hl1 c2l0
    have c3ld := keep C2 l1 ld _ (.lst []) hl1 c2ld
    have y2 : ld ≠ l1 := nn C2 l1 ld _ hl1 c2ld
    generalize upd C2 l1 (.lst []) = C3 at *
    have y3 : l0 ≠ ll := nn C3 ll l0 _ hll c3l0
    have y4 : l1 ≠ ll := nn C3 ll l1 _ hll c3l1
    have R4 := R3.newD (o := .lst [.ref l0, .ref l1]) hll
    have c4l1 := keep C3 ll l1 _ (.lst [.ref l0, .ref l1]) hll c3l1
    have c4l0 := keep C3 ll l0 _ (.lst [.ref l0, .ref l1]) hll c3l0
    have a4ld : (upd A1 ld (.lst [.ref p0.a, .ref p1.a])) ll = none := fresh_back R3.s hll
    have c4ld := keep C3 ll ld _ (.lst [.ref l0, .ref l1]) hll c3ld
    have c4ll : (upd C3 ll (.lst [.ref l0, .ref l1])) ll = some (.lst [.ref l0, .ref l1]) := upd_same
    generalize hC4 : upd C3 ll (.lst [.ref l0, .ref l1]) = C4 at *
    have R5 := R4.new (o := .dK []) hk0
    have R6 := R5.new (o := .lst []) (show (upd C4 k0 (.dK [])) q0 = none by rw [upd_ne nkq0]; exact hq0)
    have R7 := R6.put (l := k0) (o := .dK [(.inr "told", .ref q0)]) (.inr (R4.fresh hk0)) (fresh_back R4.s hk0)
    have n0k : l0 ≠ k0 := nn C4 k0 l0 _ hk0 c4l0
    have n1k : l1 ≠ k0 := nn C4 k0 l1 _ hk0 c4l1
    have n0q : l0 ≠ q0 := nn C4 q0 l0 _ hq0 c4l0
    have n1q : l1 ≠ q0 := nn C4 q0 l1 _ hq0 c4l1
    have c7k : (upd (upd (upd C4 k0 (.dK [])) q0 (.lst [])) k0 (.dK [(.inr "told", .ref q0)])) k0 = some (.dK [(.inr "told", .ref q0)]) := upd_same
    have c7q : (upd (upd (upd C4 k0 (.dK [])) q0 (.lst [])) k0 (.dK [(.inr "told", .ref q0)])) q0 = some (.lst []) := by rw [upd_ne nkq0]; exact upd_same
    have c7l0 : (upd (upd (upd C4 k0 (.dK [])) q0 (.lst [])) k0 (.dK [(.inr "told", .ref q0)])) l0 = some (.lst []) := by rw [upd_ne n0k, upd_ne n0q, upd_ne n0k]; exact c4l0
    have c7l1 : (upd (upd (upd C4 k0 (.dK [])) q0 (.lst [])) k0 (.dK [(.inr "told", .ref q0)])) l1 = some (.lst []) := by rw [upd_ne n1k, upd_ne n1q, upd_ne n1k]; exact c4l1
    have y5 : ld ≠ k0 := nn C4 k0 ld _ hk0 c4ld
    have y6 : ld ≠ q0 := nn C4 q0 ld _ hq0 c4ld
    have y7 : ll ≠ k0 := nn C4 k0 ll _ hk0 c4ll
    have y8 : ll ≠ q0 := nn C4 q0 ll _ hq0 c4ll
    have c7ld : (upd (upd (upd C4 k0 (.dK [])) q0 (.lst [])) k0 (.dK [(.inr "told", .ref q0)])) ld = some (.lst [.ref p0.a, .ref p1.a]) := by rw [upd_ne y5, upd_ne y6, upd_ne y5]; exact c4ld
    have c7ll : (upd (upd (upd C4 k0 (.dK [])) q0 (.lst [])) k0 (.dK [(.inr "told", .ref q0)])) ll = some (.lst [.ref l0, .ref l1]) := by rw [upd_ne y7, upd_ne y8, upd_ne y7]; exact c4ll
    generalize hC7 : upd (upd (upd C4 k0 (.dK [])) q0 (.lst [])) k0 (.dK [(.inr "told", .ref q0)]) = C7 at *
    have R8 := R7.new (o := .dK []) hk1
    have R9 := R8.new (o := .lst []) (show (upd C7 k1 (.dK [])) q1 = none by rw [upd_ne nkq1]; exact hq1)
    have R10 := R9.put (l := k1) (o := .dK [(.inr "told", .ref q1)]) (.inr (R7.fresh hk1)) (fresh_back R7.s hk1)
    have keep3 : ∀ y o, C7 y = some o → (upd (upd (upd C7 k1 (.dK [])) q1 (.lst [])) k1 (.dK [(.inr "told", .ref q1)])) y = some o := fun y o e => by
      have e1 : y ≠ k1 := nn C7 k1 y _ hk1 e
      have e2 : y ≠ q1 := nn C7 q1 y _ hq1 e
      rw [upd_ne e1, upd_ne e2, upd_ne e1]; exact e
    have d7k := keep3 _ _ c7k
    have d7q := keep3 _ _ c7q
    have d7l0 := keep3 _ _ c7l0
    have d7l1 := keep3 _ _ c7l1
    have d7k1 : (upd (upd (upd C7 k1 (.dK [])) q1 (.lst [])) k1 (.dK [(.inr "told", .ref q1)])) k1 = some (.dK [(.inr "told", .ref q1)]) := upd_same
    have d7q1 : (upd (upd (upd C7 k1 (.dK [])) q1 (.lst [])) k1 (.dK [(.inr "told", .ref q1)])) q1 = some (.lst []) := by rw [upd_ne nkq1]; exact upd_same
    have m1 : l0 ≠ l1 := nn C2 l1 l0 _ hl1 c2l0
    have m2 : l0 ≠ k1 := nn C7 k1 l0 _ hk1 c7l0
    have m3 : l0 ≠ q1 := nn C7 q1 l0 _ hq1 c7l0
    have m4 : l1 ≠ k1 := nn C7 k1 l1 _ hk1 c7l1
    have m5 : l1 ≠ q1 := nn C7 q1 l1 _ hq1 c7l1
    have m6 : k0 ≠ k1 := nn C7 k1 k0 _ hk1 c7k
    have m7 : k0 ≠ q1 := nn C7 q1 k0 _ hq1 c7k
    have m8 : q0 ≠ k1 := nn C7 k1 q0 _ hk1 c7q
    have m9 : q0 ≠ q1 := nn C7 q1 q0 _ hq1 c7q
    have y9 : ld ≠ k1 := nn C7 k1 ld _ hk1 c7ld
    have y10 : ld ≠ q1 := nn C7 q1 ld _ hq1 c7ld
    have y11 : ll ≠ k1 := nn C7 k1 ll _ hk1 c7ll
    have y12 : ll ≠ q1 := nn C7 q1 ll _ hq1 c7ll
    generalize hC10 : upd (upd (upd C7 k1 (.dK [])) q1 (.lst [])) k1 (.dK [(.inr "told", .ref q1)]) = C10 at *
    have R11 := R10.newD (o := .lst [.ref k0, .ref k1]) hlk
    have alk : (upd (upd A1 ld (.lst [.ref p0.a, .ref p1.a])) ll (.lst [.ref l0, .ref l1])) lk = none := fresh_back R10.s hlk
    have all : ∀ y o, C10 y = some o → (upd C10 lk (.lst [.ref k0, .ref k1])) y = some o := fun y o e => keep C10 lk y o _ hlk e
    rw [← hC9] at R11
    have lldne : ld ≠ ll := fun z => by rw [← z, upd_same] at a4ld; cases a4ld
    have E1 : DeskAt K c.Desk _ C9 p0 (metD x0 []) := D23.mono R11 fun _ _ z => z
    have E2 : DeskAt K c.Desk _ C9 p1 (metD x1 []) := D3.mono R11 fun _ _ z => z
    -- what is new is new
    have b0 : B3 l0 = none := R1.fresh hl0
    have b1 : B3 l1 = none := R2.fresh hl1
    have b2 : B3 k0 = none := R4.fresh hk0
    have b3 : B3 q0 = none := R4.fresh hq0
    have b4 : B3 k1 = none := R7.fresh hk1
    have b5 : B3 q1 = none := R7.fresh hq1
    have live0 : ∀ x ∈ p0.foot, B3 x ≠ none := fun x hx => by
      simp only [DP.foot, List.mem_cons, List.not_mem_nil, or_false] at hx
      obtain ⟨kv0, e0, _⟩ := D23.im
      rcases hx with rfl | rfl | rfl | rfl | rfl
      · rw [D23.ia]; simp
      · rw [D23.ik]; simp
      · rw [e0]; simp
      · rw [D23.id]; simp
      · rw [D23.ir]; simp
    have live1 : ∀ x ∈ p1.foot, B3 x ≠ none := fun x hx => by
      simp only [DP.foot, List.mem_cons, List.not_mem_nil, or_false] at hx
      obtain ⟨kv0, e0, _⟩ := D3.im
      rcases hx with rfl | rfl | rfl | rfl | rfl
      · rw [D3.ia]; simp
      · rw [D3.ik]; simp
      · rw [e0]; simp
      · rw [D3.id]; simp
      · rw [D3.ir]; simp
    have na11 : ∀ x, A1 x = none → x ≠ ld → x ≠ ll → x ≠ lk → (upd (upd (upd A1 ld (.lst [.ref p0.a, .ref p1.a])) ll (.lst [.ref l0, .ref l1])) lk (.lst [.ref k0, .ref k1])) x = none := fun x e n1 n2 n3 => by rw [upd_ne n3, upd_ne n2, upd_ne n1]; exact e
    have g : ∀ y o, C10 y = some o → C9 y = some o ∧ y ≠ lk := fun y o e => ⟨by rw [hC9]; exact all y o e, nn C10 lk y _ hlk e⟩
    have nB : ∀ x, B3 x = none → A1 x = none := fun x e => fresh_back P3.s e
    refine ⟨_, R11.a, R11.s, ?_, ?_, upd_same, ⟨fun i => ?_, ?_⟩⟩
    · rw [upd_ne (fun z : ld = lk => by rw [← z, upd_ne lldne, upd_same] at alk; cases alk), upd_ne lldne]
      exact upd_same
    · rw [upd_ne (fun z : ll = lk => by rw [← z, upd_same] at alk; cases alk)]
      exact upd_same
    · cases i
      · refine ⟨E1, (g _ _ d7l0).1, (g _ _ d7k).1, (g _ _ d7q).1, List.nodup_append.mpr ⟨E1.nd, ?_, fun x hx y hy z => ?_⟩, fun x hx => ?_, List.nodup_nil⟩
        · show [l0, k0, q0].Nodup
          simp only [List.nodup_cons, List.mem_cons, List.not_mem_nil, or_false, not_or, not_false_eq_true, List.nodup_nil, and_true]
          exact ⟨⟨n0k, n0q⟩, Ne.symm nkq0⟩
        · have hy : y ∈ [l0, k0, q0] := hy
          simp only [List.mem_cons, List.not_mem_nil, or_false] at hy
          refine live0 x hx ?_
          rw [z]
          rcases hy with rfl | rfl | rfl <;> assumption
        · have hx : x ∈ [l0, k0, q0] := hx
          simp only [List.mem_cons, List.not_mem_nil, or_false] at hx
          rcases hx with rfl | rfl | rfl
          · exact na11 _ (nB _ b0) (Ne.symm y1) y3 (g _ _ d7l0).2
          · exact na11 _ (nB _ b2) (Ne.symm y5) (Ne.symm y7) (g _ _ d7k).2
          · exact na11 _ (nB _ b3) (Ne.symm y6) (Ne.symm y8) (g _ _ d7q).2
      · refine ⟨E2, (g _ _ d7l1).1, (g _ _ d7k1).1, (g _ _ d7q1).1, List.nodup_append.mpr ⟨E2.nd, ?_, fun x hx y hy z => ?_⟩, fun x hx => ?_, List.nodup_nil⟩
        · show [l1, k1, q1].Nodup
          simp only [List.nodup_cons, List.mem_cons, List.not_mem_nil, or_false, not_or, not_false_eq_true, List.nodup_nil, and_true]
          exact ⟨⟨m4, m5⟩, Ne.symm nkq1⟩
        · have hy : y ∈ [l1, k1, q1] := hy
          simp only [List.mem_cons, List.not_mem_nil, or_false] at hy
          refine live1 x hx ?_
          rw [z]
          rcases hy with rfl | rfl | rfl <;> assumption
        · have hx : x ∈ [l1, k1, q1] := hx
          simp only [List.mem_cons, List.not_mem_nil, or_false] at hx
          rcases hx with rfl | rfl | rfl
          · exact na11 _ (nB _ b1) (Ne.symm y2) y4 (g _ _ d7l1).2
          · exact na11 _ (nB _ b4) (Ne.symm y9) (Ne.symm y11) (g _ _ d7k1).2
          · exact na11 _ (nB _ b5) (Ne.symm y10) (Ne.symm y12) (g _ _ d7q1).2
    · intro x hx hy
      have hx : x ∈ p0.foot ++ [l0, k0, q0] := hx
      have hy : x ∈ p1.foot ++ [l1, k1, q1] := hy
      have f3' : ∀ y ∈ p1.foot, B2 y = none := f3
      have live2 : ∀ y ∈ p0.foot, B2 y ≠ none := fun y hy => by
        simp only [DP.foot, List.mem_cons, List.not_mem_nil, or_false] at hy
        obtain ⟨kv0, e0, _⟩ := D2.im
        rcases hy with rfl | rfl | rfl | rfl | rfl
        · rw [D2.ia]; simp
        · rw [D2.ik]; simp
        · rw [e0]; simp
        · rw [D2.id]; simp
        · rw [D2.ir]; simp
      rcases List.mem_append.mp hx with hx | hx <;> rcases List.mem_append.mp hy with hy | hy
      · exact live2 x hx (f3' x hy)
      · simp only [List.mem_cons, List.not_mem_nil, or_false] at hy
        refine live0 x hx ?_
        rcases hy with rfl | rfl | rfl <;> assumption
      · simp only [List.mem_cons, List.not_mem_nil, or_false] at hx
        refine live1 x hy ?_
        rcases hx with rfl | rfl | rfl <;> assumption
      · simp only [List.mem_cons, List.not_mem_nil, or_false] at hx hy
        have q1' : l0 ≠ l1 ∧ l0 ≠ k1 ∧ l0 ≠ q1 := ⟨m1, m2, m3⟩
        have q2' : k0 ≠ l1 ∧ k0 ≠ k1 ∧ k0 ≠ q1 := ⟨Ne.symm n1k, m6, m7⟩
        have q3' : q0 ≠ l1 ∧ q0 ≠ k1 ∧ q0 ≠ q1 := ⟨Ne.symm n1q, m8, m9⟩
        have fin : ∀ u : Addr, u ≠ l1 ∧ u ≠ k1 ∧ u ≠ q1 → x = u → False := fun u h e => by
          rw [e] at hy
          exact hy.elim h.1 fun z => z.elim h.2.1 h.2.2
        exact hx.elim (fin _ q1') fun z => z.elim (fin _ q2') (fin _ q3')
  obtain ⟨A9, ea9, es9, hld9, hll9, hlk9, T9⟩ := start _ rfl
  generalize upd (upd (upd (upd (upd (upd (upd (upd (upd (upd (upd B3 ld (.lst [.ref p0.a, .ref p1.a])) l0 (.lst [])) l1 (.lst [])) ll (.lst [.ref l0, .ref l1])) k0 (.dK [])) q0 (.lst [])) k0 (.dK [(.inr "told", .ref q0)])) k1 (.dK [])) q1 (.lst [])) k1 (.dK [(.inr "told", .ref q1)])) lk (.lst [.ref k0, .ref k1]) = C9 at es9 T9 ⊢
  have hs9 : Dp K A9 (.ref a) (.list (ns.map .int)) := dp_ex ea9 (dp_ex P1.a h1)
  have hh9 : Dp K A9 vh (.list [.int (hh false), .int (hh true)]) := dp_ex ea9 hvh
  -- what stays true
  let J : Nat → L2.St → Hp → Prop := fun n σ B => ∃ A' kq ms w5 w6 w7, σ = [some (.ref a), some vh, some (.ref ld), some (.ref ll), some (.ref lk), w5, w6, w7] ∧ Ex A9 A' ∧ Ex A' B ∧ Two K c.Desk A' B p lm kd kq hh ms ∧ ∀ i, (ms i).length ≤ n
  have j9 : J 0 [some (.ref a), some vh, some (.ref ld), some (.ref ll), some (.ref lk), none, none, none] C9 := ⟨A9, _, _, none, none, none, rfl, Ex.refl _, es9, T9, fun _ => Nat.le_refl _⟩
  -- the arguments
  have ev0 : ∀ (σ : L2.St) (B : Hp) (ti : TE) (i : Int), σ[1]? = some (some vh) → σ[2]? = some (some (.ref ld)) → σ[3]? = some (some (.ref ll)) → σ[4]? = some (some (.ref lk)) → Ex A9 B → EvD K ti σ B (.int (i % 2)) →
      Ev (tOp (rIxL K) (tVar 2) ti) σ B (.ref (p (odd i)).a) ∧ Ev (tOp (rIxL K) (tVar 1) ti) σ B (.int (hh (odd i))) ∧ Ev (tOp (rIxL K) (tVar 3) ti) σ B (.ref (lm (odd i))) ∧ Ev (tOp (rIxL K) (tVar 4) ti) σ B (.ref (kd (odd i))) := fun σ B ti i g1 g2 g3 g4 e ht =>
    ⟨ev_ixL (ev_var g2) (sq_of (e _ _ hld9)) ht (at_odd (fun i => V.ref (p i).a) i), v_int (K := K) (ed_ixL (ed_var g1 (dp_ex e hh9)) ht (at_odd (fun i => PyData.int (hh i)) i)),
      ev_ixL (ev_var g3) (sq_of (e _ _ hll9)) ht (at_odd (fun i => V.ref (lm i)) i), ev_ixL (ev_var g4) (sq_of (e _ _ hlk9)) ht (at_odd (fun i => V.ref (kd i)) i)⟩
  -- a letter is met
  have met : ∀ (n : Nat) (A' B : Hp) (kq : Bool → Addr) (ms : Bool → List Int) (i : Bool) (l : Int) (Q : VK), n ≤ 200 → Ex A9 A' → Ex A' B → Two K c.Desk A' B p lm kd kq hh ms → (∀ i, (ms i).length ≤ n) →
      (∀ A'' kq' ms' B'', Ex A' A'' → Ex A'' B'' → Two K c.Desk A'' B'' p lm kd kq' hh ms' → (∀ i, (ms' i).length ≤ n + 1) → Q (.bl true) B'') → sp_met K c.Desk [.ref (p i).a, .int (hh i), .ref (lm i), .int l] B Q E0 := fun n A' B kq ms i l Q hn ea es T hl kk =>
    ⟨A', p i, lm i, kd i, kq i, hh i, ms i, l, rfl, es, T.one i, by have := hl i; omega, fun A'' B'' PM O => kk A'' _ _ B'' PM.a PM.s (T.upd i PM (.inl rfl) O) fun j => by
      unfold upB
      split
      · have := hl i; have := metMs_len (ms := ms i) (l := l); omega
      · have := hl j; omega⟩
  have waits : ∀ (n : Nat) (A' B : Hp) (kq : Bool → Addr) (ms : Bool → List Int) (i : Bool) (Q : VK), n ≤ 200 → Ex A9 A' → Ex A' B → Two K c.Desk A' B p lm kd kq hh ms → (∀ i, (ms i).length ≤ n) →
      (∀ A'' kq' ms' B'', Ex A' A'' → Ex A'' B'' → Two K c.Desk A'' B'' p lm kd kq' hh ms' → (∀ i, (ms' i).length ≤ n) → Q (.bl true) B'') → sp_waits K c.Desk [.ref (p i).a, .int (hh i), .ref (lm i), .ref (kd i)] B Q E0 := fun n A' B kq ms i Q hn ea es T hl kk =>
    ⟨A', p i, lm i, kd i, kq i, hh i, ms i, rfl, es, T.one i, by have := hl i; omega, fun kq' A'' B'' PM hq O => kk A'' _ _ B'' PM.a PM.s (T.upd i PM (.inr hq) O) fun j => by
      unfold upB
      split
      · exact hl i
      · exact hl j⟩
  refine q_do ?_
  generalize hK : go (_ : Ends) (_ : TS) = KK
  have rest : ∀ n σ' B', n ≤ 60 → J n σ' B' → KK.nx σ' B' := by
    rintro n σ' B' hn ⟨A', kq, ms, w5, w6, w7, rfl, ea, es, T', hl⟩
    rw [← hK]
    refine go_nx ?_
    have hs' : Dp K A' (.ref a) (.list (ns.map .int)) := dp_ex ea hs9
    refine q_do (s_forNM K es (en_slice (ed_var rfl hs') (eo_someD ed_int) eo_noneD) fun q xs A2 B2 hq P nq bq hxs => ?_)
    rw [cutL_map] at hxs
    have hcl : (cutL ns (some 1) none).length ≤ 63 := Nat.le_trans (cutL_len _ _ _) hlen
    generalize cutL ns (some 1) none = cs at hxs hcl
    obtain rfl := dpa_ints_inv hxs
    have P2 := P.frz hq nq bq
    have T2 := T'.pr P2
    have ea2 : Ex A9 (upd A2 q (.lst (cs.map V.int))) := ea.trans P2.a
    refine ⟨fun t σ B => ∃ A'' kq ms w5 w6 w7, σ = [some (.ref a), some vh, some (.ref ld), some (.ref ll), some (.ref lk), w5, w6, w7] ∧ Ex (upd A2 q (.lst (cs.map V.int))) A'' ∧ Ex A'' B ∧ Two K c.Desk A'' B p lm kd kq hh ms ∧ ∀ i, (ms i).length ≤ n + t, ⟨_, kq, ms, w5, w6, w7, rfl, Ex.refl _, P2.s, T2, hl⟩, ?_, ?_, ?_⟩
    · rintro t σ B ⟨A'', _, _, _, _, _, _, e1, e2, _⟩
      exact sq_of ((e1.trans e2) _ _ upd_same)
    · rintro t x σ B hx ⟨A3, kq3, ms3, v5, v6, v7, rfl, e1, e2, T3, hl3⟩
      have ht : t < 63 := by
        have := (List.getElem?_eq_some_iff.mp hx).1
        rw [List.length_map] at this
        omega
      rw [List.getElem?_map] at hx
      obtain ⟨y, hy, rfl⟩ := Option.map_eq_some_iff.mp hx
      have e9 : Ex A9 A3 := ea2.trans e1
      refine q_asgV (v_int (K := K) (ed_ixL (ds := [.int (y / 4 % 9), .int (y / 4 % 10 ^ (9 : Int).toNat)]) (by tm_at "ed") (by tm_at "ed") (at_odd (fun i => PyData.int (if i = true then y / 4 % 10 ^ (9 : Int).toNat else y / 4 % 9)) (y / 2)))) fun B4 e4 => ?_
      generalize (if odd (y / 2) = true then y / 4 % 10 ^ (9 : Int).toNat else y / 4 % 9) = l
      have T4 := T3.pr (Pr.up e2 e4)
      rw [un_ifcall]
      obtain ⟨a1, a2, a3, a4⟩ := ev0 [some (.ref a), some vh, some (.ref ld), some (.ref ll), some (.ref lk), v5, some (.int y), some (.int l)] B4 (tOp (rI (fun x j => 0 < j) fun i j => V.int (i % j)) (tVar 6) (tC (V.int 2))) y rfl rfl rfl rfl (e9.trans (e2.trans e4)) (ed_Ic (ed_var rfl (.int y)) ed_int (by decide))
      refine c_callV (ea_cons a1 (ea_cons a2 (ea_cons a3 (ea_cons (ev_var rfl) ea_nil)))) fun B5 e5 => met (n + t) A3 B5 kq3 ms3 (odd y) l _ (by omega) e9 ((e2.trans e4).trans e5) (T4.pr (Pr.up (e2.trans e4) e5)) hl3 fun A6 kq6 ms6 B6 e6 s6 T6 hl6 => ⟨true, rfl, iteF (q_next ?_)⟩
      rw [un_ifcall1]
      obtain ⟨a1, a2, a3, a4⟩ := ev0 [some (.ref a), some vh, some (.ref ld), some (.ref ll), some (.ref lk), v5, some (.int y), some (.int l)] B6 (tOp (rI (fun x j => 0 < j) fun i j => V.int (i % j)) (tVar 6) (tC (V.int 2))) y rfl rfl rfl rfl ((e9.trans e6).trans s6) (ed_Ic (ed_var rfl (.int y)) ed_int (by decide))
      refine c_callV (ea_cons a1 (ea_cons a2 (ea_cons a3 (ea_cons a4 ea_nil)))) fun B7 e7 => waits (n + t + 1) A6 B7 kq6 ms6 (odd y) _ (by omega) (e9.trans e6) (s6.trans e7) (T6.pr (Pr.up s6 e7)) hl6 fun A8 kq8 ms8 B8 e8 s8 T8 hl8 => ⟨true, rfl, iteF ?_⟩
      exact ⟨A8, kq8, ms8, _, _, _, rfl, (e1.trans e6).trans e8, s8, T8, hl8⟩
    · rintro σ B ⟨A3, kq3, ms3, v5, v6, v7, rfl, e1, e2, T3, hl3⟩
      rw [List.length_map] at hl3
      refine go_nx ?_
      have e9 : Ex A9 A3 := ea2.trans e1
      rw [un_ifcall]
      obtain ⟨a1, a2, a3, a4⟩ := ev0 [some (.ref a), some vh, some (.ref ld), some (.ref ll), some (.ref lk), v5, v6, v7] B (tC (V.int 0)) 0 rfl rfl rfl rfl (e9.trans e2) ed_int
      refine c_callV (ea_cons a1 (ea_cons a2 (ea_cons a3 (ea_cons a4 ea_nil)))) fun B5 e5 => waits (n + cs.length) A3 B5 kq3 ms3 (odd 0) _ (by omega) e9 (e2.trans e5) (T3.pr (Pr.up e2 e5)) hl3 fun A6 kq6 ms6 B6 e6 s6 T6 hl6 => ⟨true, rfl, iteF (q_next ?_)⟩
      obtain ⟨a1, a2, a3, a4⟩ := ev0 [some (.ref a), some vh, some (.ref ld), some (.ref ll), some (.ref lk), v5, v6, v7] B6 (tC (V.int 1)) 1 rfl rfl rfl rfl ((e9.trans e6).trans s6) ed_int
      exact c_callV (ea_cons a1 (ea_cons a2 (ea_cons a3 (ea_cons a4 ea_nil)))) fun B7 e7 => waits (n + cs.length) A6 B7 kq6 ms6 (odd 1) _ (by omega) (e9.trans e6) (s6.trans e7) (T6.pr (Pr.up s6 e7)) hl6 fun A8 kq8 ms8 B8 e8 s8 T8 hl8 => k _
  refine s_ifM K (b := cell ns 0 % 3 == 0) (by tm_at "et") rfl (fun hb B2 e2 => ?_) (fun hb B2 e2 => rest 0 _ B2 (by decide) ?_)
  · refine s_forRM K ed_int (by decide) J (fun B' e => ?_) ?_ (fun σ' B' h => rest 60 σ' B' (by decide) h)
    · exact ⟨A9, _, _, none, none, none, rfl, Ex.refl _, (es9.trans e2).trans e, T9.pr (Pr.up es9 (e2.trans e)), fun _ => Nat.le_refl _⟩
    · rintro i σ' B' hi ⟨A3, kq3, ms3, v5, v6, v7, rfl, e1, es3, T3, hl3⟩
      rw [un_ifcall1]
      obtain ⟨a1, a2, a3, a4⟩ := ev0 [some (.ref a), some vh, some (.ref ld), some (.ref ll), some (.ref lk), some (.int (i : Int)), v6, v7] B' (tOp (rI (fun x j => 0 < j) fun i j => V.int (i % j)) (tVar 5) (tC (V.int 2))) (i : Int) rfl rfl rfl rfl (e1.trans es3) (ed_Ic (ed_var rfl (.int _)) ed_int (by decide))
      refine c_callV (ea_cons a1 (ea_cons a2 (ea_cons a3 (ea_cons (v_int (K := K) (i := (10 : Int) ^ (9 : Int).toNat + (i : Int) * (i : Int)) (ed_Ii (ed_Ic ed_int ed_int ⟨by decide, by decide, by decide⟩) (ed_Ic (ed_var rfl (.int _)) (ed_var rfl (.int _)) (.inl ⟨by omega, by omega⟩)))) ea_nil)))) fun B5 e5 => met i A3 B5 kq3 ms3 (odd (i : Int)) _ _ (by omega) e1 (es3.trans e5) (T3.pr (Pr.up es3 e5)) hl3 fun A6 kq6 ms6 B6 e6 s6 T6 hl6 => ⟨true, rfl, iteF ?_⟩
      exact ⟨A6, kq6, ms6, _, _, _, rfl, e1.trans e6, s6, T6, hl6⟩
  · exact ⟨A9, _, _, none, none, none, rfl, Ex.refl _, es9.trans e2, T9.pr (Pr.up es9 e2), fun _ => Nat.le_refl _⟩
end

end K2

namespace K2
open PySem L2 Evl Ob
theorem all_mk {l : PySem.W.OpenLaw} {w : World} {K : PySem.W.Frag} {h : Heap} {mg : Str → Option Value} {fa : Addr} (X : K.In h) (G : h.Ns mainGlobals mg) (hfa : mg "law" = some (.ref fa))
    {f0 : Addr} {od0 an0 : Option Addr} {sl0 : Array (Option Value)} {oc0 kV0 dc0 pm0 cd0 ct0 : Value}
    {f1 : Addr} {od1 an1 : Option Addr} {sl1 : Array (Option Value)} {oc1 kV1 dc1 pm1 cd1 ct1 : Value}
    {f2 : Addr} {od2 an2 : Option Addr} {sl2 : Array (Option Value)} {oc2 kV2 dc2 pm2 cd2 ct2 : Value}
    {f3 : Addr} {od3 an3 : Option Addr} {sl3 : Array (Option Value)} {oc3 kV3 dc3 pm3 cd3 ct3 : Value}
    {f4 : Addr} {od4 an4 : Option Addr} {sl4 : Array (Option Value)} {oc4 kV4 dc4 pm4 cd4 ct4 : Value}
    {f5 : Addr} {od5 an5 : Option Addr} {sl5 : Array (Option Value)} {oc5 kV5 dc5 pm5 cd5 ct5 : Value}
    {f6 : Addr} {od6 an6 : Option Addr} {sl6 : Array (Option Value)} {oc6 kV6 dc6 pm6 cd6 ct6 : Value}
    {f7 : Addr} {od7 an7 : Option Addr} {sl7 : Array (Option Value)} {oc7 kV7 dc7 pm7 cd7 ct7 : Value}
    {f8 : Addr} {od8 an8 : Option Addr} {sl8 : Array (Option Value)} {oc8 kV8 dc8 pm8 cd8 ct8 : Value}
    {C_BellError : Addr}
    {C_BadCount : Addr}
    {C_NoHand : Addr}
    {C_NoLetter : Addr}
    {C_NoMail : Addr}
    {C_Twice : Addr}
    {C_NotOpen : Addr}
    {C_BadMark : Addr}
    {C_NoNote : Addr}
    {C_Desk : Addr}
    {f_Desk___init__ : Addr} {od_Desk___init__ an_Desk___init__ : Option Addr} {sl_Desk___init__ : Array (Option Value)} {oc_Desk___init__ kV_Desk___init__ dc_Desk___init__ pm_Desk___init__ cd_Desk___init__ ct_Desk___init__ : Value}
    {f_Desk_clock : Addr} {od_Desk_clock an_Desk_clock : Option Addr} {sl_Desk_clock : Array (Option Value)} {oc_Desk_clock kV_Desk_clock dc_Desk_clock pm_Desk_clock cd_Desk_clock ct_Desk_clock : Value}
    {f_Desk_propose : Addr} {od_Desk_propose an_Desk_propose : Option Addr} {sl_Desk_propose : Array (Option Value)} {oc_Desk_propose kV_Desk_propose dc_Desk_propose pm_Desk_propose cd_Desk_propose ct_Desk_propose : Value}
    {f_Desk_waiting : Addr} {od_Desk_waiting an_Desk_waiting : Option Addr} {sl_Desk_waiting : Array (Option Value)} {oc_Desk_waiting kV_Desk_waiting dc_Desk_waiting pm_Desk_waiting cd_Desk_waiting ct_Desk_waiting : Value}
    {f_Desk_handed : Addr} {od_Desk_handed an_Desk_handed : Option Addr} {sl_Desk_handed : Array (Option Value)} {oc_Desk_handed kV_Desk_handed dc_Desk_handed pm_Desk_handed cd_Desk_handed ct_Desk_handed : Value}
    (a0 : PySem.W.nsIn K mainGlobals "less" = some (some (.ref f0))) (l0 : K.lookup f0 = some ⟨oc0, od0, .func (PySem.W.fnOf "less" "less" (defArgs s_less) (defBody s_less) (defScope s_less) .none kV0 dc0 pm0 an0 cd0 ct0), sl0⟩) (c0 : PySem.W.codeIn K cd0 "less" = true) (k0 : PySem.W.keepIn K (.ref f0) = true)
    (a1 : PySem.W.nsIn K mainGlobals "_law_whole" = some (some (.ref f1))) (l1 : K.lookup f1 = some ⟨oc1, od1, .func (PySem.W.fnOf "_law_whole" "_law_whole" (defArgs s_law_whole) (defBody s_law_whole) (defScope s_law_whole) .none kV1 dc1 pm1 an1 cd1 ct1), sl1⟩) (c1 : PySem.W.codeIn K cd1 "_law_whole" = true) (k1 : PySem.W.keepIn K (.ref f1) = true)
    (a2 : PySem.W.nsIn K mainGlobals "_law_cell_at" = some (some (.ref f2))) (l2 : K.lookup f2 = some ⟨oc2, od2, .func (PySem.W.fnOf "_law_cell_at" "_law_cell_at" (defArgs s_law_cell_at) (defBody s_law_cell_at) (defScope s_law_cell_at) .none kV2 dc2 pm2 an2 cd2 ct2), sl2⟩) (c2 : PySem.W.codeIn K cd2 "_law_cell_at" = true) (k2 : PySem.W.keepIn K (.ref f2) = true)
    (a3 : PySem.W.nsIn K mainGlobals "_law_mark" = some (some (.ref f3))) (l3 : K.lookup f3 = some ⟨oc3, od3, .func (PySem.W.fnOf "_law_mark" "_law_mark" (defArgs s_law_mark) (defBody s_law_mark) (defScope s_law_mark) .none kV3 dc3 pm3 an3 cd3 ct3), sl3⟩) (c3 : PySem.W.codeIn K cd3 "_law_mark" = true) (k3 : PySem.W.keepIn K (.ref f3) = true)
    (a4 : PySem.W.nsIn K mainGlobals "_law_only" = some (some (.ref f4))) (l4 : K.lookup f4 = some ⟨oc4, od4, .func (PySem.W.fnOf "_law_only" "_law_only" (defArgs s_law_only) (defBody s_law_only) (defScope s_law_only) .none kV4 dc4 pm4 an4 cd4 ct4), sl4⟩) (c4 : PySem.W.codeIn K cd4 "_law_only" = true) (k4 : PySem.W.keepIn K (.ref f4) = true)
    (a5 : PySem.W.nsIn K mainGlobals "_law_told" = some (some (.ref f5))) (l5 : K.lookup f5 = some ⟨oc5, od5, .func (PySem.W.fnOf "_law_told" "_law_told" (defArgs s_law_told) (defBody s_law_told) (defScope s_law_told) .none kV5 dc5 pm5 an5 cd5 ct5), sl5⟩) (c5 : PySem.W.codeIn K cd5 "_law_told" = true) (k5 : PySem.W.keepIn K (.ref f5) = true)
    (a6 : PySem.W.nsIn K mainGlobals "_law_met" = some (some (.ref f6))) (l6 : K.lookup f6 = some ⟨oc6, od6, .func (PySem.W.fnOf "_law_met" "_law_met" (defArgs s_law_met) (defBody s_law_met) (defScope s_law_met) .none kV6 dc6 pm6 an6 cd6 ct6), sl6⟩) (c6 : PySem.W.codeIn K cd6 "_law_met" = true) (k6 : PySem.W.keepIn K (.ref f6) = true)
    (a7 : PySem.W.nsIn K mainGlobals "_law_waits" = some (some (.ref f7))) (l7 : K.lookup f7 = some ⟨oc7, od7, .func (PySem.W.fnOf "_law_waits" "_law_waits" (defArgs s_law_waits) (defBody s_law_waits) (defScope s_law_waits) .none kV7 dc7 pm7 an7 cd7 ct7), sl7⟩) (c7 : PySem.W.codeIn K cd7 "_law_waits" = true) (k7 : PySem.W.keepIn K (.ref f7) = true)
    (a8 : PySem.W.nsIn K mainGlobals "law" = some (some (.ref f8))) (l8 : K.lookup f8 = some ⟨oc8, od8, .func (PySem.W.fnOf "law" "law" (defArgs s_law) (defBody s_law) (defScope s_law) .none kV8 dc8 pm8 an8 cd8 ct8), sl8⟩) (c8 : PySem.W.codeIn K cd8 "law" = true) (k8 : PySem.W.keepIn K (.ref f8) = true)
    (g_BellError : PySem.W.nsIn K mainGlobals "BellError" = some (some (.ref C_BellError))) (e_BellError : PySem.W.keepIn K (.ref C_BellError) = true)
    (x_BellError : PySem.W.excIn K C_BellError [.type "ValueError", .type "Exception", .type "BaseException", .type "object"] "ValueError.__new__" = true) (s_BellError : PySem.W.subIn K (.ref C_BellError) (.type "BaseException") = some true) (t_BellError : PySem.W.typeIn K (.ref C_BellError) = some (.type "type"))
    (g_BadCount : PySem.W.nsIn K mainGlobals "BadCount" = some (some (.ref C_BadCount))) (e_BadCount : PySem.W.keepIn K (.ref C_BadCount) = true)
    (x_BadCount : PySem.W.excIn K C_BadCount [.type "ValueError", .type "Exception", .type "BaseException", .type "object"] "ValueError.__new__" = true) (s_BadCount : PySem.W.subIn K (.ref C_BadCount) (.type "BaseException") = some true) (t_BadCount : PySem.W.typeIn K (.ref C_BadCount) = some (.type "type"))
    (g_NoHand : PySem.W.nsIn K mainGlobals "NoHand" = some (some (.ref C_NoHand))) (e_NoHand : PySem.W.keepIn K (.ref C_NoHand) = true)
    (x_NoHand : PySem.W.excIn K C_NoHand [.type "ValueError", .type "Exception", .type "BaseException", .type "object"] "ValueError.__new__" = true) (s_NoHand : PySem.W.subIn K (.ref C_NoHand) (.type "BaseException") = some true) (t_NoHand : PySem.W.typeIn K (.ref C_NoHand) = some (.type "type"))
    (g_NoLetter : PySem.W.nsIn K mainGlobals "NoLetter" = some (some (.ref C_NoLetter))) (e_NoLetter : PySem.W.keepIn K (.ref C_NoLetter) = true)
    (x_NoLetter : PySem.W.excIn K C_NoLetter [.type "ValueError", .type "Exception", .type "BaseException", .type "object"] "ValueError.__new__" = true) (s_NoLetter : PySem.W.subIn K (.ref C_NoLetter) (.type "BaseException") = some true) (t_NoLetter : PySem.W.typeIn K (.ref C_NoLetter) = some (.type "type"))
    (g_NoMail : PySem.W.nsIn K mainGlobals "NoMail" = some (some (.ref C_NoMail))) (e_NoMail : PySem.W.keepIn K (.ref C_NoMail) = true)
    (x_NoMail : PySem.W.excIn K C_NoMail [.type "ValueError", .type "Exception", .type "BaseException", .type "object"] "ValueError.__new__" = true) (s_NoMail : PySem.W.subIn K (.ref C_NoMail) (.type "BaseException") = some true) (t_NoMail : PySem.W.typeIn K (.ref C_NoMail) = some (.type "type"))
    (g_Twice : PySem.W.nsIn K mainGlobals "Twice" = some (some (.ref C_Twice))) (e_Twice : PySem.W.keepIn K (.ref C_Twice) = true)
    (x_Twice : PySem.W.excIn K C_Twice [.type "ValueError", .type "Exception", .type "BaseException", .type "object"] "ValueError.__new__" = true) (s_Twice : PySem.W.subIn K (.ref C_Twice) (.type "BaseException") = some true) (t_Twice : PySem.W.typeIn K (.ref C_Twice) = some (.type "type"))
    (g_NotOpen : PySem.W.nsIn K mainGlobals "NotOpen" = some (some (.ref C_NotOpen))) (e_NotOpen : PySem.W.keepIn K (.ref C_NotOpen) = true)
    (x_NotOpen : PySem.W.excIn K C_NotOpen [.type "ValueError", .type "Exception", .type "BaseException", .type "object"] "ValueError.__new__" = true) (s_NotOpen : PySem.W.subIn K (.ref C_NotOpen) (.type "BaseException") = some true) (t_NotOpen : PySem.W.typeIn K (.ref C_NotOpen) = some (.type "type"))
    (g_BadMark : PySem.W.nsIn K mainGlobals "BadMark" = some (some (.ref C_BadMark))) (e_BadMark : PySem.W.keepIn K (.ref C_BadMark) = true)
    (x_BadMark : PySem.W.excIn K C_BadMark [.type "ValueError", .type "Exception", .type "BaseException", .type "object"] "ValueError.__new__" = true) (s_BadMark : PySem.W.subIn K (.ref C_BadMark) (.type "BaseException") = some true) (t_BadMark : PySem.W.typeIn K (.ref C_BadMark) = some (.type "type"))
    (g_NoNote : PySem.W.nsIn K mainGlobals "NoNote" = some (some (.ref C_NoNote))) (e_NoNote : PySem.W.keepIn K (.ref C_NoNote) = true)
    (x_NoNote : PySem.W.excIn K C_NoNote [.type "ValueError", .type "Exception", .type "BaseException", .type "object"] "ValueError.__new__" = true) (s_NoNote : PySem.W.subIn K (.ref C_NoNote) (.type "BaseException") = some true) (t_NoNote : PySem.W.typeIn K (.ref C_NoNote) = some (.type "type"))
    (g_Desk : PySem.W.nsIn K mainGlobals "Desk" = some (some (.ref C_Desk))) (e_Desk : PySem.W.keepIn K (.ref C_Desk) = true)
    (pg_Desk : PySem.W.plainGet K C_Desk Str.empty = true)
    (hd_Desk : PySem.W.hasDictIn K C_Desk = true)
    (po_Desk : PySem.W.plainOver K C_Desk = true)
    (sa_Desk : PySem.W.findIn K (.ref C_Desk) "__setattr__" = some (some (.builtin "object.__setattr__")))
    (a_Desk___init__ : PySem.W.findIn K (.ref C_Desk) "__init__" = some (some (.ref f_Desk___init__)))
    (l_Desk___init__ : K.lookup f_Desk___init__ = some ⟨oc_Desk___init__, od_Desk___init__, .func (PySem.W.fnOf "__init__" "Desk.__init__" (defArgs s_Desk___init__) (defBody s_Desk___init__) (defScope s_Desk___init__) .none kV_Desk___init__ dc_Desk___init__ pm_Desk___init__ an_Desk___init__ cd_Desk___init__ ct_Desk___init__), sl_Desk___init__⟩)
    (c_Desk___init__ : PySem.W.codeIn K cd_Desk___init__ "Desk.__init__" = true)
    (k_Desk___init__ : PySem.W.keepIn K (.ref f_Desk___init__) = true)
    (fn_Desk___init__ : PySem.W.isFn K (.ref f_Desk___init__) = true)
    (a_Desk_clock : PySem.W.findIn K (.ref C_Desk) "clock" = some (some (.ref f_Desk_clock)))
    (l_Desk_clock : K.lookup f_Desk_clock = some ⟨oc_Desk_clock, od_Desk_clock, .func (PySem.W.fnOf "clock" "Desk.clock" (defArgs s_Desk_clock) (defBody s_Desk_clock) (defScope s_Desk_clock) .none kV_Desk_clock dc_Desk_clock pm_Desk_clock an_Desk_clock cd_Desk_clock ct_Desk_clock), sl_Desk_clock⟩)
    (c_Desk_clock : PySem.W.codeIn K cd_Desk_clock "Desk.clock" = true)
    (k_Desk_clock : PySem.W.keepIn K (.ref f_Desk_clock) = true)
    (fn_Desk_clock : PySem.W.isFn K (.ref f_Desk_clock) = true)
    (a_Desk_propose : PySem.W.findIn K (.ref C_Desk) "propose" = some (some (.ref f_Desk_propose)))
    (l_Desk_propose : K.lookup f_Desk_propose = some ⟨oc_Desk_propose, od_Desk_propose, .func (PySem.W.fnOf "propose" "Desk.propose" (defArgs s_Desk_propose) (defBody s_Desk_propose) (defScope s_Desk_propose) .none kV_Desk_propose dc_Desk_propose pm_Desk_propose an_Desk_propose cd_Desk_propose ct_Desk_propose), sl_Desk_propose⟩)
    (c_Desk_propose : PySem.W.codeIn K cd_Desk_propose "Desk.propose" = true)
    (k_Desk_propose : PySem.W.keepIn K (.ref f_Desk_propose) = true)
    (fn_Desk_propose : PySem.W.isFn K (.ref f_Desk_propose) = true)
    (a_Desk_waiting : PySem.W.findIn K (.ref C_Desk) "waiting" = some (some (.ref f_Desk_waiting)))
    (l_Desk_waiting : K.lookup f_Desk_waiting = some ⟨oc_Desk_waiting, od_Desk_waiting, .func (PySem.W.fnOf "waiting" "Desk.waiting" (defArgs s_Desk_waiting) (defBody s_Desk_waiting) (defScope s_Desk_waiting) .none kV_Desk_waiting dc_Desk_waiting pm_Desk_waiting an_Desk_waiting cd_Desk_waiting ct_Desk_waiting), sl_Desk_waiting⟩)
    (c_Desk_waiting : PySem.W.codeIn K cd_Desk_waiting "Desk.waiting" = true)
    (k_Desk_waiting : PySem.W.keepIn K (.ref f_Desk_waiting) = true)
    (fn_Desk_waiting : PySem.W.isFn K (.ref f_Desk_waiting) = true)
    (a_Desk_handed : PySem.W.findIn K (.ref C_Desk) "handed" = some (some (.ref f_Desk_handed)))
    (l_Desk_handed : K.lookup f_Desk_handed = some ⟨oc_Desk_handed, od_Desk_handed, .func (PySem.W.fnOf "handed" "Desk.handed" (defArgs s_Desk_handed) (defBody s_Desk_handed) (defScope s_Desk_handed) .none kV_Desk_handed dc_Desk_handed pm_Desk_handed an_Desk_handed cd_Desk_handed ct_Desk_handed), sl_Desk_handed⟩)
    (c_Desk_handed : PySem.W.codeIn K cd_Desk_handed "Desk.handed" = true)
    (k_Desk_handed : PySem.W.keepIn K (.ref f_Desk_handed) = true)
    (fn_Desk_handed : PySem.W.isFn K (.ref f_Desk_handed) = true)
    (mk_Desk : PySem.W.makesIn K C_Desk = true)
    (na_Desk_hand : PySem.W.findIn K (.ref C_Desk) "hand" = some none)
    (na_Desk_time : PySem.W.findIn K (.ref C_Desk) "time" = some none)
    (na_Desk_known : PySem.W.findIn K (.ref C_Desk) "known" = some none)
    (na_Desk_marked : PySem.W.findIn K (.ref C_Desk) "marked" = some none)
    (na_Desk_done : PySem.W.findIn K (.ref C_Desk) "done" = some none)
    (na_Desk_row : PySem.W.findIn K (.ref C_Desk) "row" = some none)
    (i_hn : PySem.W.specialIn K (.builtin "object.__class__") "__get__" = some (some (.builtin "getset_descriptor.__get__")))
    (i_ht : PySem.W.takesIn K (.builtin "object.__class__") = some true)
    (hd_BellError : PySem.W.hasDictIn K C_BellError = true)
    (hd_BadCount : PySem.W.hasDictIn K C_BadCount = true)
    (hd_NoHand : PySem.W.hasDictIn K C_NoHand = true)
    (hd_NoLetter : PySem.W.hasDictIn K C_NoLetter = true)
    (hd_NoMail : PySem.W.hasDictIn K C_NoMail = true)
    (hd_Twice : PySem.W.hasDictIn K C_Twice = true)
    (hd_NotOpen : PySem.W.hasDictIn K C_NotOpen = true)
    (hd_BadMark : PySem.W.hasDictIn K C_BadMark = true)
    (hd_NoNote : PySem.W.hasDictIn K C_NoNote = true)
    (i_Twice_hg : PySem.W.findIn K (.ref C_Twice) "__getattribute__" = some (some (.builtin "BaseException.__getattribute__")))
    (i_Twice_hk : PySem.W.findIn K (.ref C_Twice) "__getattr__" = some none)
    (i_Twice_ha : PySem.W.findIn K (.ref C_Twice) "__class__" = some (some (.builtin "object.__class__")))
    (i_Twice_hm : PySem.W.mroIn K C_Twice (.type "object") = some true)
    (i_Twice_v : PySem.W.subIn K (.ref C_Twice) (.type "ValueError") = some true)
    (i_Twice_b : PySem.W.subIn K (.ref C_Twice) (.ref C_BellError) = some true)
    (i_Twice_BadCount : PySem.W.subIn K (.ref C_Twice) (.ref C_BadCount) = some false)
    (n_Twice_BadCount : (C_Twice == C_BadCount) = false)
    (i_Twice_NoHand : PySem.W.subIn K (.ref C_Twice) (.ref C_NoHand) = some false)
    (n_Twice_NoHand : (C_Twice == C_NoHand) = false)
    (i_Twice_NoLetter : PySem.W.subIn K (.ref C_Twice) (.ref C_NoLetter) = some false)
    (n_Twice_NoLetter : (C_Twice == C_NoLetter) = false)
    (i_Twice_NoMail : PySem.W.subIn K (.ref C_Twice) (.ref C_NoMail) = some false)
    (n_Twice_NoMail : (C_Twice == C_NoMail) = false)
    (i_Twice_NotOpen : PySem.W.subIn K (.ref C_Twice) (.ref C_NotOpen) = some false)
    (n_Twice_NotOpen : (C_Twice == C_NotOpen) = false)
    (i_Twice_BadMark : PySem.W.subIn K (.ref C_Twice) (.ref C_BadMark) = some false)
    (n_Twice_BadMark : (C_Twice == C_BadMark) = false)
    (i_Twice_NoNote : PySem.W.subIn K (.ref C_Twice) (.ref C_NoNote) = some false)
    (n_Twice_NoNote : (C_Twice == C_NoNote) = false)
    (z_list : PySem.W.nsIn K mainGlobals "list" = some none)
    (z_isinstance : PySem.W.nsIn K mainGlobals "isinstance" = some none)
    (z_int : PySem.W.nsIn K mainGlobals "int" = some none)
    (z_bool : PySem.W.nsIn K mainGlobals "bool" = some none)
    (z_len : PySem.W.nsIn K mainGlobals "len" = some none)
    (z_tuple : PySem.W.nsIn K mainGlobals "tuple" = some none)
    (z_ValueError : PySem.W.nsIn K mainGlobals "ValueError" = some none)
    (z_enumerate : PySem.W.nsIn K mainGlobals "enumerate" = some none)
    (z_range : PySem.W.nsIn K mainGlobals "range" = some none) :
    ∃ fd : FuncData, (∀ (s : Shared) (v : Value), BindsTo s fd ⟨[v], []⟩ [("_law_script", v)]) ∧ ∀ base : Heap, K.In base → base.Ns mainGlobals mg → FnOk l.prog w K mg base CX0 6 fa fd ["_law_script"] (sp_law K) := by
  have e := hfa.symm.trans (PySem.W.mg_of X G a8)
  cases e
  have F0 := fun_mk (st := s_less) l0 c0 k0
  have b0 := F0.binds (ps := ["one", "other"]) fun _ _ _ _ _ _ us hl => match us, hl with | [_, _], _ => rfl
  have F1 := fun_mk (st := s_law_whole) l1 c1 k1
  have b1 := F1.binds (ps := ["_law_found"]) fun _ _ _ _ _ _ us hl => match us, hl with | [_], _ => rfl
  have F2 := fun_mk (st := s_law_cell_at) l2 c2 k2
  have b2 := F2.binds (ps := ["_law_script", "_law_k"]) fun _ _ _ _ _ _ us hl => match us, hl with | [_, _], _ => rfl
  have F3 := fun_mk (st := s_law_mark) l3 c3 k3
  have b3 := F3.binds (ps := ["_law_found"]) fun _ _ _ _ _ _ us hl => match us, hl with | [_], _ => rfl
  have F4 := fun_mk (st := s_law_only) l4 c4 k4
  have b4 := F4.binds (ps := ["_law_error", "_law_word"]) fun _ _ _ _ _ _ us hl => match us, hl with | [_, _], _ => rfl
  have F5 := fun_mk (st := s_law_told) l5 c5 k5
  have b5 := F5.binds (ps := ["_law_desk", "_law_letter"]) fun _ _ _ _ _ _ us hl => match us, hl with | [_, _], _ => rfl
  have F6 := fun_mk (st := s_law_met) l6 c6 k6
  have b6 := F6.binds (ps := ["_law_desk", "_law_hand", "_law_met_here", "_law_letter"]) fun _ _ _ _ _ _ us hl => match us, hl with | [_, _, _, _], _ => rfl
  have F7 := fun_mk (st := s_law_waits) l7 c7 k7
  have b7 := F7.binds (ps := ["_law_desk", "_law_hand", "_law_met_here", "_law_kept"]) fun _ _ _ _ _ _ us hl => match us, hl with | [_, _, _, _], _ => rfl
  have F8 := fun_mk (st := s_law) l8 c8 k8
  have F_Desk___init__ := fun_mk (st := s_Desk___init__) l_Desk___init__ c_Desk___init__ k_Desk___init__
  have b_Desk___init__ := F_Desk___init__.binds (ps := ["self", "hand"]) fun _ _ _ _ _ _ us hl => match us, hl with | [_, _], _ => rfl
  have F_Desk_clock := fun_mk (st := s_Desk_clock) l_Desk_clock c_Desk_clock k_Desk_clock
  have b_Desk_clock := F_Desk_clock.binds (ps := ["self"]) fun _ _ _ _ _ _ us hl => match us, hl with | [_], _ => rfl
  have F_Desk_propose := fun_mk (st := s_Desk_propose) l_Desk_propose c_Desk_propose k_Desk_propose
  have b_Desk_propose := F_Desk_propose.binds (ps := ["self", "letter"]) fun _ _ _ _ _ _ us hl => match us, hl with | [_, _], _ => rfl
  have F_Desk_waiting := fun_mk (st := s_Desk_waiting) l_Desk_waiting c_Desk_waiting k_Desk_waiting
  have b_Desk_waiting := F_Desk_waiting.binds (ps := ["self"]) fun _ _ _ _ _ _ us hl => match us, hl with | [_], _ => rfl
  have F_Desk_handed := fun_mk (st := s_Desk_handed) l_Desk_handed c_Desk_handed k_Desk_handed
  have b_Desk_handed := F_Desk_handed.binds (ps := ["self"]) fun _ _ _ _ _ _ us hl => match us, hl with | [_], _ => rfl
  have T : Tx K mg ⟨C_BellError, C_BadCount, C_NoHand, C_NoLetter, C_NoMail, C_Twice, C_NotOpen, C_BadMark, C_NoNote, C_Desk⟩ := ⟨⟨PySem.W.mg_of X G g_BellError, e_BellError, x_BellError, s_BellError, t_BellError⟩, ⟨PySem.W.mg_of X G g_BadCount, e_BadCount, x_BadCount, s_BadCount, t_BadCount⟩, ⟨PySem.W.mg_of X G g_NoHand, e_NoHand, x_NoHand, s_NoHand, t_NoHand⟩, ⟨PySem.W.mg_of X G g_NoLetter, e_NoLetter, x_NoLetter, s_NoLetter, t_NoLetter⟩, ⟨PySem.W.mg_of X G g_NoMail, e_NoMail, x_NoMail, s_NoMail, t_NoMail⟩, ⟨PySem.W.mg_of X G g_Twice, e_Twice, x_Twice, s_Twice, t_Twice⟩, ⟨PySem.W.mg_of X G g_NotOpen, e_NotOpen, x_NotOpen, s_NotOpen, t_NotOpen⟩, ⟨PySem.W.mg_of X G g_BadMark, e_BadMark, x_BadMark, s_BadMark, t_BadMark⟩, ⟨PySem.W.mg_of X G g_NoNote, e_NoNote, x_NoNote, s_NoNote, t_NoNote⟩, ⟨⟨i_Twice_hg, i_Twice_hk, s_Twice, hd_Twice, i_Twice_ha, i_hn, i_ht, i_Twice_hm⟩, kitV i_Twice_v, PySem.W.exm_ref s_BellError hd_BellError t_BellError i_Twice_b, kitF hd_BadCount t_BadCount i_Twice_BadCount (kitN n_Twice_BadCount), kitF hd_NoHand t_NoHand i_Twice_NoHand (kitN n_Twice_NoHand), kitF hd_NoLetter t_NoLetter i_Twice_NoLetter (kitN n_Twice_NoLetter), kitF hd_NoMail t_NoMail i_Twice_NoMail (kitN n_Twice_NoMail), kitR, kitF hd_NotOpen t_NotOpen i_Twice_NotOpen (kitN n_Twice_NotOpen), kitF hd_BadMark t_BadMark i_Twice_BadMark (kitN n_Twice_BadMark), kitF hd_NoNote t_NoNote i_Twice_NoNote (kitN n_Twice_NoNote)⟩, ⟨_, _, F0, PySem.W.mg_of X G a0, b0⟩, ⟨_, _, F1, PySem.W.mg_of X G a1, b1⟩, ⟨_, _, F2, PySem.W.mg_of X G a2, b2⟩, ⟨_, _, F3, PySem.W.mg_of X G a3, b3⟩, ⟨_, _, F4, PySem.W.mg_of X G a4, b4⟩, ⟨_, _, F5, PySem.W.mg_of X G a5, b5⟩, ⟨_, _, F6, PySem.W.mg_of X G a6, b6⟩, ⟨_, _, F7, PySem.W.mg_of X G a7, b7⟩, PySem.W.mg_of X G g_Desk, ⟨pg_Desk, hd_Desk, po_Desk, sa_Desk⟩, ⟨_, _, ⟨mk_Desk, a_Desk___init__, fn_Desk___init__, e_Desk⟩, F_Desk___init__, b_Desk___init__⟩, ⟨_, _, F_Desk_clock, ⟨a_Desk_clock, fn_Desk_clock, k_Desk_clock⟩, b_Desk_clock⟩, ⟨_, _, F_Desk_propose, ⟨a_Desk_propose, fn_Desk_propose, k_Desk_propose⟩, b_Desk_propose⟩, ⟨_, _, F_Desk_waiting, ⟨a_Desk_waiting, fn_Desk_waiting, k_Desk_waiting⟩, b_Desk_waiting⟩, ⟨_, _, F_Desk_handed, ⟨a_Desk_handed, fn_Desk_handed, k_Desk_handed⟩, b_Desk_handed⟩, na_Desk_hand, na_Desk_time, na_Desk_known, na_Desk_marked, na_Desk_done, na_Desk_row, PySem.W.mg_none_of X G z_list, PySem.W.mg_none_of X G z_isinstance, PySem.W.mg_none_of X G z_int, PySem.W.mg_none_of X G z_bool, PySem.W.mg_none_of X G z_len, PySem.W.mg_none_of X G z_tuple, PySem.W.mg_none_of X G z_ValueError, PySem.W.mg_none_of X G z_enumerate, PySem.W.mg_none_of X G z_range⟩
  exact ⟨PySem.W.fnOf "law" "law" (defArgs s_law) (defBody s_law) (defScope s_law) .none kV8 dc8 pm8 an8 cd8 ct8, fun s v => .of_eq rfl, fun base _ _ => ok_law T F8⟩
theorem walk {l : PySem.W.OpenLaw} {q : Program} {loose : List Str} {XP : (Str → Option Value) → Heap → Prop} {YP : World → Heap → Prop} {d : DefRec} {K : Params → PySem.W.Frag} (hn : l.most = some 63) (hdf : d.params.defaults = [])
    (hY : ∀ (w : World) (h : Heap), YP w h → (K w.params).In h)
    (F : ∀ (w : World) (mg : Str → Option Value) (fa : Addr) (h : Heap), (K w.params).In h → h.Ns mainGlobals mg → mg d.name = some (.ref fa) →
      ∃ fd : FuncData, (∀ (s : Shared) (u : Value), BindsTo s fd ⟨[u], []⟩ [("_law_script", u)]) ∧ ∀ base : Heap, (K w.params).In base → base.Ns mainGlobals mg → FnOk l.prog w (K w.params) mg base CX0 6 fa fd ["_law_script"] (sp_law (K w.params))) :
    PySem.W.WalkO q loose XP YP l.row.toRowW d [] (fun f vs => PySem.call f vs) :=
  L2.walk_of (n := 63) (k := 6) (x := "_law_script") (CX := fun _ => CX0) (sp := fun w => sp_law (K w.params)) hn (by decide) hdf ⟨rfl, by decide, by decide⟩ hY F (fun _ _ a ns hl _ hS => ⟨a, ns, rfl, hS, hl, fun _ => rfl⟩) fun _ _ _ _ _ z => z
end K2
open PySem PySem.W PyProof.Rows
set_option maxRecDepth 100000 in
set_option maxHeartbeats 0 in
theorem PySem.Challenge.cw_onebell_k02_a_desk_proposes_holds : PySem.Challenge.rw_onebell_k02_a_desk_proposes.Holds := by
  w_on; o_law; k_head; (case hw => w_witness2)
  k_fill
  refine K2.walk (l := PySem.Challenge.rw_onebell_k02_a_desk_proposes) rfl rfl (fun w h Y => PySem.W.kIn_of Y) ?F
  case F =>
    intro w mg fa h KX G hmg
    refine' K2.all_mk KX G hmg ?a0 ?l0 ?c0 ?k0 ?a1 ?l1 ?c1 ?k1 ?a2 ?l2 ?c2 ?k2 ?a3 ?l3 ?c3 ?k3 ?a4 ?l4 ?c4 ?k4 ?a5 ?l5 ?c5 ?k5 ?a6 ?l6 ?c6 ?k6 ?a7 ?l7 ?c7 ?k7 ?a8 ?l8 ?c8 ?k8 ?g_BellError ?e_BellError ?x_BellError ?s_BellError ?t_BellError ?g_BadCount ?e_BadCount ?x_BadCount ?s_BadCount ?t_BadCount ?g_NoHand ?e_NoHand ?x_NoHand ?s_NoHand ?t_NoHand ?g_NoLetter ?e_NoLetter ?x_NoLetter ?s_NoLetter ?t_NoLetter ?g_NoMail ?e_NoMail ?x_NoMail ?s_NoMail ?t_NoMail ?g_Twice ?e_Twice ?x_Twice ?s_Twice ?t_Twice ?g_NotOpen ?e_NotOpen ?x_NotOpen ?s_NotOpen ?t_NotOpen ?g_BadMark ?e_BadMark ?x_BadMark ?s_BadMark ?t_BadMark ?g_NoNote ?e_NoNote ?x_NoNote ?s_NoNote ?t_NoNote ?g_Desk ?e_Desk ?pg_Desk ?hd_Desk ?po_Desk ?sa_Desk ?a_Desk___init__ ?l_Desk___init__ ?c_Desk___init__ ?k_Desk___init__ ?fn_Desk___init__ ?a_Desk_clock ?l_Desk_clock ?c_Desk_clock ?k_Desk_clock ?fn_Desk_clock ?a_Desk_propose ?l_Desk_propose ?c_Desk_propose ?k_Desk_propose ?fn_Desk_propose ?a_Desk_waiting ?l_Desk_waiting ?c_Desk_waiting ?k_Desk_waiting ?fn_Desk_waiting ?a_Desk_handed ?l_Desk_handed ?c_Desk_handed ?k_Desk_handed ?fn_Desk_handed ?mk_Desk ?na_Desk_hand ?na_Desk_time ?na_Desk_known ?na_Desk_marked ?na_Desk_done ?na_Desk_row ?i_hn ?i_ht ?hd_BellError ?hd_BadCount ?hd_NoHand ?hd_NoLetter ?hd_NoMail ?hd_Twice ?hd_NotOpen ?hd_BadMark ?hd_NoNote ?i_Twice_hg ?i_Twice_hk ?i_Twice_ha ?i_Twice_hm ?i_Twice_v ?i_Twice_b ?i_Twice_BadCount ?n_Twice_BadCount ?i_Twice_NoHand ?n_Twice_NoHand ?i_Twice_NoLetter ?n_Twice_NoLetter ?i_Twice_NoMail ?n_Twice_NoMail ?i_Twice_NotOpen ?n_Twice_NotOpen ?i_Twice_BadMark ?n_Twice_BadMark ?i_Twice_NoNote ?n_Twice_NoNote ?z_list ?z_isinstance ?z_int ?z_bool ?z_len ?z_tuple ?z_ValueError ?z_enumerate ?z_range
    (case a0 => k_is)
    (case l0 => k_is)
    (case c0 => k_is)
    (case k0 => k_is)
    (case a1 => k_is)
    (case l1 => k_is)
    (case c1 => k_is)
    (case k1 => k_is)
    (case a2 => k_is)
    (case l2 => k_is)
    (case c2 => k_is)
    (case k2 => k_is)
    (case a3 => k_is)
    (case l3 => k_is)
    (case c3 => k_is)
    (case k3 => k_is)
    (case a4 => k_is)
    (case l4 => k_is)
    (case c4 => k_is)
    (case k4 => k_is)
    (case a5 => k_is)
    (case l5 => k_is)
    (case c5 => k_is)
    (case k5 => k_is)
    (case a6 => k_is)
    (case l6 => k_is)
    (case c6 => k_is)
    (case k6 => k_is)
    (case a7 => k_is)
    (case l7 => k_is)
    (case c7 => k_is)
    (case k7 => k_is)
    (case a8 => k_is)
    (case l8 => k_is)
    (case c8 => k_is)
    (case k8 => k_is)
    (case g_BellError => k_is)
    (case e_BellError => k_is)
    (case x_BellError => k_exc)
    (case s_BellError => k_is)
    (case t_BellError => k_is)
    (case g_BadCount => k_is)
    (case e_BadCount => k_is)
    (case x_BadCount => k_exc)
    (case s_BadCount => k_is)
    (case t_BadCount => k_is)
    (case g_NoHand => k_is)
    (case e_NoHand => k_is)
    (case x_NoHand => k_exc)
    (case s_NoHand => k_is)
    (case t_NoHand => k_is)
    (case g_NoLetter => k_is)
    (case e_NoLetter => k_is)
    (case x_NoLetter => k_exc)
    (case s_NoLetter => k_is)
    (case t_NoLetter => k_is)
    (case g_NoMail => k_is)
    (case e_NoMail => k_is)
    (case x_NoMail => k_exc)
    (case s_NoMail => k_is)
    (case t_NoMail => k_is)
    (case g_Twice => k_is)
    (case e_Twice => k_is)
    (case x_Twice => k_exc)
    (case s_Twice => k_is)
    (case t_Twice => k_is)
    (case g_NotOpen => k_is)
    (case e_NotOpen => k_is)
    (case x_NotOpen => k_exc)
    (case s_NotOpen => k_is)
    (case t_NotOpen => k_is)
    (case g_BadMark => k_is)
    (case e_BadMark => k_is)
    (case x_BadMark => k_exc)
    (case s_BadMark => k_is)
    (case t_BadMark => k_is)
    (case g_NoNote => k_is)
    (case e_NoNote => k_is)
    (case x_NoNote => k_exc)
    (case s_NoNote => k_is)
    (case t_NoNote => k_is)
    (case g_Desk => k_is)
    (case e_Desk => k_is)
    (case pg_Desk => k_is)
    (case hd_Desk => k_is)
    (case po_Desk => k_is)
    (case sa_Desk => k_is)
    (case a_Desk___init__ => k_is)
    (case l_Desk___init__ => k_is)
    (case c_Desk___init__ => k_is)
    (case k_Desk___init__ => k_is)
    (case fn_Desk___init__ => k_is)
    (case a_Desk_clock => k_is)
    (case l_Desk_clock => k_is)
    (case c_Desk_clock => k_is)
    (case k_Desk_clock => k_is)
    (case fn_Desk_clock => k_is)
    (case a_Desk_propose => k_is)
    (case l_Desk_propose => k_is)
    (case c_Desk_propose => k_is)
    (case k_Desk_propose => k_is)
    (case fn_Desk_propose => k_is)
    (case a_Desk_waiting => k_is)
    (case l_Desk_waiting => k_is)
    (case c_Desk_waiting => k_is)
    (case k_Desk_waiting => k_is)
    (case fn_Desk_waiting => k_is)
    (case a_Desk_handed => k_is)
    (case l_Desk_handed => k_is)
    (case c_Desk_handed => k_is)
    (case k_Desk_handed => k_is)
    (case fn_Desk_handed => k_is)
    (case mk_Desk => k_is)
    (case na_Desk_hand => k_is)
    (case na_Desk_time => k_is)
    (case na_Desk_known => k_is)
    (case na_Desk_marked => k_is)
    (case na_Desk_done => k_is)
    (case na_Desk_row => k_is)
    (case i_hn => k_is)
    (case i_ht => k_is)
    (case hd_BellError => k_is)
    (case hd_BadCount => k_is)
    (case hd_NoHand => k_is)
    (case hd_NoLetter => k_is)
    (case hd_NoMail => k_is)
    (case hd_Twice => k_is)
    (case hd_NotOpen => k_is)
    (case hd_BadMark => k_is)
    (case hd_NoNote => k_is)
    (case i_Twice_hg => k_is)
    (case i_Twice_hk => k_is)
    (case i_Twice_ha => k_is)
    (case i_Twice_hm => k_is)
    (case i_Twice_v => k_is)
    (case i_Twice_b => k_is)
    (case i_Twice_BadCount => k_is)
    (case n_Twice_BadCount => rfl)
    (case i_Twice_NoHand => k_is)
    (case n_Twice_NoHand => rfl)
    (case i_Twice_NoLetter => k_is)
    (case n_Twice_NoLetter => rfl)
    (case i_Twice_NoMail => k_is)
    (case n_Twice_NoMail => rfl)
    (case i_Twice_NotOpen => k_is)
    (case n_Twice_NotOpen => rfl)
    (case i_Twice_BadMark => k_is)
    (case n_Twice_BadMark => rfl)
    (case i_Twice_NoNote => k_is)
    (case n_Twice_NoNote => rfl)
    (case z_list => k_is)
    (case z_isinstance => k_is)
    (case z_int => k_is)
    (case z_bool => k_is)
    (case z_len => k_is)
    (case z_tuple => k_is)
    (case z_ValueError => k_is)
    (case z_enumerate => k_is)
    (case z_range => k_is)
#print axioms PySem.Challenge.cw_onebell_k02_a_desk_proposes_holds

