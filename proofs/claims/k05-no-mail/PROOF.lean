import PyProof.Rows.All
import Wide.All
import OpenK.AllK
import Wide.FinOn
import HandS.ForMost
import HandS.ForExc
import HandS.Evl
import HandS.Walk
import HandS.Steps
import HandS.IsInst
import HandS.FStr
import HandS.ExcCtx
import HandS.Text
import HandS.ExcIs
import HandS.HotCalls
import PySem.Challenge.RW_onebell_k05_what_writes_no_mail
set_option Elab.async false
set_option linter.all false
set_option maxRecDepth 100000
set_option maxHeartbeats 4000000
set_option Elab.async false
set_option linter.all false
set_option maxRecDepth 100000
set_option maxHeartbeats 2000000
namespace Ob
open PySem L2 Evl
abbrev D := PyData
/-! ## data and heaps that grow -/
mutual
theorem dp_ex {K : PySem.W.Frag} {H H' : Hp} (e : Ex H H') : ∀ {v : V} {d : D}, Dp K H v d → Dp K H' v d
  | _, _, .non => .non
  | _, _, .bl b => .bl b
  | _, _, .int i => .int i
  | _, _, .str x => .str x
  | _, _, .lst s a => .lst (ex_l e s) (dpa_ex e a)
  | _, _, .tup s a => .tup (ex_t e s) (dpa_ex e a)
theorem dpa_ex {K : PySem.W.Frag} {H H' : Hp} (e : Ex H H') : ∀ {v : List V} {d : List D}, DpAll K H v d → DpAll K H' v d
  | _, _, .nil => .nil
  | _, _, .cons h t => .cons (dp_ex e h) (dpa_ex e t)
end
section
variable {K : PySem.W.Frag} {H H' H1 H2 : Hp} {σ : L2.St} {v : V} {vs xs : List V} {d d' e : D} {ds es : List D}
theorem dpa_len : ∀ {vs : List V} {ds : List D}, DpAll K H vs ds → vs.length = ds.length
  | _, _, .nil => rfl
  | _, _, .cons _ t => by simp [dpa_len t]
theorem dpa_get : ∀ {vs : List V} {ds : List D} {i : Nat} {d : D}, DpAll K H vs ds → ds[i]? = some d → ∃ v, vs[i]? = some v ∧ Dp K H v d
  | _, _, _, _, .nil, h => by simp at h
  | _, _, 0, _, .cons a _, h => by simp at h; subst h; exact ⟨_, rfl, a⟩
  | _, _, i + 1, _, .cons _ t, h => by
    obtain ⟨v, h1, h2⟩ := dpa_get (i := i) t (by simpa using h)
    exact ⟨v, by simpa using h1, h2⟩
theorem dpa_getV : ∀ {vs : List V} {ds : List D} {i : Nat} {v : V}, DpAll K H vs ds → vs[i]? = some v → ∃ d, ds[i]? = some d ∧ Dp K H v d
  | _, _, _, _, .nil, h => by simp at h
  | _, _, 0, _, .cons a _, h => by simp at h; subst h; exact ⟨_, rfl, a⟩
  | _, _, i + 1, _, .cons _ t, h => by
    obtain ⟨v, h1, h2⟩ := dpa_getV (i := i) t (by simpa using h)
    exact ⟨v, by simpa using h1, h2⟩
theorem dpa_app : ∀ {vs : List V} {ds : List D} {ws : List V} {es : List D}, DpAll K H vs ds → DpAll K H ws es → DpAll K H (vs ++ ws) (ds ++ es)
  | _, _, _, _, .nil, h => h
  | _, _, _, _, .cons a t, h => .cons a (dpa_app t h)
theorem dpa_take : ∀ (n : Nat) {vs : List V} {ds : List D}, DpAll K H vs ds → DpAll K H (vs.take n) (ds.take n)
  | 0, _, _, _ => .nil
  | _ + 1, _, _, .nil => .nil
  | n + 1, _, _, .cons a t => .cons a (dpa_take n t)
theorem dpa_drop : ∀ (n : Nat) {vs : List V} {ds : List D}, DpAll K H vs ds → DpAll K H (vs.drop n) (ds.drop n)
  | 0, _, _, h => h
  | _ + 1, _, _, .nil => .nil
  | n + 1, _, _, .cons _ t => dpa_drop n t
theorem dpa_ints : ∀ {ns : List Int}, DpAll K H (ns.map V.int) (ns.map PyData.int)
  | [] => .nil
  | _ :: _ => .cons (.int _) dpa_ints
theorem dpa_ints_inv : ∀ {vs : List V} {ns : List Int}, DpAll K H vs (ns.map PyData.int) → vs = ns.map V.int
  | [], [], _ => rfl
  | _, _ :: _, .cons a t => by cases a; rw [List.map_cons, dpa_ints_inv t]
theorem dpa_bls_inv : ∀ {vs : List V} {ns : List Bool}, DpAll K H vs (ns.map PyData.bool) → vs = ns.map V.bl
  | [], [], _ => rfl
  | _, _ :: _, .cons a t => by cases a; rw [List.map_cons, dpa_bls_inv t]
theorem dpa1 (h : DpAll K H vs [d]) : ∃ v, vs = [v] ∧ Dp K H v d := by
  cases h with | cons a t => cases t; exact ⟨_, rfl, a⟩
theorem dpa2 {d1 d2 : D} (h : DpAll K H vs [d1, d2]) : ∃ v1 v2, vs = [v1, v2] ∧ Dp K H v1 d1 ∧ Dp K H v2 d2 := by
  cases h with | cons a t => obtain ⟨v, rfl, b⟩ := dpa1 t; exact ⟨_, _, rfl, a, b⟩
theorem dpa3 {d1 d2 d3 : D} (h : DpAll K H vs [d1, d2, d3]) : ∃ v1 v2 v3, vs = [v1, v2, v3] ∧ Dp K H v1 d1 ∧ Dp K H v2 d2 ∧ Dp K H v3 d3 := by
  cases h with | cons a t => obtain ⟨v, w, rfl, b, c⟩ := dpa2 t; exact ⟨_, _, _, rfl, a, b, c⟩
/-- a slice's items, of any list -/
def cutL {α : Type} (xs : List α) (lo hi : Option Int) : List α := (xs.drop (HT.sIx xs.length 0 lo)).take (HT.sIx xs.length xs.length hi - HT.sIx xs.length 0 lo)
theorem dpa_cut {lo hi : Option Int} (h : DpAll K H vs ds) : DpAll K H (cutV vs lo hi) (cutL ds lo hi) := by
  unfold cutV cutL
  rw [dpa_len h]
  exact dpa_take _ (dpa_drop _ h)
theorem cutL_map {α β : Type} (f : α → β) (xs : List α) (lo hi : Option Int) : cutL (xs.map f) lo hi = (cutL xs lo hi).map f := by
  unfold cutL
  rw [List.length_map, List.map_take, List.map_drop]
theorem cutL_len {α : Type} (xs : List α) (lo hi : Option Int) : (cutL xs lo hi).length ≤ xs.length := by
  unfold cutL
  rw [List.length_take, List.length_drop]
  omega
theorem cutL_mem {α : Type} {xs : List α} {lo hi : Option Int} {x : α} (h : x ∈ cutL xs lo hi) : x ∈ xs := List.mem_of_mem_drop (List.mem_of_mem_take h)
theorem atI_some {α : Type} {xs : List α} {i : Int} {x : α} (h : atI xs i = some x) : ∃ j, ixN xs.length i = some j ∧ xs[j]? = some x := by
  unfold atI at h
  cases q : ixN xs.length i with
  | none => rw [q] at h; cases h
  | some j => rw [q] at h; exact ⟨j, rfl, h⟩
theorem dpa_at {i : Int} (h : DpAll K H vs ds) (ha : atI ds i = some d) : ∃ v, atI vs i = some v ∧ Dp K H v d := by
  obtain ⟨j, h1, h2⟩ := atI_some ha
  obtain ⟨v, h3, h4⟩ := dpa_get h h2
  refine ⟨v, ?_, h4⟩
  unfold atI
  rw [dpa_len h, h1]
  exact h3
theorem dp_list (h : Dp K H v (.list ds)) : ∃ a xs, v = .ref a ∧ SqL K H a xs ∧ DpAll K H xs ds := by
  cases h with | lst s a => exact ⟨_, _, rfl, s, a⟩
theorem dp_tuple (h : Dp K H v (.tuple ds)) : ∃ a xs, v = .ref a ∧ SqT K H a xs ∧ DpAll K H xs ds := by
  cases h with | tup s a => exact ⟨_, _, rfl, s, a⟩

/-! ## what evaluates to which data: A the heap of the data, B the whole heap -/
structure Pr (A B A' B' : Hp) : Prop where
  a : Ex A A'
  b : Ex B B'
  s : Ex A' B'
  n : ∀ x, A x = none → B x ≠ none → A' x = none
theorem Pr.refl {A B : Hp} (h : Ex A B) : Pr A B A B := ⟨Ex.refl _, Ex.refl _, h, fun _ q _ => q⟩
theorem Pr.trans {A B A' B' A'' B'' : Hp} (h : Pr A B A' B') (k : Pr A' B' A'' B'') : Pr A B A'' B'' :=
  ⟨h.a.trans k.a, h.b.trans k.b, k.s, fun x q r => k.n x (h.n x q r) fun z => r (fresh_back h.b z)⟩
theorem Ex.upd2 {A B : Hp} {p : Addr} {o : HO} (h : Ex A B) : Ex (upd A p o) (upd B p o) := fun a u e => by
  by_cases q : a = p
  · subst q; rw [upd_same] at e; rw [upd_same]; exact e
  · rw [upd_ne q] at e; rw [upd_ne q]; exact h a u e
theorem Pr.new {A B : Hp} {p : Addr} {o : HO} (h : Ex A B) (hp : B p = none) : Pr A B (upd A p o) (upd B p o) :=
  ⟨Ex.new (fresh_back h hp), Ex.new hp, Ex.upd2 h, fun x q r => by rw [upd_ne (fun (z : x = p) => r (by rw [z]; exact hp))]; exact q⟩
theorem Pr.priv {A B : Hp} {p : Addr} {o : HO} (h : Ex A B) (hp : B p = none) : Pr A B A (upd B p o) :=
  ⟨Ex.refl _, Ex.new hp, h.trans (Ex.new hp), fun _ q _ => q⟩
theorem Pr.up {A B B' : Hp} (h : Ex A B) (e : Ex B B') : Pr A B A B' := ⟨Ex.refl _, e, h.trans e, fun _ q _ => q⟩
/-- the whole heap alone has grown -/
structure Pu (A B B' : Hp) : Prop where
  z : Ex A B
  e : Ex B B'
theorem Pu.s {A B B' : Hp} (h : Pu A B B') : Ex A B' := h.z.trans h.e
theorem Pu.pr {A B B' : Hp} (h : Pu A B B') : Pr A B A B' := Pr.up h.z h.e
theorem Pr.whole {B A' B' : Hp} (h : Pr B B A' B') : Ex B B' := h.b
def EvD (K : PySem.W.Frag) (te : TE) (σ : L2.St) (H : Hp) (d : D) : Prop := ∀ A B, Ex H A → Ex A B → ∀ Q : VK, (∀ v A' B', Pr A B A' B' → Dp K A' v d → Q v B') → te σ B Q
/-- a new list of such data -/
def EvN (K : PySem.W.Frag) (te : TE) (σ : L2.St) (H : Hp) (ds : List D) : Prop := ∀ A B, Ex H A → Ex A B → ∀ Q : VK, (∀ p xs A' B', B p = none → Pr A B A' B' → A' p = none → B' p = some (.lst xs) → DpAll K A' xs ds → Q (.ref p) B') → te σ B Q
/-- a list that is tracked -/
def EvK (K : PySem.W.Frag) (te : TE) (σ : L2.St) (H : Hp) (ds : List D) : Prop := ∀ A B, Ex H A → Ex A B → ∀ Q : VK, (∀ p xs A' B', Pr A B A' B' → B' p = some (.lst xs) → DpAll K A' xs ds → Q (.ref p) B') → te σ B Q
def EvAD (K : PySem.W.Frag) (ta : TA) (σ : L2.St) (H : Hp) (ds : List D) : Prop := ∀ A B, Ex H A → Ex A B → ∀ Q : List V → Hp → Prop, (∀ vs A' B', Pr A B A' B' → DpAll K A' vs ds → Q vs B') → ta σ B Q
variable {ta tb te tl : TE} {t u : TT} {tr : TA}
theorem EvD.mono (e : Ex H H') (h : EvD K te σ H d) : EvD K te σ H' d := fun A B a => h A B (e.trans a)
theorem EvN.mono (e : Ex H H') (h : EvN K te σ H ds) : EvN K te σ H' ds := fun A B a => h A B (e.trans a)
theorem ed_is (h : EvD K te σ H d) (q : d = d') : EvD K te σ H d' := q ▸ h
theorem en_is (h : EvN K te σ H ds) (q : ds = es) : EvN K te σ H es := q ▸ h
theorem ed_n (h : EvN K te σ H ds) : EvD K te σ H (.list ds) := fun A B e s Q q => h A B e s Q fun p xs A' B' hp P hA h2 a =>
  q (.ref p) (upd A' p (.lst xs)) B' ⟨P.a.trans (Ex.new hA), P.b, fun x o z => by
    by_cases w : x = p
    · subst w; rw [upd_same] at z; rw [h2]; exact z
    · rw [upd_ne w] at z; exact P.s x o z, fun x y z => by rw [upd_ne (fun (w : x = p) => z (by rw [w]; exact hp))]; exact P.n x y z⟩ (.lst (sq_of upd_same) (dpa_ex (Ex.new hA) a))
theorem ek_n (h : EvN K te σ H ds) : EvK K te σ H ds := fun A B e s Q q => h A B e s Q fun p xs A' B' _ P _ => q p xs A' B' P
theorem ek_var {i : Nat} {p : Addr} (h : σ[i]? = some (some (.ref p))) (hp : H p = some (.lst xs)) (ha : DpAll K H xs ds) : EvK K (tVar i) σ H ds := fun A B e s Q q => ⟨_, h, q p xs A B (Pr.refl s) (s _ _ (e _ _ hp)) (dpa_ex e ha)⟩
theorem ed_v (h : Ev te σ H v) (hd : Dp K H v d) : EvD K te σ H d := fun A B e s Q q => h B (e.trans s) Q fun B' e2 => q v A B' (Pr.up s e2) (dp_ex e hd)
theorem ed_var {i : Nat} (h : σ[i]? = some (some v)) (hd : Dp K H v d) : EvD K (tVar i) σ H d := ed_v (ev_var h) hd
theorem ed_int {i : Int} : EvD K (tC (.int i)) σ H (.int i) := ed_v ev_c (.int i)
theorem ed_str {i : Str} : EvD K (tC (.str i)) σ H (.str i) := ed_v ev_c (.str i)
theorem ed_bl {i : Bool} : EvD K (tC (.bl i)) σ H (.bool i) := ed_v ev_c (.bl i)
theorem ed_non : EvD K (tC .non) σ H .none := ed_v ev_c .non
theorem v_int {i : Int} (h : EvD K te σ H (.int i)) : Ev te σ H (.int i) := fun H1 e Q q => h H1 H1 e (Ex.refl _) Q fun v _ H2 P hv => by cases hv; exact q H2 P.b
theorem v_bl {i : Bool} (h : EvD K te σ H (.bool i)) : Ev te σ H (.bl i) := fun H1 e Q q => h H1 H1 e (Ex.refl _) Q fun v _ H2 P hv => by cases hv; exact q H2 P.b
theorem v_str {i : Str} (h : EvD K te σ H (.str i)) : Ev te σ H (.str i) := fun H1 e Q q => h H1 H1 e (Ex.refl _) Q fun v _ H2 P hv => by cases hv; exact q H2 P.b
theorem v_non (h : EvD K te σ H .none) : Ev te σ H .non := fun H1 e Q q => h H1 H1 e (Ex.refl _) Q fun v _ H2 P hv => by cases hv; exact q H2 P.b
/-- two operands -/
theorem ed_op {r : R2} {d1 d2 : D} (ha : EvD K ta σ H d1) (hb : EvD K tb σ H d2) (hr : ∀ x y A B, Ex H A → Ex A B → Dp K A x d1 → Dp K A y d2 → ∀ Q : VK, (∀ v A' B', Pr A B A' B' → Dp K A' v d → Q v B') → r x y B Q) : EvD K (tOp r ta tb) σ H d := fun A B e s Q q =>
  ha A B e s _ fun x A2 B2 P2 hx => hb A2 B2 (e.trans P2.a) P2.s _ fun y A3 B3 P3 hy => hr x y A3 B3 ((e.trans P2.a).trans P3.a) P3.s (dp_ex P3.a hx) hy Q fun v A4 B4 P4 => q v A4 B4 ((P2.trans P3).trans P4)
/-- the answer is no new thing -/
theorem ed_opB {r : R2} {d1 d2 : D} (ha : EvD K ta σ H d1) (hb : EvD K tb σ H d2) (hr : ∀ x y B, Dp K B x d1 → Dp K B y d2 → ∀ Q : VK, (∀ v, (∀ A, Ex A B → Dp K A x d1 → Dp K A y d2 → Dp K A v d) → Q v B) → r x y B Q) : EvD K (tOp r ta tb) σ H d :=
  ed_op ha hb fun x y A B _ s hx hy Q q => hr x y B (dp_ex s hx) (dp_ex s hy) Q fun v hv => q v A B (Pr.refl s) (hv A s hx hy)
theorem ed_Ii {f : Int → Int → Int} {i j : Int} (ha : EvD K ta σ H (.int i)) (hb : EvD K tb σ H (.int j)) : EvD K (tOp (rI0 fun i j => .int (f i j)) ta tb) σ H (.int (f i j)) :=
  ed_v (ev_op (v_int ha) (v_int hb) rv_I0) (.int _)
theorem ed_Ib {f : Int → Int → Bool} {i j : Int} (ha : EvD K ta σ H (.int i)) (hb : EvD K tb σ H (.int j)) : EvD K (tOp (rI0 fun i j => .bl (f i j)) ta tb) σ H (.bool (f i j)) :=
  ed_v (ev_op (v_int ha) (v_int hb) rv_I0) (.bl _)
theorem ed_Ic {C : Int → Int → Prop} {f : Int → Int → Int} {i j : Int} (ha : EvD K ta σ H (.int i)) (hb : EvD K tb σ H (.int j)) (hc : C i j) : EvD K (tOp (rI C fun i j => .int (f i j)) ta tb) σ H (.int (f i j)) :=
  ed_v (ev_op (v_int ha) (v_int hb) (rv_I hc)) (.int _)
theorem ed_eqi {i j : Int} (ha : EvD K ta σ H (.int i)) (hb : EvD K tb σ H (.int j)) : EvD K (tOp rEq ta tb) σ H (.bool (i == j)) :=
  ed_v (ev_op (v_int ha) (v_int hb) (rv_eq rfl)) (by rw [dec_int]; exact .bl _)
theorem ed_nei {i j : Int} (ha : EvD K ta σ H (.int i)) (hb : EvD K tb σ H (.int j)) : EvD K (tOp rNe ta tb) σ H (.bool (!(i == j))) :=
  ed_v (ev_op (v_int ha) (v_int hb) (rv_ne rfl)) (by rw [dec_int]; exact .bl _)
theorem ed_eqs {i j : Str} (ha : EvD K ta σ H (.str i)) (hb : EvD K tb σ H (.str j)) : EvD K (tOp rEq ta tb) σ H (.bool (i == j)) :=
  ed_v (ev_op (v_str ha) (v_str hb) (rv_eq rfl)) (by rw [dec_str]; exact .bl _)
theorem ed_nes {i j : Str} (ha : EvD K ta σ H (.str i)) (hb : EvD K tb σ H (.str j)) : EvD K (tOp rNe ta tb) σ H (.bool (!(i == j))) :=
  ed_v (ev_op (v_str ha) (v_str hb) (rv_ne rfl)) (by rw [dec_str]; exact .bl _)
theorem ed_eqb {i j : Bool} (ha : EvD K ta σ H (.bool i)) (hb : EvD K tb σ H (.bool j)) : EvD K (tOp rEq ta tb) σ H (.bool (i == j)) :=
  ed_v (ev_op (v_bl ha) (v_bl hb) (rv_eq rfl)) (by rw [dec_bl]; exact .bl _)
theorem ed_neb {i j : Bool} (ha : EvD K ta σ H (.bool i)) (hb : EvD K tb σ H (.bool j)) : EvD K (tOp rNe ta tb) σ H (.bool (!(i == j))) :=
  ed_v (ev_op (v_bl ha) (v_bl hb) (rv_ne rfl)) (by rw [dec_bl]; exact .bl _)
theorem ed_eqD {d1 d2 : D} (ha : EvD K ta σ H d1) (hb : EvD K tb σ H d2) (s1 : SeqAt.shaped d1 = true) (s2 : SeqAt.shaped d2 = true) : EvD K (tOp (rEqD K) ta tb) σ H (.bool (PyData.eqv d1 d2)) :=
  ed_opB ha hb fun _ _ _ hx hy _ q => ⟨d1, d2, hx, hy, s1, s2, q _ fun _ _ _ _ => .bl _⟩
theorem ed_neD {d1 d2 : D} (ha : EvD K ta σ H d1) (hb : EvD K tb σ H d2) (s1 : SeqAt.shaped d1 = true) (s2 : SeqAt.shaped d2 = true) : EvD K (tOp (rNeD K) ta tb) σ H (.bool (!PyData.eqv d1 d2)) :=
  ed_opB ha hb fun _ _ _ hx hy _ q => ⟨d1, d2, hx, hy, s1, s2, q _ fun _ _ _ _ => .bl _⟩
theorem ed_ixL {i : Int} (ha : EvD K ta σ H (.list ds)) (hb : EvD K tb σ H (.int i)) (h : atI ds i = some d) : EvD K (tOp (rIxL K) ta tb) σ H d :=
  ed_op ha hb fun _ _ A B _ s hx hy _ q => by
    obtain ⟨a, xs, rfl, sq, al⟩ := dp_list hx
    cases hy
    obtain ⟨v, h1, h2⟩ := dpa_at al h
    exact ⟨a, xs, i, v, rfl, rfl, ex_l s sq, h1, q v A B (Pr.refl s) h2⟩
theorem ed_ixT {i : Int} (ha : EvD K ta σ H (.tuple ds)) (hb : EvD K tb σ H (.int i)) (h : atI ds i = some d) : EvD K (tOp (rIxT K) ta tb) σ H d :=
  ed_op ha hb fun _ _ A B _ s hx hy _ q => by
    obtain ⟨a, xs, rfl, sq, al⟩ := dp_tuple hx
    cases hy
    obtain ⟨v, h1, h2⟩ := dpa_at al h
    exact ⟨a, xs, i, v, rfl, rfl, ex_t s sq, h1, q v A B (Pr.refl s) h2⟩
theorem ed_ixS {w : Str} {i : Int} {c : Nat} (ha : EvD K ta σ H (.str w)) (hb : EvD K tb σ H (.int i)) (hl : w.length ≤ 100000) (h : atI w.cps.toList i = some c) : EvD K (tOp rIxS ta tb) σ H (.str ⟨#[c]⟩) :=
  ed_v (ev_op (v_str ha) (v_int hb) (rv_ixS hl h)) (.str _)
theorem ea_nilD : EvAD K tNil σ H [] := fun A B _ s _ q => q [] A B (Pr.refl s) .nil
theorem ea_consD (h : EvD K ta σ H d) (hr : EvAD K tr σ H ds) : EvAD K (tCons ta tr) σ H (d :: ds) := fun A B e s _ q =>
  h A B e s _ fun v A2 B2 P2 hv => hr A2 B2 (e.trans P2.a) P2.s _ fun vs A3 B3 P3 ha => q _ A3 B3 (P2.trans P3) (.cons (dp_ex P3.a hv) ha)
theorem ed_tup (h : EvAD K tr σ H ds) (hl : ds.length ≤ 100000) : EvD K (tTup tr) σ H (.tuple ds) := fun A B e s _ q =>
  h A B e s _ fun vs A2 B2 P2 ha => ⟨sz_of (by rw [dpa_len ha]; exact hl), fun p hp => q _ (upd A2 p (.tup vs)) _ (P2.trans (Pr.new P2.s hp)) (.tup (st_of upd_same) (dpa_ex (Ex.new (fresh_back P2.s hp)) ha))⟩
theorem en_lst (h : EvAD K tr σ H ds) (hl : ds.length ≤ 100000) : EvN K (tLst tr) σ H ds := fun A B e s _ q =>
  h A B e s _ fun vs A2 B2 P2 ha => ⟨sz_of (by rw [dpa_len ha]; exact hl), fun p hp => q p vs A2 _ (fresh_back P2.b hp) (P2.trans (Pr.priv P2.s hp)) (fresh_back P2.s hp) upd_same ha⟩
theorem en_cat (ha : EvK K ta σ H ds) (hb : EvK K tb σ H es) (hl : ds.length + es.length ≤ 100000) : EvN K (tOp rCat ta tb) σ H (ds ++ es) := fun A B e s Q q =>
  ha A B e s _ fun p xs A2 B2 P2 hp h1 => hb A2 B2 (e.trans P2.a) P2.s _ fun r ys A3 B3 P3 hr h2 => ⟨p, r, xs, ys, rfl, rfl, P3.b _ _ hp, hr, sz_of (by rw [dpa_len h1, dpa_len h2]; exact hl), fun z hz =>
    q z _ A3 _ (fresh_back (P2.b.trans P3.b) hz) ((P2.trans P3).trans (Pr.priv P3.s hz)) (fresh_back P3.s hz) upd_same (dpa_app (dpa_ex P3.a h1) h2)⟩
/-- a slice's bound; the written part stands by -/
def EvOK (_ : PySem.W.Frag) (to : TO) (σ : L2.St) (H : Hp) (o : Option Int) : Prop := EvO to σ H o
theorem eo_noneD : EvOK K tNoPart σ H none := fun H1 _ _ q => q H1 (Ex.refl H1)
theorem eo_someD {i : Int} (h : EvD K te σ H (.int i)) : EvOK K (tPart te) σ H (some i) := fun H1 e _ q => v_int h H1 e _ fun H2 e2 => ⟨i, rfl, q H2 e2⟩
theorem en_slice {lo hi : Option Int} {t1 t2 : TO} (h : EvD K te σ H (.list ds)) (h1 : EvOK K t1 σ H lo) (h2 : EvOK K t2 σ H hi) : EvN K (tSl (rSlL K) te t1 t2) σ H (cutL ds lo hi) := fun A B e s Q q =>
  h A B e s _ fun v A2 B2 P2 hv => h1 B2 ((e.trans P2.a).trans P2.s) _ fun B3 e3 => h2 B3 (((e.trans P2.a).trans P2.s).trans e3) _ fun B4 e4 => by
    obtain ⟨a, xs, rfl, sq, al⟩ := dp_list hv
    have s4 := (P2.s.trans e3).trans e4
    exact ⟨a, xs, rfl, ex_l s4 sq, fun p hp => q p _ A2 _ (fresh_back ((P2.b.trans e3).trans e4) hp) (P2.trans ((Pr.up P2.s (e3.trans e4)).trans (Pr.priv s4 hp))) (fresh_back s4 hp) upd_same (dpa_cut al)⟩
theorem ed_sliceS {x : Str} {lo hi : Option Int} {t1 t2 : TO} (h : EvD K te σ H (.str x)) (hl : x.length ≤ 100000) (h1 : EvOK K t1 σ H lo) (h2 : EvOK K t2 σ H hi) : EvD K (tSl rSlS te t1 t2) σ H (.str (cutS x lo hi)) :=
  ed_v (v := .str (cutS x lo hi)) (fun H1 e Q q => v_str h H1 e _ fun H2 e2 => h1 H2 (e.trans e2) _ fun H3 e3 => h2 H3 ((e.trans e2).trans e3) _ fun H4 e4 => ⟨x, rfl, sz_of hl, q H4 ((e2.trans e3).trans e4)⟩) (.str _)
theorem ed_call1 {r : List V → Hp → VK → Prop} (h : EvD K ta σ H d) (hr : ∀ v B, Dp K B v d → ∀ Q : VK, (∀ w, (∀ A, Dp K A w e) → Q w B) → r [v] B Q) : EvD K (tCB r (tCons ta tNil)) σ H e := fun A B a s Q q =>
  h A B a s _ fun v A2 B2 P2 hv => hr v B2 (dp_ex P2.s hv) Q fun w hw => q w A2 B2 P2 (hw A2)
theorem ed_len (h : EvD K ta σ H (.list ds)) : EvD K (tCB (rLenS K) (tCons ta tNil)) σ H (.int (ds.length : Int)) := ed_call1 h fun _ B hv _ q => by
  obtain ⟨a, xs, rfl, s, al⟩ := dp_list hv
  refine ⟨a, xs, rfl, .inl s, ?_⟩
  rw [dpa_len al]
  exact q _ fun _ => .int _
theorem ed_lenT (h : EvD K ta σ H (.tuple ds)) : EvD K (tCB (rLenS K) (tCons ta tNil)) σ H (.int (ds.length : Int)) := ed_call1 h fun _ B hv _ q => by
  obtain ⟨a, xs, rfl, s, al⟩ := dp_tuple hv
  refine ⟨a, xs, rfl, .inr s, ?_⟩
  rw [dpa_len al]
  exact q _ fun _ => .int _
theorem en_listof (h : EvD K ta σ H (.list ds)) : EvN K (tCB (rListS K) (tCons ta tNil)) σ H ds := fun A B e s Q q =>
  h A B e s _ fun v A2 B2 P2 hv => by
    obtain ⟨a, xs, rfl, sq, al⟩ := dp_list hv
    exact ⟨a, xs, rfl, .inl (ex_l P2.s sq), fun p hp => q p xs A2 _ (fresh_back P2.b hp) (P2.trans (Pr.priv P2.s hp)) (fresh_back P2.s hp) upd_same al⟩
/-- the name of a datum's type -/
def tyN : D → String
  | .none => "NoneType" | .bool _ => "bool" | .int _ => "int" | .str _ => "str" | .list _ => "list" | .tuple _ => "tuple" | .dict _ => "dict"
theorem tyX_dp (h : Dp K H v d) : TyX K H v (.type (tyN d)) := by
  cases h with
  | non => exact .base .non
  | bl b => exact .base (.bl b)
  | int b => exact .base (.int b)
  | str b => exact .base (.str b)
  | lst s a =>
    rcases s with (s | ⟨o, s⟩) | ⟨ob, vs, n, e, c, _⟩
    · exact .base (.lst s)
    · exact .base (.frz s)
    · exact .kList e c
  | tup s a =>
    rcases s with (s | ⟨o, s⟩) | ⟨ob, vs, n, e, c, _⟩
    · exact .base (.tup s)
    · exact .fTuple s
    · exact .kTuple e c
theorem ed_isi {n : String} {b : Bool} (h : EvD K ta σ H d) (hk : kitB (tyN d) n = some b) : EvD K (tCB (rIsi K) (tCons ta (tCons (tC (.ty n)) tNil))) σ H (.bool b) := fun A B e s Q q =>
  h A B e s _ fun v A2 B2 P2 hv => ⟨v, .ty n, _, _, b, rfl, .ty n, tyX_dp (dp_ex P2.s hv), kit_ty hk, q _ A2 B2 P2 (.bl b)⟩
theorem ki_ii : kitB "int" "int" = some true := by decide +kernel
theorem ki_ib : kitB "int" "bool" = some false := by decide +kernel
theorem ki_bb : kitB "bool" "bool" = some true := by decide +kernel
theorem ki_bi : kitB "bool" "int" = some true := by decide +kernel
theorem ki_nb : kitB "NoneType" "bool" = some false := by decide +kernel
theorem ki_sb : kitB "str" "bool" = some false := by decide +kernel
theorem ki_lb : kitB "list" "bool" = some false := by decide +kernel
theorem ki_tb : kitB "tuple" "bool" = some false := by decide +kernel
theorem ki_ni : kitB "NoneType" "int" = some false := by decide +kernel
theorem ki_si : kitB "str" "int" = some false := by decide +kernel
theorem ki_li : kitB "list" "int" = some false := by decide +kernel
theorem ki_ti : kitB "tuple" "int" = some false := by decide +kernel
theorem ki_di : kitB "dict" "int" = some false := by decide +kernel
theorem ki_tt : kitB "tuple" "tuple" = some true := by decide +kernel
theorem ki_lt : kitB "list" "tuple" = some false := by decide +kernel
theorem ki_st : kitB "str" "tuple" = some false := by decide +kernel
theorem ki_it : kitB "int" "tuple" = some false := by decide +kernel
theorem ki_bt : kitB "bool" "tuple" = some false := by decide +kernel
theorem ki_nt : kitB "NoneType" "tuple" = some false := by decide +kernel
theorem ki_ll : kitB "list" "list" = some true := by decide +kernel
theorem ki_tl : kitB "tuple" "list" = some false := by decide +kernel
theorem ki_sl : kitB "str" "list" = some false := by decide +kernel
theorem ki_nl : kitB "NoneType" "list" = some false := by decide +kernel
theorem ki_il : kitB "int" "list" = some false := by decide +kernel
theorem ki_bl : kitB "bool" "list" = some false := by decide +kernel
theorem ki_ss : kitB "str" "str" = some true := by decide +kernel
theorem ki_ts : kitB "tuple" "str" = some false := by decide +kernel
theorem ki_ls : kitB "list" "str" = some false := by decide +kernel
theorem ki_ns : kitB "NoneType" "str" = some false := by decide +kernel
theorem ki_is : kitB "int" "str" = some false := by decide +kernel
theorem ki_bs : kitB "bool" "str" = some false := by decide +kernel
/-- a test; the written part stands by -/
def EvB (_ : PySem.W.Frag) (t : TT) (σ : L2.St) (H : Hp) (b : Bool) : Prop := EvT t σ H b
theorem eb_D {b : Bool} (h : EvD K te σ H (.bool b)) : EvB K (tTest te) σ H b := et_test (v_bl h)
theorem eb_DB {b : Bool} (h : EvD K te σ H (.bool b)) : EvB K (tB te) σ H b := et_B (v_bl h)
theorem eb_yes : EvB K tYes σ H true := fun H1 _ _ q => q H1 (Ex.refl H1)
theorem eb_not {a : Bool} (h : EvB K t σ H a) : EvB K (tNot t) σ H (!a) := et_not h
theorem eb_and {a b : Bool} (h1 : EvB K t σ H a) (h2 : a = true → EvB K u σ H b) : EvB K (tAnd t u) σ H (a && b) := Evl.et_and h1 h2
theorem eb_or {a b : Bool} (h1 : EvB K t σ H a) (h2 : a = false → EvB K u σ H b) : EvB K (tOr t u) σ H (a || b) := Evl.et_or h1 h2
theorem eb_is {a b : Bool} (h : EvB K t σ H a) (e : a = b) : EvB K t σ H b := e ▸ h
theorem ed_and {a b : Bool} (h1 : EvD K ta σ H (.bool a)) (h2 : a = true → EvD K tb σ H (.bool b)) : EvD K (tAndV ta tb) σ H (.bool (a && b)) := ed_v (ev_andV (v_bl h1) fun q => v_bl (h2 q)) (.bl _)
theorem ed_or {a b : Bool} (h1 : EvD K ta σ H (.bool a)) (h2 : a = false → EvD K tb σ H (.bool b)) : EvD K (tOrV ta tb) σ H (.bool (a || b)) := ed_v (ev_orV (v_bl h1) fun q => v_bl (h2 q)) (.bl _)
theorem ed_not {a : Bool} (h1 : EvD K ta σ H (.bool a)) : EvD K (tNotV ta) σ H (.bool (!a)) := ed_v (ev_notV (v_bl h1)) (.bl _)
/-- max of ints, all of bools -/
def maxI (ns : List Int) : Int := ns.foldl max (ns.headD 0)
theorem foldl_max_ge : ∀ (ns : List Int) (a : Int), a ≤ ns.foldl max a ∧ ∀ n ∈ ns, n ≤ ns.foldl max a
  | [], a => ⟨Int.le_refl _, fun _ h => by simp at h⟩
  | n :: ns, a => by
    obtain ⟨h1, h2⟩ := foldl_max_ge ns (max a n)
    refine ⟨?_, fun m hm => ?_⟩
    · simp only [List.foldl_cons]; omega
    · simp only [List.foldl_cons]
      rcases List.mem_cons.mp hm with rfl | hm
      · omega
      · exact h2 m hm
theorem foldl_max_mem : ∀ (ns : List Int) (a : Int), ns.foldl max a = a ∨ ns.foldl max a ∈ ns
  | [], a => .inl rfl
  | n :: ns, a => by
    simp only [List.foldl_cons]
    rcases foldl_max_mem ns (max a n) with h | h
    · by_cases q : a ≤ n
      · right; rw [h]; simp; left; omega
      · left; rw [h]; omega
    · right; exact List.mem_cons_of_mem _ h
theorem maxI_mem {ns : List Int} (h : ns ≠ []) : maxI ns ∈ ns := by
  cases ns with
  | nil => exact absurd rfl h
  | cons n ns =>
    unfold maxI
    rcases foldl_max_mem (n :: ns) n with q | q
    · simp only [List.headD_cons]; rw [q]; exact List.mem_cons_self
    · exact q
theorem maxI_ge {ns : List Int} : ∀ n ∈ ns, n ≤ maxI ns := (foldl_max_ge ns _).2
theorem maxI_uniq {ns : List Int} {m : Int} (h1 : m ∈ ns) (h2 : ∀ y, y ∈ ns → y ≤ m) : m = maxI ns := by
  have a := maxI_ge m h1
  have b := h2 _ (maxI_mem (List.ne_nil_of_mem h1))
  omega
theorem ed_max {ns : List Int} (h : EvD K ta σ H (.list (ns.map .int))) (hn : ns ≠ []) : EvD K (tCB (rMax K) (tCons ta tNil)) σ H (.int (maxI ns)) := ed_call1 h fun _ B hv _ q => by
  obtain ⟨a, xs, rfl, s, al⟩ := dp_list hv
  rw [dpa_ints_inv al] at s
  refine ⟨a, ns, rfl, s, List.length_pos_iff.mpr hn, fun m h1 h2 => ?_⟩
  rw [maxI_uniq h1 h2]
  exact q _ fun _ => .int _
theorem ed_all {bs : List Bool} (h : EvD K ta σ H (.list (bs.map .bool))) : EvD K (tCB (rAll K) (tCons ta tNil)) σ H (.bool (bs.all id)) := ed_call1 h fun _ B hv _ q => by
  obtain ⟨a, xs, rfl, s, al⟩ := dp_list hv
  rw [dpa_bls_inv al] at s
  exact ⟨a, bs, rfl, s, q _ fun _ => .bl _⟩
/-! ## comprehensions -/
/-- between two turns: the list at L holds what is made, the data lean on A' -/
structure LcI (K : PySem.W.Frag) (A B : Hp) (L : Addr) (es : List D) (H' : Hp) : Prop where
  ex : ∃ A' ys, Ex A A' ∧ Ex A' H' ∧ A' L = none ∧ H' L = some (.lst ys) ∧ DpAll K A' ys es ∧ (∀ x, A x = none → B x ≠ none → A' x = none)
  b : Ex B H'
theorem lci_start {A B : Hp} {L : Addr} (s : Ex A B) (hL : B L = none) : LcI K A B L [] (upd B L (.lst [])) :=
  ⟨⟨A, [], Ex.refl _, s.trans (Ex.new hL), fresh_back s hL, upd_same, .nil, fun _ q _ => q⟩, Ex.new hL⟩
theorem lci_turn {A B H1 : Hp} {L : Addr} {g : D} {f : Bool} (hB : B L = none) (p : LcI K A B L es H1) (hz : es.length < 100000)
    (ht : ∀ A', Ex A A' → EvB K t σ A' f) (he : f = true → ∀ A', Ex A A' → EvD K te σ A' g) :
    t σ H1 fun b H3 => if b = true then te σ H3 fun y H4 => ∃ acc, H4 L = some (.lst acc) ∧ acc.length < sizeLine ∧ LcI K A B L (if f then es ++ [g] else es) (upd H4 L (.lst (acc ++ [y]))) else LcI K A B L (if f then es ++ [g] else es) H3 := by
  obtain ⟨⟨A', ys, a1, a2, a3, a4, a5, a6⟩, a7⟩ := p
  refine ht A' a1 H1 a2 _ fun H3 e3 => ?_
  cases f with
  | true =>
    refine iteT ?_
    refine he rfl A' a1 A' H3 (Ex.refl _) (a2.trans e3) _ fun y A4 H4 P4 hy => ?_
    have e4 : H4 L = some (.lst ys) := P4.b _ _ (e3 _ _ a4)
    have n4 : A4 L = none := P4.n L a3 (by rw [e3 _ _ a4]; simp)
    refine ⟨ys, e4, sz_lt (by rw [dpa_len a5]; exact hz), ⟨⟨A4, ys ++ [y], a1.trans P4.a, ?_, n4, upd_same, dpa_app (dpa_ex P4.a a5) (.cons hy .nil), fun x q r => ?_⟩, ?_⟩⟩
    · exact Ex.mut P4.s n4
    · exact P4.n x (a6 x q r) fun z => r (fresh_back (a7.trans e3) z)
    · exact Ex.mut ((a7.trans e3).trans P4.b) hB
  | false =>
    refine iteF ?_
    exact ⟨⟨A', ys, a1, a2.trans e3, a3, e3 _ _ a4, a5, a6⟩, a7.trans e3⟩
theorem lci_end {A B H' : Hp} {L : Addr} {Q : VK} (hB : B L = none) (p : LcI K A B L es H') (q : ∀ p xs A' B', B p = none → Pr A B A' B' → A' p = none → B' p = some (.lst xs) → DpAll K A' xs es → Q (.ref p) B') : Q (.ref L) H' := by
  obtain ⟨⟨A', ys, a1, a2, a3, a4, a5, a6⟩, a7⟩ := p
  exact q L ys A' H' hB ⟨a1, a7, a2, a6⟩ a3 a4 a5
theorem take_f (f : D → Bool) (g : D → D) {i : Nat} (h : ds[i]? = some d) : ((ds.take (i + 1)).filter f).map g = if f d = true then ((ds.take i).filter f).map g ++ [g d] else ((ds.take i).filter f).map g := by
  have tk : ds.take (i + 1) = ds.take i ++ [d] := by rw [List.take_succ, h]; rfl
  rw [tk, List.filter_append, List.map_append]
  cases hf : f d with
  | true => simp [hf]
  | false => simp [hf]
theorem en_lcL {j : Nat} {ws : List Nat} (f : D → Bool) (g : D → D) (h : EvD K tl σ H (.list ds)) (hz : ds.length ≤ 40000) (hw : ∀ x, wipe ((wipe σ ws).set j (some x)) ws = wipe σ ws)
    (ht : ∀ d ∈ ds, ∀ v H1, Ex H H1 → Dp K H1 v d → EvB K t ((wipe σ ws).set j (some v)) H1 (f d)) (he : ∀ d ∈ ds, f d = true → ∀ v H1, Ex H H1 → Dp K H1 v d → EvD K te ((wipe σ ws).set j (some v)) H1 (g d)) :
    EvN K (tLc (iList K tl) (gName j) t te ws) σ H ((ds.filter f).map g) := fun A B e s Q q => h A B e s _ fun v A1 B1 P1 hv => by
  obtain ⟨a, xs, rfl, sq, al⟩ := dp_list hv
  refine ⟨a, rfl, ⟨xs, ex_l P1.s sq⟩, fun L hL => lc_list (xs := xs) (fun i H' => LcI K A1 B1 L (((ds.take i).filter f).map g) H') (lci_start P1.s hL) (fun i H' _ p => ex_l (P1.s.trans p.b) sq) ?_ ?_⟩
  · intro i x H' hi p
    obtain ⟨d, hd, hx⟩ := dpa_getV al hi
    have hm : d ∈ ds := List.mem_of_getElem? hd
    have hil : i < ds.length := (List.getElem?_eq_some_iff.mp hd).1
    refine ⟨hw x, ?_⟩
    rw [take_f f g hd]
    refine lci_turn hL p ?_ (fun A' ea => ht d hm x A' ((e.trans P1.a).trans ea) (dp_ex ea hx)) (fun hf A' ea => he d hm hf x A' ((e.trans P1.a).trans ea) (dp_ex ea hx))
    have q2 := List.length_filter_le f (ds.take i)
    rw [List.length_take] at q2
    rw [List.length_map]
    omega
  · intro H' p
    rw [dpa_len al, List.take_length] at p
    exact lci_end hL p fun p xs A' B' hp P => q p xs A' B' (fresh_back P1.b hp) (P1.trans P)
/-- without a test -/
theorem en_lcL1 {j : Nat} {ws : List Nat} (g : D → D) (h : EvD K tl σ H (.list ds)) (hz : ds.length ≤ 40000) (hw : ∀ x, wipe ((wipe σ ws).set j (some x)) ws = wipe σ ws)
    (he : ∀ d ∈ ds, ∀ v H1, Ex H H1 → Dp K H1 v d → EvD K te ((wipe σ ws).set j (some v)) H1 (g d)) :
    EvN K (tLc (iList K tl) (gName j) tYes te ws) σ H (ds.map g) := by
  have := en_lcL (t := tYes) (te := te) (j := j) (ws := ws) (fun _ => true) g h hz hw (fun _ _ _ _ _ _ => eb_yes) (fun d hm _ => he d hm)
  rwa [List.filter_eq_self.mpr (by simp)] at this
/-- over range(n) -/
theorem en_lcR {j : Nat} {m : Int} {ws : List Nat} (g : Nat → D) (h : EvD K te σ H (.int m)) (hz : 0 ≤ m ∧ m ≤ 40000) (hw : ∀ x, wipe ((wipe σ ws).set j (some x)) ws = wipe σ ws)
    (he : ∀ i : Nat, (i : Int) < m → ∀ H1, Ex H H1 → EvD K tb ((wipe σ ws).set j (some (.int (i : Int)))) H1 (g i)) :
    EvN K (tLc (iRng1 (tCons te tNil)) (gName j) tYes tb ws) σ H ((List.range m.toNat).map g) := fun A B e s Q q => h A B e s _ fun v A1 B1 P1 hv => by
  cases hv
  refine ⟨m, rfl, by omega, by omega, fun L hL => lc_range (lo := 0) (n := m.toNat) (fun i H' => LcI K A1 B1 L ((List.range i).map g) H') (lci_start P1.s hL) ?_ ?_⟩
  · intro i H' hi p
    have e0 : (0 : Int) + (i : Int) = (i : Int) := Int.zero_add _
    show wipe ((wipe σ ws).set j (some (.int ((0 : Int) + (i : Int))))) ws = wipe σ ws ∧ tYes ((wipe σ ws).set j (some (.int ((0 : Int) + (i : Int))))) H' fun b H3 => if b = true then tb ((wipe σ ws).set j (some (.int ((0 : Int) + (i : Int))))) H3 fun y H4 => ∃ acc, H4 L = some (.lst acc) ∧ acc.length < sizeLine ∧ LcI K A1 B1 L ((List.range (i + 1)).map g) (upd H4 L (.lst (acc ++ [y]))) else LcI K A1 B1 L ((List.range (i + 1)).map g) H3
    rw [e0]
    refine ⟨hw _, ?_⟩
    have z : (List.range (i + 1)).map g = if true = true then (List.range i).map g ++ [g i] else (List.range i).map g := by rw [if_pos rfl, List.range_succ, List.map_append]; rfl
    rw [z]
    refine lci_turn (f := true) hL p ?_ (fun A' _ => eb_yes) (fun _ A' ea => he i (by omega) A' ((e.trans P1.a).trans ea))
    rw [List.length_map, List.length_range]
    omega
  · intro H' p
    exact lci_end hL p fun p xs A' B' hp P => q p xs A' B' (fresh_back P1.b hp) (P1.trans P)
/-! ## statements -/
variable (K) {Dd : Ends} {ts tw tz : TS} {A A0 H0 B : Hp}
theorem s_asgD {i : Nat} (s : Ex A H) (h : EvD K te σ A d) (k : ∀ v A' B', Pr A H A' B' → Dp K A' v d → Dd.nx (σ.set i (some v)) B') : tAsg te (gName i) Dd σ H := h A H (Ex.refl _) s _ k
theorem s_asgN {i : Nat} (s : Ex A H) (h : EvN K te σ A ds) (k : ∀ p xs A' B', H p = none → Pr A H A' B' → A' p = none → B' p = some (.lst xs) → DpAll K A' xs ds → Dd.nx (σ.set i (some (.ref p))) B') : tAsg te (gName i) Dd σ H := h A H (Ex.refl _) s _ k
theorem s_retD (s : Ex A H) (h : EvD K te σ A d) (k : ∀ v A' B', Pr A H A' B' → Dp K A' v d → Dd.rt v B') : tRet te Dd σ H := h A H (Ex.refl _) s _ k
theorem q_appD {i : Nat} {l : Addr} {t2 : TS} (s : Ex A H) (hi : σ[i]? = some (some (.ref l))) (hl : H l = some (.lst xs)) (hz : xs.length < 100000) (h : EvD K te σ A d)
    (k : ∀ v A' B', Pr A H A' B' → Dp K A' v d → t2 Dd σ (upd B' l (.lst (xs ++ [v])))) : tSeq (tDrop (tBM K "list" rAppend (tVar i) (tCons te tNil))) t2 Dd σ H :=
  ⟨.ref l, hi, .inl ⟨rfl, xs, sq_of hl⟩, h A H (Ex.refl _) s _ fun v A' B' P hv => ⟨l, xs, v, rfl, rfl, P.b _ _ hl, sz_lt hz, k v A' B' P hv⟩⟩
theorem s_retK (s : Ex A H) (h : EvD K te σ A d) (q : d = d') (k : ∀ v A' B', Pr A H A' B' → Dp K A' v d' → Dd.rt v B') : tRet te Dd σ H := by
  subst q
  exact h A H (Ex.refl _) s _ k
/-- the ends of a statement that another one follows -/
def go (Dd : Ends) (t2 : TS) : Ends := { Dd with nx := t2 Dd }
theorem s_seq {t1 t2 : TS} (h : t1 (go Dd t2) σ H) : tSeq t1 t2 Dd σ H := h
theorem go_nx {t2 : TS} (h : t2 Dd σ H) : (go Dd t2).nx σ H := h
theorem s_next (h : Dd.nx σ H) : tNext Dd σ H := h
theorem q_next {t2 : TS} (h : t2 Dd σ H) : tNext (go Dd t2) σ H := h
theorem q_asgD {i : Nat} {t2 : TS} (s : Ex A H) (h : EvD K te σ A d) (k : ∀ v A' B', Pr A H A' B' → Dp K A' v d → t2 Dd (σ.set i (some v)) B') : tSeq (tAsg te (gName i)) t2 Dd σ H := h A H (Ex.refl _) s _ k
theorem q_asgN {i : Nat} {t2 : TS} (s : Ex A H) (h : EvN K te σ A ds) (k : ∀ p xs A' B', H p = none → Pr A H A' B' → A' p = none → B' p = some (.lst xs) → DpAll K A' xs ds → t2 Dd (σ.set i (some (.ref p))) B') : tSeq (tAsg te (gName i)) t2 Dd σ H := h A H (Ex.refl _) s _ k
theorem s_ifD {b : Bool} (s : Ex A H) (h : EvB K t σ A b) (h1 : b = true → ∀ B', Pu A H B' → tw Dd σ B') (h2 : b = false → ∀ B', Pu A H B' → tz Dd σ B') : tIfS t tw tz Dd σ H := h H s _ fun B' e => by
  cases b with
  | true => exact iteT (h1 rfl B' ⟨s, e⟩)
  | false => exact iteF (h2 rfl B' ⟨s, e⟩)
theorem q_ifD {b : Bool} {t2 : TS} (s : Ex A H) (h : EvB K t σ A b) (h1 : b = true → ∀ B', Pu A H B' → tw (go Dd t2) σ B') (h2 : b = false → ∀ B', Pu A H B' → tz (go Dd t2) σ B') : tSeq (tIfS t tw tz) t2 Dd σ H := s_ifD K (Dd := go Dd t2) s h h1 h2
theorem q_ifE {b b' : Bool} {t2 : TS} (s : Ex A H) (h : EvB K t σ A b') (q : b' = b) (h1 : b = true → ∀ B', Pu A H B' → tw (go Dd t2) σ B') (h2 : b = false → ∀ B', Pu A H B' → tz (go Dd t2) σ B') : tSeq (tIfS t tw tz) t2 Dd σ H := s_ifD K (Dd := go Dd t2) s (q ▸ h) h1 h2
theorem s_ifE {b b' : Bool} (s : Ex A H) (h : EvB K t σ A b') (q : b' = b) (h1 : b = true → ∀ B', Pu A H B' → tw Dd σ B') (h2 : b = false → ∀ B', Pu A H B' → tz Dd σ B') : tIfS t tw tz Dd σ H := s_ifD K s (q ▸ h) h1 h2
theorem ed_abs {K : PySem.W.Frag} {p : Prop} (h : p) (hn : ¬ p) : EvD K te σ H (.bool false) := absurd h hn
theorem eb_abs {K : PySem.W.Frag} {p : Prop} (h : p) (hn : ¬ p) : EvB K t σ H false := absurd h hn
/-- a for over a list of data: J of the turn, the slots, the data's heap, the whole heap -/
theorem s_forD {g : TG} (s : Ex A H) (h : EvD K tl σ A (.list ds)) (J : Nat → L2.St → Hp → Hp → Prop) (h0 : ∀ A1 B1, Pr A H A1 B1 → J 0 σ A1 B1)
    (hs : ∀ A1 B1, Pr A H A1 B1 → ∀ i d v σ' A' B', ds[i]? = some d → Pr A1 B1 A' B' → Dp K A' v d → J i σ' A' B' →
      g v σ' B' fun σ2 H2 => ts { Dd with nx := fun σ3 H3 => ∃ A3, Pr A1 B1 A3 H3 ∧ J (i + 1) σ3 A3 H3, ct := fun σ3 H3 => ∃ A3, Pr A1 B1 A3 H3 ∧ J (i + 1) σ3 A3 H3, bk := Dd.nx } σ2 H2)
    (hd : ∀ A1 B1 σ' A' B', Pr A H A1 B1 → Pr A1 B1 A' B' → J ds.length σ' A' B' → Dd.nx σ' B') : tFor (iList K tl) g ts Dd σ H := h A H (Ex.refl _) s _ fun v A1 B1 P1 hv => by
  obtain ⟨a, xs, rfl, sq, al⟩ := dp_list hv
  have hlen := dpa_len al
  refine ⟨a, rfl, ⟨xs, ex_l P1.s sq⟩, for_list (xs := xs) (fun i σ' H' => ∃ A', Pr A1 B1 A' H' ∧ J i σ' A' H') ⟨A1, Pr.refl P1.s, h0 A1 B1 P1⟩ (fun i σ' H' _ ⟨A', P, _⟩ => ex_l (P.a.trans P.s) sq) ?_ ?_⟩
  · rintro i x σ' H' hi' ⟨A', P, p⟩
    obtain ⟨d, hdd, hx⟩ := dpa_getV al hi'
    exact hs A1 B1 P1 i d x σ' A' H' hdd P (dp_ex P.a hx) p
  · rintro σ' H' ⟨A', P, p⟩
    rw [hlen] at p
    exact hd A1 B1 σ' A' H' P1 P p
/-- .. over range(n) -/
theorem s_forR {j : Nat} {n : Int} (s : Ex A H) (h : EvAD K tr σ A [.int n]) (hn : -100000 ≤ n ∧ n ≤ 100000) (J : Nat → L2.St → Hp → Hp → Prop) (h0 : ∀ A1 B1, Pr A H A1 B1 → J 0 σ A1 B1)
    (hs : ∀ A1 B1, Pr A H A1 B1 → ∀ (i : Nat) σ' A' B', (i : Int) < n → Pr A1 B1 A' B' → J i σ' A' B' →
      ts { Dd with nx := fun σ3 H3 => ∃ A3, Pr A1 B1 A3 H3 ∧ J (i + 1) σ3 A3 H3, ct := fun σ3 H3 => ∃ A3, Pr A1 B1 A3 H3 ∧ J (i + 1) σ3 A3 H3, bk := Dd.nx } (σ'.set j (some (.int (i : Int)))) B')
    (hd : ∀ A1 B1 σ' A' B', Pr A H A1 B1 → Pr A1 B1 A' B' → J n.toNat σ' A' B' → Dd.nx σ' B') : tFor (iRng1 tr) (gName j) ts Dd σ H := h A H (Ex.refl _) s _ fun vs A1 B1 P1 hv => by
  obtain ⟨v, rfl, hv1⟩ := dpa1 hv
  cases hv1
  refine ⟨n, rfl, by omega, by omega, for_range (lo := 0) (n := n.toNat) (fun i σ' H' => ∃ A', Pr A1 B1 A' H' ∧ J i σ' A' H') ⟨A1, Pr.refl P1.s, h0 A1 B1 P1⟩ ?_ ?_⟩
  · rintro i σ' H' hi ⟨A', P, p⟩
    have e0 : (0 : Int) + (i : Int) = (i : Int) := Int.zero_add _
    show ts _ (σ'.set j (some (.int ((0 : Int) + (i : Int))))) H'
    rw [e0]
    exact hs A1 B1 P1 i σ' A' H' (by omega) P p
  · rintro σ' H' ⟨A', P, p⟩
    exact hd A1 B1 σ' A' H' P1 P p
/-- the turns of range(lo, hi, c) -/
def rgN (lo hi c : Int) : Nat := (if lo < hi then (hi - lo - 1) / c + 1 else 0).toNat
theorem rgN_lt {lo hi c : Int} (hc : 0 < c) {i : Nat} (h : i < rgN lo hi c) : lo + i * c < hi := by
  unfold rgN at h
  split at h
  · rename_i q
    have z0 : 0 ≤ (hi - lo - 1) / c := Int.ediv_nonneg (by omega) (by omega)
    have z1 : (i : Int) ≤ (hi - lo - 1) / c := by omega
    have z3 : (i : Int) * c ≤ hi - lo - 1 := (Int.le_ediv_iff_mul_le hc).mp z1
    omega
  · simp at h
theorem rgc_up {lo hi c : Int} (hc : 0 < c) (hc2 : c < 1000) (h1 : -100000 ≤ lo ∧ lo ≤ 100000) (h2 : -100000 ≤ hi ∧ hi ≤ 100000) : RgC lo hi c (rgN lo hi c) := by
  have e : Builtin.Range.rangeSize lo hi c = (rgN lo hi c : Int) := by
    unfold Builtin.Range.rangeSize rgN
    rw [if_pos (by omega)]
    split
    · have z0 : 0 ≤ (hi - lo - 1) / c := Int.ediv_nonneg (by omega) (by omega)
      omega
    · rfl
  have hn : (rgN lo hi c : Int) ≤ 200000 := by
    unfold rgN
    split
    · have z0 : 0 ≤ (hi - lo - 1) / c := Int.ediv_nonneg (by omega) (by omega)
      have z1 : (hi - lo - 1) / c ≤ hi - lo - 1 := Int.ediv_le_self _ (by omega)
      omega
    · simp
  refine ⟨by omega, by omega, ?_, e⟩
  unfold Builtin.Range.small
  rw [e]
  simp only [Builtin.Range.rangeFitsLong, Bool.and_eq_true, Bool.or_eq_true, decide_eq_true_eq, beq_iff_eq]
  refine ⟨⟨⟨⟨⟨by omega, by omega⟩, by omega, by omega⟩, by omega, by omega⟩, by omega, by omega⟩, .inr ?_⟩
  rw [if_pos hc, Bool.and_eq_true, decide_eq_true_eq, decide_eq_true_eq]
  omega
/-- .. over range(lo, hi, c), c a small positive number -/
theorem s_forR3 {j : Nat} {lo hi c : Int} (s : Ex A H) (h : EvAD K tr σ A [.int lo, .int hi, .int c]) (hc : 0 < c ∧ c < 1000) (hn : -100000 ≤ lo ∧ lo ≤ 100000 ∧ -100000 ≤ hi ∧ hi ≤ 100000) (J : Nat → L2.St → Hp → Hp → Prop) (h0 : ∀ A1 B1, Pr A H A1 B1 → J 0 σ A1 B1)
    (hs : ∀ A1 B1, Pr A H A1 B1 → ∀ (i : Nat) σ' A' B', lo + i * c < hi → Pr A1 B1 A' B' → J i σ' A' B' →
      ts { Dd with nx := fun σ3 H3 => ∃ A3, Pr A1 B1 A3 H3 ∧ J (i + 1) σ3 A3 H3, ct := fun σ3 H3 => ∃ A3, Pr A1 B1 A3 H3 ∧ J (i + 1) σ3 A3 H3, bk := Dd.nx } (σ'.set j (some (.int (lo + (i : Nat) * c)))) B')
    (hd : ∀ A1 B1 σ' A' B', Pr A H A1 B1 → Pr A1 B1 A' B' → J (rgN lo hi c) σ' A' B' → Dd.nx σ' B') : tFor (iRng3 tr) (gName j) ts Dd σ H := h A H (Ex.refl _) s _ fun vs A1 B1 P1 hv => by
  obtain ⟨v1, v2, v3, rfl, hv1, hv2, hv3⟩ := dpa3 hv
  cases hv1; cases hv2; cases hv3
  refine ⟨lo, hi, c, _, rfl, rgc_up hc.1 hc.2 ⟨by omega, by omega⟩ ⟨by omega, by omega⟩, for_it (walk_rangeC (lo := lo) (c := c) (n := rgN lo hi c)) (fun i σ' H' => ∃ A', Pr A1 B1 A' H' ∧ J i σ' A' H') ⟨A1, Pr.refl P1.s, h0 A1 B1 P1⟩ (fun _ _ _ _ _ => trivial) ?_ ?_⟩
  · rintro i x σ' H' H'' hi' ⟨A', P, p⟩ ⟨rfl, rfl⟩
    exact hs A1 B1 P1 i σ' A' H'' (rgN_lt hc.1 hi') P p
  · rintro σ' H' ⟨A', P, p⟩
    exact hd A1 B1 σ' A' H' P1 P p
/-! ### lists that grow: owned ones, not yet data -/
theorem Pr.mut {A B A' B' : Hp} {l : Addr} {o : HO} (P : Pr A B A' B') (hB : B l = none) (hA : A' l = none) : Pr A B A' (upd B' l o) :=
  ⟨P.a, Ex.mut P.b hB, Ex.mut P.s hA, P.n⟩
theorem Ex.frz {A B : Hp} {l : Addr} {o : HO} (s : Ex A B) (hB : B l = some o) : Ex (upd A l o) B := fun x u z => by
  by_cases w : x = l
  · subst w; rw [upd_same] at z; rw [hB]; exact z
  · rw [upd_ne w] at z; exact s x u z
/-- an owned list becomes a datum -/
theorem Pr.frz {A B A' B' : Hp} {l : Addr} {o : HO} (P : Pr A B A' B') (hB : B l = none) (hA : A' l = none) (h : B' l = some o) : Pr A B (upd A' l o) B' :=
  ⟨P.a.trans (Ex.new hA), P.b, Ex.frz P.s h, fun x y z => by rw [upd_ne (fun (w : x = l) => z (by rw [w]; exact hB))]; exact P.n x y z⟩
theorem Pr.owned {A B A' B' : Hp} {l : Addr} (P : Pr A B A' B') (hA : A l = none) {o : HO} (h : B l = some o) : A' l = none ∧ B' l = some o :=
  ⟨P.n l hA (by rw [h]; simp), P.b _ _ h⟩
theorem s_appD {i : Nat} {l : Addr} (s : Ex A H) (hi : σ[i]? = some (some (.ref l))) (hl : H l = some (.lst xs)) (hz : xs.length < 100000) (h : EvD K te σ A d)
    (k : ∀ v A' B', Pr A H A' B' → Dp K A' v d → Dd.nx σ (upd B' l (.lst (xs ++ [v])))) : tDrop (tBM K "list" rAppend (tVar i) (tCons te tNil)) Dd σ H :=
  ⟨.ref l, hi, .inl ⟨rfl, xs, sq_of hl⟩, h A H (Ex.refl _) s _ fun v A' B' P hv => ⟨l, xs, v, rfl, rfl, P.b _ _ hl, sz_lt hz, k v A' B' P hv⟩⟩
/-- loops with an owned list: J tells all -/
theorem s_forR3x {j : Nat} {lo hi c : Int} (s : Ex A H) (h : EvAD K tr σ A [.int lo, .int hi, .int c]) (hc : 0 < c ∧ c < 1000) (hn : -100000 ≤ lo ∧ lo ≤ 100000 ∧ -100000 ≤ hi ∧ hi ≤ 100000) (J : Nat → L2.St → Hp → Prop) (h0 : ∀ A1 B1, Pr A H A1 B1 → J 0 σ B1)
    (hs : ∀ (i : Nat) σ' B', lo + i * c < hi → J i σ' B' → ts { Dd with nx := J (i + 1), ct := J (i + 1), bk := Dd.nx } (σ'.set j (some (.int (lo + (i : Nat) * c)))) B')
    (hd : ∀ σ' B', J (rgN lo hi c) σ' B' → Dd.nx σ' B') : tFor (iRng3 tr) (gName j) ts Dd σ H := h A H (Ex.refl _) s _ fun vs A1 B1 P1 hv => by
  obtain ⟨v1, v2, v3, rfl, hv1, hv2, hv3⟩ := dpa3 hv
  cases hv1; cases hv2; cases hv3
  refine ⟨lo, hi, c, _, rfl, rgc_up hc.1 hc.2 ⟨by omega, by omega⟩ ⟨by omega, by omega⟩, for_it (walk_rangeC (lo := lo) (c := c) (n := rgN lo hi c)) J (h0 A1 B1 P1) (fun _ _ _ _ _ => trivial) ?_ hd⟩
  rintro i x σ' H' H'' hi' p ⟨rfl, rfl⟩
  exact hs i σ' H'' (rgN_lt hc.1 hi') p
/-- for a, b in zip(list, list) -/
theorem s_forZ {i j : Nat} (s : Ex A H) (h : EvAD K tr σ A [.list ds, .list es]) (J : Nat → L2.St → Hp → Hp → Prop) (h0 : ∀ A1 B1, Pr A H A1 B1 → J 0 σ A1 B1)
    (hs : ∀ A1 B1, Pr A H A1 B1 → ∀ t d e v w σ' A' B', ds[t]? = some d → es[t]? = some e → Pr A1 B1 A' B' → Dp K A' v d → Dp K A' w e → J t σ' A' B' →
      ∀ B2, Pu A' B' B2 → ts { Dd with nx := fun σ3 H3 => ∃ A3, Pr A1 B1 A3 H3 ∧ J (t + 1) σ3 A3 H3, ct := fun σ3 H3 => ∃ A3, Pr A1 B1 A3 H3 ∧ J (t + 1) σ3 A3 H3, bk := Dd.nx } ((σ'.set i (some v)).set j (some w)) B2)
    (hd : ∀ A1 B1 σ' A' B', Pr A H A1 B1 → Pr A1 B1 A' B' → J (min ds.length es.length) σ' A' B' → Dd.nx σ' B') : tFor (iZip K tr) (gTup K 2 (gCons (gName i) (gCons (gName j) gNil))) ts Dd σ H := h A H (Ex.refl _) s _ fun vs A1 B1 P1 hv => by
  obtain ⟨v1, v2, rfl, hv1, hv2⟩ := dpa2 hv
  obtain ⟨a, xs, rfl, sq, al⟩ := dp_list hv1
  obtain ⟨b, ys, rfl, sq2, al2⟩ := dp_list hv2
  refine ⟨a, b, xs, ys, rfl, ex_l P1.s sq, ex_l P1.s sq2, for_it (walk_zip (xs := xs) (ys := ys) (n := min ds.length es.length) (by rw [dpa_len al, dpa_len al2])) (fun i σ' H' => ∃ A', Pr A1 B1 A' H' ∧ J i σ' A' H') ⟨A1, Pr.refl P1.s, h0 A1 B1 P1⟩ (fun i σ' H' _ ⟨A', P, _⟩ => ⟨ex_l (P.a.trans P.s) sq, ex_l (P.a.trans P.s) sq2⟩) ?_ ?_⟩
  · rintro t v σ' H' H'' ht ⟨A', P, p⟩ ⟨T, x, y, rfl, hT, rfl, hx, hy⟩
    obtain ⟨d, hd1, hd2⟩ := dpa_getV al hx
    obtain ⟨e, he1, he2⟩ := dpa_getV al2 hy
    exact ⟨T, [x, y], rfl, st_of upd_same, rfl, x, [y], rfl, y, [], rfl, rfl, hs A1 B1 P1 t d e x y σ' A' H' hd1 he1 P (dp_ex P.a hd2) (dp_ex P.a he2) p _ ⟨P.s, Ex.new hT⟩⟩
  · rintro σ' H' ⟨A', P, p⟩
    exact hd A1 B1 σ' A' H' P1 P p
theorem q_forD {t2 : TS} {g : TG} (s : Ex A H) (h : EvD K tl σ A (.list ds)) (J : Nat → L2.St → Hp → Hp → Prop) (h0 : ∀ A1 B1, Pr A H A1 B1 → J 0 σ A1 B1)
    (hs : ∀ A1 B1, Pr A H A1 B1 → ∀ i d v σ' A' B', ds[i]? = some d → Pr A1 B1 A' B' → Dp K A' v d → J i σ' A' B' →
      g v σ' B' fun σ2 H2 => ts { (go Dd t2) with nx := fun σ3 H3 => ∃ A3, Pr A1 B1 A3 H3 ∧ J (i + 1) σ3 A3 H3, ct := fun σ3 H3 => ∃ A3, Pr A1 B1 A3 H3 ∧ J (i + 1) σ3 A3 H3, bk := t2 Dd } σ2 H2)
    (hd : ∀ A1 B1 σ' A' B', Pr A H A1 B1 → Pr A1 B1 A' B' → J ds.length σ' A' B' → t2 Dd σ' B') : tSeq (tFor (iList K tl) g ts) t2 Dd σ H := s_forD K (Dd := go Dd t2) s h J h0 hs hd
theorem q_forR {t2 : TS} {j : Nat} {n : Int} (s : Ex A H) (h : EvAD K tr σ A [.int n]) (hn : -100000 ≤ n ∧ n ≤ 100000) (J : Nat → L2.St → Hp → Hp → Prop) (h0 : ∀ A1 B1, Pr A H A1 B1 → J 0 σ A1 B1)
    (hs : ∀ A1 B1, Pr A H A1 B1 → ∀ (i : Nat) σ' A' B', (i : Int) < n → Pr A1 B1 A' B' → J i σ' A' B' →
      ts { (go Dd t2) with nx := fun σ3 H3 => ∃ A3, Pr A1 B1 A3 H3 ∧ J (i + 1) σ3 A3 H3, ct := fun σ3 H3 => ∃ A3, Pr A1 B1 A3 H3 ∧ J (i + 1) σ3 A3 H3, bk := t2 Dd } (σ'.set j (some (.int (i : Int)))) B')
    (hd : ∀ A1 B1 σ' A' B', Pr A H A1 B1 → Pr A1 B1 A' B' → J n.toNat σ' A' B' → t2 Dd σ' B') : tSeq (tFor (iRng1 tr) (gName j) ts) t2 Dd σ H := s_forR K (Dd := go Dd t2) s h hn J h0 hs hd
theorem q_forR3 {t2 : TS} {j : Nat} {lo hi c : Int} (s : Ex A H) (h : EvAD K tr σ A [.int lo, .int hi, .int c]) (hc : 0 < c ∧ c < 1000) (hn : -100000 ≤ lo ∧ lo ≤ 100000 ∧ -100000 ≤ hi ∧ hi ≤ 100000) (J : Nat → L2.St → Hp → Hp → Prop) (h0 : ∀ A1 B1, Pr A H A1 B1 → J 0 σ A1 B1)
    (hs : ∀ A1 B1, Pr A H A1 B1 → ∀ (i : Nat) σ' A' B', lo + i * c < hi → Pr A1 B1 A' B' → J i σ' A' B' →
      ts { (go Dd t2) with nx := fun σ3 H3 => ∃ A3, Pr A1 B1 A3 H3 ∧ J (i + 1) σ3 A3 H3, ct := fun σ3 H3 => ∃ A3, Pr A1 B1 A3 H3 ∧ J (i + 1) σ3 A3 H3, bk := t2 Dd } (σ'.set j (some (.int (lo + (i : Nat) * c)))) B')
    (hd : ∀ A1 B1 σ' A' B', Pr A H A1 B1 → Pr A1 B1 A' B' → J (rgN lo hi c) σ' A' B' → t2 Dd σ' B') : tSeq (tFor (iRng3 tr) (gName j) ts) t2 Dd σ H := s_forR3 K (Dd := go Dd t2) s h hc hn J h0 hs hd
theorem q_forR3x {t2 : TS} {j : Nat} {lo hi c : Int} (s : Ex A H) (h : EvAD K tr σ A [.int lo, .int hi, .int c]) (hc : 0 < c ∧ c < 1000) (hn : -100000 ≤ lo ∧ lo ≤ 100000 ∧ -100000 ≤ hi ∧ hi ≤ 100000) (J : Nat → L2.St → Hp → Prop) (h0 : ∀ A1 B1, Pr A H A1 B1 → J 0 σ B1)
    (hs : ∀ (i : Nat) σ' B', lo + i * c < hi → J i σ' B' → ts { (go Dd t2) with nx := J (i + 1), ct := J (i + 1), bk := t2 Dd } (σ'.set j (some (.int (lo + (i : Nat) * c)))) B')
    (hd : ∀ σ' B', J (rgN lo hi c) σ' B' → t2 Dd σ' B') : tSeq (tFor (iRng3 tr) (gName j) ts) t2 Dd σ H := s_forR3x K (Dd := go Dd t2) s h hc hn J h0 hs hd
theorem q_forZ {t2 : TS} {i j : Nat} (s : Ex A H) (h : EvAD K tr σ A [.list ds, .list es]) (J : Nat → L2.St → Hp → Hp → Prop) (h0 : ∀ A1 B1, Pr A H A1 B1 → J 0 σ A1 B1)
    (hs : ∀ A1 B1, Pr A H A1 B1 → ∀ t d e v w σ' A' B', ds[t]? = some d → es[t]? = some e → Pr A1 B1 A' B' → Dp K A' v d → Dp K A' w e → J t σ' A' B' →
      ∀ B2, Pu A' B' B2 → ts { (go Dd t2) with nx := fun σ3 H3 => ∃ A3, Pr A1 B1 A3 H3 ∧ J (t + 1) σ3 A3 H3, ct := fun σ3 H3 => ∃ A3, Pr A1 B1 A3 H3 ∧ J (t + 1) σ3 A3 H3, bk := t2 Dd } ((σ'.set i (some v)).set j (some w)) B2)
    (hd : ∀ A1 B1 σ' A' B', Pr A H A1 B1 → Pr A1 B1 A' B' → J (min ds.length es.length) σ' A' B' → t2 Dd σ' B') : tSeq (tFor (iZip K tr) (gTup K 2 (gCons (gName i) (gCons (gName j) gNil))) ts) t2 Dd σ H := s_forZ K (Dd := go Dd t2) s h J h0 hs hd
variable {K}
/-! ### shapes of data -/
def ShN (n : Nat) (d : D) : Prop := d.canLay0 = true ∧ d.depth ≤ n
theorem shn_int {n : Nat} {i : Int} : ShN n (.int i) := ⟨rfl, Nat.zero_le _⟩
theorem shn_bl {n : Nat} {i : Bool} : ShN n (.bool i) := ⟨rfl, Nat.zero_le _⟩
theorem shn_non {n : Nat} : ShN n .none := ⟨rfl, Nat.zero_le _⟩
theorem shn_all {n : Nat} : ∀ {ds : List D}, (∀ d ∈ ds, ShN n d) → PyData.canLayAll0 ds = true ∧ PyData.depthAll ds ≤ n
  | [], _ => ⟨rfl, Nat.zero_le _⟩
  | d :: ds, h => by
    obtain ⟨a, b⟩ := h d List.mem_cons_self
    obtain ⟨c, e⟩ := shn_all (ds := ds) fun x hx => h x (List.mem_cons_of_mem _ hx)
    refine ⟨?_, ?_⟩
    · show (d.canLay0 && PyData.canLayAll0 ds) = true
      rw [a, c]; rfl
    · show max d.depth (PyData.depthAll ds) ≤ n
      omega
theorem shn_tup {n : Nat} (h : ∀ d ∈ ds, ShN n d) : ShN (n + 1) (.tuple ds) := by
  obtain ⟨a, b⟩ := shn_all h
  exact ⟨a, Nat.succ_le_succ b⟩
theorem shn_list {n : Nat} (h : ∀ d ∈ ds, ShN n d) : ShN (n + 1) (.list ds) := by
  obtain ⟨a, b⟩ := shn_all h
  exact ⟨a, Nat.succ_le_succ b⟩
theorem ShN.sh {n : Nat} (h : ShN n d) (hn : n ≤ 64) : SeqAt.shaped d = true := by
  unfold SeqAt.shaped
  rw [h.1, decide_eq_true (Nat.le_trans h.2 hn)]
  rfl
theorem eqv_refl (h : SeqAt.shaped d = true) : PyData.eqv d d = true := by
  have := (Bool.and_eq_true_iff.mp h).1
  exact SeqAt.eqv_refl d this
/-! ## promises over data -/
/-- to such arguments such an answer -/
def SpD (K : PySem.W.Frag) (sp : Sp) (ds : List D) (d : D) : Prop := ∀ A B vs Q E, Ex A B → DpAll K A vs ds → (∀ v A' B', Pr A B A' B' → Dp K A' v d → Q v B') → sp vs B Q E
theorem ed_call {sp : Sp} {E : XK} (h : EvAD K tr σ H ds) (hs : SpD K sp ds d) : EvD K (tCall sp [] E tr) σ H d := fun A B e s Q q => h A B e s _ fun vs A2 B2 P2 ha => by
  show sp (vs ++ []) B2 Q E
  rw [List.append_nil]
  exact hs A2 B2 vs Q E P2.s ha fun v A3 B3 P3 => q v A3 B3 (P2.trans P3)
end
/-- the promise of a def whose answer is the datum res x, to the arguments args x -/
def spF (K : PySem.W.Frag) {α : Type} (args : α → List D) (ok : α → Prop) (res : α → D) : Sp := fun vs H Q _ => ∃ A x, ok x ∧ Ex A H ∧ DpAll K A vs (args x) ∧ ∀ v A' B', Pr A H A' B' → Dp K A' v (res x) → Q v B'
theorem spF_len {K : PySem.W.Frag} {α : Type} {args : α → List D} {ok : α → Prop} {res : α → D} {vs : List V} {H : Hp} {Q : VK} {E : XK} {n : Nat} (h : spF K args ok res vs H Q E) (hl : ∀ x, (args x).length = n) : vs.length = n := by
  obtain ⟨A, x, _, _, ha, _⟩ := h
  rw [dpa_len ha, hl x]
theorem spF_at {K : PySem.W.Frag} {α : Type} {args : α → List D} {ok : α → Prop} {res : α → D} (x : α) (h : ok x) : SpD K (spF K args ok res) (args x) (res x) := fun A _ _ _ _ s ha k => ⟨A, x, h, s, ha, k⟩
theorem cx_K {CX : CXT} {P : Program} {w : World} {K : PySem.W.Frag} {mg : Str → Option Value} {base : Heap} {N : List Str} {qual : Str} {scope : Scope} {f : Addr} {cd : Value} {A : Around} {outer : List Env} {s : Shared} {H : Hp} {E : XK} :
    (cxOf CX P w K mg base N qual scope f cd A outer s H E).nox.K = K := rfl
/-- one def of the text, ready to be called by its name -/
def DefOk (P : Program) (w : World) (K : PySem.W.Frag) (mg : Str → Option Value) (base : Heap) (CX : CXT) (k : Nat) (x : Str) (ps : List Str) (sp : Sp) : Prop :=
  ∃ f fd, mg x = some (.ref f) ∧ PySem.W.keepIn K (.ref f) = true ∧ Binds K fd ps [] ∧ FnOk P w K mg base CX k f fd ps sp
/-- what the top says of a def -/
structure DefAt (K : PySem.W.Frag) (mg : Str → Option Value) (x : Str) (st : Stmt) (ps : List Str) (f : Addr) (fd : FuncData) : Prop where
  F : Fun K x x st f fd
  g : mg x = some (.ref f)
  b : Binds K fd ps []
theorem DefAt.ok {P : Program} {w : World} {K : PySem.W.Frag} {mg : Str → Option Value} {base : Heap} {CX : CXT} {k : Nat} {x : Str} {st : Stmt} {ps : List Str} {f : Addr} {fd : FuncData} {sp : Sp} (d : DefAt K mg x st ps f fd) (h : FnOk P w K mg base CX k f fd ps sp) : DefOk P w K mg base CX k x ps sp :=
  ⟨f, fd, d.g, d.F.kp, d.b, h⟩
section
variable {X : Cx} {CX : CXT} {k : Nat} {x : Str} {ps : List Str} {sp : Sp} {E : XK} {p pos : Pos} {e : Expr} {es : List Expr} {t : TA}
theorem pe_cd (G : DefOk X.prog X.w X.K X.mg X.base CX k x ps sp) (hr : Room k X.A) (hg : Gl X x) (hx : Passes CX X E) (ha : PA X (e :: es) t) (hdb : (x == ("__debug__" : Str)) = false := by decide)
    (he : starEach (e :: es) X.env = (false, eval e X.env) :: starEach es X.env := by rfl) (hpl : (backTo pos (starEach es X.env)).any (·.1) = false := by rfl) : PE X (.Call (.Name x p) (e :: es) [] pos) (tCall sp [] E t) := by
  obtain ⟨f, fd, h1, h2, h3, h4⟩ := G
  exact pe_call h4 hr hg h1 h2 h3 .nil hx ha hdb he hpl
theorem pe_ty {T : String} (hg : Gl X x) (hm : X.mg x = none) (hv : bootBuiltins x = some (.type T)) (hn : x ≠ "__name__" := by decide) (hd : (x == ("__debug__" : Str)) = false := by decide) : PE X (.Name x p) (tC (.ty T)) :=
  pe_bltn (v := .ty T) hg hm hv rfl hn hd
/-! built-in words, the written part a letter -/
section
variable {K : PySem.W.Frag}
theorem ixT (h : X.K = K) : IxR X (rIxT K) := h ▸ ix_tup
theorem ixL (h : X.K = K) : IxR X (rIxL K) := h ▸ ix_list
theorem slL (h : X.K = K) : SlR X (rSlL K) := h ▸ sl_list
theorem o_eqD (h : X.K = K) (hu : X.A.units + 64 < cLine) : OpR X (compareOp .Eq) (rEqD K) := h ▸ op_eqD hu
theorem o_neD (h : X.K = K) (hu : X.A.units + 64 < cLine) : OpR X (compareOp .NotEq) (rNeD K) := h ▸ op_neD hu
theorem o_in (h : X.K = K) : OpR X (compareOp .In) (rIn K false) := h ▸ op_in_seq
theorem o_notIn (h : X.K = K) : OpR X (compareOp .NotIn) (rIn K true) := h ▸ op_notIn_seq
theorem c_len (h : X.K = K) : CallR X (.builtin "len") (rLenS K) := h ▸ call_len_seq
theorem c_list (h : X.K = K) : CallR X (.type "list") (rListS K) := h ▸ call_list_of
theorem c_isi (h : X.K = K) : CallR X (.builtin "isinstance") (rIsi K) := h ▸ call_isi
theorem c_max (h : X.K = K) (hc : X.calm = true) : CallR X (.builtin "max") (rMax K) := h ▸ cr_max hc
theorem c_all (h : X.K = K) (hc : X.calm = true) : CallR X (.builtin "all") (rAll K) := h ▸ cr_all hc
end
end
end Ob

set_option Elab.async false
set_option linter.all false
set_option maxRecDepth 100000
set_option maxHeartbeats 2000000
namespace Ob
open PySem L2 Evl
section
variable {X : Cx} {K : PySem.W.Frag} {H H' H1 : Hp} {σ : L2.St} {v : V} {ds es : List D} {d d' : D} {ta tb te to tl : TE} {tr : TA}
/-! ## texts -/
theorem o_addS : OpR X (binaryOp .Add) rAddS := op_add_str
theorem ed_addS {x y : Str} (ha : EvD K ta σ H (.str x)) (hb : EvD K tb σ H (.str y)) (hl : x.length + y.length ≤ 100000) : EvD K (tOp rAddS ta tb) σ H (.str (x ++ y)) :=
  ed_v (ev_op (v_str ha) (v_str hb) (rv_val fun _ _ _ q => ⟨x, y, rfl, rfl, sz_of hl, q⟩)) (.str _)
/-- the figures of a whole number -/
def numS (i : Int) : Str := Str.ofString (toString i)
def rStrI : List V → Hp → VK → Prop := fun xs H Q => ∃ i : Int, xs = [.int i] ∧ i.natAbs.log2 < 1920 ∧ Q (.str (numS i)) H
theorem c_strI : CallR X (.type "str") rStrI := call_str_int
theorem ed_strI {i : Int} (h : EvD K ta σ H (.int i)) (hl : i.natAbs.log2 < 1920) : EvD K (tCB rStrI (tCons ta tNil)) σ H (.str (numS i)) := ed_call1 h fun _ B hv _ q => by
  cases hv
  exact ⟨i, rfl, hl, q _ fun _ => .str _⟩
def rIntS : List V → Hp → VK → Prop := fun xs H Q => ∃ a n, xs = [.str a] ∧ PySem.intText? a = some n ∧ a.length ≤ 640 ∧ Q (.int n) H
theorem c_intS : CallR X (.type "int") rIntS := call_int_str
theorem ed_intS {w : Str} {n : Int} (h : EvD K ta σ H (.str w)) (hn : PySem.intText? w = some n) (hl : w.length ≤ 640) : EvD K (tCB rIntS (tCons ta tNil)) σ H (.int n) := ed_call1 h fun _ B hv _ q => by
  cases hv
  exact ⟨w, n, rfl, hn, hl, q _ fun _ => .int _⟩
def rLenT : List V → Hp → VK → Prop := fun xs H Q => ∃ z : Str, xs = [.str z] ∧ z.length ≤ sizeLine ∧ Q (.int z.length) H
theorem c_lenS : CallR X (.builtin "len") rLenT := call_len_str
theorem ed_lenS {w : Str} (h : EvD K ta σ H (.str w)) (hl : w.length ≤ 100000) : EvD K (tCB rLenT (tCons ta tNil)) σ H (.int (w.length : Int)) := ed_call1 h fun _ B hv _ q => by
  cases hv
  exact ⟨w, rfl, sz_of hl, q _ fun _ => .int _⟩
theorem ed_fmtI {i : Int} (h : EvD K te σ H (.int i)) (hl : i.natAbs.log2 < 1920) : EvD K (tFmt te) σ H (.str (numS i)) :=
  ed_v (v := .str (numS i)) (fun H1 e Q q => v_int h H1 e _ fun H2 e2 => .inr ⟨i, rfl, hl, q H2 e2⟩) (.str _)
/-- the parts of an f-string -/
def tJn (ts : List TE) : TE := fun σ H Q => tJs ts Str.empty σ H fun out H1 => Q (.str out) H1
theorem pe_jn {v1 v2 : Expr} {rest : List Expr} {ts : List TE} {pos : Pos} (h : PJ X (v1 :: v2 :: rest) ts) : PE X (.JoinedStr (v1 :: v2 :: rest) pos) (tJn ts) := pe_joined h
def EvJ (_ : PySem.W.Frag) (ts : List TE) (acc : Str) (σ : L2.St) (H : Hp) (out : Str) : Prop := ∀ H1, Ex H H1 → ∀ Q : Str → Hp → Prop, (∀ H2, Ex H1 H2 → Q out H2) → tJs ts acc σ H1 Q
theorem ej_nil {acc : Str} : EvJ K [] acc σ H acc := fun H1 _ _ q => q H1 (Ex.refl _)
theorem ej_cons {t : TE} {ts : List TE} {acc y out : Str} (h : EvD K t σ H (.str y)) (hl : acc.length + y.length ≤ 100000) (r : EvJ K ts (acc ++ y) σ H out) : EvJ K (t :: ts) acc σ H out := fun H1 e Q q =>
  v_str h H1 e _ fun H2 e2 => ⟨y, rfl, sz_of (by rw [show (acc ++ y).length = acc.length + y.length from Str.length_append _ _]; exact hl), r H2 (e.trans e2) Q fun H3 e3 => q H3 (e2.trans e3)⟩
theorem ed_jn {ts : List TE} {out : Str} (h : EvJ K ts Str.empty σ H out) : EvD K (tJn ts) σ H (.str out) :=
  ed_v (v := .str out) (fun H1 e Q q => h H1 e _ fun H2 e2 => q H2 e2) (.str _)
def rSplit : V → List V → Hp → VK → Prop := fun x xs H Q => ∃ a b, x = .str a ∧ xs = [.str b] ∧ (b.length == 0) = false ∧ a.length + 2 ≤ sizeLine ∧ rNewStrs (Txt.split a b) H Q
theorem pe_splitN {o e : Expr} {apos pos : Pos} (ho : PE X o to) (he : PE X e te) (hs : starEach [e] X.env = [(false, eval e X.env)] := by rfl) (hbase : attributeBase o "split" X.env (eval o X.env) = eval o X.env := by rfl) (hline : (apos.endLine == pos.line) = true := by rfl) :
    PE X (.Call (.Attribute o "split" apos) [e] [] pos) (tM1 rSplit to te) := pe_split ho he hs hbase hline
theorem dpa_strs : ∀ {ns : List Str}, DpAll K H (ns.map V.str) (ns.map PyData.str)
  | [] => .nil
  | _ :: _ => .cons (.str _) dpa_strs
theorem en_split {a b : Str} (h1 : EvD K to σ H (.str a)) (h2 : EvD K te σ H (.str b)) (hb : (b.length == 0) = false) (hl : a.length ≤ 100000) : EvN K (tM1 rSplit to te) σ H ((Txt.split a b).map PyData.str) := fun A B e s Q q =>
  v_str h1 B (e.trans s) _ fun B2 e2 => ⟨⟨a, rfl⟩, v_str h2 B2 ((e.trans s).trans e2) _ fun B3 e3 => ⟨a, b, rfl, rfl, hb, Nat.le_trans (show a.length + 2 ≤ 100002 by omega) (by decide), fun p hp =>
    q p _ A _ (fresh_back (e2.trans e3) hp) ((Pr.up s (e2.trans e3)).trans (Pr.priv (s.trans (e2.trans e3)) hp)) (fresh_back (s.trans (e2.trans e3)) hp) upd_same dpa_strs⟩⟩
theorem shn_str {n : Nat} {x : Str} (h : PyData.strOk x = true) : ShN n (.str x) := ⟨h, Nat.zero_le _⟩
/-! ## in -/
def flatD : D → Bool
  | .none => true | .bool _ => true | .int _ => true | .str _ => true | _ => false
theorem flat_V (h : Dp K H v d) (hf : flatD d = true) : flatV v = true := by
  cases h <;> first | rfl | cases hf
theorem eqv_V {w : V} {e : D} (h : Dp K H v d) (h' : Dp K H w e) (hf : flatD d = true) (hf' : flatD e = true) : eqV v w = PyData.eqv d e := by
  cases h <;> first | (cases hf; done) | (cases h' <;> first | (cases hf'; done) | rfl | (simp [eqV, PyData.eqv]))
theorem flat_all : ∀ {vs : List V} {ds : List D}, DpAll K H vs ds → ds.all flatD = true → vs.all flatV = true
  | _, _, .nil, _ => rfl
  | _, _, .cons a t, h => by
    rw [List.all_cons, Bool.and_eq_true] at h
    rw [List.all_cons, flat_V a h.1, flat_all t h.2]
    rfl
theorem inV_D {w : V} {e : D} (h : Dp K H w e) (hf : flatD e = true) : ∀ {vs : List V} {ds : List D}, DpAll K H vs ds → ds.all flatD = true → inV w vs = ds.any fun y => PyData.eqv y e
  | _, _, .nil, _ => rfl
  | _, _, .cons a t, q => by
    rw [List.all_cons, Bool.and_eq_true] at q
    unfold inV
    rw [List.any_cons, List.any_cons, eqv_V a h q.1 hf]
    have := inV_D h hf t q.2
    unfold inV at this
    rw [this]
theorem ed_inT (ha : EvD K ta σ H d) (hb : EvD K tb σ H (.tuple ds)) (hf : flatD d = true) (hs : ds.all flatD = true) : EvD K (tOp (rIn K false) ta tb) σ H (.bool (ds.any fun y => PyData.eqv y d)) :=
  ed_opB ha hb fun _ _ _ hx hy _ q => by
    obtain ⟨a, xs, rfl, s, al⟩ := dp_tuple hy
    refine ⟨a, xs, rfl, .inr s, flat_V hx hf, flat_all al hs, q _ fun _ _ _ _ => ?_⟩
    rw [← inV_D hx hf al hs]
    exact .bl _
theorem ed_niT (ha : EvD K ta σ H d) (hb : EvD K tb σ H (.tuple ds)) (hf : flatD d = true) (hs : ds.all flatD = true) : EvD K (tOp (rIn K true) ta tb) σ H (.bool (!ds.any fun y => PyData.eqv y d)) :=
  ed_opB ha hb fun _ _ _ hx hy _ q => by
    obtain ⟨a, xs, rfl, s, al⟩ := dp_tuple hy
    refine ⟨a, xs, rfl, .inr s, flat_V hx hf, flat_all al hs, q _ fun _ _ _ _ => ?_⟩
    rw [← inV_D hx hf al hs]
    exact .bl _
theorem ed_inL (ha : EvD K ta σ H d) (hb : EvD K tb σ H (.list ds)) (hf : flatD d = true) (hs : ds.all flatD = true) : EvD K (tOp (rIn K false) ta tb) σ H (.bool (ds.any fun y => PyData.eqv y d)) :=
  ed_opB ha hb fun _ _ _ hx hy _ q => by
    obtain ⟨a, xs, rfl, s, al⟩ := dp_list hy
    refine ⟨a, xs, rfl, .inl s, flat_V hx hf, flat_all al hs, q _ fun _ _ _ _ => ?_⟩
    rw [← inV_D hx hf al hs]
    exact .bl _
theorem ed_niL (ha : EvD K ta σ H d) (hb : EvD K tb σ H (.list ds)) (hf : flatD d = true) (hs : ds.all flatD = true) : EvD K (tOp (rIn K true) ta tb) σ H (.bool (!ds.any fun y => PyData.eqv y d)) :=
  ed_opB ha hb fun _ _ _ hx hy _ q => by
    obtain ⟨a, xs, rfl, s, al⟩ := dp_list hy
    refine ⟨a, xs, rfl, .inl s, flat_V hx hf, flat_all al hs, q _ fun _ _ _ _ => ?_⟩
    rw [← inV_D hx hf al hs]
    exact .bl _
theorem c_max2 (hc : X.calm = true) : CallR X (.builtin "max") rMax2 := call_max2 hc
theorem ed_max2 {i j : Int} (ha : EvD K ta σ H (.int i)) (hb : EvD K tb σ H (.int j)) : EvD K (tCB rMax2 (tCons ta (tCons tb tNil))) σ H (.int (if j > i then j else i)) := ed_v (ev_max2 (v_int ha) (v_int hb)) (.int _)
theorem ed_neg {i : Int} (h : EvD K ta σ H (.int i)) : EvD K (tUn (rU fun i => .int (-i)) ta) σ H (.int (-i)) := ed_v (ev_un (v_int h) ru_neg) (.int _)
/-- one sign in a text -/
theorem ed_inSg {c : Nat} {z : Str} (ha : EvD K ta σ H (.str ⟨#[c]⟩)) (hb : EvD K tb σ H (.str z)) : EvD K (tOp rInS ta tb) σ H (.bool (decide (c ∈ z.cps.toList))) :=
  ed_v (ev_op (v_str ha) (v_str hb) (rv_val fun _ _ _ q => ⟨c, z, rfl, rfl, q⟩)) (.bl _)
theorem ed_niSg {c : Nat} {z : Str} (ha : EvD K ta σ H (.str ⟨#[c]⟩)) (hb : EvD K tb σ H (.str z)) : EvD K (tOp rNotInS ta tb) σ H (.bool (!decide (c ∈ z.cps.toList))) :=
  ed_v (ev_op (v_str ha) (v_str hb) (rv_val fun _ _ _ q => ⟨c, z, rfl, rfl, q⟩)) (.bl _)
/-- is None -/
def isNone : D → Bool
  | .none => true
  | _ => false
theorem dec_non (h : Dp K H v d) : decide (v = .non) = isNone d := by
  cases h <;> first | rfl | (rw [decide_eq_false]; rfl; intro z; cases z)
theorem ed_isN (h : EvD K ta σ H d) : EvD K (tOp rIsN ta (tC .non)) σ H (.bool (isNone d)) := fun A B e s Q q => h A B e s _ fun v A2 B2 P2 hv => ⟨rfl, by rw [dec_non hv]; exact q _ A2 B2 P2 (.bl _)⟩
theorem ed_notN (h : EvD K ta σ H d) : EvD K (tOp rNotN ta (tC .non)) σ H (.bool (!isNone d)) := fun A B e s Q q => h A B e s _ fun v A2 B2 P2 hv => ⟨rfl, by rw [dec_non hv]; exact q _ A2 B2 P2 (.bl _)⟩
/-- two names at once -/
theorem q_asg2 (K : PySem.W.Frag) {Dd : Ends} {A : Hp} {t2 : TS} {i j : Nat} {d1 d2 : D} (s : Ex A H) (h : EvD K te σ A (.tuple [d1, d2])) (k : ∀ v1 v2 A' B', Pr A H A' B' → Dp K A' v1 d1 → Dp K A' v2 d2 → t2 Dd ((σ.set i (some v1)).set j (some v2)) B') :
    tSeq (tAsg te (gTup K 2 (gCons (gName i) (gCons (gName j) gNil)))) t2 Dd σ H := h A H (Ex.refl _) s _ fun v A' B' P hv => by
  obtain ⟨a, xs, rfl, sq, al⟩ := dp_tuple hv
  obtain ⟨v1, v2, rfl, h1, h2⟩ := dpa2 al
  exact ⟨a, [v1, v2], rfl, ex_t P.s sq, rfl, v1, [v2], rfl, v2, [], rfl, rfl, k v1 v2 A' B' P h1 h2⟩
/-- a for over a text's signs -/
theorem q_forS (K : PySem.W.Frag) {Dd : Ends} {A : Hp} {g : TG} {ts t2 : TS} {z : Str} (s : Ex A H) (h : EvD K tl σ A (.str z)) (J : Nat → L2.St → Hp → Hp → Prop) (h0 : ∀ A1 B1, Pr A H A1 B1 → J 0 σ A1 B1)
    (hs : ∀ A1 B1, Pr A H A1 B1 → ∀ i c σ' A' B', z.cps.toList[i]? = some c → Pr A1 B1 A' B' → J i σ' A' B' →
      g (.str ⟨#[c]⟩) σ' B' fun σ2 H2 => ts { (go Dd t2) with nx := fun σ3 H3 => ∃ A3, Pr A1 B1 A3 H3 ∧ J (i + 1) σ3 A3 H3, ct := fun σ3 H3 => ∃ A3, Pr A1 B1 A3 H3 ∧ J (i + 1) σ3 A3 H3, bk := t2 Dd } σ2 H2)
    (hd : ∀ A1 B1 σ' A' B', Pr A H A1 B1 → Pr A1 B1 A' B' → J z.cps.toList.length σ' A' B' → t2 Dd σ' B') : tSeq (tFor (iStr tl) g ts) t2 Dd σ H := h A H (Ex.refl _) s _ fun v A1 B1 P1 hv => by
  cases hv
  refine ⟨z, rfl, for_it walk_str (fun i σ' H' => ∃ A', Pr A1 B1 A' H' ∧ J i σ' A' H') ⟨A1, Pr.refl P1.s, h0 A1 B1 P1⟩ (fun _ _ _ _ _ => trivial) ?_ ?_⟩
  · rintro i x σ' H' H'' hi ⟨A', P, p⟩ ⟨rfl, c, hc, rfl⟩
    exact hs A1 B1 P1 i c σ' A' H'' (by rw [Array.getElem?_toList]; exact hc) P p
  · rintro σ' H' ⟨A', P, p⟩
    exact hd A1 B1 σ' A' H' P1 P (by rw [Array.length_toList]; exact p)
/-! ## what may raise: r = none -/
def EvX (K : PySem.W.Frag) (te : TE) (σ : L2.St) (H : Hp) (r : Option D) (R : Hp → Prop) : Prop :=
  ∀ A B, Ex H A → Ex A B → ∀ Q : VK, (∀ d, r = some d → ∀ v A' B', Pr A B A' B' → Dp K A' v d → Q v B') → (r = none → ∀ B', Ex B B' → R B') → te σ B Q
def EvAX (K : PySem.W.Frag) (ta : TA) (σ : L2.St) (H : Hp) (r : Option (List D)) (R : Hp → Prop) : Prop :=
  ∀ A B, Ex H A → Ex A B → ∀ Q : List V → Hp → Prop, (∀ ds, r = some ds → ∀ vs A' B', Pr A B A' B' → DpAll K A' vs ds → Q vs B') → (r = none → ∀ B', Ex B B' → R B') → ta σ B Q
variable {r r1 : Option D} {R : Hp → Prop}
theorem ex_d (h : EvD K te σ H d) : EvX K te σ H (some d) R := fun A B e s Q q _ => h A B e s Q fun v A' B' P hv => q d rfl v A' B' P hv
theorem ex_is (h : EvX K te σ H r R) (q : r = r1) : EvX K te σ H r1 R := q ▸ h
theorem eax_nil : EvAX K tNil σ H (some []) R := fun A B _ s _ q _ => q [] rfl [] A B (Pr.refl s) .nil
def consO (r : Option D) (q : Option (List D)) : Option (List D) := match r, q with
  | some d, some ds => some (d :: ds)
  | _, _ => none
theorem eax_cons {q : Option (List D)} (h : EvX K ta σ H r R) (hr : EvAX K tr σ H q R) : EvAX K (tCons ta tr) σ H (consO r q) R := fun A B e s Q k x =>
  h A B e s _ (fun d hd v A2 B2 P2 hv => hr A2 B2 (e.trans P2.a) P2.s _ (fun ds hds vs A3 B3 P3 ha => k (d :: ds) (by rw [hd, hds]; rfl) _ A3 B3 (P2.trans P3) (.cons (dp_ex P3.a hv) ha)) fun hn B3 e3 => x (by rw [hd, hn]; rfl) B3 (P2.b.trans e3)) fun hn B2 e2 => x (by rw [hn]; rfl) B2 e2
theorem ex_tup {q : Option (List D)} (h : EvAX K tr σ H q R) (hl : ∀ ds, q = some ds → ds.length ≤ 100000) : EvX K (tTup tr) σ H (q.map .tuple) R := fun A B e s Q k x =>
  h A B e s _ (fun ds hds vs A2 B2 P2 ha => ⟨sz_of (by rw [dpa_len ha]; exact hl ds hds), fun p hp => k (.tuple ds) (by rw [hds]; rfl) _ (upd A2 p (.tup vs)) _ (P2.trans (Pr.new P2.s hp)) (.tup (st_of upd_same) (dpa_ex (Ex.new (fresh_back P2.s hp)) ha))⟩) fun hn B2 e2 => x (by rw [hn]; rfl) B2 e2
/-- to such arguments such an answer, or C is raised -/
def SpX (K : PySem.W.Frag) (sp : Sp) (C : Addr) (ds : List D) (r : Option D) : Prop := ∀ A B vs Q E, Ex A B → DpAll K A vs ds → (∀ d, r = some d → ∀ v A' B', Pr A B A' B' → Dp K A' v d → Q v B') → (r = none → ∀ B', Ex B B' → E (.ref C) none B') → sp vs B Q E
theorem ex_callS {sp : Sp} {C : Addr} {E : L2.St → XK} (h : EvAD K tr σ H ds) (hs : SpX K sp C ds r) (hR : ∀ B', R B' → E σ (.ref C) none B') : EvX K (tCallS sp E tr) σ H r R := fun A B e s Q q x => h A B e s _ fun vs A2 B2 P2 ha =>
  hs A2 B2 vs Q (E σ) P2.s ha (fun d hd v A3 B3 P3 => q d hd v A3 B3 (P2.trans P3)) fun hn B3 e3 => hR B3 (x hn B3 (P2.b.trans e3))
def spX (K : PySem.W.Frag) (C : Addr) {α : Type} (args : α → List D) (ok : α → Prop) (res : α → Option D) : Sp := fun vs H Q E => ∃ A x, ok x ∧ Ex A H ∧ DpAll K A vs (args x) ∧ (∀ d, res x = some d → ∀ v A' B', Pr A H A' B' → Dp K A' v d → Q v B') ∧ (res x = none → ∀ B', Ex H B' → E (.ref C) none B')
theorem spX_len {C : Addr} {α : Type} {args : α → List D} {ok : α → Prop} {res : α → Option D} {vs : List V} {Q : VK} {E : XK} {n : Nat} (h : spX K C args ok res vs H Q E) (hl : ∀ x, (args x).length = n) : vs.length = n := by
  obtain ⟨A, x, _, _, ha, _⟩ := h
  rw [dpa_len ha, hl x]
theorem spX_at {C : Addr} {α : Type} {args : α → List D} {ok : α → Prop} {res : α → Option D} (x : α) (h : ok x) : SpX K (spX K C args ok res) C (args x) (res x) := fun A _ _ _ _ s ha k q => ⟨A, x, h, s, ha, k, q⟩
/-- a call that raises nothing -/
theorem spX_ok {C : Addr} {α : Type} {args : α → List D} {ok : α → Prop} {res : α → Option D} (x : α) (h : ok x) (hd : res x = some d) : SpD K (spX K C args ok res) (args x) d := fun A _ _ _ _ s ha k =>
  ⟨A, x, h, s, ha, fun d' h' => by rw [hd] at h'; cases h'; exact k, fun h' => by rw [hd] at h'; cases h'⟩
/-! statements -/
variable (K) {Dd : Ends} {t2 : TS} {A : Hp}
theorem q_asgX {i : Nat} (s : Ex A H) (h : EvX K te σ A r R) (k : ∀ d, r = some d → ∀ v A' B', Pr A H A' B' → Dp K A' v d → t2 Dd (σ.set i (some v)) B') (x : r = none → ∀ B', Ex H B' → R B') : tSeq (tAsg te (gName i)) t2 Dd σ H := h A H (Ex.refl _) s _ k x
theorem s_retX (s : Ex A H) (h : EvX K te σ A r R) (k : ∀ d, r = some d → ∀ v A' B', Pr A H A' B' → Dp K A' v d → Dd.rt v B') (x : r = none → ∀ B', Ex H B' → R B') : tRet te Dd σ H := h A H (Ex.refl _) s _ k x
end
/-! ## defs that raise -/
section
variable {X : Cx}
/-- a module's whole number -/
theorem pe_gi {x : Str} {i : Int} {pos : Pos} (hg : Gl X x) (h : ∃ t, X.mg x = some (.int i t)) (hd : (x == ("__debug__" : Str)) = false := by decide) : PE X (.Name x pos) (tC (.int i)) := by
  obtain ⟨t, e⟩ := h
  exact pe_glob (v := .int i) hg e ⟨t, rfl⟩ hd
/-- what the top says of an own class of errors -/
structure ExcCl (K : PySem.W.Frag) (mg : Str → Option Value) (x : Str) (C : Addr) : Prop where
  g : mg x = some (.ref C)
  k : PySem.W.keepIn K (.ref C) = true
  x : PySem.W.excIn K C [.type "ValueError", .type "Exception", .type "BaseException", .type "object"] "ValueError.__new__" = true
  b : PySem.W.subIn K (.ref C) (.type "BaseException") = some true
  t : PySem.W.typeIn K (.ref C) = some (.type "type")
def tRaiseC (C : Addr) (W : WX) : TS := fun _ σ H => W (.ref C) none σ H
theorem ps_rs {x m : Str} {C : Addr} {W : WX} {j : Nat} {p p2 pos pos2 : Pos} (hc : X.calm = true) (tk : L2N.Takes X W) (T : ExcCl X.K X.mg x C) (hg : Gl X x) (hdb : (x == ("__debug__" : Str)) = false := by decide) :
    PS X (.Raise (some (.Call (.Name x p) [.Constant (.str m) j p2] [] pos)) none pos2) (tRaiseC C W) :=
  L2N.ps_raise hc tk (L2N.pmk_own PySem.F.excBase_ValueError T.x T.g T.k (raises_own T.b T.t) hg hdb)
/-- nothing is wished of an error: none comes -/
theorem passN {X : Cx} : Passes (L2N.CX X.prog X.w) X E0 := fun _ _ _ _ _ _ _ c =>
  let ⟨_, _, _, _, _, _, _, _, _, _, _, _, z⟩ := c
  z.elim
theorem okN {P : Program} {w : World} {K : PySem.W.Frag} {mg : Str → Option Value} {base : Heap} {x qual : Str} {st : Stmt} {f : Addr} {fd : FuncData} {N ps : List Str} {k : Nat} {sp : Sp} (F : Fun K x qual st f fd) (S : FnScope N ps (defScope st))
    (len : ∀ vs H Q E, sp vs H Q E → vs.length = ps.length)
    (body : ∀ cdv A outer s H vs Q E, Room k (A.deeper (PyProof.Rows.envOfC qual (defScope st) s.heap.objs.size f cdv)) → sp vs H Q E →
      ∃ t, PSs (cxOf (L2N.CX P w) P w K mg base N qual (defScope st) f cdv A outer s H E) (defBody st) t ∧ t ⟨fun _ H' => Q .non H', Q, fun _ _ => False, fun _ _ => False⟩ (L2.start N vs) H) : FnOk P w K mg base (L2N.CX P w) (k + 1) f fd ps sp := by
  obtain ⟨_, _, _, _, _, _, _, _, _, e, lk, hc⟩ := F.ex
  subst e
  exact fn_of lk hc S len fun A outer s H vs Q E hr hs => body _ A outer s H vs Q E hr hs
variable {CX : CXT} {k : Nat} {x : Str} {ps : List Str} {sp : Sp} {E : L2.St → XK} {p pos : Pos} {e : Expr} {es : List Expr} {t : TA}
theorem pe_cs (G : DefOk X.prog X.w X.K X.mg X.base CX k x ps sp) (hr : Room k X.A) (hg : Gl X x) (hx : ∀ σ, PassesAt CX X σ (E σ)) (ha : PA X (e :: es) t) (hdb : (x == ("__debug__" : Str)) = false := by decide)
    (he : starEach (e :: es) X.env = (false, eval e X.env) :: starEach es X.env := by rfl) (hpl : (backTo pos (starEach es X.env)).any (·.1) = false := by rfl) : PE X (.Call (.Name x p) (e :: es) [] pos) (tCallS sp E t) := by
  obtain ⟨f, fd, h1, h2, h3, h4⟩ := G
  exact pe_callS h4 hr hg h1 h2 h3 hx ha hdb he hpl
theorem cx_K2 {CX : CXT} {P : Program} {w : World} {K : PySem.W.Frag} {mg : Str → Option Value} {base : Heap} {N : List Str} {qual : Str} {scope : Scope} {f : Addr} {cd : Value} {A : Around} {outer : List Env} {s : Shared} {H : Hp} {E : XK} :
    (cxOf CX P w K mg base N qual scope f cd A outer s H E).K = K := rfl
end
end Ob

set_option Elab.async false
set_option linter.all false
set_option maxRecDepth 100000
set_option maxHeartbeats 2000000
namespace Ob
open PySem PySem.Spec PyProof.Rows L2 L2H HotX
/-! ## within an except suite -/
section
variable {prog : Program} {w : World} {A : Around} {E : Value → Shared → Prop} {z : Shared}
/-- a list's iterator ends while an error is handled -/
theorem nx_endH {it l x1 : Addr} {i : Nat} {its : Array Value} {Q : Option Value → Shared → Prop} (hot : HotAt A x1 z.heap) (hI : z.heap.IsListIter it l i) (hL : z.heap.IsList l its) (hx : its[i]? = none)
    (hQ : ∀ g, (∀ b o, b ≠ it → z.heap.get? b = some o → g.get? b = some o) → Q none { z with heap := g }) : wpAny (model prog w) A (pyNext (.ref it)) Q E z := by
  obtain ⟨oI, eI, cI, dI⟩ := id hI
  obtain ⟨oL, eL, _, nL, dL⟩ := hL
  obtain ⟨hh, o1, vs1, e1, d1, c1⟩ := hot
  have n1 : x1 ≠ it := fun y => by
    rw [y, eI] at e1
    cases e1
    rw [dI] at d1
    cases d1
    simp at c1
  unfold pyNext
  refine wpAny_bind (wpAny_attempt (wpAny_callSpecial?_slot (name := Str.ofString "__next__") hI.typeIs slot_listiter_next (wpAny_call_entry slot_listiter_next hI.typeIs entry_listiter_next ?_ (args_listiter_next _))))
  show wpAny _ _ (field (.ref it) 0 >>= _) _ _ z
  refine wpAny_bind (wpAny_field eI dI (x := .ref l) rfl ?_)
  show wpAny _ _ (if (Value.ref l == Value.none) = true then _ else _) _ _ z
  rw [if_neg (by intro y; cases y)]
  show wpAny _ _ (field (.ref it) 1 >>= _) _ _ z
  refine wpAny_bind (wpAny_field eI dI (x := .int i 0) rfl ?_)
  show wpAny _ _ (seqItems? (.ref l) >>= _) _ _ z
  refine wpAny_bind (wpAny_seqItems eL dL ?_)
  simp only [Int.toNat_natCast, hx]
  refine wpAny_bind (wpAny_rule (wpAny_bind (wpAny_setField eI dI (by simp) ?_)))
  have g1 := (Heap.get?_update_other z.heap (Obj.mapFields (·.setIfInBounds 0 Value.none)) (Ne.symm n1)).trans e1
  have kp : ∀ b o, b ≠ it → z.heap.get? b = some o → (z.heap.update it (Obj.mapFields (·.setIfInBounds 0 Value.none))).get? b = some o := fun b o nb e => (Heap.get?_update_other _ _ (Ne.symm nb)).trans e
  generalize (z.heap.update it (Obj.mapFields (·.setIfInBounds 0 Value.none))) = h2 at g1 kp ⊢
  show wpAny _ _ (newExc (.type "StopIteration") [] >>= _) _ _ _
  refine wpAny_bind ?_
  simp only [newExc, newTuple]
  refine wpAny_bind (wpAny_newObj_type ?_ (by size_fits))
  refine wpAny_bind (m := firstArgMember _ _) (wpAny_of_eq (a := Value.none) (by first | rfl | (simp only [firstArgMember]; rfl)) ?_)
  refine wpAny_newObj_type ?_ (by size_fits)
  refine raiseNew_hot ⟨hh, o1, vs1, Heap.get?_push_of_some _ (Heap.get?_push_of_some _ g1), d1, c1⟩ (Nat.ne_of_lt (Heap.lt_size (Heap.get?_push_of_some _ g1))) (Heap.get?_push_size _ rfl) rfl (by first | (simp; done) | (simp; omega) | (simp only [Array.size_append]; simp; omega)) ?_
  refine wpAny_bind (wpAny_isInstance (T := "StopIteration") (b := true) ⟨_, Heap.get?_update_self _ (Heap.get?_push_size _ rfl) rfl, rfl⟩ isSubtype_stop ?_)
  refine wpAny_pure (hQ _ fun b o nb e => ?_)
  have e2 := kp b o nb e
  rw [Heap.get?_update_other _ _ (Nat.ne_of_gt (Heap.lt_size (Heap.get?_push_of_some _ e2)))]
  exact Heap.get?_push_of_some _ (Heap.get?_push_of_some _ e2)
end
/-- what a turn over a list asks, an error handled somewhere in the state -/
theorem list_doneH {X : Cx} {pins : List (Addr × Obj)} {σ : L2.St} {H : Hp} {z : Shared} {E : Value → Shared → Prop} {a it : Addr} {i : Nat} (hot : ∃ x1, HotAt X.A x1 z.heap) (I : Inv X pins σ H z) (hf : FpOk X pins H it) (st : z.heap.IsListIter it a i) (hs : (Itl X.K a).stop i H) :
    wpAny (model X.prog X.w) X.A (pyNext (.ref it)) (fun r s1 => r = none ∧ Inv X pins σ H s1) E z := by
  obtain ⟨xs, hq, hx⟩ := hs
  obtain ⟨its, rv, p, hz⟩ := I.list hq
  obtain ⟨f0, f1, f2, f3, f4, f5⟩ := hf
  obtain ⟨x1, hot⟩ := hot
  have hl := rv.length
  exact nx_endH hot st p.isList (by simp; omega) fun g eb => ⟨rfl, I.turned (t' := z.toks) (fun b o hb e => eb b o hb e) f0 f1 f3 f4 f5⟩
theorem list_itemH {X : Cx} {tg : Expr} {pins : List (Addr × Obj)} {σ : L2.St} {H : Hp} {z : Shared} {E : Value → Shared → Prop} {a it : Addr} {i : Nat} (I : Inv X pins σ H z) (hf : FpOk X pins H it) (st : z.heap.IsListIter it a i) (hg : (Itl X.K a).go i H) :
    wpAny (model X.prog X.w) X.A (pyNext (.ref it)) (fun r s1 => ∃ u, r = some u ∧
      wpAny (model X.prog X.w) X.A (letOwnedTupleGo tg (.ref it) u) (fun _ s2 => ∃ x H', Inv X pins σ H' s2 ∧ RelV x u ∧ (Itl X.K a).yld i H x H' ∧ s2.heap.IsListIter it a (i + 1) ∧ ∀ b ∈ [it], H' b = none) E s1) E z := by
  obtain ⟨xs, x, hq, hx⟩ := hg
  obtain ⟨its, rv, p, hz⟩ := I.list hq
  obtain ⟨u, hu, ru⟩ := rv.get hx
  obtain ⟨f0, f1, f2, f3, f4, f5⟩ := hf
  refine wpAny_pyNext_list_item st p.isList (x := u) (by simpa using hu) fun g st' sb => ?_
  have I1 : Inv X pins σ H { z with heap := g } := I.turned (t' := z.toks) (fun b o hb e => (sb.2 b hb).trans e) f0 f1 f3 f4 f5
  obtain ⟨o, e, c, d⟩ := id st'
  refine ⟨u, rfl, go_of (s := { z with heap := g }) e c d (by decide) ⟨x, H, I1, ru, ⟨rfl, fun ys hy => ?_⟩, st', fun b hb => ?_⟩⟩
  · rw [I.list_inj hy hq]; exact hx
  · rw [List.mem_singleton.mp hb]; exact f0
theorem turn_listH {P : Program} {w : World} {K : PySem.W.Frag} {tg : Expr} (a it : Addr) : TurnH P w K tg (Itl K a) [it] it (fun i h => h.IsListIter it a i) where
  mem := by simp
  obj := fun i h st b hb => by
    rw [List.mem_singleton.mp hb]
    obtain ⟨o, e, _, d⟩ := st
    exact ⟨o, e, fun v y => by rw [d] at y; cases y⟩
  keep := fun i h h' st k => st.at fun o e => k it (by simp) o e
  item := by
    intro Y hP hw hK hc i pins z σ H E I hf st hg
    subst hP hw hK
    exact list_itemH I (hf it (by simp)) st hg
  done := by
    intro Y hP hw hK hc i pins z σ H E I hf st hg
    subst hP hw hK
    exact list_doneH (hc.at I) I (hf it (by simp)) st hg
  self := fun _ _ _ _ _ st h => wpAny_pyIter_listiter st h
theorem pi_listH {X : Cx} {tg l : Expr} {tl : TE} (hl : PE X l tl) : PIH X tg l (iList X.K tl) := by
  refine ⟨fun pins z σ H R I h => thn (hl.run pins z σ H _ I h) fun v z1 ⟨x, H1, I1, r1, q1⟩ => ?_⟩
  obtain ⟨a, e, ⟨xs, hq⟩, q⟩ := q1
  subst e
  cases r1
  obtain ⟨its, rv, p, hz⟩ := I1.list hq
  refine wpAny_pyIter_list p.isList ⟨z1.heap.objs.size, [z1.heap.objs.size], _, _, H1, rfl, I1.kept (t' := z1.toks) fun b o e => Heap.get?_push_of_some _ e, turn_listH a _, ⟨_, Heap.get?_push_size _ rfl, rfl, rfl⟩, fun b hb => ?_, q⟩
  rw [List.mem_singleton.mp hb]
  exact I1.fpOk (Nat.le_refl _) (I1.hok.fresh (Nat.le_refl _))
/-! ### a list comprehension there -/
section
variable {X : Cx}
theorem pe_lcH {elt tg iter : Expr} {ifs : List Expr} {scope : Scope} {own : List (Str × Nat)} {pos : Pos} {tl : TE} {g : TG} {tt : TT} {te : TE} (hot : HotC X) (hN : X.N.Nodup) (hl : PE X iter tl) (ok : BlkOk X.N X.env.scope scope own)
    (hg : ∀ (y : Shared) (H : Hp) (C : Addr) (cl : List (Str × Addr)) (fp : List Addr), PG (X.blk y H scope (compEnvC scope cl C X.env) fp) tg g) (ht : ∀ (y : Shared) (H : Hp) (C : Addr) (cl : List (Str × Addr)) (fp : List Addr), PTs (X.blk y H scope (compEnvC scope cl C X.env) fp) ifs tt)
    (he : ∀ (y : Shared) (H : Hp) (C : Addr) (cl : List (Str × Addr)) (fp : List Addr), PE (X.blk y H scope (compEnvC scope cl C X.env) fp) elt te) (hs : ∀ x, foldedSetIterable iter X.env x = pure x := by intro _; rfl) :
    PE X (.ListComp elt [⟨tg, iter, ifs, 0⟩] scope pos) (tLc (iList X.K tl) g tt te (own.map (·.2))) := by
  refine ⟨fun pins z σ H Q I hw => ?_⟩
  rw [eval_ListComp]
  have hfree : ∀ y ∈ scope.names, y.2 = .free → ∃ c, X.env.cells.lookup y.1 = some c := fun y hy e => (ok.free y hy e).elim (fun k => I.ok.has _ (.inl k)) fun k => I.ok.has _ (.inr k)
  refine wpAny_comprehension_free (use := none) rfl hs (closure_ok hfree) ok.kind (fun y hy e => by rw [ok.uniq y hy, e]) (thn (hl.run pins z σ H _ I hw) fun v z1 ⟨x, H1, I1, r1, q1⟩ => ?_)
  obtain ⟨a, e, ⟨xs, hq⟩, q⟩ := q1
  subst e
  cases r1
  obtain ⟨its, rv, p, hz⟩ := I1.list hq
  refine wpAny_pyIter_list p.isList ?_
  generalize hz2 : ({ z1 with heap := z1.heap.push { cls := .type "list_iterator", data := .fields #[.ref a, .int 0 0] } } : Shared) = z2
  have I2 : Inv X pins σ H1 z2 := by rw [← hz2]; exact I1.kept (t' := z1.toks) fun b o e => Heap.get?_push_of_some _ e
  generalize hit : z1.heap.objs.size = it
  have st2 : z2.heap.IsListIter it a 0 := by rw [← hz2, ← hit]; exact ⟨_, Heap.get?_push_size _ rfl, rfl, rfl⟩
  have f2 : FpOk X pins H1 it := by rw [← hit]; exact I1.fpOk (Nat.le_refl _) (I1.hok.fresh (Nat.le_refl _))
  refine wpAny_newObj_type (newEnv_comp ?_) (by show 0 ≤ sizeLine; decide)
  generalize hD : z2.heap.objs.size = D
  have hDn : H1 D = none := I2.hok.fresh (Nat.le_of_eq hD)
  obtain ⟨W, ⟨m0, w0⟩, turn⟩ := q D hDn
  generalize hz3 : ({ z2 with heap := z2.heap.push { cls := .type "list", data := .seq ([] : List Value).toArray } } : Shared) = z3
  have I3 : Inv X pins σ (upd H1 D (.lst [])) z3 := by
    rw [← hz3]
    refine I2.laid (t' := z2.toks) (fun b o e => Heap.get?_push_of_some _ e) (Nat.le_of_eq hD) ⟨Nat.zero_le _, [], 0, .nil, ?_⟩
    rw [← hD]
    exact Heap.get?_push_size _ rfl
  have h3 : z3.heap = z2.heap.push { cls := .type "list", data := .seq ([] : List Value).toArray } := by rw [← hz3]
  have hlt : it < z2.heap.objs.size := by obtain ⟨o, e, _⟩ := id st2; exact Heap.lt_size e
  have f3 : ∀ b ∈ [it], FpOk X pins (upd H1 D (.lst [])) b ∧ b < z3.heap.objs.size := fun b hb => by
    rw [List.mem_singleton.mp hb]
    refine ⟨⟨?_, f2.2⟩, by rw [h3, Heap.size_push]; exact Nat.lt_succ_of_lt hlt⟩
    rw [upd_ne (by rw [← hD]; exact Nat.ne_of_lt hlt)]
    exact f2.1
  have st3 : z3.heap.IsListIter it a 0 := st2.at fun o e => by rw [h3]; exact Heap.get?_push_of_some _ e
  have I4 := block_start I3 ok hN f3
  have pg := hg z3 (upd H1 D (.lst [])) z3.heap.objs.size (cellsFrom (z3.heap.objs.size + 1) scope.names (cloFrom X.env.cells scope.names [])) [it]
  have pt := ht z3 (upd H1 D (.lst [])) z3.heap.objs.size (cellsFrom (z3.heap.objs.size + 1) scope.names (cloFrom X.env.cells scope.names [])) [it]
  have pe := he z3 (upd H1 D (.lst [])) z3.heap.objs.size (cellsFrom (z3.heap.objs.size + 1) scope.names (cloFrom X.env.cells scope.names [])) [it]
  -- the handled error stands at the block's entry
  obtain ⟨px, ⟨hh, v1, ed, ec⟩, hpx⟩ := hot
  obtain ⟨p1, p2, p3, p4, p5⟩ := I3.pin px (List.mem_append_left _ hpx)
  have p6 : px.1 ∉ frs X.stack := fun y => (List.mem_cons.mp (I3.stkSub _ y)).elim p3 p4
  have p7 : px.1 ∉ [it] := fun y => (f3 it (by simp)).1.2.2.2.2.2 px (List.mem_append_left _ hpx) (List.mem_singleton.mp y)
  show codeAny _ _ (.compStart (.ListComp elt [⟨tg, iter, ifs, 0⟩] scope pos) 0 (.ref it) (.ref D) (compEnvC scope (cellsFrom (z3.heap.objs.size + 1) scope.names (cloFrom X.env.cells scope.names [])) z3.heap.objs.size X.env)) (compPost (model X.prog X.w) X.A X.xe none (EP X pins σ Q) (.ref D) z3.heap.objs.size) { z3 with heap := pushCells (z3.heap.push { cls := .type "dict", data := .dict #[] }) scope.names }
  generalize hce : compEnvC scope (cellsFrom (z3.heap.objs.size + 1) scope.names (cloFrom X.env.cells scope.names [])) z3.heap.objs.size X.env = ce at I4 pg pt pe ⊢
  have cL : ce.locals = z3.heap.objs.size := by subst hce; rfl
  have nfp : ∀ b ∈ [it], (upd H1 D (.lst [])) b = none := fun b hb => (f3 b hb).1.1
  generalize hH3 : upd H1 D (.lst []) = H3 at I3 I4 pg pt pe w0 nfp f3 p2
  have st4 : ({ z3 with heap := pushCells (z3.heap.push { cls := .type "dict", data := .dict #[] }) scope.names } : Shared).heap.IsListIter it a 0 := st3.at fun o e => pushCells_keeps _ _ _ _ (Heap.get?_push_of_some _ e)
  generalize hz4 : ({ z3 with heap := pushCells (z3.heap.push { cls := .type "dict", data := .dict #[] }) scope.names } : Shared) = z4 at I4 st4 ⊢
  have stat : ∀ {σ' : L2.St} {H' : Hp} {z' : Shared}, Inv (X.blk z3 H3 scope ce [it]) [] σ' H' z' → (∀ b ∈ [it], H' b = none) → ∀ b ∈ [it], FpOk (X.blk z3 H3 scope ce [it]) [] H' b := fun {σ' H' z'} J hn b hb =>
    ⟨hn b hb, (J.ok.exf b hb).1, J.ok.exfs b hb, .inl hb, fun x c e => (J.ok.exf b hb).2 x c e, fun p hp => absurd (show p ∈ ([] : List (Addr × Obj)) ++ [] from hp) (by simp)⟩
  have loop : codeAny (model X.prog X.w) X.A (.compLoop (.ListComp elt [⟨tg, iter, ifs, 0⟩] scope pos) 0 (.ref it) (.ref D) ce) (compPost (model X.prog X.w) X.A X.xe none (EP X pins σ Q) (.ref D) z3.heap.objs.size) z4 := by
    refine compLoop_any (fun n z' => ∃ i H', Inv (X.blk z3 H3 scope ce [it]) [] (wipe σ (own.map (·.2))) H' z' ∧ z'.heap.IsListIter it a i ∧ (∀ b ∈ [it], H' b = none) ∧ W i n H') ?_ m0 ⟨0, H3, I4, st4, nfp, w0⟩
    rintro n z5 ⟨i, H5, I5, st5, n5, w5⟩
    have hot5 : ∃ x1, HotAt X.A x1 z5.heap := ⟨px.1, hh, px.2, v1, I5.base.keep px.1 px.2 p1 p2 p6 p7, ed, ec⟩
    rcases turn i n H5 w5 with ⟨stop, qq⟩ | ⟨go, Nx, hNx, step⟩
    · refine thnF (list_doneH (X := X.blk z3 H3 scope ce [it]) hot5 I5 (stat I5 n5 it (by simp)) st5 stop) fun r z6 ⟨hr, I6⟩ => ?_
      subst hr
      have I7 : Inv X pins σ H5 z6 := I3.call' (ch := [it]) I6.os I6.base I6.hok I6.bare fun b hb => ⟨(f3 b hb).1.2.2.2.1, (f3 b hb).1.2.1, (f3 b hb).1.2.2.2.2.1, (f3 b hb).1.2.2.2.2.2⟩
      have nC : H5 z3.heap.objs.size = none := by
        have y : H5 ce.locals = none := I6.free
        rw [cL] at y
        exact y
      obtain ⟨m, hn, _⟩ := I6.loc
      have hn : z6.heap.Ns ce.locals m := hn
      rw [cL] at hn
      refine ⟨m, hn, fun g sb => ?_⟩
      obtain ⟨g0, g1, g2, g3, g4, g5⟩ := I3.fpOk (H' := H5) (Nat.le_refl _) nC
      exact ⟨.ref D, H5, I7.turned (t' := z6.toks) (fun b o hb e => (sb.2 b hb).trans e) g0 g1 g3 g4 g5, rfl, qq⟩
    · refine thnF (list_itemH (X := X.blk z3 H3 scope ce [it]) (tg := tg) I5 (stat I5 n5 it (by simp)) st5 go) fun r z6 ⟨u, hr, h6⟩ => ?_
      subst hr
      refine thnF h6 fun _ z7 ⟨x, H7, I7, r7, y7, st7, n7⟩ => ?_
      obtain ⟨o7, e7, c7, d7⟩ := id st7
      have ob7 : ∀ b ∈ [it], ∃ o, z7.heap.get? b = some o ∧ ∀ v, o.data ≠ .cell v := fun b hb => by
        rw [List.mem_singleton.mp hb]
        exact ⟨o7, e7, fun v y => by rw [d7] at y; cases y⟩
      have I7' := I7.pinned (stat I7 n7) ob7
      refine thnF (pg.run _ z7 _ H7 x u _ I7' r7 (step x H7 y7)) fun _ z8 ⟨σ8, H8, I8, hw8, q8⟩ => ?_
      refine thnF (pt.run _ z8 σ8 H8 _ I8 q8) fun b z9 ⟨H9, I9, q9⟩ => ?_
      have fin : ∀ {z' : Shared} {H' : Hp}, Inv (X.blk z3 H3 scope ce [it]) ([] ++ pinsAt [it] z7.heap) σ8 H' z' → Nx H' → ∃ m, m < n ∧ ∃ i H', Inv (X.blk z3 H3 scope ce [it]) [] (wipe σ (own.map (·.2))) H' z' ∧ z'.heap.IsListIter it a i ∧ (∀ b ∈ [it], H' b = none) ∧ W i m H' := fun {z' H'} J nx => by
        obtain ⟨m', hm, w'⟩ := hNx H' nx
        have pin' : ∀ b ∈ [it], ∀ o, z7.heap.get? b = some o → z'.heap.get? b = some o ∧ H' b = none := fun b hb o e =>
          let y := J.pin (b, o) (List.mem_append_right _ (List.mem_append_right _ (mem_pinsAt hb e)))
          ⟨y.1, y.2.1⟩
        have hln : (wipe σ (own.map (·.2))).length = σ8.length := by rw [← hw8, wipe_length]
        refine ⟨m', hm, i + 1, H', (J.unpinned (pins := [])).weak hln (fun j v e => ?_), st7.at fun o e => (pin' it (by simp) o e).1, fun b hb => ?_, w'⟩
        · rw [← hw8] at e
          exact (wipe_some e).1
        · obtain ⟨o, e, _⟩ := ob7 b hb
          exact (pin' b hb o e).2
      cases b with
      | false =>
        simp only [Bool.false_eq_true, if_false] at q9 ⊢
        exact fin I9 q9
      | true =>
        simp only [if_true] at q9 ⊢
        refine thnF (pe.run _ z9 σ8 H9 _ I9 q9) fun y z10 ⟨yv, H10, I10, r10, acc, hD10, hz10, nx⟩ => ?_
        exact app_ok (X := X.blk z3 H3 scope ce [it]) I10 hD10 hz10 r10 fun z11 I11 => fin I11 nx
  exact codeAny_compStart_list loop (wpAny_pyIter_listiter st4 loop)
end
/-! ### defs called there, whose promise sees the error that is handled -/
structure FnP (P : Program) (w : World) (K : PySem.W.Frag) (mg : Str → Option Value) (base : Heap) (CX : CXT) (k : Nat) (f : Addr) (fd : FuncData) (ps : List Str) (sp : Addr → Value → Option Addr → Sp) : Prop where
  len : ∀ a cls d vs H Q E, sp a cls d vs H Q E → vs.length = ps.length
  go : ∀ (p : Addr × Obj) (A : Around) (outer : List Env) (z : Shared) (H : Hp) (args : Args) (us : List Value) (vs : List V) (Q : VK) (E : XK), RoomH k A → Hot1 A p → PinOk outer H z p → Env0 P w K mg base A outer z H → BindsTo z fd args (ps.zip us) → Vals vs us → sp p.1 p.2.cls p.2.dict vs H Q E →
    codeAny (model P w) A (.call (.ref f) args) (CR CX outer P w H z Q E) z
theorem fnP {CX : CXT} {P : Program} {w : World} {K : PySem.W.Frag} {mg : Str → Option Value} {base : Heap} {x qual : Str} {st : Stmt} {f : Addr} {fd : FuncData} {N ps : List Str} {k : Nat} {sp : Addr → Value → Option Addr → Sp} (F : Fun K x qual st f fd) (S : FnScope N ps (defScope st))
    (len : ∀ a cls d vs H Q E, sp a cls d vs H Q E → vs.length = ps.length)
    (body : ∀ cdv (A : Around) (outer : List Env) (z : Shared) (H : Hp) (vs : List V) (Q : VK) (E : XK) (p : Addr × Obj), Hot1 (A.deeper (envOfC qual (defScope st) z.heap.objs.size f cdv)) p → RoomH k (A.deeper (envOfC qual (defScope st) z.heap.objs.size f cdv)) → sp p.1 p.2.cls p.2.dict vs H Q E →
      ∃ t, PSs (cxH CX P w K mg base N qual (defScope st) f cdv A outer z H E p) (defBody st) t ∧ t ⟨fun _ H' => Q .non H', Q, fun _ _ => False, fun _ _ => False⟩ (L2.start N vs) H) : FnP P w K mg base CX (k + 1) f fd ps sp := by
  obtain ⟨oc, od, kV, doc, pm, an, cdv, ct, osl, e, lk, hc⟩ := F.ex
  subst e
  refine ⟨len, fun p A outer z H args us vs Q E hr hot hp e0 hb r hsp => ?_⟩
  have hl := len _ _ _ _ _ _ _ hsp
  have kI : K.In z.heap := e0.mod.kin.keeps fun b o e => (e0.bs b o e).1
  have nL : z.heap.NoLimit := e0.mod.nolimit.keeps fun b o e => (e0.bs b o e).1
  have hkind : ∀ y ∈ ps.zip us, (defScope st).names.lookup y.1 = some .local ∨ ((defScope st).names.lookup y.1 = some .cell ∧ ((cellsFrom (z.heap.objs.size + 1) (defScope st).names []).lookup y.1).isSome = true) := fun ⟨n, v⟩ hy =>
    (S.par n (List.of_mem_zip hy).1).elim .inl fun q => .inr ⟨q, PySem.W.cellsFrom_some _ _ _ (.inl q)⟩
  refine codeAny_call_function hr.depth (kI _ _ lk) rfl S.co S.gen rfl (PySem.W.codeRec_of kI hc) (hb _ _ _ _ (wpAny_newFunctionEnv_cells S.kind hkind fun env he z1 x => ?_))
  subst he
  refine ⟨nL.keeps x.toInCall.keep, codeAny_func ?_⟩
  obtain ⟨t, ht, hq⟩ := body cdv A outer z H vs Q E p hot (hr.deeper _) hsp
  have I : Inv (cxH CX P w K mg base N qual (defScope st) f cdv A outer z H E p) [] (L2.start N vs) H z1 := inv_startH S hp e0 hl r x
  refine wpAny_mono (ht.run [] z1 (L2.start N vs) H _ I hq) (fun fl z' h' => ?_) fun e z' h' => h'
  cases fl with
  | ret u => obtain ⟨v, σ', H', J, rv, q⟩ := h'; exact ⟨v, H', J.os, J.bare, J.base, J.hok, rv, q⟩
  | next => obtain ⟨σ', H', J, q⟩ := h'; exact ⟨V.non, H', J.os, J.bare, J.base, J.hok, rfl, q⟩
  | brk => obtain ⟨_, _, _, q⟩ := h'; exact q.elim
  | cont => obtain ⟨_, _, _, q⟩ := h'; exact q.elim
structure DefP (P : Program) (w : World) (K : PySem.W.Frag) (mg : Str → Option Value) (base : Heap) (CX : CXT) (k : Nat) (x : Str) (ps : List Str) (sp : Addr → Value → Option Addr → Sp) : Prop where
  ex : ∃ f fd, FnP P w K mg base CX k f fd ps sp ∧ mg x = some (.ref f) ∧ PySem.W.keepIn K (.ref f) = true ∧ Binds K fd ps []
theorem DefAt.okP {P : Program} {w : World} {K : PySem.W.Frag} {mg : Str → Option Value} {base : Heap} {x : Str} {st : Stmt} {ps : List Str} {f : Addr} {fd : FuncData} {CX : CXT} {k : Nat} {sp : Addr → Value → Option Addr → Sp} (d : DefAt K mg x st ps f fd) (h : FnP P w K mg base CX k f fd ps sp) : DefP P w K mg base CX k x ps sp :=
  ⟨f, fd, h, d.g, d.F.kp, d.b⟩
section
variable {X : Cx} {CX : CXT} {k : Nat} {ps : List Str} {sp : Addr → Value → Option Addr → Sp} {E : L2.St → XK} {x : Str} {q pos : Pos} {e : Expr} {es : List Expr} {t : TA} {p : Addr × Obj}
theorem pe_callP (D : DefP X.prog X.w X.K X.mg X.base CX k x ps sp) (hr : RoomH k X.A) (hot : Hot1 X.A p) (hp : p ∈ X.pn) (hg : Gl X x) (hx : ∀ σ, PassesAt CX X σ (E σ)) (ha : PA X (e :: es) t)
    (hdb : (x == ("__debug__" : Str)) = false := by decide) (he : starEach (e :: es) X.env = (false, eval e X.env) :: starEach es X.env := by rfl) (hpl : (backTo pos (starEach es X.env)).any (·.1) = false := by rfl) : PE X (.Call (.Name x q) (e :: es) [] pos) (tCallS (sp p.1 p.2.cls p.2.dict) E t) := by
  obtain ⟨f, fd, F, hm, hk, hb⟩ := D
  refine ⟨fun pins z σ H Q I h => wpAny_Call_Name_kw (ld_glob I hg hm ?_ hdb)⟩
  refine PySem.W.callWith_K (h₀ := X.base) I.ok.mod.kin hk (thn (ha.run pos pins z σ H _ I h) fun us z1 ⟨vs, H1, I1, r, q1⟩ => ⟨I1.kIn, ?_⟩) he hpl
  have hl : us.length = ps.length := by rw [← r.length]; exact F.len _ _ _ _ _ _ _ q1
  have b := hb z1 us I1.kIn (by rw [List.append_nil]; exact hl)
  rw [List.append_nil] at b
  obtain ⟨p1, p2, p3, p4, p5⟩ := I1.pin p (List.mem_append_left _ hp)
  have pok : PinOk X.stack H1 z1 p := ⟨p1, p2, fun y => (List.mem_cons.mp (I1.stkSub p.1 y)).elim p3 p4, p5⟩
  refine wpAny_call (codeAny_mono (F.go p X.A X.stack z1 H1 ⟨us, []⟩ us vs Q (E σ) hr hot pok I1.env0 b r q1) fun r z' y => ?_)
  cases r with
  | error u => exact hx σ pins H1 z1 u z' I1 y
  | ok fl =>
    cases fl with
    | ret u => exact I1.after y
    | next => exact y.elim
    | brk => exact y.elim
    | cont => exact y.elim
end
/-! ### isinstance of the handled error -/
theorem c_isH {X : Cx} {p : Addr × Obj} {D : Addr} (C : ExcC X.K D) (hp : p ∈ X.pn) (hz : Zc (.ref D) none p.2) (hf : ∃ vs, p.2.data = .fields vs) : CallR X (.builtin "isinstance") (rIsE X.K D p.1) := by
  intro pins z σ H xs us Q I r h
  obtain ⟨c, cv, b, rfl, hcv, e, q⟩ := h
  cases r with
  | cons rx rr =>
    cases rr with
    | cons rt rr =>
      cases rr
      cases rx
      have ec := hcv _ rt
      subst ec
      obtain ⟨hget, _⟩ := I.pin p (List.mem_append_left _ hp)
      obtain ⟨vs, hv⟩ := hf
      have J : PySem.W.InstAt z.heap p.1 p.2 D none := by
        obtain ⟨a, oc, od, oda, osl⟩ := p
        obtain ⟨h1, h2⟩ := hz
        dsimp only at h1 h2 hv
        subst h1 h2 hv
        exact ⟨hget, rfl, rfl, trivial⟩
      exact PySem.W.kia_one (PySem.W.handS_kitx_exc C.hg C.hk C.hs C.hd C.ha C.hn C.ht C.hm) I.kIn J e (fun y => nomatch y) fun tk => ⟨.bl b, H, I.kept (t' := tk) fun _ _ y => y, rfl, q⟩
theorem c_isHK {X : Cx} {K : PySem.W.Frag} {p : Addr × Obj} {D : Addr} (h : X.K = K) (C : ExcC K D) (hp : p ∈ X.pn) (hz : Zc (.ref D) none p.2) (hf : ∃ vs, p.2.data = .fields vs) : CallR X (.builtin "isinstance") (rIsE K D p.1) := by
  subst h
  exact c_isH C hp hz hf
theorem ed_isE {K : PySem.W.Frag} {σ : L2.St} {H : Hp} {D a : Addr} {i : Nat} {cv : V} {u : Value} {b : Bool} (hσ : σ[i]? = some (some (.ref a))) (hc : ClsV cv u) (hk : PySem.W.kitOne K (.ref D) u = some b) : EvD K (tCB (rIsE K D a) (tCons (tVar i) (tCons (tC cv) tNil))) σ H (.bool b) :=
  fun A B e s Q q => ⟨_, hσ, cv, u, b, rfl, fun _ r => hc.eq r, hk, q _ A B (Pr.refl s) (.bl _)⟩
theorem hot_suite {X : Cx} {a : Addr} {oe : Obj} {cls : Value} {d : Option Addr} {pn : List (Addr × Obj)} (hz : L2N.Zn cls d oe) (hf : ∃ vs, oe.data = .fields vs) : Hot1 (X.suite a ((a, oe) :: pn)).A (a, oe) := by
  obtain ⟨vs, e⟩ := hf
  exact ⟨rfl, vs, e, hz.2.2 vs e⟩
theorem passA0 {X : Cx} {E : L2.St → XK} : ∀ σ, PassesAt CX0 X σ (E σ) := fun _ _ _ _ _ _ _ z => z.elim
theorem takes0 {X : Cx} : L2N.Takes X (fun _ _ _ _ => False) := fun _ _ x => by
  obtain ⟨_, _, _, _, _, _, _, _, _, _, _, _, _, _, _, _, z⟩ := x
  exact z.elim
theorem roomHm {k : Nat} {A : Around} {u : Option Value} (r : Room k A) : RoomH k (A.mark u) := ⟨r.dp, r.un⟩
theorem huH {k : Nat} {A : Around} (r : RoomH k A) : A.units + 64 < cLine := by have := r.un; omega
section
variable {X : Cx} {CX : CXT} {k : Nat} {ps : List Str} {sp : Addr → Value → Option Addr → Sp} {E : L2.St → XK} {x : Str} {q pos : Pos} {e : Expr} {es : List Expr} {t : TA} {a : Addr} {oe : Obj} {cls : Value} {d : Option Addr} {pn : List (Addr × Obj)}
/-- a def called in the suite itself -/
theorem pe_callZ (D : DefP X.prog X.w X.K X.mg X.base CX k x ps sp) (hr : Room k X.A) (hz : L2N.Zn cls d oe) (hf : ∃ vs, oe.data = .fields vs) (hg : Gl (X.suite a ((a, oe) :: pn)) x) (hx : ∀ σ, PassesAt CX (X.suite a ((a, oe) :: pn)) σ (E σ)) (ha : PA (X.suite a ((a, oe) :: pn)) (e :: es) t)
    (hdb : (x == ("__debug__" : Str)) = false := by decide) (he : starEach (e :: es) X.env = (false, eval e X.env) :: starEach es X.env := by rfl) (hpl : (backTo pos (starEach es X.env)).any (·.1) = false := by rfl) : PE (X.suite a ((a, oe) :: pn)) (.Call (.Name x q) (e :: es) [] pos) (tCallS (sp a cls d) E t) := by
  have y := pe_callP (X := X.suite a ((a, oe) :: pn)) (p := (a, oe)) (q := q) (pos := pos) D (roomHm hr) (hot_suite hz hf) List.mem_cons_self hg hx ha hdb he hpl
  obtain ⟨h1, h2, _⟩ := hz
  subst h1 h2
  exact y
end
/-- the facts of a class that an error may be of -/
theorem kitF {K : PySem.W.Frag} {t : Value} {C : Addr} {b : Bool} (hd : PySem.W.hasDictIn K C = true) (ht : PySem.W.typeIn K (.ref C) = some (.type "type")) (hs : PySem.W.subIn K t (.ref C) = some b) (hn : (t == .ref C) = true → b = true) : PySem.W.kitOne K t (.ref C) = some b := by
  obtain ⟨cd, hc, _⟩ := PySem.W.any_some hd
  unfold PySem.W.kitOne
  by_cases h : (t == .ref C) = true
  · rw [if_pos h, hn h]
  · rw [if_neg h]
    show (if ((PySem.W.clsIn K C).isSome && PySem.W.typeIn K (.ref C) == some (.type "type")) = true then PySem.W.subIn K t (.ref C) else none) = some b
    rw [if_pos (by rw [hc, ht]; rfl)]
    exact hs
theorem kitR {K : PySem.W.Frag} {C : Addr} : PySem.W.kitOne K (.ref C) (.ref C) = some true := by
  unfold PySem.W.kitOne
  rw [if_pos (beq_self_eq_true _)]
theorem kitV {K : PySem.W.Frag} {t : Value} (hs : PySem.W.subIn K t (.type "ValueError") = some true) : PySem.W.kitOne K t (.type "ValueError") = some true := by
  unfold PySem.W.kitOne
  by_cases h : (t == .type "ValueError") = true
  · rw [if_pos h]
  · rw [if_neg h]
    show (if PySem.W.kitMeta "ValueError" = true then PySem.W.subIn K t (.type "ValueError") else none) = some true
    rw [if_pos (by decide +kernel)]
    exact hs
theorem kitN {C D : Addr} (hn : (C == D) = false) : ((Value.ref C : Value) == .ref D) = true → false = true := fun h => by
  have e : C = D := Value.ref.inj (beq_iff_eq.mp h)
  rw [e] at hn
  simp at hn
theorem hotC_mk {X : Cx} {p : Addr × Obj} (hot : Hot1 X.A p) (hp : p ∈ X.pn) : HotC X := ⟨p, hot, hp⟩
theorem cx_KH {CX : CXT} {P : Program} {w : World} {K : PySem.W.Frag} {mg : Str → Option Value} {base : Heap} {N : List Str} {qual : Str} {scope : Scope} {f : Addr} {cd : Value} {A : Around} {outer : List Env} {z : Shared} {H : Hp} {E : XK} {p : Addr × Obj} :
    (cxH CX P w K mg base N qual scope f cd A outer z H E p).K = K := rfl
theorem Pr.appfrz {A B A' B' : Hp} {l : Addr} {o : HO} (P : Pr A B A' B') (hB : B l = none) (hA : A' l = none) : Pr A B (upd A' l o) (upd B' l o) := (P.mut hB hA).frz hB hA upd_same
section
open Evl
variable {K : PySem.W.Frag} {H : Hp} {σ : L2.St} {tl te : TE}
/-- a list of what a text's signs give -/
theorem en_lcS {j : Nat} {z : Str} {ws : List Nat} (g : Nat → D) (h : EvD K tl σ H (.str z)) (hz : z.length ≤ 40000) (hw : ∀ x, wipe ((wipe σ ws).set j (some x)) ws = wipe σ ws)
    (he : ∀ y ∈ z.cps.toList, ∀ H1, Ex H H1 → EvD K te ((wipe σ ws).set j (some (.str ⟨#[y]⟩))) H1 (g y)) :
    EvN K (tLc (iStr tl) (gName j) tYes te ws) σ H (z.cps.toList.map g) := fun A B e s Q q => h A B e s _ fun v A1 B1 P1 hv => by
  cases hv
  refine ⟨z, rfl, fun L hL => lc_it walk_str (fun i H' => LcI K A1 B1 L ((z.cps.toList.take i).map g) H') (lci_start P1.s hL) (fun _ _ _ _ => trivial) ?_ ?_⟩
  · rintro i x H' H'' hi p ⟨rfl, y, hy, rfl⟩
    have hy' : z.cps.toList[i]? = some y := by rw [Array.getElem?_toList]; exact hy
    refine ⟨hw _, ?_⟩
    have tk : (z.cps.toList.take (i + 1)).map g = if true = true then (z.cps.toList.take i).map g ++ [g y] else (z.cps.toList.take i).map g := by rw [if_pos rfl, List.take_succ, hy', List.map_append]; rfl
    rw [tk]
    refine lci_turn (f := true) hL p ?_ (fun A' _ => eb_yes) (fun _ A' ea => he y (List.mem_of_getElem? hy') A' ((e.trans P1.a).trans ea))
    rw [List.length_map, List.length_take, Array.length_toList]
    have : z.cps.size ≤ 40000 := hz
    omega
  · intro H' p
    have e1 : z.cps.toList.take z.cps.size = z.cps.toList := by rw [← Array.length_toList, List.take_length]
    rw [e1] at p
    exact lci_end hL p fun p xs A' B' hp P => q p xs A' B' (fresh_back P1.b hp) (P1.trans P)
/-- one of some texts -/
def pickS (ws : List Str) (i : Int) : Str := ws.getD i.toNat ""
theorem at_pickS (ws : List Str) {i : Int} (h0 : 0 ≤ i) (h1 : i < ws.length) : atI (ws.map PyData.str) i = some (.str (pickS ws i)) := by
  obtain ⟨n, rfl⟩ : ∃ n : Nat, i = (n : Int) := ⟨i.toNat, by omega⟩
  have hn : n < ws.length := by omega
  unfold atI
  rw [List.length_map, ixN_nat hn]
  show (ws.map PyData.str)[n]? = _
  rw [List.getElem?_map]
  unfold pickS
  rw [show ((n : Int).toNat) = n from rfl, List.getD_eq_getElem?_getD, List.getElem?_eq_getElem hn]
  rfl
theorem pickS_mem {ws : List Str} {i : Int} (h0 : 0 ≤ i) (h1 : i < ws.length) : pickS ws i ∈ ws := by
  have hn : i.toNat < ws.length := by omega
  unfold pickS
  rw [List.getD_eq_getElem?_getD, List.getElem?_eq_getElem hn]
  exact List.getElem_mem hn
theorem pickS_len {ws : List Str} {n : Nat} (h : ∀ x ∈ ws, x.length ≤ n) (i : Int) : (pickS ws i).length ≤ n := by
  unfold pickS
  rw [List.getD_eq_getElem?_getD]
  cases e : ws[i.toNat]? with
  | none => exact Nat.zero_le _
  | some x => exact h x (List.mem_of_getElem? e)
end
end Ob

/-! ## the tactics: ed (EvD), ea (EvAD), en (EvN), ek (EvK), eo (EvO), et (EvT), dp (Dp), pr (Pr), at (atI), fn (a def's promise), sz (sizes) -/
open PySem L2 Evl Ob
local macro_rules | `(tactic| tm_at "sz") => `(tactic| first | decide | (simp only [List.length_cons, List.length_nil]; decide) | omega | assumption)
local macro_rules | `(tactic| tm_at "at") => `(tactic| first | assumption | exact rfl)
local macro_rules | `(tactic| tm_at "cc") => `(tactic| first | (exact ⟨by decide, by decide⟩) | (show (0 : Int) < _; decide) | (exact ⟨by decide, by decide, by decide⟩) | assumption)
local macro_rules | `(tactic| tm_at "exa") => `(tactic| first | exact Ex.refl _ | assumption | exact Pr.a (by assumption) | (refine Ex.trans ?_ (Pr.a (by assumption)); tm_at "exa") | (refine Ex.trans ?_ (by assumption); tm_at "exa"))
local macro_rules | `(tactic| tm_at "dp") => `(tactic| first | assumption | exact Dp.int _ | exact Dp.bl _ | exact Dp.str _ | exact Dp.non | (refine dp_ex ?e (by assumption); tm_at "exa"))
local macro_rules | `(tactic| tm_at "pr") => `(tactic| first | assumption | exact Pu.pr (by assumption) | (with_reducible exact Pr.refl (by first | assumption | exact Pr.s (by assumption) | exact Pu.s (by assumption))) | (refine Pr.trans ?_ (by assumption); tm_at "pr") | (refine Pr.trans ?_ (Pu.pr (by assumption)); tm_at "pr"))
local macro_rules | `(tactic| tm_at "exs") => `(tactic| first | assumption | exact Pr.s (by assumption) | exact Pu.s (by assumption))
local macro_rules | `(tactic| tm_at "sh") => `(tactic| first | assumption | exact rfl)
local macro_rules | `(tactic| tm_at "fn") => `(tactic| fail)
local macro_rules | `(tactic| tm_at "ki") => `(tactic| first | exact ki_ii | exact ki_ib | exact ki_bb | exact ki_bi | exact ki_nb | exact ki_sb | exact ki_lb | exact ki_tb | exact ki_ni | exact ki_si | exact ki_li | exact ki_ti | exact ki_tt | exact ki_lt | exact ki_st | exact ki_it | exact ki_bt | exact ki_nt | exact ki_ll | exact ki_tl | exact ki_sl | exact ki_nl | exact ki_il | exact ki_bl | exact ki_ss | exact ki_ts | exact ki_ls | exact ki_ns | exact ki_is | exact ki_bs)
local macro_rules | `(tactic| tm_at "ea") => `(tactic| first | exact ea_nilD | (apply ea_consD; tm_at "ed"; tm_at "ea"))
local macro_rules | `(tactic| tm_at "eo") => `(tactic| first | exact eo_noneD | (apply eo_someD; tm_at "ed"))
local macro_rules | `(tactic| tm_at "le") => `(tactic| first | omega | (simp only [Str.length_append]; omega))
local macro_rules | `(tactic| tm_at "exs2") => `(tactic| first | exact Ex.refl _ | exact Pr.b (by assumption) | exact Pu.e (by assumption) | (refine Ex.trans ?_ (Pr.b (by assumption)); tm_at "exs2") | (refine Ex.trans ?_ (Pu.e (by assumption)); tm_at "exs2"))
local macro_rules | `(tactic| tm_at "l2") => `(tactic| first | assumption | decide)
local macro_rules | `(tactic| tm_at "ej") => `(tactic| first | exact ej_nil | (apply ej_cons; tm_at "ed"; tm_at "sz"; tm_at "ej"))
local macro_rules | `(tactic| tm_at "ek") => `(tactic| first | (apply ek_n; tm_at "en") | (apply ek_var; exact rfl; assumption; assumption))
local macro_rules | `(tactic| tm_at "en") => `(tactic| first
  | ((with_reducible apply en_lst); tm_at "ea"; tm_at "sz")
  | ((with_reducible apply en_cat); tm_at "ek"; tm_at "ek"; tm_at "sz")
  | ((with_reducible apply en_slice); tm_at "ed"; tm_at "eo"; tm_at "eo")
  | ((with_reducible apply en_split); tm_at "ed"; tm_at "ed"; exact rfl; tm_at "sz")
  | ((with_reducible apply en_listof); tm_at "ed"))
local macro_rules | `(tactic| tm_at "et") => `(tactic| first
  | ((with_reducible exact eb_yes))
  | ((with_reducible apply eb_D); tm_at "ed")
  | ((with_reducible apply eb_DB); tm_at "ed")
  | ((with_reducible apply eb_not); tm_at "et")
  | ((with_reducible apply eb_and); tm_at "et"; intro h; first | (exact eb_abs h (by decide)) | tm_at "et")
  | ((with_reducible apply eb_or); tm_at "et"; intro h; first | (exact eb_abs h (by decide)) | tm_at "et"))
local macro_rules | `(tactic| tm_at "ed") => `(tactic| first
  | ((with_reducible apply ed_var); exact rfl; tm_at "dp")
  | ((with_reducible exact ed_int))
  | ((with_reducible exact ed_str))
  | ((with_reducible exact ed_bl))
  | ((with_reducible exact ed_non))
  | ((with_reducible apply ed_Ii); tm_at "ed"; tm_at "ed")
  | ((with_reducible apply ed_Ib); tm_at "ed"; tm_at "ed")
  | ((with_reducible apply ed_Ic); tm_at "ed"; tm_at "ed"; tm_at "cc")
  | ((with_reducible apply ed_ixT); tm_at "ed"; tm_at "ed"; tm_at "at")
  | ((with_reducible apply ed_ixL); tm_at "ed"; tm_at "ed"; tm_at "at")
  | ((with_reducible apply ed_eqi); tm_at "ed"; tm_at "ed")
  | ((with_reducible apply ed_nei); tm_at "ed"; tm_at "ed")
  | ((with_reducible apply ed_eqs); tm_at "ed"; tm_at "ed")
  | ((with_reducible apply ed_nes); tm_at "ed"; tm_at "ed")
  | ((with_reducible apply ed_eqb); tm_at "ed"; tm_at "ed")
  | ((with_reducible apply ed_neb); tm_at "ed"; tm_at "ed")
  | ((with_reducible apply ed_eqD); tm_at "ed"; tm_at "ed"; tm_at "sh"; tm_at "sh")
  | ((with_reducible apply ed_neD); tm_at "ed"; tm_at "ed"; tm_at "sh"; tm_at "sh")
  | ((with_reducible apply ed_and); tm_at "ed"; intro h; first | (exact ed_abs h (by decide)) | tm_at "ed")
  | ((with_reducible apply ed_or); tm_at "ed"; intro h; first | (exact ed_abs h (by decide)) | tm_at "ed")
  | ((with_reducible apply ed_not); tm_at "ed")
  | ((with_reducible apply ed_isi); tm_at "ed"; tm_at "ki")
  | ((with_reducible apply ed_tup); tm_at "ea"; tm_at "sz")
  | ((with_reducible apply ed_call); tm_at "ea"; tm_at "fn")
  | ((with_reducible apply ed_len); tm_at "ed")
  | ((with_reducible apply ed_lenT); tm_at "ed")
  | ((with_reducible apply ed_all); tm_at "ed")
  | ((with_reducible apply ed_addS); tm_at "ed"; tm_at "ed"; tm_at "sz")
  | ((with_reducible apply ed_strI); tm_at "ed"; tm_at "l2")
  | ((with_reducible apply ed_lenS); tm_at "ed"; tm_at "sz")
  | ((with_reducible apply ed_jn); tm_at "ej")
  | ((with_reducible apply ed_fmtI); tm_at "ed"; tm_at "l2")
  | ((with_reducible apply ed_isN); tm_at "ed")
  | ((with_reducible apply ed_notN); tm_at "ed")
  | ((with_reducible apply ed_ixS); tm_at "ed"; tm_at "ed"; tm_at "sz"; tm_at "at")
  | ((with_reducible apply ed_sliceS); tm_at "ed"; tm_at "sz"; tm_at "eo"; tm_at "eo")
  | ((with_reducible apply ed_inT); tm_at "ed"; tm_at "ed"; exact rfl; exact rfl)
  | ((with_reducible apply ed_niT); tm_at "ed"; tm_at "ed"; exact rfl; exact rfl)
  | ((with_reducible apply ed_inSg); tm_at "ed"; tm_at "ed")
  | ((with_reducible apply ed_niSg); tm_at "ed"; tm_at "ed")
  | ((with_reducible apply ed_neg); tm_at "ed")
  | ((with_reducible apply ed_max2); tm_at "ed"; tm_at "ed")
  | (apply ed_n; tm_at "en"))

namespace K5
open PySem L2 Evl Ob
def top (i : Nat) : Stmt := PySem.Challenge.pw_onebell_k05_what_writes_no_mail.main.body.getD i (.Pass ⟨0, 0, 0, 0⟩)
abbrev Mk := Int × Int
abbrev mkD (m : Mk) : D := .tuple [.int m.1, .int m.2]

-- number_of  slots: 0=word 1=sign
abbrev s_number_of : Stmt := top 12
theorem sc_number_of : FnScope ["word", "sign"] ["word"] (defScope s_number_of) := ⟨rfl, rfl, rfl, by decide +kernel, rfl, by decide +kernel, by decide +kernel⟩
-- read  slots: 0=text 1=words 2=mark
abbrev s_read : Stmt := top 13
theorem sc_read : FnScope ["text", "words", "mark"] ["text"] (defScope s_read) := ⟨rfl, rfl, rfl, by decide +kernel, rfl, by decide +kernel, by decide +kernel⟩
-- _law_whole  slots: 0=_law_found
abbrev s_law_whole : Stmt := top 15
theorem sc_law_whole : FnScope ["_law_found"] ["_law_found"] (defScope s_law_whole) := ⟨rfl, rfl, rfl, by decide +kernel, rfl, by decide +kernel, by decide +kernel⟩
-- _law_cell_at  slots: 0=_law_script 1=_law_k
abbrev s_law_cell_at : Stmt := top 16
theorem sc_law_cell_at : FnScope ["_law_script", "_law_k"] ["_law_script", "_law_k"] (defScope s_law_cell_at) := ⟨rfl, rfl, rfl, by decide +kernel, rfl, by decide +kernel, by decide +kernel⟩
-- _law_mark  slots: 0=_law_found
abbrev s_law_mark : Stmt := top 17
theorem sc_law_mark : FnScope ["_law_found"] ["_law_found"] (defScope s_law_mark) := ⟨rfl, rfl, rfl, by decide +kernel, rfl, by decide +kernel, by decide +kernel⟩
-- _law_mail  slots: 0=_law_found
abbrev s_law_mail : Stmt := top 18
theorem sc_law_mail : FnScope ["_law_found"] ["_law_found"] (defScope s_law_mail) := ⟨rfl, rfl, rfl, by decide +kernel, rfl, by decide +kernel, by decide +kernel⟩
-- _law_sign  slots: 0=_law_cell 1=_law_some
abbrev s_law_sign : Stmt := top 19
theorem sc_law_sign : FnScope ["_law_cell", "_law_some"] ["_law_cell"] (defScope s_law_sign) := ⟨rfl, rfl, rfl, by decide +kernel, rfl, by decide +kernel, by decide +kernel⟩
-- _law_number  slots: 0=_law_cell 1=_law_more 2=_law_some
abbrev s_law_number : Stmt := top 20
theorem sc_law_number : FnScope ["_law_cell", "_law_more", "_law_some"] ["_law_cell"] (defScope s_law_number) := ⟨rfl, rfl, rfl, by decide +kernel, rfl, by decide +kernel, by decide +kernel⟩
-- _law_text  slots: 0=_law_cells 1=_law_word 2=_law_text_here
abbrev s_law_text : Stmt := top 21
theorem sc_law_text : FnScope ["_law_cells", "_law_word", "_law_text_here"] ["_law_cells"] (defScope s_law_text) := ⟨rfl, rfl, rfl, by decide +kernel, rfl, by decide +kernel, by decide +kernel⟩
-- _law_bent  slots: 0=_law_text_here 1=_law_cell 2=_law_more 3=_law_at
abbrev s_law_bent : Stmt := top 22
theorem sc_law_bent : FnScope ["_law_text_here", "_law_cell", "_law_more", "_law_at"] ["_law_text_here", "_law_cell", "_law_more"] (defScope s_law_bent) := ⟨rfl, rfl, rfl, by decide +kernel, rfl, by decide +kernel, by decide +kernel⟩
-- _law_good  slots: 0=_law_word 1=_law_sign_here
abbrev s_law_good : Stmt := top 23
theorem sc_law_good : FnScope ["_law_word", "_law_sign_here"] ["_law_word"] (defScope s_law_good) := ⟨rfl, rfl, rfl, by decide +kernel, rfl, by decide +kernel, by decide +kernel⟩
-- _law_due  slots: 0=_law_text_here 1=_law_words 2=_law_numbers 3=_law_word 4=_law_row
abbrev s_law_due : Stmt := top 24
theorem sc_law_due : FnScope ["_law_text_here", "_law_words", "_law_numbers", "_law_word", "_law_row"] ["_law_text_here"] (defScope s_law_due) := ⟨rfl, rfl, rfl, by decide +kernel, rfl, by decide +kernel, by decide +kernel⟩
-- _law_only  slots: 0=_law_error 1=_law_word 2=_law_kinds 3=_law_names 4=_law_name
abbrev s_law_only : Stmt := top 25
theorem sc_law_only : FnScope ["_law_error", "_law_word", "_law_kinds", "_law_names", "_law_name"] ["_law_error", "_law_word"] (defScope s_law_only) := ⟨rfl, rfl, rfl, by decide +kernel, rfl, by decide +kernel, by decide +kernel⟩
-- _law_told  slots: 0=_law_text_here 1=_law_error
abbrev s_law_told : Stmt := top 26
theorem sc_law_told : FnScope ["_law_text_here", "_law_error"] ["_law_text_here"] (defScope s_law_told) := ⟨rfl, rfl, rfl, by decide +kernel, rfl, by decide +kernel, by decide +kernel⟩
-- law  slots: 0=_law_script 1=_law_k 2=_law_text_here 3=_law_due_here 4=_law_found
abbrev s_law : Stmt := top 27
theorem sc_law : FnScope ["_law_script", "_law_k", "_law_text_here", "_law_due_here", "_law_found"] ["_law_script"] (defScope s_law) := ⟨rfl, rfl, rfl, by decide +kernel, rfl, by decide +kernel, by decide +kernel⟩
structure Cs where
  BellError : Addr
  BadCount : Addr
  NoHand : Addr
  NoLetter : Addr
  NoMail : Addr
  Twice : Addr
  NotOpen : Addr
  BadMark : Addr
  NoNote : Addr
/-- an error's class D, the j-th kind -/
structure ExcD (K : PySem.W.Frag) (c : Cs) (D : Addr) (j : Nat) : Prop where
  i : ExcC K D
  v : PySem.W.kitOne K (.ref D) (.type "ValueError") = some true
  e : PySem.W.exmOne K (.ref D) (.ref c.BellError) = some true
  k0 : PySem.W.kitOne K (.ref D) (.ref c.BadCount) = some (0 == j)
  k1 : PySem.W.kitOne K (.ref D) (.ref c.NoHand) = some (1 == j)
  k2 : PySem.W.kitOne K (.ref D) (.ref c.NoLetter) = some (2 == j)
  k3 : PySem.W.kitOne K (.ref D) (.ref c.NoMail) = some (3 == j)
  k4 : PySem.W.kitOne K (.ref D) (.ref c.Twice) = some (4 == j)
  k5 : PySem.W.kitOne K (.ref D) (.ref c.NotOpen) = some (5 == j)
  k6 : PySem.W.kitOne K (.ref D) (.ref c.BadMark) = some (6 == j)
  k7 : PySem.W.kitOne K (.ref D) (.ref c.NoNote) = some (7 == j)
structure Tx (K : PySem.W.Frag) (mg : Str → Option Value) (c : Cs) : Prop where
  x_BellError : ExcCl K mg "BellError" c.BellError
  x_BadCount : ExcCl K mg "BadCount" c.BadCount
  x_NoHand : ExcCl K mg "NoHand" c.NoHand
  x_NoLetter : ExcCl K mg "NoLetter" c.NoLetter
  x_NoMail : ExcCl K mg "NoMail" c.NoMail
  x_Twice : ExcCl K mg "Twice" c.Twice
  x_NotOpen : ExcCl K mg "NotOpen" c.NotOpen
  x_BadMark : ExcCl K mg "BadMark" c.BadMark
  x_NoNote : ExcCl K mg "NoNote" c.NoNote
  i_NoNote : ExcD K c c.NoNote 7
  d_number_of : ∃ f fd, DefAt K mg "number_of" s_number_of ["word"] f fd
  d_read : ∃ f fd, DefAt K mg "read" s_read ["text"] f fd
  d_law_whole : ∃ f fd, DefAt K mg "_law_whole" s_law_whole ["_law_found"] f fd
  d_law_mark : ∃ f fd, DefAt K mg "_law_mark" s_law_mark ["_law_found"] f fd
  d_law_mail : ∃ f fd, DefAt K mg "_law_mail" s_law_mail ["_law_found"] f fd
  d_law_sign : ∃ f fd, DefAt K mg "_law_sign" s_law_sign ["_law_cell"] f fd
  d_law_number : ∃ f fd, DefAt K mg "_law_number" s_law_number ["_law_cell"] f fd
  d_law_text : ∃ f fd, DefAt K mg "_law_text" s_law_text ["_law_cells"] f fd
  d_law_bent : ∃ f fd, DefAt K mg "_law_bent" s_law_bent ["_law_text_here", "_law_cell", "_law_more"] f fd
  d_law_good : ∃ f fd, DefAt K mg "_law_good" s_law_good ["_law_word"] f fd
  d_law_due : ∃ f fd, DefAt K mg "_law_due" s_law_due ["_law_text_here"] f fd
  d_law_only : ∃ f fd, DefAt K mg "_law_only" s_law_only ["_law_error", "_law_word"] f fd
  d_law_told : ∃ f fd, DefAt K mg "_law_told" s_law_told ["_law_text_here"] f fd
  mn_int : mg "int" = none
  mn_len : mg "len" = none
  mn_isinstance : mg "isinstance" = none
  mn_bool : mg "bool" = none
  mn_tuple : mg "tuple" = none
  mn_str : mg "str" = none
  mn_all : mg "all" = none
  mn_ValueError : mg "ValueError" = none
  mn_range : mg "range" = none
  mg_MOST_FIGURES : ∃ t, mg "MOST_FIGURES" = some (.int 30 t)

/-! ## texts of mails -/
def mkO : Option Mk → D
  | none => .none
  | some m => mkD m
abbrev mailD (w : Str) (l a b : Int) (m : Option Mk) : D := .tuple [.str w, .int l, .int a, .int b, mkO m]
/-- the text that shown builds -/
def shownT (w : Str) (l a b : Int) : Str := w ++ ((((((Str.empty ++ " ") ++ numS l) ++ " from ") ++ numS a) ++ " to ") ++ numS b)
def shownM (m : Mk) : Str := (((Str.empty ++ ": ") ++ numS m.1) ++ " of ") ++ numS m.2
def shownS (w : Str) (l a b : Int) : Option Mk → Str
  | none => shownT w l a b
  | some m => shownT w l a b ++ shownM m
/-- a number that is written by at most thirty figures -/
def num30 (i : Int) : Prop := 0 ≤ i ∧ i < 10 ^ 30
theorem num30_log {i : Int} (h : num30 i) : i.natAbs.log2 < 1920 := by
  have h2 : i.natAbs < 2 ^ 100 := by
    have : (10 : Int) ^ 30 < 2 ^ 100 := by decide
    obtain ⟨h0, h1⟩ := h
    omega
  by_cases hz : i.natAbs = 0
  · rw [hz]; decide
  · have := (Nat.log2_lt hz).mpr h2
    omega
theorem numS_tl {i : Int} (h : 0 ≤ i) : TL.tl (numS i) = TL.numL i.toNat := by
  obtain ⟨n, rfl⟩ : ∃ n : Nat, i = (n : Int) := ⟨i.toNat, by omega⟩
  exact TL.tl_num n
theorem numS_len {i : Int} (h : num30 i) : (numS i).length ≤ 30 := by
  rw [TL.len_tl, numS_tl h.1]
  refine TL.numL_len (by decide) ?_
  obtain ⟨h0, h1⟩ := h
  have : ((i.toNat : Nat) : Int) < ((10 ^ 30 : Nat) : Int) := by
    rw [Int.toNat_of_nonneg h0]
    exact_mod_cast h1
  exact_mod_cast this
theorem len_app (x y : Str) : (x ++ y).length = x.length + y.length := Str.length_append _ _

section
variable {P : Program} {w : World} {K : PySem.W.Frag} {mg : Str → Option Value} {base : Heap} {c : Cs}
/-! ## a word's number -/
def figs : Str := "0123456789"
/-- the word writes a number -/
def goodW (w : Str) : Bool := !(w == "" || (decide (30 < (w.length : Int)) || (decide (1 < (w.length : Int)) && (w.cps.toList.head? == some 48)))) && w.cps.toList.all fun c => decide (c ∈ figs.cps.toList)
def valW (w : Str) : Int := (NumText.digitsVal w.cps.toList : Nat)
def numO (w : Str) : Option D := if goodW w = true then some (.int (valW w)) else none
theorem figs_iff (c : Nat) : c ∈ figs.cps.toList ↔ 48 ≤ c ∧ c ≤ 57 := by
  rw [show figs.cps.toList = [48, 49, 50, 51, 52, 53, 54, 55, 56, 57] from rfl]
  simp only [List.mem_cons, List.not_mem_nil, or_false]
  omega
def sp_number (K : PySem.W.Frag) (C : Addr) : Sp := spX K C (fun x : Str => [.str x]) (fun x => x.length ≤ 1000) numO
theorem at_number {C : Addr} {x : Str} (h : x.length ≤ 1000) : SpX K (sp_number K C) C [.str x] (numO x) := spX_at x h
theorem ok_number (T : Tx K mg c) : DefOk P w K mg base (L2N.CX P w) 1 "number_of" ["word"] (sp_number K c.NoNote) := by
  obtain ⟨f, fd, d⟩ := T.d_number_of
  refine d.ok (okN d.F sc_number_of (fun vs H Q E h => spX_len h fun _ => rfl) fun cdv A outer s H vs Q E hr h => ?_)
  obtain ⟨A0, x, hx, s0, ha, k, kx⟩ := h
  obtain ⟨v1, rfl, h1⟩ := dpa1 ha
  cases h1
  have nd := sc_number_of.nd
  refine ⟨_, (pss_cons (ps_if (PW.pt (pw_or (pt_cmpR op_eq (pv 0) pe_str (nomark _)) (pw_or (pt_cmpR op_gt (pe_callB c_lenS rfl T.mn_len (by decide +kernel) (pa_cons (pv 0) pa_nil)) (pe_gi rfl T.mg_MOST_FIGURES) (nomark _)) (pw_or1 (PW.pt (pw_and (pt_cmpR op_gt (pe_callB c_lenS rfl T.mn_len (by decide +kernel) (pa_cons (pv 0) pa_nil)) pe_int (nomark _)) (pw_and1 (pt_cmpR op_eq (pe_ix ix_str (pv 0) pe_int (fun _ _ => rfl)) pe_str (nomark _))))))))) (pss_one (ps_rs rfl (L2N.takes_of rfl rfl rfl rfl) T.x_NoNote rfl)) pss_nil)
      (pss_cons (ps_for (passes_of rfl) rfl (pi_str (pv 0)) (pg_name (i := 1) nd rfl (Or.inl rfl)) (pss_one (ps_if (pt_cmpR op_notInS (pv 1) pe_str (by rfl)) (pss_one (ps_rs rfl (L2N.takes_of rfl rfl rfl rfl) T.x_NoNote rfl)) pss_nil)))
      (pss_one (ps_ret (pe_callTy c_intS rfl T.mn_int (by decide +kernel) (pa_cons (pv 0) pa_nil)))))), ?_⟩
  try dsimp only [cx_K2]
  have hx : x.length ≤ 1000 := hx
  have h0 : ∀ c : Nat, x.cps.toList.head? = some c → atI x.cps.toList 0 = some c := by
    intro c hc
    cases e : x.cps.toList with
    | nil => rw [e] at hc; cases hc
    | cons y r =>
      rw [e] at hc
      cases hc
      unfold atI
      rw [show ixN (c :: r).length (0 : Int) = some 0 from ixN_nat (j := 0) (by simp)]
      rfl
  have hd0 : 1 < (x.length : Int) → ∃ c, x.cps.toList.head? = some c := by
    intro h
    cases e : x.cps.toList with
    | nil =>
      have : x.length = 0 := by rw [show x.length = x.cps.toList.length from by simp [Str.length], e]; rfl
      omega
    | cons y r => exact ⟨y, rfl⟩
  refine q_ifE K (b := (x == "" || (decide (30 < (x.length : Int)) || (decide (1 < (x.length : Int)) && (x.cps.toList.head? == some 48))))) s0
    (eb_or (by tm_at "et") fun _ => eb_or (by tm_at "et") fun _ => eb_and (by tm_at "et") fun h => ?e1) (by rfl) (fun hb B4 P4 => ?_) (fun hb B4 P4 => q_next ?_)
  case e1 =>
    obtain ⟨c, hc⟩ := hd0 (of_decide_eq_true h)
    have := h0 c hc
    refine eb_is (b := (x.cps.toList.head? == some 48)) (a := ((⟨#[c]⟩ : Str) == "0")) (by tm_at "et") ?_
    rw [hc]
    by_cases hcc : c = 48
    · subst hcc; rfl
    · rw [show (some c == some 48) = false from by simpa using hcc]
      refine beq_false_of_ne fun z => hcc ?_
      have q : (⟨#[c]⟩ : Str).cps.toList = ("0" : Str).cps.toList := congrArg (fun s : Str => s.cps.toList) z
      rw [show ("0" : Str).cps.toList = [48] from rfl] at q
      simpa using q
  · refine kx ?_ _ (by tm_at "exs2")
    show numO x = none
    unfold numO goodW
    rw [hb]
    rfl
  · refine q_forS K P4.s (by tm_at "ed") (fun i σ A' _ => ∃ v2, σ = [some (.str x), v2] ∧ ∀ c ∈ x.cps.toList.take i, c ∈ figs.cps.toList) ?_ ?_ ?_
    · exact fun A1 B1 P1 => ⟨none, rfl, fun c hc => by simp at hc⟩
    · rintro A1 B1 P1 i c σ A2 B2 hc P2 ⟨v2, rfl, hall⟩
      refine s_ifE K (b := !decide (c ∈ figs.cps.toList)) P2.s (by tm_at "et") (by rfl) (fun hb2 B3 P3 => ?_) (fun hb2 B3 P3 => ?_)
      · refine kx ?_ _ (by tm_at "exs2")
        show numO x = none
        unfold numO goodW
        rw [show (x.cps.toList.all fun c => decide (c ∈ figs.cps.toList)) = false from ?_]
        · simp
        · rw [List.all_eq_false]
          exact ⟨c, List.mem_of_getElem? hc, by simpa using hb2⟩
      · refine ⟨A2, by tm_at "pr", _, rfl, fun y hy => ?_⟩
        rw [List.take_succ, hc] at hy
        rcases List.mem_append.mp hy with hy | hy
        · exact hall y hy
        · have : y = c := by simpa using hy
          rw [this]
          simpa using hb2
    · rintro A1 B1 σ A2 B2 P1 P2 ⟨v2, rfl, hall⟩
      rw [List.take_length] at hall
      have hg : goodW x = true := by
        unfold goodW
        rw [hb]
        simp only [Bool.not_false, Bool.true_and, List.all_eq_true, decide_eq_true_eq]
        exact hall
      have hne : x.cps.toList ≠ [] := by
        intro z
        have : x = "" := TL.ext_tl z
        rw [this] at hb
        cases hb
      have hl30 : x.length ≤ 30 := by
        have q := hb
        simp only [Bool.or_eq_false_iff, decide_eq_false_iff_not] at q
        omega
      have hv := intText_digits (x := x) (fun y hy => (figs_iff y).mp (hall y hy)) hne (by omega)
      refine s_retK K P2.s (d' := .int (valW x)) (ed_intS (by tm_at "ed") hv (by omega)) rfl fun v A' B' P6 hv => k _ ?_ v A' B' (by tm_at "pr") hv
      show numO x = _
      unfold numO
      rw [if_pos hg]
end

/-! ## shapes -/
theorem shn_mk {m : Mk} {n : Nat} : ShN (n + 1) (mkD m) := shn_tup fun d hd => by
  rcases List.mem_cons.mp hd with rfl | hd
  · exact shn_int
  · rcases List.mem_cons.mp hd with rfl | hd
    · exact shn_int
    · cases hd
theorem sh_mk {m : Mk} : SeqAt.shaped (mkD m) = true := (shn_mk (n := 0)).sh (by decide)
theorem sh_mks {ms : List Mk} : SeqAt.shaped (.list (ms.map mkD)) = true := ShN.sh (n := 2) (shn_list fun d hd => by
  obtain ⟨m, _, rfl⟩ := List.mem_map.mp hd
  exact shn_mk) (by decide)
theorem sh_bls {bs : List Bool} : SeqAt.shaped (.list (bs.map PyData.bool)) = true := ShN.sh (n := 1) (shn_list fun d hd => by
  obtain ⟨m, _, rfl⟩ := List.mem_map.mp hd
  exact shn_bl) (by decide)
theorem sh_b3 {a b c : Bool} : SeqAt.shaped (.list [.bool a, .bool b, .bool c]) = true := sh_bls (bs := [a, b, c])
local macro_rules | `(tactic| tm_at "sh") => `(tactic| first | exact sh_mk | exact sh_mks | exact sh_b3)

/-! ## of what kind an error is -/
def kindNames : List Str := ["BadCount",
  "NoHand", "NoLetter", "NoMail", "Twice",
  "NotOpen", "BadMark", "NoNote"]
def onlyB (j : Nat) (x : Str) : Bool := PyData.eqv (.list ([0, 1, 2, 3, 4, 5, 6, 7].map fun q : Nat => PyData.bool (q == j))) (.list (kindNames.map fun n => .bool (n == x)))
def isSF (x : Str) : D → D
  | .str n => .bool (n == x)
  | d => d
section
variable {P : Program} {w : World} {K : PySem.W.Frag} {mg : Str → Option Value} {base : Heap} {c : Cs}
def sp_only (K : PySem.W.Frag) (c : Cs) : Addr → Value → Option Addr → Sp := fun a cls d vs H Q _ => ∃ A D j x, cls = .ref D ∧ d = none ∧ ExcD K c D j ∧ vs = [.ref a, .str x] ∧ Ex A H ∧ ∀ v A' B', Pr A H A' B' → Dp K A' v (.bool (onlyB j x)) → Q v B'
theorem ed_only {a D : Addr} {j : Nat} {x : Str} {σ : L2.St} {i : Nat} {tw : TE} {E : L2.St → XK} {H : Hp} (hD : ExcD K c D j) (hσ : σ[i]? = some (some (.ref a))) (hw : EvD K tw σ H (.str x)) : EvD K (tCallS (sp_only K c a (.ref D) none) E (tCons (tVar i) (tCons tw tNil))) σ H (.bool (onlyB j x)) :=
  fun A B e s Q q => ⟨_, hσ, hw A B e s _ fun v A1 B1 P1 hv => by
    cases hv
    exact ⟨A1, D, j, x, rfl, rfl, hD, rfl, P1.s, fun v A' B' P => q v A' B' (P1.trans P)⟩⟩
local macro_rules | `(tactic| tm_at "ed") => `(tactic| ((with_reducible apply ed_isE); exact rfl; (first | exact ClsV.own _ | exact ClsV.ty _); assumption))
theorem ok_only (T : Tx K mg c) : DefP P w K mg base CX0 1 "_law_only" ["_law_error", "_law_word"] (sp_only K c) := by
  obtain ⟨f, fd, dd⟩ := T.d_law_only
  refine dd.okP (fnP dd.F sc_law_only (fun a cls d vs H Q E h => ?_) fun cdv A outer z H vs Q E p hot hr h => ?_)
  · obtain ⟨_, _, _, _, _, _, _, e, _⟩ := h
    rw [e]
    rfl
  obtain ⟨A0, D, j, x, h1, h2, hD, rfl, s0, k⟩ := h
  have nd := sc_law_only.nd
  have hz : Zc (.ref D) none p.2 := ⟨h1, h2⟩
  have hf : ∃ vs, p.2.data = .fields vs := let ⟨u, e, _⟩ := hot.2; ⟨u, e⟩
  have hC := hD.i
  refine ⟨_, (pss_cons (ps_set (i := 2) nd rfl (Or.inl rfl) (pe_lst (pa_cons (pe_callB (c_isHK (K := K) (p := p) rfl hC List.mem_cons_self hz hf) rfl T.mn_isinstance (by decide +kernel) (pa_cons (pv 0) (pa_cons (pe_glob (v := .ref c.BadCount) rfl T.x_BadCount.g rfl) pa_nil))) (pa_cons (pe_callB (c_isHK (K := K) (p := p) rfl hC List.mem_cons_self hz hf) rfl T.mn_isinstance (by decide +kernel) (pa_cons (pv 0) (pa_cons (pe_glob (v := .ref c.NoHand) rfl T.x_NoHand.g rfl) pa_nil))) (pa_cons (pe_callB (c_isHK (K := K) (p := p) rfl hC List.mem_cons_self hz hf) rfl T.mn_isinstance (by decide +kernel) (pa_cons (pv 0) (pa_cons (pe_glob (v := .ref c.NoLetter) rfl T.x_NoLetter.g rfl) pa_nil))) pa_nil)))))
      (pss_cons (ps_expr (pe_bm PySem.F.plainAttrs_list PySem.F.slot_list_append PySem.F.type_list_append mt_append (pv 2) (pa_cons (pe_callB (c_isHK (K := K) (p := p) rfl hC List.mem_cons_self hz hf) rfl T.mn_isinstance (by decide +kernel) (pa_cons (pv 0) (pa_cons (pe_glob (v := .ref c.NoMail) rfl T.x_NoMail.g rfl) pa_nil))) pa_nil)))
      (pss_cons (ps_set (i := 2) nd rfl (Or.inl rfl) (pe_op op_cat (pv 2) (pe_lst (pa_cons (pe_callB (c_isHK (K := K) (p := p) rfl hC List.mem_cons_self hz hf) rfl T.mn_isinstance (by decide +kernel) (pa_cons (pv 0) (pa_cons (pe_glob (v := .ref c.Twice) rfl T.x_Twice.g rfl) pa_nil))) (pa_cons (pe_callB (c_isHK (K := K) (p := p) rfl hC List.mem_cons_self hz hf) rfl T.mn_isinstance (by decide +kernel) (pa_cons (pv 0) (pa_cons (pe_glob (v := .ref c.NotOpen) rfl T.x_NotOpen.g rfl) pa_nil))) (pa_cons (pe_callB (c_isHK (K := K) (p := p) rfl hC List.mem_cons_self hz hf) rfl T.mn_isinstance (by decide +kernel) (pa_cons (pv 0) (pa_cons (pe_glob (v := .ref c.BadMark) rfl T.x_BadMark.g rfl) pa_nil))) pa_nil))))))
      (pss_cons (ps_set (i := 3) nd rfl (Or.inl rfl) (pe_lst (pa_cons pe_str (pa_cons pe_str (pa_cons pe_str (pa_cons pe_str (pa_cons pe_str (pa_cons pe_str (pa_cons pe_str (pa_cons pe_str pa_nil))))))))))
      (pss_cons (ps_expr (pe_bm PySem.F.plainAttrs_list PySem.F.slot_list_append PySem.F.type_list_append mt_append (pv 2) (pa_cons (pe_callB (c_isHK (K := K) (p := p) rfl hC List.mem_cons_self hz hf) rfl T.mn_isinstance (by decide +kernel) (pa_cons (pv 0) (pa_cons (pe_glob (v := .ref c.NoNote) rfl T.x_NoNote.g rfl) pa_nil))) pa_nil)))
      (pss_one (ps_ret (pe_and (pe_callB (c_isHK (K := K) (p := p) rfl hC List.mem_cons_self hz hf) rfl T.mn_isinstance (by decide +kernel) (pa_cons (pv 0) (pa_cons (pe_ty (T := "ValueError") rfl T.mn_ValueError (by decide +kernel)) pa_nil))) (pe_one (pe_cmpR (o_eqD (K := K) rfl (huH hr)) (pv 2) (pe_lcH (own := [("_law_name", 4)]) (g := gName 4) (hotC_mk hot List.mem_cons_self) nd (pv 3) (blkOk_by (own := [("_law_name", 4)]) (N := ["_law_error", "_law_word", "_law_kinds", "_law_names", "_law_name"]) (sc := defScope s_law_only) (by decide +kernel)) (fun _ _ _ _ _ => pg_name (i := 4) nd rfl (Or.inl rfl)) (fun _ _ _ _ _ => pts_nil) (fun _ _ _ _ _ => (pe_cmpR op_eq (pv 4) (pv 1) (nomark _)))) (nomark _))))))))))), ?_⟩
  try dsimp only [cx_KH]
  have k0 := hD.k0; have k1 := hD.k1; have k2 := hD.k2; have k3 := hD.k3; have k4 := hD.k4; have k5 := hD.k5; have k6 := hD.k6; have k7 := hD.k7; have kv := hD.v
  refine q_asgN K s0 (by tm_at "en") fun p1 xs1 A1 B1 hn1 P1 hA1 hB1 ha1 => ?_
  have z1 : xs1.length = 3 := dpa_len ha1
  refine q_appD K P1.s rfl hB1 (by omega) (by tm_at "ed") fun v2 A2 B2 P2 hv2 => ?_
  have n2 := (P2.owned hA1 hB1).1
  have Q2 := (P1.trans P2).appfrz (o := .lst (xs1 ++ [v2])) hn1 n2
  have a2 := dpa_ex (Ex.new n2 (o := .lst (xs1 ++ [v2]))) (dpa_app (dpa_ex P2.a ha1) (.cons hv2 .nil))
  refine q_asgN K Q2.s (en_cat (ek_var rfl upd_same a2) (ek_n (by tm_at "en")) (by show 4 + 3 ≤ 100000; decide)) fun p3 xs3 A3 B3 hn3 P3 hA3 hB3 ha3 => ?_
  have z3 : xs3.length = 7 := dpa_len ha3
  refine q_asgD K P3.s (by tm_at "ed") fun v4 A4 B4 P4 hv4 => ?_
  obtain ⟨o4, b4⟩ := P4.owned hA3 hB3
  refine q_appD K P4.s rfl b4 (by omega) (by tm_at "ed") fun v5 A5 B5 P5 hv5 => ?_
  have n5 := (P5.owned o4 b4).1
  have Q5 := (((Q2.trans P3).trans P4).trans P5).appfrz (o := .lst (xs3 ++ [v5])) (fresh_back Q2.b hn3) n5
  have e5 := Ex.new n5 (o := .lst (xs3 ++ [v5]))
  have a5 := dpa_ex e5 (dpa_app (dpa_ex (P4.a.trans P5.a) ha3) (.cons hv5 .nil))
  have hv4' := dp_ex (P5.a.trans e5) hv4
  refine s_retK K (d' := .bool (onlyB j x)) Q5.s (ed_and (a := true) (by tm_at "ed") fun _ => ed_eqD (ed_var rfl (Dp.lst (sq_of upd_same) a5)) (ed_n (en_lcL1 (isSF x) (ed_var rfl hv4') (by decide) (fun _ => rfl) fun d hd v H1 ex hv => ?e)) ?s1 ?s2) (by rfl) fun v A' B' P hv => k v A' B' (Q5.trans P) hv
  case e =>
    simp only [List.mem_cons, List.not_mem_nil, or_false] at hd
    rcases hd with rfl | rfl | rfl | rfl | rfl | rfl | rfl | rfl <;> exact ed_eqs (ed_var rfl hv) (ed_var rfl (.str _))
  case s1 => exact sh_bls (bs := [_, _, _, _, _, _, _, _])
  case s2 => exact sh_bls (bs := [_, _, _, _, _, _, _, _])
end

end K5

namespace K5
open PySem L2 Evl Ob

/-! ## a text's mail -/
/-- is it one of the three words -/
def isWord (w : Str) : Bool := [PyData.str "letter", .str "number", .str "mark"].any fun y => PyData.eqv y (.str w)
def parse6 (w0 w1 w2 w3 w4 w5 : Str) : Option D :=
  if (!isWord w0 || (!(w2 == "from") || (!(w4 == "to") || !((w0 == "letter") == true)))) = true then none
  else (consO (some (.str w0)) (consO (numO w1) (consO (numO w3) (consO (numO w5) (some [.none]))))).map .tuple
def parse9 (w0 w1 w2 w3 w4 w5 w6 w7 w8 : Str) : Option D :=
  if (!isWord w0 || (!(w2 == "from") || (!(w4 == "to") || !((w0 == "letter") == false)))) = true then none
  else if (!(cutS w5 (some (-1)) none == ":") || (!(w7 == "of") || w6 == "0")) = true then none
  else match (consO (numO w6) (consO (numO w8) (some []))).map PyData.tuple with
    | none => none
    | some mk => (consO (some (.str w0)) (consO (numO w1) (consO (numO w3) (consO (numO (cutS w5 none (some (-1)))) (some [mk]))))).map .tuple
def parseW (ws : List Str) : Option D := match ws with
  | [w0, w1, w2, w3, w4, w5] => parse6 w0 w1 w2 w3 w4 w5
  | [w0, w1, w2, w3, w4, w5, w6, w7, w8] => parse9 w0 w1 w2 w3 w4 w5 w6 w7 w8
  | _ => none
def parse (t : Str) : Option D := parseW (Txt.split t " ")
theorem len6 {α : Type} : ∀ {l : List α}, l.length = 6 → ∃ a b c d e f, l = [a, b, c, d, e, f]
  | [a, b, c, d, e, f], _ => ⟨a, b, c, d, e, f, rfl⟩
theorem len9 {α : Type} : ∀ {l : List α}, l.length = 9 → ∃ a b c d e f g h i, l = [a, b, c, d, e, f, g, h, i]
  | [a, b, c, d, e, f, g, h, i], _ => ⟨a, b, c, d, e, f, g, h, i, rfl⟩
theorem parseW_none {ws : List Str} (h6 : ws.length ≠ 6) (h9 : ws.length ≠ 9) : parseW ws = none := by
  unfold parseW
  split
  · exact absurd rfl h6
  · exact absurd rfl h9
  · rfl
section
variable {P : Program} {w : World} {K : PySem.W.Frag} {mg : Str → Option Value} {base : Heap} {c : Cs}
def sp_read (K : PySem.W.Frag) (C : Addr) : Sp := spX K C (fun x : Str => [.str x]) (fun x => x.length ≤ 900 ∧ ∀ y ∈ Txt.split x " ", y.length ≤ 900) parse
theorem at_read {C : Addr} {x : Str} (h : x.length ≤ 900 ∧ ∀ y ∈ Txt.split x " ", y.length ≤ 900) : SpX K (sp_read K C) C [.str x] (parse x) := spX_at x h
theorem ok_read (T : Tx K mg c) : DefOk P w K mg base (L2N.CX P w) 2 "read" ["text"] (sp_read K c.NoNote) := by
  obtain ⟨f, fd, d⟩ := T.d_read
  refine d.ok (okN d.F sc_read (fun vs H Q E h => spX_len h fun _ => rfl) fun cdv A outer s H vs Q E hr h => ?_)
  obtain ⟨A0, x, ⟨hx, hws⟩, s0, ha, k, kx⟩ := h
  obtain ⟨v1, rfl, h1⟩ := dpa1 ha
  cases h1
  have nd := sc_read.nd
  have G_number_of := ok_number (P := P) (w := w) (base := base) T
  refine ⟨_, (pss_cons (ps_set (i := 1) nd rfl (Or.inl rfl) (pe_splitN (pv 0) pe_str))
      (pss_cons (ps_if (PW.pt (pw_or (pt_cmpR (o_notIn (K := K) rfl) (pe_callB (c_len (K := K) rfl) rfl T.mn_len (by decide +kernel) (pa_cons (pv 1) pa_nil)) (pe_tup (pa_cons pe_int (pa_cons pe_int pa_nil))) (by rfl)) (pw_or1 (pt_cmpR (o_notIn (K := K) rfl) (pe_ix (ixL (K := K) rfl) (pv 1) pe_int (fun _ _ => rfl)) (pe_tup (pa_cons pe_str (pa_cons pe_str (pa_cons pe_str pa_nil)))) (by rfl))))) (pss_one (ps_rs rfl (L2N.takes_of rfl rfl rfl rfl) T.x_NoNote rfl)) pss_nil)
      (pss_cons (ps_if (PW.pt (pw_or (pt_cmpR op_ne (pe_ix (ixL (K := K) rfl) (pv 1) pe_int (fun _ _ => rfl)) pe_str (nomark _)) (pw_or (pt_cmpR op_ne (pe_ix (ixL (K := K) rfl) (pv 1) pe_int (fun _ _ => rfl)) pe_str (nomark _)) (pw_or1 (pt_cmpR op_ne (pe_cmpR op_eq (pe_ix (ixL (K := K) rfl) (pv 1) pe_int (fun _ _ => rfl)) pe_str (nomark _)) (pe_cmpR op_eq (pe_callB (c_len (K := K) rfl) rfl T.mn_len (by decide +kernel) (pa_cons (pv 1) pa_nil)) pe_int (nomark _)) (nomark _)))))) (pss_one (ps_rs rfl (L2N.takes_of rfl rfl rfl rfl) T.x_NoNote rfl)) pss_nil)
      (pss_cons (ps_if (pt_cmpR op_eq (pe_callB (c_len (K := K) rfl) rfl T.mn_len (by decide +kernel) (pa_cons (pv 1) pa_nil)) pe_int (nomark _)) (pss_one (ps_ret (pe_tup (pa_cons (pe_ix (ixL (K := K) rfl) (pv 1) pe_int (fun _ _ => rfl)) (pa_cons (pe_cs G_number_of (hr.mono (by decide)) rfl (fun σ => L2N.passAt (L2N.takes_of rfl rfl rfl rfl) σ) (pa_cons (pe_ix (ixL (K := K) rfl) (pv 1) pe_int (fun _ _ => rfl)) pa_nil)) (pa_cons (pe_cs G_number_of (hr.mono (by decide)) rfl (fun σ => L2N.passAt (L2N.takes_of rfl rfl rfl rfl) σ) (pa_cons (pe_ix (ixL (K := K) rfl) (pv 1) pe_int (fun _ _ => rfl)) pa_nil)) (pa_cons (pe_cs G_number_of (hr.mono (by decide)) rfl (fun σ => L2N.passAt (L2N.takes_of rfl rfl rfl rfl) σ) (pa_cons (pe_ix (ixL (K := K) rfl) (pv 1) pe_int (fun _ _ => rfl)) pa_nil)) (pa_cons pe_non pa_nil)))))))) pss_nil)
      (pss_cons (ps_if (PW.pt (pw_or (pt_cmpR op_ne (pe_slice sl_str (pe_ix (ixL (K := K) rfl) (pv 1) pe_int (fun _ _ => rfl)) (po_some (pe_un un_neg pe_int)) po_none) pe_str (nomark _)) (pw_or (pt_cmpR op_ne (pe_ix (ixL (K := K) rfl) (pv 1) pe_int (fun _ _ => rfl)) pe_str (nomark _)) (pw_or1 (pt_cmpR op_eq (pe_ix (ixL (K := K) rfl) (pv 1) pe_int (fun _ _ => rfl)) pe_str (nomark _)))))) (pss_one (ps_rs rfl (L2N.takes_of rfl rfl rfl rfl) T.x_NoNote rfl)) pss_nil)
      (pss_cons (ps_set (i := 2) nd rfl (Or.inl rfl) (pe_tup (pa_cons (pe_cs G_number_of (hr.mono (by decide)) rfl (fun σ => L2N.passAt (L2N.takes_of rfl rfl rfl rfl) σ) (pa_cons (pe_ix (ixL (K := K) rfl) (pv 1) pe_int (fun _ _ => rfl)) pa_nil)) (pa_cons (pe_cs G_number_of (hr.mono (by decide)) rfl (fun σ => L2N.passAt (L2N.takes_of rfl rfl rfl rfl) σ) (pa_cons (pe_ix (ixL (K := K) rfl) (pv 1) pe_int (fun _ _ => rfl)) pa_nil)) pa_nil))))
      (pss_one (ps_ret (pe_tup (pa_cons (pe_ix (ixL (K := K) rfl) (pv 1) pe_int (fun _ _ => rfl)) (pa_cons (pe_cs G_number_of (hr.mono (by decide)) rfl (fun σ => L2N.passAt (L2N.takes_of rfl rfl rfl rfl) σ) (pa_cons (pe_ix (ixL (K := K) rfl) (pv 1) pe_int (fun _ _ => rfl)) pa_nil)) (pa_cons (pe_cs G_number_of (hr.mono (by decide)) rfl (fun σ => L2N.passAt (L2N.takes_of rfl rfl rfl rfl) σ) (pa_cons (pe_ix (ixL (K := K) rfl) (pv 1) pe_int (fun _ _ => rfl)) pa_nil)) (pa_cons (pe_cs G_number_of (hr.mono (by decide)) rfl (fun σ => L2N.passAt (L2N.takes_of rfl rfl rfl rfl) σ) (pa_cons (pe_slice sl_str (pe_ix (ixL (K := K) rfl) (pv 1) pe_int (fun _ _ => rfl)) po_none (po_some (pe_un un_neg pe_int))) pa_nil)) (pa_cons (pv 2) pa_nil)))))))))))))), ?_⟩
  try dsimp only [cx_K2]
  refine q_asgD K s0 (d := .list ((Txt.split x " ").map PyData.str)) (by tm_at "ed") fun v2 A1 B1 P1 hv2 => ?_
  have hp : parse x = parseW (Txt.split x " ") := rfl
  rw [hp] at k kx
  generalize Txt.split x " " = ws at k kx hv2 hws
  by_cases h6 : ws.length = 6
  · obtain ⟨w0, w1, w2, w3, w4, w5, rfl⟩ := len6 h6
    have z1 : w1.length ≤ 1000 := Nat.le_trans (hws w1 (by simp)) (by decide)
    have z3 : w3.length ≤ 1000 := Nat.le_trans (hws w3 (by simp)) (by decide)
    have z5 : w5.length ≤ 1000 := Nat.le_trans (hws w5 (by simp)) (by decide)
    have hv3 : Dp K A1 v2 (.list [.str w0, .str w1, .str w2, .str w3, .str w4, .str w5]) := hv2
    have e0 : parseW [w0, w1, w2, w3, w4, w5] = parse6 w0 w1 w2 w3 w4 w5 := rfl
    rw [e0] at k kx
    refine q_ifE K (b := !isWord w0) P1.s (by tm_at "et") (by rfl) (fun hb B2 P2 => kx (by unfold parse6; rw [hb]; rfl) _ (by tm_at "exs2")) (fun hb B2 P2 => q_next ?_)
    refine q_ifE K (b := (!(w2 == "from") || (!(w4 == "to") || !((w0 == "letter") == true)))) P2.s (by tm_at "et") (by rfl) (fun hb2 B3 P3 => kx (by unfold parse6; rw [hb, hb2]; rfl) _ (by tm_at "exs2")) (fun hb2 B3 P3 => q_next ?_)
    have hp : parse6 w0 w1 w2 w3 w4 w5 = (consO (some (.str w0)) (consO (numO w1) (consO (numO w3) (consO (numO w5) (some [.none]))))).map .tuple := by
      unfold parse6
      rw [hb, hb2]
      rfl
    rw [hp] at k kx
    refine q_ifE K (b := true) P3.s (by tm_at "et") (by rfl) (fun _ B4 P4 => ?_) (fun h => by cases h)
    refine s_retX K P4.s (R := fun B' => E (.ref c.NoNote) none B') (ex_tup (eax_cons (ex_d (by tm_at "ed")) (eax_cons (ex_callS (by tm_at "ea") (at_number z1) fun _ z => z) (eax_cons (ex_callS (by tm_at "ea") (at_number z3) fun _ z => z) (eax_cons (ex_callS (by tm_at "ea") (at_number z5) fun _ z => z) (eax_cons (ex_d ed_non) eax_nil))))) ?_) (fun d hd v A' B' P6 hv => k d hd v A' B' (by tm_at "pr") hv) fun hn B' e => kx hn B' (Ex.trans (by tm_at "exs2") e)
    intro ds hds
    cases h1 : numO w1 <;> cases h3 : numO w3 <;> cases h5 : numO w5 <;> rw [h1, h3, h5] at hds <;> cases hds
    show 5 ≤ 100000
    decide
  · by_cases h9 : ws.length = 9
    · obtain ⟨w0, w1, w2, w3, w4, w5, w6, w7, w8, rfl⟩ := len9 h9
      have z1 : w1.length ≤ 1000 := Nat.le_trans (hws w1 (by simp)) (by decide)
      have z3 : w3.length ≤ 1000 := Nat.le_trans (hws w3 (by simp)) (by decide)
      have z5' : w5.length ≤ 1000 := Nat.le_trans (hws w5 (by simp)) (by decide)
      have z5 : (cutS w5 none (some (-1))).length ≤ 1000 := Nat.le_trans (cutS_length _ _ _) z5'
      have z6 : w6.length ≤ 1000 := Nat.le_trans (hws w6 (by simp)) (by decide)
      have z8 : w8.length ≤ 1000 := Nat.le_trans (hws w8 (by simp)) (by decide)
      have hv3 : Dp K A1 v2 (.list [.str w0, .str w1, .str w2, .str w3, .str w4, .str w5, .str w6, .str w7, .str w8]) := hv2
      have e0 : parseW [w0, w1, w2, w3, w4, w5, w6, w7, w8] = parse9 w0 w1 w2 w3 w4 w5 w6 w7 w8 := rfl
      rw [e0] at k kx
      refine q_ifE K (b := !isWord w0) P1.s (by tm_at "et") (by rfl) (fun hb B2 P2 => kx (by unfold parse9; rw [hb]; rfl) _ (by tm_at "exs2")) (fun hb B2 P2 => q_next ?_)
      refine q_ifE K (b := (!(w2 == "from") || (!(w4 == "to") || !((w0 == "letter") == false)))) P2.s (by tm_at "et") (by rfl) (fun hb2 B3 P3 => kx (by unfold parse9; rw [hb, hb2]; rfl) _ (by tm_at "exs2")) (fun hb2 B3 P3 => q_next ?_)
      refine q_ifE K (b := false) P3.s (by tm_at "et") (by rfl) (fun h => by cases h) (fun _ B4 P4 => q_next ?_)
      refine q_ifE K (b := (!(cutS w5 (some (-1)) none == ":") || (!(w7 == "of") || w6 == "0"))) P4.s (by tm_at "et") (by rfl) (fun hb3 B5 P5 => kx (by unfold parse9; rw [hb, hb2, hb3]; rfl) _ (by tm_at "exs2")) (fun hb3 B5 P5 => q_next ?_)
      have hp : parse9 w0 w1 w2 w3 w4 w5 w6 w7 w8 = match (consO (numO w6) (consO (numO w8) (some []))).map PyData.tuple with
          | none => none
          | some mk => (consO (some (.str w0)) (consO (numO w1) (consO (numO w3) (consO (numO (cutS w5 none (some (-1)))) (some [mk]))))).map .tuple := by
        unfold parse9
        rw [hb, hb2, hb3]
        rfl
      rw [hp] at k kx
      refine q_asgX K P5.s (R := fun B' => E (.ref c.NoNote) none B') (ex_tup (eax_cons (ex_callS (by tm_at "ea") (at_number z6) fun _ z => z) (eax_cons (ex_callS (by tm_at "ea") (at_number z8) fun _ z => z) eax_nil)) ?_) (fun mk hm v6 A6 B6 P6 hv6 => ?_) (fun hn B' e => kx (by rw [hn]) B' (Ex.trans (by tm_at "exs2") e))
      · intro ds hds
        cases h1 : numO w6 <;> cases h3 : numO w8 <;> rw [h1, h3] at hds <;> cases hds
        show 2 ≤ 100000
        decide
      · rw [hm] at k kx
        refine s_retX K P6.s (R := fun B' => E (.ref c.NoNote) none B') (ex_tup (eax_cons (ex_d (by tm_at "ed")) (eax_cons (ex_callS (by tm_at "ea") (at_number z1) fun _ z => z) (eax_cons (ex_callS (by tm_at "ea") (at_number z3) fun _ z => z) (eax_cons (ex_callS (by tm_at "ea") (at_number z5) fun _ z => z) (eax_cons (ex_d (by tm_at "ed")) eax_nil))))) ?_) (fun d hd v A' B' P7 hv => k d hd v A' B' (by tm_at "pr") hv) fun hn B' e => kx hn B' (Ex.trans (by tm_at "exs2") e)
        intro ds hds
        cases h1 : numO w1 <;> cases h3 : numO w3 <;> cases h5 : numO (cutS w5 none (some (-1))) <;> rw [h1, h3, h5] at hds <;> cases hds
        show 5 ≤ 100000
        decide
    · refine q_ifE K (b := true) P1.s (eb_or (a := !([PyData.int 6, .int 9].any fun y => PyData.eqv y (.int ((ws.map PyData.str).length : Int)))) (b := false) (by tm_at "et") fun h => ?_) ?_ (fun _ B2 P2 => kx (parseW_none h6 h9) _ (by tm_at "exs2")) (fun h => by cases h)
      · exfalso
        rw [List.length_map] at h
        simp [PyData.eqv] at h
        omega
      · rw [List.length_map]
        simp [PyData.eqv]
        omega
end

end K5

namespace K5
open PySem L2 Evl Ob

local macro_rules | `(tactic| tm_at "sh") => `(tactic| first | exact sh_mk | exact sh_mks | exact sh_b3)

section
variable {P : Program} {w : World} {K : PySem.W.Frag} {mg : Str → Option Value} {base : Heap} {c : Cs}
/-- a whole number, no truth -/
def isW : D → Bool
  | .int _ => true
  | _ => false
def sp_whole (K : PySem.W.Frag) : Sp := spF K (fun d : D => [d]) (fun _ => True) (fun d => .bool (isW d))
theorem at_whole (d : D) : SpD K (sp_whole K) [d] (.bool (isW d)) := spF_at d trivial
theorem ok_whole (T : Tx K mg c) : DefOk P w K mg base CX0 1 "_law_whole" ["_law_found"] (sp_whole K) := by
  obtain ⟨f, fd, d⟩ := T.d_law_whole
  refine d.ok (d.F.ok sc_law_whole (fun vs H Q E h => spF_len h fun _ => rfl) fun cdv A outer s H vs Q E hr h => ?_)
  obtain ⟨A0, x, _, s0, ha, k⟩ := h
  obtain ⟨v1, rfl, h1⟩ := dpa1 ha
  have nd := sc_law_whole.nd
  refine ⟨_, (pss_one (ps_ret (pe_and (pe_callB (c_isi (K := K) rfl) rfl T.mn_isinstance (by decide +kernel) (pa_cons (pv 0) (pa_cons (pe_ty (T := "int") rfl T.mn_int (by decide +kernel)) pa_nil))) (pe_one (pe_not (pe_callB (c_isi (K := K) rfl) rfl T.mn_isinstance (by decide +kernel) (pa_cons (pv 0) (pa_cons (pe_ty (T := "bool") rfl T.mn_bool (by decide +kernel)) pa_nil)))))))), ?_⟩
  try dsimp only [cx_K]
  cases x with
  | dict kvs => cases h1
  | none => exact s_retK K s0 (by tm_at "ed") (by rfl) k
  | bool b => exact s_retK K s0 (by tm_at "ed") (by rfl) k
  | int b => exact s_retK K s0 (by tm_at "ed") (by rfl) k
  | str b => exact s_retK K s0 (by tm_at "ed") (by rfl) k
  | list b => exact s_retK K s0 (by tm_at "ed") (by rfl) k
  | tuple b => exact s_retK K s0 (by tm_at "ed") (by rfl) k
end
local macro_rules | `(tactic| tm_at "fn") => `(tactic| exact at_whole _)

section
variable {P : Program} {w : World} {K : PySem.W.Frag} {mg : Str → Option Value} {base : Heap} {c : Cs}
theorem at_map {α : Type} (f : α → D) {xs : List α} {i : Nat} {x : α} (h : xs[i]? = some x) : atI (xs.map f) (i : Int) = some (f x) := by
  have hl := (List.getElem?_eq_some_iff.mp h).1
  unfold atI
  rw [show ixN (xs.map f).length (i : Int) = some i from ixN_nat (by rw [List.length_map]; exact hl)]
  show (xs.map f)[i]? = _
  rw [List.getElem?_map, h]
  rfl
/-- a cell of the script, nought behind its end -/
def cell (ns : List Int) (k : Int) : Int := ns.getD k.toNat 0
def sp_cell (K : PySem.W.Frag) : Sp := spF K (fun x : List Int × Int => [.list (x.1.map .int), .int x.2]) (fun x => 0 ≤ x.2) (fun x => .int (cell x.1 x.2))
theorem at_cell {ns : List Int} {k : Int} (h : 0 ≤ k) : SpD K (sp_cell K) [.list (ns.map .int), .int k] (.int (cell ns k)) := spF_at (ns, k) h
theorem cell_at {ns : List Int} {k : Int} (h : 0 ≤ k) (hk : k < ns.length) : atI (ns.map PyData.int) k = some (.int (cell ns k)) := by
  obtain ⟨j, rfl⟩ : ∃ j : Nat, k = (j : Int) := ⟨k.toNat, by omega⟩
  have hj : j < ns.length := by omega
  refine at_map _ ?_
  unfold cell
  rw [show ((j : Int)).toNat = j by omega, List.getElem?_eq_getElem hj, List.getD_eq_getElem?_getD, List.getElem?_eq_getElem hj]
  rfl
end

section
variable {P : Program} {w : World} {K : PySem.W.Frag} {mg : Str → Option Value} {base : Heap} {c : Cs}
def isMk : D → Bool
  | .tuple [a, b] => isW a && isW b
  | _ => false
def sp_mark (K : PySem.W.Frag) : Sp := spF K (fun d : D => [d]) (fun _ => True) (fun d => .bool (isMk d))
theorem at_mark (d : D) : SpD K (sp_mark K) [d] (.bool (isMk d)) := spF_at d trivial
theorem ok_mark (T : Tx K mg c) : DefOk P w K mg base CX0 2 "_law_mark" ["_law_found"] (sp_mark K) := by
  obtain ⟨f, fd, d⟩ := T.d_law_mark
  refine d.ok (d.F.ok sc_law_mark (fun vs H Q E h => spF_len h fun _ => rfl) fun cdv A outer s H vs Q E hr h => ?_)
  obtain ⟨A0, x, _, s0, ha, k⟩ := h
  obtain ⟨v1, rfl, h1⟩ := dpa1 ha
  have nd := sc_law_mark.nd
  have G_law_whole := ok_whole (P := P) (w := w) (base := base) T
  refine ⟨_, (pss_cons (ps_if (PW.pt (pw_or (pt_not (pt_val (pe_callB (c_isi (K := K) rfl) rfl T.mn_isinstance (by decide +kernel) (pa_cons (pv 0) (pa_cons (pe_ty (T := "tuple") rfl T.mn_tuple (by decide +kernel)) pa_nil))))) (pw_or1 (pt_cmpR op_ne (pe_callB (c_len (K := K) rfl) rfl T.mn_len (by decide +kernel) (pa_cons (pv 0) pa_nil)) pe_int (nomark _))))) (pss_one (ps_ret pe_bl)) pss_nil)
      (pss_one (ps_ret (pe_and (pe_cd G_law_whole (hr.mono (by decide)) rfl pass0 (pa_cons (pe_ix (ixT (K := K) rfl) (pv 0) pe_int (fun _ _ => rfl)) pa_nil)) (pe_one (pe_cd G_law_whole (hr.mono (by decide)) rfl pass0 (pa_cons (pe_ix (ixT (K := K) rfl) (pv 0) pe_int (fun _ _ => rfl)) pa_nil))))))), ?_⟩
  try dsimp only [cx_K]
  cases x with
  | dict kvs => cases h1
  | none => exact q_ifE K s0 (b := true) (by tm_at "et") (by rfl) (fun _ B P => s_retK K P.s (by tm_at "ed") (by rfl) fun v A' B' P5 hv => k v A' B' (by tm_at "pr") hv) (fun h => by cases h)
  | bool b => exact q_ifE K s0 (b := true) (by tm_at "et") (by rfl) (fun _ B P => s_retK K P.s (by tm_at "ed") (by rfl) fun v A' B' P5 hv => k v A' B' (by tm_at "pr") hv) (fun h => by cases h)
  | int b => exact q_ifE K s0 (b := true) (by tm_at "et") (by rfl) (fun _ B P => s_retK K P.s (by tm_at "ed") (by rfl) fun v A' B' P5 hv => k v A' B' (by tm_at "pr") hv) (fun h => by cases h)
  | str b => exact q_ifE K s0 (b := true) (by tm_at "et") (by rfl) (fun _ B P => s_retK K P.s (by tm_at "ed") (by rfl) fun v A' B' P5 hv => k v A' B' (by tm_at "pr") hv) (fun h => by cases h)
  | list b => exact q_ifE K s0 (b := true) (by tm_at "et") (by rfl) (fun _ B P => s_retK K P.s (by tm_at "ed") (by rfl) fun v A' B' P5 hv => k v A' B' (by tm_at "pr") hv) (fun h => by cases h)
  | tuple ds =>
    by_cases hl : ∃ a b, ds = [a, b]
    · obtain ⟨a, b, rfl⟩ := hl
      refine q_ifE K s0 (b := false) (by tm_at "et") (by rfl) (fun h => by cases h) (fun _ B P => q_next ?_)
      exact s_retK K P.s (by tm_at "ed") (by rfl) fun v A' B' P5 hv => k v A' B' (by tm_at "pr") hv
    · have hz : ((ds.length : Int) == 2) = false := by
        match ds, hl with
        | [], _ => rfl
        | [_], _ => rfl
        | [a, b], h => exact absurd ⟨a, b, rfl⟩ h
        | _ :: _ :: _ :: r, _ => exact beq_false_of_ne (by simp only [List.length_cons]; omega)
      have e : isMk (.tuple ds) = false := by
        match ds, hl with
        | [], _ => rfl
        | [_], _ => rfl
        | [a, b], h => exact absurd ⟨a, b, rfl⟩ h
        | _ :: _ :: _ :: r, _ => rfl
      refine q_ifD K s0 (b := (!true || !((ds.length : Int) == 2))) (by tm_at "et") (fun _ B P => ?_) (fun h => by rw [hz] at h; cases h)
      exact s_retK K P.s (d' := .bool (isMk (.tuple ds))) (by tm_at "ed") (by rw [e]) fun v A' B' P5 hv => k v A' B' (by tm_at "pr") hv
end
local macro_rules | `(tactic| tm_at "fn") => `(tactic| exact at_mark _)

def sel3 (r a b c : Int) : Int := if r = 0 then a else if r = 1 then b else c
def sel2 (r a b : Int) : Int := if r = 0 then a else b
theorem at_sel3 {x a b c : Int} : atI [PyData.int a, .int b, .int c] (x % 3) = some (.int (sel3 (x % 3) a b c)) := by
  have h : x % 3 = 0 ∨ x % 3 = 1 ∨ x % 3 = 2 := by omega
  rcases h with h | h | h <;> rw [h] <;> rfl
theorem at_sel2 {x a b : Int} : atI [PyData.int a, .int b] (x % 2) = some (.int (sel2 (x % 2) a b)) := by
  have h : x % 2 = 0 ∨ x % 2 = 1 := by omega
  rcases h with h | h <;> rw [h] <;> rfl
local macro_rules | `(tactic| tm_at "at") => `(tactic| first | exact at_sel3 | exact at_sel2)

/-! ## texts that the law makes -/
def signs : Str := ⟨((List.range' 32 95).filter (· ≠ 37)).toArray⟩
def signC (x : Int) : Nat := signs.cps.toList.getD (x % 94).toNat 0
theorem at_sign0 {x : Int} : atI signs.cps.toList (x % 94) = some (signC x) := by
  have hl : signs.cps.toList.length = 94 := by decide +kernel
  have h0 := Int.emod_nonneg x (show (94 : Int) ≠ 0 by decide)
  have h1 := Int.emod_lt_of_pos x (show (0 : Int) < 94 by decide)
  obtain ⟨n, e⟩ : ∃ n : Nat, x % 94 = (n : Int) := ⟨(x % 94).toNat, by omega⟩
  have hn : n < signs.cps.toList.length := by omega
  unfold atI signC
  rw [e, ixN_nat hn]
  show signs.cps.toList[n]? = _
  rw [show ((n : Int).toNat) = n from rfl, List.getD_eq_getElem?_getD, List.getElem?_eq_getElem hn]
  rfl
section
variable {P : Program} {w : World} {K : PySem.W.Frag} {mg : Str → Option Value} {base : Heap} {c : Cs}
def sp_sign (K : PySem.W.Frag) : Sp := spF K (fun x : Int => [.int x]) (fun _ => True) (fun x => .str ⟨#[signC x]⟩)
theorem at_sign (x : Int) : SpD K (sp_sign K) [.int x] (.str ⟨#[signC x]⟩) := spF_at x trivial
theorem ok_sign (T : Tx K mg c) : DefOk P w K mg base CX0 1 "_law_sign" ["_law_cell"] (sp_sign K) := by
  obtain ⟨f, fd, d⟩ := T.d_law_sign
  refine d.ok (d.F.ok sc_law_sign (fun vs H Q E h => spF_len h fun _ => rfl) fun cdv A outer s H vs Q E hr h => ?_)
  obtain ⟨A0, x, _, s0, ha, k⟩ := h
  obtain ⟨v1, rfl, h1⟩ := dpa1 ha
  have nd := sc_law_sign.nd
  refine ⟨_, (pss_cons (ps_set (i := 1) nd rfl (Or.inl rfl) pe_str)
      (pss_cons (ps_set (i := 1) nd rfl (Or.inl rfl) (pe_op o_addS (pv 1) pe_str))
      (pss_one (ps_ret (pe_ix ix_str (pv 1) (pe_op op_mod (pv 0) pe_int) (fun _ _ => rfl)))))), ?_⟩
  try dsimp only [cx_K]
  refine q_asgD K s0 (by tm_at "ed") fun v2 A1 B1 P1 hv2 => ?_
  refine q_asgD K P1.s (d := .str signs) (ed_is (ed_addS (by tm_at "ed") (by tm_at "ed") (by decide +kernel)) (congrArg PyData.str (by decide +kernel))) fun v3 A2 B2 P2 hv3 => ?_
  exact s_retK K P2.s (ed_ixS (by tm_at "ed") (by tm_at "ed") (by decide +kernel) at_sign0) rfl fun v A' B' P6 hv => k v A' B' (by tm_at "pr") hv
end
local macro_rules | `(tactic| tm_at "fn") => `(tactic| exact at_sign _)
/-- a number that is written by at most 31 figures -/
def num31 (i : Int) : Prop := 0 ≤ i ∧ i < 10 ^ 31
theorem num31_log {i : Int} (h : num31 i) : i.natAbs.log2 < 1920 := by
  have h2 : i.natAbs < 2 ^ 110 := by
    have : (10 : Int) ^ 31 < 2 ^ 110 := by decide
    obtain ⟨h0, h1⟩ := h
    omega
  by_cases hz : i.natAbs = 0
  · rw [hz]; decide
  · have := (Nat.log2_lt hz).mpr h2
    omega
theorem num31_len {i : Int} (h : num31 i) : (numS i).length ≤ 31 := by
  rw [TL.len_tl, numS_tl h.1]
  refine TL.numL_len (by decide) ?_
  obtain ⟨h0, h1⟩ := h
  have : ((i.toNat : Nat) : Int) < ((10 ^ 31 : Nat) : Int) := by
    rw [Int.toNat_of_nonneg h0]
    exact_mod_cast h1
  exact_mod_cast this
theorem num31_mod (x : Int) {n : Int} (h0 : 0 < n) (h1 : n ≤ 10 ^ 31) : num31 (x % n) := ⟨Int.emod_nonneg _ (by omega), by have := Int.emod_lt_of_pos x h0; omega⟩
def numWs (m : Int) : List Str := [numS (m % 12), numS (m % 10 ^ (30 : Int).toNat), numS (m % 100), numS (10 ^ (30 : Int).toNat + m % 99), "0" ++ numS (m % 9), "", "-" ++ numS (m % 12), numS (m % 7), "+1"]
def numW (x : Int) : Str := pickS (numWs (x / 9)) (sel3 (x / 108 % 3) (x % 9) 0 2)
theorem num31_big (m : Int) : num31 (10 ^ (30 : Int).toNat + m % 99) := by
  have h0 := Int.emod_nonneg m (show (99 : Int) ≠ 0 by decide)
  have h1 := Int.emod_lt_of_pos m (show (0 : Int) < 99 by decide)
  have e : (10 : Int) ^ (30 : Int).toNat = 10 ^ 30 := rfl
  have e2 : (10 : Int) ^ 30 + 99 < 10 ^ 31 := by decide
  have e3 : (0 : Int) ≤ 10 ^ 30 := by decide
  unfold num31
  rw [e]
  omega
theorem numW_len (x : Int) : (numW x).length ≤ 33 := by
  unfold numW
  refine pickS_len (fun y hy => ?_) _
  have l1 := num31_len (num31_mod (x / 9) (n := 12) (by decide) (by decide))
  have l2 := num31_len (num31_mod (x / 9) (n := 10 ^ (30 : Int).toNat) (by decide) (by decide))
  have l3 := num31_len (num31_mod (x / 9) (n := 100) (by decide) (by decide))
  have l4 := num31_len (num31_big (x / 9))
  have l5 := num31_len (num31_mod (x / 9) (n := 9) (by decide) (by decide))
  have l6 := num31_len (num31_mod (x / 9) (n := 7) (by decide) (by decide))
  have e0 : ("0" : Str).length = 1 := rfl
  have e1 : ("-" : Str).length = 1 := rfl
  simp only [numWs, List.mem_cons, List.not_mem_nil, or_false] at hy
  rcases hy with rfl | rfl | rfl | rfl | rfl | rfl | rfl | rfl | rfl <;> first | omega | (rw [len_app]; omega) | decide
section
variable {P : Program} {w : World} {K : PySem.W.Frag} {mg : Str → Option Value} {base : Heap} {c : Cs}
def sp_num (K : PySem.W.Frag) : Sp := spF K (fun x : Int => [.int x]) (fun _ => True) (fun x => .str (numW x))
theorem at_num (x : Int) : SpD K (sp_num K) [.int x] (.str (numW x)) := spF_at x trivial
theorem ok_num (T : Tx K mg c) : DefOk P w K mg base CX0 1 "_law_number" ["_law_cell"] (sp_num K) := by
  obtain ⟨f, fd, d⟩ := T.d_law_number
  refine d.ok (d.F.ok sc_law_number (fun vs H Q E h => spF_len h fun _ => rfl) fun cdv A outer s H vs Q E hr h => ?_)
  obtain ⟨A0, x, _, s0, ha, k⟩ := h
  obtain ⟨v1, rfl, h1⟩ := dpa1 ha
  have nd := sc_law_number.nd
  refine ⟨_, (pss_cons (ps_set (i := 1) nd rfl (Or.inl rfl) (pe_op op_fdiv (pv 0) pe_int))
      (pss_cons (ps_set (i := 2) nd rfl (Or.inl rfl) (pe_lst (pa_cons (pe_callTy c_strI rfl T.mn_str (by decide +kernel) (pa_cons (pe_op op_mod (pv 1) pe_int) pa_nil)) (pa_cons (pe_callTy c_strI rfl T.mn_str (by decide +kernel) (pa_cons (pe_op op_mod (pv 1) (pe_op op_pow pe_int pe_int)) pa_nil)) (pa_cons (pe_callTy c_strI rfl T.mn_str (by decide +kernel) (pa_cons (pe_op op_mod (pv 1) pe_int) pa_nil)) (pa_cons (pe_callTy c_strI rfl T.mn_str (by decide +kernel) (pa_cons (pe_op op_add (pe_op op_pow pe_int pe_int) (pe_op op_mod (pv 1) pe_int)) pa_nil)) (pa_cons (pe_op o_addS pe_str (pe_callTy c_strI rfl T.mn_str (by decide +kernel) (pa_cons (pe_op op_mod (pv 1) pe_int) pa_nil))) pa_nil)))))))
      (pss_cons (ps_set (i := 2) nd rfl (Or.inl rfl) (pe_op op_cat (pv 2) (pe_lst (pa_cons pe_str (pa_cons (pe_op o_addS pe_str (pe_callTy c_strI rfl T.mn_str (by decide +kernel) (pa_cons (pe_op op_mod (pv 1) pe_int) pa_nil))) (pa_cons (pe_callTy c_strI rfl T.mn_str (by decide +kernel) (pa_cons (pe_op op_mod (pv 1) pe_int) pa_nil)) (pa_cons pe_str pa_nil)))))))
      (pss_one (ps_ret (pe_ix (ixL (K := K) rfl) (pv 2) (pe_ix (ixL (K := K) rfl) (pe_lst (pa_cons (pe_op op_mod (pv 0) pe_int) (pa_cons pe_int (pa_cons pe_int pa_nil)))) (pe_op op_mod (pe_op op_fdiv (pv 0) pe_int) pe_int) (fun _ _ => rfl)) (fun _ _ => rfl))))))), ?_⟩
  try dsimp only [cx_K]
  try dsimp only at h1
  refine q_asgD K s0 (by tm_at "ed") fun v2 A1 B1 P1 hv2 => ?_
  have g1 := num31_log (num31_mod (x / 9) (n := 12) (by decide) (by decide))
  have g2 := num31_log (num31_mod (x / 9) (n := 10 ^ (30 : Int).toNat) (by decide) (by decide))
  have g3 := num31_log (num31_mod (x / 9) (n := 100) (by decide) (by decide))
  have g4 := num31_log (num31_big (x / 9))
  have g5 := num31_log (num31_mod (x / 9) (n := 9) (by decide) (by decide))
  have g6 := num31_log (num31_mod (x / 9) (n := 7) (by decide) (by decide))
  have l1 := num31_len (num31_mod (x / 9) (n := 12) (by decide) (by decide))
  have l5 := num31_len (num31_mod (x / 9) (n := 9) (by decide) (by decide))
  have e0 : ("0" : Str).length = 1 := rfl
  have e1 : ("-" : Str).length = 1 := rfl
  refine q_asgN K P1.s (by tm_at "en") fun p3 xs3 A2 B2 hn2 P2 hA2 hB2 ha2 => ?_
  have Q2 := (P1.trans P2).frz (fresh_back P1.b hn2) hA2 hB2
  have a2 := dpa_ex (Ex.new hA2 (o := .lst xs3)) ha2
  have hv2' := dp_ex (P2.a.trans (Ex.new hA2 (o := .lst xs3))) hv2
  refine q_asgD K Q2.s (ed_n (en_cat (ek_var rfl upd_same a2) (ek_n (by tm_at "en")) (by show 5 + 4 ≤ 100000; decide))) fun v4 A3 B3 P3 hv4 => ?_
  have hi : 0 ≤ sel3 (x / 108 % 3) (x % 9) 0 2 ∧ sel3 (x / 108 % 3) (x % 9) 0 2 < 9 := by
    have h0 := Int.emod_nonneg x (show (9 : Int) ≠ 0 by decide)
    have h1 := Int.emod_lt_of_pos x (show (0 : Int) < 9 by decide)
    unfold sel3
    split
    · omega
    · split <;> omega
  have hv1 := dp_ex (Q2.a.trans P3.a) h1
  exact s_retK K P3.s (d' := .str (numW x)) (ed_ixL (ds := (numWs (x / 9)).map PyData.str) (ed_var rfl hv4) (by tm_at "ed") (at_pickS (numWs (x / 9)) hi.1 hi.2)) rfl fun v A' B' P6 hv => k v A' B' (Q2.trans (P3.trans P6)) hv
end
local macro_rules | `(tactic| tm_at "fn") => `(tactic| exact at_num _)

end K5

namespace K5
open PySem L2 Evl Ob

local macro_rules | `(tactic| tm_at "sh") => `(tactic| first | exact sh_mk | exact sh_mks | exact sh_b3)

local macro_rules | `(tactic| tm_at "fn") => `(tactic| first | exact at_num _ | exact at_sign _ | exact at_whole _ | exact at_mark _)

/-! ## the text of a mail, perhaps bent -/
def words5 : List Str := ["letter", "number", "mark", "Mark", "letters"]
def wordW (a : Int) : Str := pickS words5 (sel2 (a / 5 % 5 / 4) (a % 3) (a % 5))
def colons : List Str := [":", "", ";"]
def colW (b : Int) : Str := pickS colons (b / 7 % 9 / 7 * (1 + b / 63 % 2))
def text1 (a b c : Int) : Str := (wordW a ++ " " ++ numW (a / 25) ++ " from ") ++ numW b ++ " to " ++ numW c
def textW (a b c d : Int) : Str :=
  if (!((wordW a == "letter") == (d % 7 == 0))) = true then text1 a b c
  else (text1 a b c ++ colW d) ++ " " ++ numW (d / 7) ++ " of " ++ numW (b / 3)
theorem at_sel2b {x a b : Int} (h0 : 0 ≤ x) (h1 : x < 2) : atI [PyData.int a, .int b] x = some (.int (sel2 x a b)) := by
  have h : x = 0 ∨ x = 1 := by omega
  rcases h with rfl | rfl <;> rfl
theorem wordW_len (a : Int) : (wordW a).length ≤ 7 := pickS_len (fun y hy => by
  simp only [words5, List.mem_cons, List.not_mem_nil, or_false] at hy
  rcases hy with rfl | rfl | rfl | rfl | rfl <;> decide) _
theorem colW_len (a : Int) : (colW a).length ≤ 1 := pickS_len (fun y hy => by
  simp only [colons, List.mem_cons, List.not_mem_nil, or_false] at hy
  rcases hy with rfl | rfl | rfl <;> decide) _
theorem text1_len (a b c : Int) : 1 ≤ (text1 a b c).length ∧ (text1 a b c).length ≤ 120 := by
  have h1 := wordW_len a
  have h2 := numW_len (a / 25)
  have h3 := numW_len b
  have h4 := numW_len c
  have e1 : (" " : Str).length = 1 := rfl
  have e2 : (" from " : Str).length = 6 := rfl
  have e3 : (" to " : Str).length = 4 := rfl
  unfold text1
  simp only [len_app]
  omega
theorem textW_len (a b c d : Int) : 1 ≤ (textW a b c d).length ∧ (textW a b c d).length ≤ 200 := by
  have h1 := text1_len a b c
  have h2 := numW_len (d / 7)
  have h3 := numW_len (b / 3)
  have h4 := colW_len d
  have e1 : (" " : Str).length = 1 := rfl
  have e2 : (" of " : Str).length = 4 := rfl
  unfold textW
  split
  · omega
  · simp only [len_app]
    omega
section
variable {P : Program} {w : World} {K : PySem.W.Frag} {mg : Str → Option Value} {base : Heap} {c : Cs}
def sp_text (K : PySem.W.Frag) : Sp := spF K (fun x : Int × Int × Int × Int => [.list [.int x.1, .int x.2.1, .int x.2.2.1, .int x.2.2.2]]) (fun _ => True) (fun x => .str (textW x.1 x.2.1 x.2.2.1 x.2.2.2))
theorem at_text {a b c d : Int} : SpD K (sp_text K) [.list [.int a, .int b, .int c, .int d]] (.str (textW a b c d)) := spF_at (a, b, c, d) trivial
theorem ok_text (T : Tx K mg c) : DefOk P w K mg base CX0 2 "_law_text" ["_law_cells"] (sp_text K) := by
  obtain ⟨f, fd, d⟩ := T.d_law_text
  refine d.ok (d.F.ok sc_law_text (fun vs H Q E h => spF_len h fun _ => rfl) fun cdv A outer s H vs Q E hr h => ?_)
  obtain ⟨A0, ⟨a, b, e, g⟩, _, s0, ha, k⟩ := h
  obtain ⟨v1, rfl, h1⟩ := dpa1 ha
  have nd := sc_law_text.nd
  have G_law_number := ok_num (P := P) (w := w) (base := base) T
  refine ⟨_, (pss_cons (ps_set (i := 1) nd rfl (Or.inl rfl) (pe_ix (ixL (K := K) rfl) (pe_lst (pa_cons pe_str (pa_cons pe_str (pa_cons pe_str (pa_cons pe_str (pa_cons pe_str pa_nil)))))) (pe_ix (ixL (K := K) rfl) (pe_lst (pa_cons (pe_op op_mod (pe_ix (ixL (K := K) rfl) (pv 0) pe_int (fun _ _ => rfl)) pe_int) (pa_cons (pe_op op_mod (pe_ix (ixL (K := K) rfl) (pv 0) pe_int (fun _ _ => rfl)) pe_int) pa_nil))) (pe_op op_fdiv (pe_op op_mod (pe_op op_fdiv (pe_ix (ixL (K := K) rfl) (pv 0) pe_int (fun _ _ => rfl)) pe_int) pe_int) pe_int) (fun _ _ => rfl)) (fun _ _ => rfl)))
      (pss_cons (ps_set (i := 2) nd rfl (Or.inl rfl) (pe_op o_addS (pe_op o_addS (pe_op o_addS (pv 1) pe_str) (pe_cd G_law_number (hr.mono (by decide)) rfl pass0 (pa_cons (pe_op op_fdiv (pe_ix (ixL (K := K) rfl) (pv 0) pe_int (fun _ _ => rfl)) pe_int) pa_nil))) pe_str))
      (pss_cons (ps_set (i := 2) nd rfl (Or.inl rfl) (pe_op o_addS (pe_op o_addS (pe_op o_addS (pv 2) (pe_cd G_law_number (hr.mono (by decide)) rfl pass0 (pa_cons (pe_ix (ixL (K := K) rfl) (pv 0) pe_int (fun _ _ => rfl)) pa_nil))) pe_str) (pe_cd G_law_number (hr.mono (by decide)) rfl pass0 (pa_cons (pe_ix (ixL (K := K) rfl) (pv 0) pe_int (fun _ _ => rfl)) pa_nil))))
      (pss_cons (ps_if (pt_cmpR op_ne (pe_cmpR op_eq (pv 1) pe_str (nomark _)) (pe_cmpR op_eq (pe_op op_mod (pe_ix (ixL (K := K) rfl) (pv 0) pe_int (fun _ _ => rfl)) pe_int) pe_int (nomark _)) (nomark _)) (pss_one (ps_ret (pv 2))) pss_nil)
      (pss_cons (ps_set (i := 2) nd rfl (Or.inl rfl) (pe_op o_addS (pv 2) (pe_ix (ixL (K := K) rfl) (pe_lst (pa_cons pe_str (pa_cons pe_str (pa_cons pe_str pa_nil)))) (pe_op op_mul (pe_op op_fdiv (pe_op op_mod (pe_op op_fdiv (pe_ix (ixL (K := K) rfl) (pv 0) pe_int (fun _ _ => rfl)) pe_int) pe_int) pe_int) (pe_op op_add pe_int (pe_op op_mod (pe_op op_fdiv (pe_ix (ixL (K := K) rfl) (pv 0) pe_int (fun _ _ => rfl)) pe_int) pe_int))) (fun _ _ => rfl))))
      (pss_one (ps_ret (pe_op o_addS (pe_op o_addS (pe_op o_addS (pe_op o_addS (pv 2) pe_str) (pe_cd G_law_number (hr.mono (by decide)) rfl pass0 (pa_cons (pe_op op_fdiv (pe_ix (ixL (K := K) rfl) (pv 0) pe_int (fun _ _ => rfl)) pe_int) pa_nil))) pe_str) (pe_cd G_law_number (hr.mono (by decide)) rfl pass0 (pa_cons (pe_op op_fdiv (pe_ix (ixL (K := K) rfl) (pv 0) pe_int (fun _ _ => rfl)) pe_int) pa_nil)))))))))), ?_⟩
  try dsimp only [cx_K]
  try dsimp only at h1 k
  have e1 : (" " : Str).length = 1 := rfl
  have e2 : (" from " : Str).length = 6 := rfl
  have e3 : (" to " : Str).length = 4 := rfl
  have e4 : (" of " : Str).length = 4 := rfl
  have r2 : 0 ≤ a / 5 % 5 / 4 ∧ a / 5 % 5 / 4 < 2 := by omega
  have r5 : 0 ≤ sel2 (a / 5 % 5 / 4) (a % 3) (a % 5) ∧ sel2 (a / 5 % 5 / 4) (a % 3) (a % 5) < 5 := by
    unfold sel2
    split <;> omega
  refine q_asgD K s0 (d := .str (wordW a)) (ed_ixL (ds := words5.map PyData.str) (by tm_at "ed") (ed_ixL (by tm_at "ed") (by tm_at "ed") (at_sel2b r2.1 r2.2)) (at_pickS words5 r5.1 r5.2)) fun v2 A1 B1 P1 hv2 => ?_
  have l1 := wordW_len a
  have l2 := numW_len (a / 25)
  have l3 := numW_len b
  have l4 := numW_len e
  have l5 := numW_len (g / 7)
  have l6 := numW_len (b / 3)
  have l7 := colW_len g
  have l8 := text1_len a b e
  refine q_asgD K P1.s (ed_addS (ed_addS (ed_addS (by tm_at "ed") (by tm_at "ed") (by tm_at "le")) (by tm_at "ed") (by tm_at "le")) (by tm_at "ed") (by tm_at "le")) fun v3 A2 B2 P2 hv3 => ?_
  refine q_asgD K P2.s (d := .str (text1 a b e)) (ed_addS (ed_addS (ed_addS (by tm_at "ed") (by tm_at "ed") (by tm_at "le")) (by tm_at "ed") (by tm_at "le")) (by tm_at "ed") (by tm_at "le")) fun v4 A3 B3 P3 hv4 => ?_
  refine q_ifE K (b := !((wordW a == "letter") == (g % 7 == 0))) P3.s (by tm_at "et") rfl (fun hb B4 P4 => ?_) (fun hb B4 P4 => q_next ?_)
  · have q : textW a b e g = text1 a b e := by unfold textW; rw [if_pos hb]
    rw [q] at k
    exact s_retK K P4.s (by tm_at "ed") rfl fun v A' B' P6 hv => k v A' B' (by tm_at "pr") hv
  · have q : textW a b e g = (text1 a b e ++ colW g) ++ " " ++ numW (g / 7) ++ " of " ++ numW (b / 3) := by unfold textW; rw [if_neg (by rw [hb]; decide)]
    rw [q] at k
    have r3 : 0 ≤ g / 7 % 9 / 7 * (1 + g / 63 % 2) ∧ g / 7 % 9 / 7 * (1 + g / 63 % 2) < 3 := by
      have h : g / 7 % 9 / 7 = 0 ∨ g / 7 % 9 / 7 = 1 := by omega
      rcases h with h | h <;> rw [h] <;> omega
    have hm : CMul (g / 7 % 9 / 7) (1 + g / 63 % 2) := by
      have h : g / 7 % 9 / 7 = 0 ∨ g / 7 % 9 / 7 = 1 := by omega
      have h' : g / 63 % 2 = 0 ∨ g / 63 % 2 = 1 := by omega
      rcases h with h | h <;> rcases h' with h' | h' <;> rw [h, h'] <;> exact .inl ⟨by decide, by decide⟩
    refine q_asgD K P4.s (d := .str (text1 a b e ++ colW g)) (ed_addS (by tm_at "ed") (ed_ixL (ds := colons.map PyData.str) (by tm_at "ed") (ed_Ic (by tm_at "ed") (by tm_at "ed") hm) (at_pickS colons r3.1 r3.2)) (by show _ + (colW g).length ≤ _; omega)) fun v5 A5 B5 P5 hv5 => ?_
    exact s_retK K P5.s (ed_addS (ed_addS (ed_addS (ed_addS (by tm_at "ed") (by tm_at "ed") (by tm_at "le")) (by tm_at "ed") (by tm_at "le")) (by tm_at "ed") (by tm_at "le")) (by tm_at "ed") (by tm_at "le")) rfl fun v A' B' P6 hv => k v A' B' (by tm_at "pr") hv
end
local macro_rules | `(tactic| tm_at "fn") => `(tactic| exact at_text)
def shorts : List Str := ["", " ", "letter", "mark 1 from 2 to 3", "letter 1 from 2 to 3 ", " letter 1 from 2 to 3"]
def bentW (t : Str) (x m : Int) : Str :=
  let i := x / 8 % (t.length : Int)
  if (x % 8 == 0) = true then cutS t none (some i) ++ ⟨#[signC m]⟩ ++ cutS t (some i) none
  else if (x % 8 == 1) = true then cutS t none (some i) ++ ⟨#[signC m]⟩ ++ cutS t (some (i + 1)) none
  else if (x % 8 == 2) = true then cutS t none (some i) ++ cutS t (some (i + 1)) none
  else if (x % 8 == 3) = true then pickS shorts (m % 6)
  else t
theorem one_len (y : Nat) : (⟨#[y]⟩ : Str).length = 1 := rfl
theorem bentW_len {t : Str} (x m : Int) (h : t.length ≤ 200) : (bentW t x m).length ≤ 500 := by
  have c1 := fun lo hi => Nat.le_trans (cutS_length t lo hi) h
  unfold bentW
  dsimp only
  split
  · have a1 := c1 none (some (x / 8 % (t.length : Int)))
    have a2 := c1 (some (x / 8 % (t.length : Int))) none
    have a3 := one_len (signC m)
    simp only [len_app]
    omega
  · split
    · have a1 := c1 none (some (x / 8 % (t.length : Int)))
      have a2 := c1 (some (x / 8 % (t.length : Int) + 1)) none
      have a3 := one_len (signC m)
      simp only [len_app]
      omega
    · split
      · have a1 := c1 none (some (x / 8 % (t.length : Int)))
        have a2 := c1 (some (x / 8 % (t.length : Int) + 1)) none
        simp only [len_app]
        omega
      · split
        · refine Nat.le_trans (pickS_len (n := 30) (fun y hy => ?_) _) (by decide)
          simp only [shorts, List.mem_cons, List.not_mem_nil, or_false] at hy
          rcases hy with rfl | rfl | rfl | rfl | rfl | rfl <;> decide
        · omega
section
variable {P : Program} {w : World} {K : PySem.W.Frag} {mg : Str → Option Value} {base : Heap} {c : Cs}
def sp_bent (K : PySem.W.Frag) : Sp := spF K (fun x : Str × Int × Int => [.str x.1, .int x.2.1, .int x.2.2]) (fun x => 1 ≤ x.1.length ∧ x.1.length ≤ 200) (fun x => .str (bentW x.1 x.2.1 x.2.2))
theorem at_bent {t : Str} {a b : Int} (h : 1 ≤ t.length ∧ t.length ≤ 200) : SpD K (sp_bent K) [.str t, .int a, .int b] (.str (bentW t a b)) := spF_at (t, a, b) h
theorem ok_bent (T : Tx K mg c) : DefOk P w K mg base CX0 2 "_law_bent" ["_law_text_here", "_law_cell", "_law_more"] (sp_bent K) := by
  obtain ⟨f, fd, d⟩ := T.d_law_bent
  refine d.ok (d.F.ok sc_law_bent (fun vs H Q E h => spF_len h fun _ => rfl) fun cdv A outer s H vs Q E hr h => ?_)
  obtain ⟨A0, ⟨t, x, m⟩, ⟨hl1, hl2⟩, s0, ha, k⟩ := h
  obtain ⟨v1, v2, v3, rfl, h1, h2, h3⟩ := dpa3 ha
  have nd := sc_law_bent.nd
  have G_law_sign := ok_sign (P := P) (w := w) (base := base) T
  refine ⟨_, (pss_cons (ps_set (i := 3) nd rfl (Or.inl rfl) (pe_op op_mod (pe_op op_fdiv (pv 1) pe_int) (pe_callB c_lenS rfl T.mn_len (by decide +kernel) (pa_cons (pv 0) pa_nil))))
      (pss_cons (ps_if (pt_cmpR op_eq (pe_op op_mod (pv 1) pe_int) pe_int (nomark _)) (pss_one (ps_ret (pe_op o_addS (pe_op o_addS (pe_slice sl_str (pv 0) po_none (po_some (pv 3))) (pe_cd G_law_sign (hr.mono (by decide)) rfl pass0 (pa_cons (pv 2) pa_nil))) (pe_slice sl_str (pv 0) (po_some (pv 3)) po_none)))) pss_nil)
      (pss_cons (ps_if (pt_cmpR op_eq (pe_op op_mod (pv 1) pe_int) pe_int (nomark _)) (pss_one (ps_ret (pe_op o_addS (pe_op o_addS (pe_slice sl_str (pv 0) po_none (po_some (pv 3))) (pe_cd G_law_sign (hr.mono (by decide)) rfl pass0 (pa_cons (pv 2) pa_nil))) (pe_slice sl_str (pv 0) (po_some (pe_op op_add (pv 3) pe_int)) po_none)))) pss_nil)
      (pss_cons (ps_if (pt_cmpR op_eq (pe_op op_mod (pv 1) pe_int) pe_int (nomark _)) (pss_one (ps_ret (pe_op o_addS (pe_slice sl_str (pv 0) po_none (po_some (pv 3))) (pe_slice sl_str (pv 0) (po_some (pe_op op_add (pv 3) pe_int)) po_none)))) pss_nil)
      (pss_cons (ps_if (pt_cmpR op_eq (pe_op op_mod (pv 1) pe_int) pe_int (nomark _)) (pss_one (ps_ret (pe_ix (ixL (K := K) rfl) (pe_lst (pa_cons pe_str (pa_cons pe_str (pa_cons pe_str (pa_cons pe_str (pa_cons pe_str (pa_cons pe_str pa_nil))))))) (pe_op op_mod (pv 2) pe_int) (fun _ _ => rfl)))) pss_nil)
      (pss_one (ps_ret (pv 0)))))))), ?_⟩
  try dsimp only [cx_K]
  try dsimp only at h1 h2 h3 k hl1 hl2
  have hpos : (0 : Int) < (t.length : Int) := by omega
  refine q_asgD K s0 (d := .int (x / 8 % (t.length : Int))) (by tm_at "ed") fun v4 A1 B1 P1 hv4 => ?_
  have c1 := fun lo hi => Nat.le_trans (cutS_length t lo hi) hl2
  have a0 := one_len (signC m)
  have a1 := c1 none (some (x / 8 % (t.length : Int)))
  have a2 := c1 (some (x / 8 % (t.length : Int))) none
  have a3 := c1 (some (x / 8 % (t.length : Int) + 1)) none
  have kk : ∀ (z : Str), bentW t x m = z → ∀ v A' B', Pr A0 H A' B' → Dp K A' v (.str z) → Q v B' := fun z hz v A' B' P hv => k v A' B' P (hz ▸ hv)
  refine q_ifE K (b := x % 8 == 0) P1.s (by tm_at "et") rfl (fun hb B2 P2 => ?_) (fun hb B2 P2 => q_next ?_)
  · exact s_retK K P2.s (ed_addS (ed_addS (by tm_at "ed") (by tm_at "ed") (by tm_at "le")) (by tm_at "ed") (by tm_at "le")) rfl fun v A' B' P6 hv => kk _ (by unfold bentW; dsimp only; rw [if_pos hb]) v A' B' (by tm_at "pr") hv
  refine q_ifE K (b := x % 8 == 1) P2.s (by tm_at "et") rfl (fun hb2 B3 P3 => ?_) (fun hb2 B3 P3 => q_next ?_)
  · exact s_retK K P3.s (ed_addS (ed_addS (by tm_at "ed") (by tm_at "ed") (by tm_at "le")) (by tm_at "ed") (by tm_at "le")) rfl fun v A' B' P6 hv => kk _ (by unfold bentW; dsimp only; rw [if_neg (by rw [hb]; decide), if_pos hb2]) v A' B' (by tm_at "pr") hv
  refine q_ifE K (b := x % 8 == 2) P3.s (by tm_at "et") rfl (fun hb3 B4 P4 => ?_) (fun hb3 B4 P4 => q_next ?_)
  · exact s_retK K P4.s (ed_addS (by tm_at "ed") (by tm_at "ed") (by tm_at "le")) rfl fun v A' B' P6 hv => kk _ (by unfold bentW; dsimp only; rw [if_neg (by rw [hb]; decide), if_neg (by rw [hb2]; decide), if_pos hb3]) v A' B' (by tm_at "pr") hv
  refine q_ifE K (b := x % 8 == 3) P4.s (by tm_at "et") rfl (fun hb4 B5 P5 => ?_) (fun hb4 B5 P5 => q_next ?_)
  · have r6 : 0 ≤ m % 6 ∧ m % 6 < 6 := by omega
    exact s_retK K P5.s (d' := .str (pickS shorts (m % 6))) (ed_ixL (ds := shorts.map PyData.str) (by tm_at "ed") (by tm_at "ed") (at_pickS shorts r6.1 r6.2)) rfl fun v A' B' P6 hv => kk _ (by unfold bentW; dsimp only; rw [if_neg (by rw [hb]; decide), if_neg (by rw [hb2]; decide), if_neg (by rw [hb3]; decide), if_pos hb4]) v A' B' (by tm_at "pr") hv
  · exact s_retK K P5.s (by tm_at "ed") rfl fun v A' B' P6 hv => kk _ (by unfold bentW; dsimp only; rw [if_neg (by rw [hb]; decide), if_neg (by rw [hb2]; decide), if_neg (by rw [hb3]; decide), if_neg (by rw [hb4]; decide)]) v A' B' (by tm_at "pr") hv
end

end K5

namespace K5
open PySem L2 Evl Ob

local macro_rules | `(tactic| tm_at "sh") => `(tactic| first | exact sh_mk | exact sh_mks | exact sh_b3)

local macro_rules | `(tactic| tm_at "fn") => `(tactic| first | exact at_num _ | exact at_sign _ | exact at_whole _ | exact at_mark _)

/-! ## what the law reads of a text -/
theorem spl_len (S : List Nat) : ∀ (l : List Nat) (k : Nat) (acc : List Nat), ∀ y ∈ TL.spl S k acc l, y.length ≤ acc.length + l.length
  | [], _, acc, y, h => by
    unfold TL.spl at h
    rw [List.mem_singleton.mp h]
    simp
  | e :: r, 0, acc, y, h => by
    unfold TL.spl at h
    split at h
    · rcases List.mem_cons.mp h with rfl | h
      · simp
      · have := spl_len S r (S.length - 1) [] y h
        simp only [List.length_nil, List.length_cons] at this ⊢
        omega
    · have := spl_len S r 0 (acc ++ [e]) y h
      simp only [List.length_append, List.length_cons, List.length_nil] at this ⊢
      omega
  | e :: r, k + 1, acc, y, h => by
    unfold TL.spl at h
    have := spl_len S r k acc y h
    simp only [List.length_cons]
    omega
theorem split_len {x y : Str} (h : y ∈ Txt.split x " ") : y.length ≤ x.length := by
  have e := TL.split_spl x " " (by decide) (TL.kind_ok (by decide +kernel))
  have hm : TL.tl y ∈ TL.spl (TL.tl " ") 0 [] (TL.tl x) := by
    rw [← e]
    exact List.mem_map.mpr ⟨y, h, rfl⟩
  have := spl_len _ _ _ _ _ hm
  rw [TL.len_tl, TL.len_tl]
  simpa using this
/-- what a good word's figures tell -/
theorem good_int {x : Str} (h : goodW x = true) : x.length ≤ 30 ∧ PySem.intText? x = some (valW x) := by
  unfold goodW at h
  simp only [Bool.and_eq_true, Bool.not_eq_true', Bool.or_eq_false_iff, List.all_eq_true, decide_eq_true_eq, decide_eq_false_iff_not] at h
  obtain ⟨⟨h1, h2, h3⟩, h4⟩ := h
  have hne : x.cps.toList ≠ [] := by
    intro z
    have : x = "" := TL.ext_tl z
    rw [this] at h1
    cases h1
  have hl : x.length ≤ 30 := by omega
  exact ⟨hl, intText_digits (x := x) (fun y hy => (figs_iff y).mp (h4 y hy)) hne (by omega)⟩
def goodD : D → D
  | .str x => .bool (goodW x)
  | d => d
def valD : D → D
  | .str x => .int (valW x)
  | d => d
def dueD (r : Option D) : D := r.getD .none
theorem at0 {x : Str} (h : 1 < (x.length : Int)) : ∃ y, x.cps.toList.head? = some y ∧ atI x.cps.toList 0 = some y := by
  cases e : x.cps.toList with
  | nil =>
    have : x.length = 0 := by rw [show x.length = x.cps.toList.length from by simp [Str.length], e]; rfl
    omega
  | cons y r =>
    refine ⟨y, rfl, ?_⟩
    unfold atI
    rw [show ixN (y :: r).length (0 : Int) = some 0 from ixN_nat (j := 0) (by simp)]
    rfl
theorem one_zero (y : Nat) : ((⟨#[y]⟩ : Str) == "0") = (some y == some 48) := by
  by_cases hcc : y = 48
  · subst hcc; rfl
  · rw [show (some y == some 48) = false from by simpa using hcc]
    refine beq_false_of_ne fun z => hcc ?_
    have q : (⟨#[y]⟩ : Str).cps.toList = ("0" : Str).cps.toList := congrArg (fun s : Str => s.cps.toList) z
    rw [show ("0" : Str).cps.toList = [48] from rfl] at q
    simpa using q
theorem eqv_strB (x y : Str) : PyData.eqv (.str x) (.str y) = (x == y) := rfl
theorem word9 {x : Str} (h : (!([PyData.str "number", .str "mark"].any fun y => PyData.eqv y (.str x))) = true) : (!isWord x || (!true || (!true || !((x == "letter") == false)))) = true := by
  by_cases e : x = "letter"
  · subst e; decide
  · have h2 : isWord x = false := by
      unfold isWord
      simp only [List.any_cons, List.any_nil, Bool.or_false, eqv_strB, Bool.not_eq_true', Bool.or_eq_false_iff] at h ⊢
      exact ⟨beq_false_of_ne fun z => e z.symm, h⟩
    rw [h2]
    rfl
theorem word9f {x : Str} (h : (!([PyData.str "number", .str "mark"].any fun y => PyData.eqv y (.str x))) = false) : (!isWord x || (!true || (!true || !((x == "letter") == false)))) = false := by
  simp only [List.any_cons, List.any_nil, Bool.or_false, eqv_strB, Bool.not_eq_false', Bool.or_eq_true, beq_iff_eq] at h
  rcases h with rfl | rfl <;> decide
section
variable {P : Program} {w : World} {K : PySem.W.Frag} {mg : Str → Option Value} {base : Heap} {c : Cs}
def sp_good (K : PySem.W.Frag) : Sp := spF K (fun x : Str => [.str x]) (fun x => x.length ≤ 900) (fun x => .bool (goodW x))
theorem at_good {x : Str} (h : x.length ≤ 900) : SpD K (sp_good K) [.str x] (.bool (goodW x)) := spF_at x h
theorem ok_good (T : Tx K mg c) : DefOk P w K mg base CX0 1 "_law_good" ["_law_word"] (sp_good K) := by
  obtain ⟨f, fd, d⟩ := T.d_law_good
  refine d.ok (d.F.ok sc_law_good (fun vs H Q E h => spF_len h fun _ => rfl) fun cdv A outer s H vs Q E hr h => ?_)
  obtain ⟨A0, x, hx, s0, ha, k⟩ := h
  obtain ⟨v1, rfl, h1⟩ := dpa1 ha
  cases h1
  have nd := sc_law_good.nd
  refine ⟨_, (pss_cons (ps_if (PW.pt (pw_or (pt_cmpR op_eq (pv 0) pe_str (nomark _)) (pw_or (pt_cmpR op_gt (pe_callB c_lenS rfl T.mn_len (by decide +kernel) (pa_cons (pv 0) pa_nil)) pe_int (nomark _)) (pw_or1 (PW.pt (pw_and (pt_cmpR op_gt (pe_callB c_lenS rfl T.mn_len (by decide +kernel) (pa_cons (pv 0) pa_nil)) pe_int (nomark _)) (pw_and1 (pt_cmpR op_eq (pe_ix ix_str (pv 0) pe_int (fun _ _ => rfl)) pe_str (nomark _))))))))) (pss_one (ps_ret pe_bl)) pss_nil)
      (pss_one (ps_ret (pe_callB (c_all (K := K) rfl rfl) rfl T.mn_all (by decide +kernel) (pa_cons (pe_lc (own := [("_law_sign_here", 1)]) (g := gName 1) rfl nd (pi_str (pv 0)) (blkOk_by (own := [("_law_sign_here", 1)]) (N := ["_law_word", "_law_sign_here"]) (sc := defScope s_law_good) (by decide +kernel)) (fun _ _ _ _ _ => pg_name (i := 1) nd rfl (Or.inl rfl)) (fun _ _ _ _ _ => pts_nil) (fun _ _ _ _ _ => (pe_cmpR op_inS (pv 1) pe_str (by rfl)))) pa_nil))))), ?_⟩
  try dsimp only [cx_K]
  have hx : x.length ≤ 900 := hx
  have e0 : ("0123456789" : Str) = figs := rfl
  refine q_ifE K (b := (x == "" || (decide (30 < (x.length : Int)) || (decide (1 < (x.length : Int)) && (x.cps.toList.head? == some 48))))) s0
    (eb_or (by tm_at "et") fun _ => eb_or (by tm_at "et") fun _ => eb_and (by tm_at "et") fun h => ?e1) (by rfl) (fun hb B4 P4 => ?_) (fun hb B4 P4 => q_next ?_)
  case e1 =>
    obtain ⟨y, hy, h0⟩ := at0 (of_decide_eq_true h)
    refine eb_is (b := (x.cps.toList.head? == some 48)) (a := ((⟨#[y]⟩ : Str) == "0")) (by tm_at "et") ?_
    rw [hy]
    exact one_zero y
  · refine s_retK K P4.s (d' := .bool (goodW x)) (by tm_at "ed") ?_ fun v A' B' P6 hv => k v A' B' (by tm_at "pr") hv
    unfold goodW
    rw [hb]
    rfl
  · refine s_retK K P4.s (d' := .bool (goodW x)) (ed_all (bs := x.cps.toList.map fun y => decide (y ∈ figs.cps.toList)) (ed_is (ed_n (en_lcS (fun y => .bool (decide (y ∈ figs.cps.toList))) (by tm_at "ed") (by omega) (fun _ => rfl) fun y hy H1 ex => ?e)) ?s)) ?z fun v A' B' P6 hv => k v A' B' (by tm_at "pr") hv
    case e => exact ed_inSg (ed_var rfl (.str _)) (ed_is ed_str (congrArg PyData.str e0))
    case s => rw [List.map_map]; rfl
    case z =>
      unfold goodW
      rw [hb, List.all_map]
      rfl
local macro_rules | `(tactic| tm_at "fn") => `(tactic| exact at_good (by assumption))
/-- row by row -/
theorem all_good3 {x y z : Str} (h : (!([goodW x, goodW y, goodW z].all id)) = true) : numO x = none ∨ numO y = none ∨ numO z = none := by
  unfold numO
  cases hx : goodW x <;> cases hy : goodW y <;> cases hz : goodW z <;> simp [hx, hy, hz] at h ⊢
theorem all_good5 {x y z u v : Str} (h : (!([goodW x, goodW y, goodW z, goodW u, goodW v].all id)) = true) : numO x = none ∨ numO y = none ∨ numO z = none ∨ numO u = none ∨ numO v = none := by
  unfold numO
  cases hx : goodW x <;> cases hy : goodW y <;> cases hz : goodW z <;> cases hu : goodW u <;> cases hv : goodW v <;> simp [hx, hy, hz, hu, hv] at h ⊢
theorem numO_good {x : Str} (h : goodW x = true) : numO x = some (.int (valW x)) := by unfold numO; rw [if_pos h]
theorem consO_none (q : Option (List D)) : consO none q = none := by cases q <;> rfl
theorem consO_noneR (r : Option D) : consO r none = none := by cases r <;> rfl
def sp_due (K : PySem.W.Frag) : Sp := spF K (fun x : Str => [.str x]) (fun x => x.length ≤ 900) (fun x => dueD (parse x))
theorem at_due {x : Str} (h : x.length ≤ 900) : SpD K (sp_due K) [.str x] (dueD (parse x)) := spF_at x h
theorem ok_due (T : Tx K mg c) : DefOk P w K mg base CX0 2 "_law_due" ["_law_text_here"] (sp_due K) := by
  obtain ⟨f, fd, d⟩ := T.d_law_due
  refine d.ok (d.F.ok sc_law_due (fun vs H Q E h => spF_len h fun _ => rfl) fun cdv A outer s H vs Q E hr h => ?_)
  obtain ⟨A0, x, hx, s0, ha, k⟩ := h
  obtain ⟨v1, rfl, h1⟩ := dpa1 ha
  cases h1
  have nd := sc_law_due.nd
  have G_law_good := ok_good (P := P) (w := w) (base := base) T
  refine ⟨_, (pss_cons (ps_set (i := 1) nd rfl (Or.inl rfl) (pe_splitN (pv 0) pe_str))
      (pss_cons (ps_if (PW.pt (pw_or (PW.pt (pw_and (pt_cmpR op_ne (pe_callB (c_len (K := K) rfl) rfl T.mn_len (by decide +kernel) (pa_cons (pv 1) pa_nil)) pe_int (nomark _)) (pw_and1 (pt_cmpR op_ne (pe_callB (c_len (K := K) rfl) rfl T.mn_len (by decide +kernel) (pa_cons (pv 1) pa_nil)) pe_int (nomark _))))) (pw_or (pt_cmpR op_ne (pe_ix (ixL (K := K) rfl) (pv 1) pe_int (fun _ _ => rfl)) pe_str (nomark _)) (pw_or1 (pt_cmpR op_ne (pe_ix (ixL (K := K) rfl) (pv 1) pe_int (fun _ _ => rfl)) pe_str (nomark _)))))) (pss_one (ps_ret pe_non)) pss_nil)
      (pss_cons (ps_set (i := 2) nd rfl (Or.inl rfl) (pe_lst (pa_cons (pe_ix (ixL (K := K) rfl) (pv 1) pe_int (fun _ _ => rfl)) (pa_cons (pe_ix (ixL (K := K) rfl) (pv 1) pe_int (fun _ _ => rfl)) (pa_cons (pe_ix (ixL (K := K) rfl) (pv 1) pe_int (fun _ _ => rfl)) pa_nil)))))
      (pss_cons (ps_if (pt_cmpR op_eq (pe_callB (c_len (K := K) rfl) rfl T.mn_len (by decide +kernel) (pa_cons (pv 1) pa_nil)) pe_int (nomark _)) (pss_cons (ps_if (PW.pt (pw_or (pt_cmpR (o_notIn (K := K) rfl) (pe_ix (ixL (K := K) rfl) (pv 1) pe_int (fun _ _ => rfl)) (pe_tup (pa_cons pe_str (pa_cons pe_str pa_nil))) (by rfl)) (pw_or (pt_cmpR op_ne (pe_slice sl_str (pe_ix (ixL (K := K) rfl) (pv 1) pe_int (fun _ _ => rfl)) (po_some (pe_un un_neg pe_int)) po_none) pe_str (nomark _)) (pw_or (pt_cmpR op_ne (pe_ix (ixL (K := K) rfl) (pv 1) pe_int (fun _ _ => rfl)) pe_str (nomark _)) (pw_or1 (pt_cmpR op_eq (pe_ix (ixL (K := K) rfl) (pv 1) pe_int (fun _ _ => rfl)) pe_str (nomark _))))))) (pss_one (ps_ret pe_non)) pss_nil)
        (pss_one (ps_set (i := 2) nd rfl (Or.inl rfl) (pe_lst (pa_cons (pe_ix (ixL (K := K) rfl) (pv 1) pe_int (fun _ _ => rfl)) (pa_cons (pe_ix (ixL (K := K) rfl) (pv 1) pe_int (fun _ _ => rfl)) (pa_cons (pe_slice sl_str (pe_ix (ixL (K := K) rfl) (pv 1) pe_int (fun _ _ => rfl)) po_none (po_some (pe_un un_neg pe_int))) (pa_cons (pe_ix (ixL (K := K) rfl) (pv 1) pe_int (fun _ _ => rfl)) (pa_cons (pe_ix (ixL (K := K) rfl) (pv 1) pe_int (fun _ _ => rfl)) pa_nil))))))))) (pss_one (ps_if (pt_cmpR op_ne (pe_ix (ixL (K := K) rfl) (pv 1) pe_int (fun _ _ => rfl)) pe_str (nomark _)) (pss_one (ps_ret pe_non)) pss_nil)))
      (pss_cons (ps_if (pt_not (pt_val (pe_callB (c_all (K := K) rfl rfl) rfl T.mn_all (by decide +kernel) (pa_cons (pe_lc (own := [("_law_word", 3)]) (g := gName 3) rfl nd (pi_list (pv 2)) (blkOk_by (own := [("_law_word", 3)]) (N := ["_law_text_here", "_law_words", "_law_numbers", "_law_word", "_law_row"]) (sc := defScope s_law_due) (by decide +kernel)) (fun _ _ _ _ _ => pg_name (i := 3) nd rfl (Or.inl rfl)) (fun _ _ _ _ _ => pts_nil) (fun _ _ _ _ _ => (pe_cd G_law_good (hr.mono (by decide)) rfl pass0 (pa_cons (pv 3) pa_nil)))) pa_nil)))) (pss_one (ps_ret pe_non)) pss_nil)
      (pss_cons (ps_setLc (i := 4) (own := [("_law_word", 3)]) (g := gName 3) rfl nd rfl rfl (sw_true rfl rfl rfl (by decide +kernel)) (pi_list (pv 2)) (blkOk_by (own := [("_law_word", 3)]) (N := ["_law_text_here", "_law_words", "_law_numbers", "_law_word", "_law_row"]) (sc := defScope s_law_due) (by decide +kernel)) (fun _ _ _ _ _ => pg_name (i := 3) nd rfl (Or.inl rfl)) (fun _ _ _ _ _ => pts_nil) (fun _ _ _ _ _ => (pe_callTy c_intS rfl T.mn_int (by decide +kernel) (pa_cons (pv 3) pa_nil))))
      (pss_cons (ps_if (pt_cmpR op_eq (pe_callB (c_len (K := K) rfl) rfl T.mn_len (by decide +kernel) (pa_cons (pv 4) pa_nil)) pe_int (nomark _)) (pss_one (ps_ret (pe_tup (pa_cons (pe_ix (ixL (K := K) rfl) (pv 1) pe_int (fun _ _ => rfl)) (pa_cons (pe_ix (ixL (K := K) rfl) (pv 4) pe_int (fun _ _ => rfl)) (pa_cons (pe_ix (ixL (K := K) rfl) (pv 4) pe_int (fun _ _ => rfl)) (pa_cons (pe_ix (ixL (K := K) rfl) (pv 4) pe_int (fun _ _ => rfl)) (pa_cons (pe_tup (pa_cons (pe_ix (ixL (K := K) rfl) (pv 4) pe_int (fun _ _ => rfl)) (pa_cons (pe_ix (ixL (K := K) rfl) (pv 4) pe_int (fun _ _ => rfl)) pa_nil))) pa_nil)))))))) pss_nil)
      (pss_one (ps_ret (pe_tup (pa_cons (pe_ix (ixL (K := K) rfl) (pv 1) pe_int (fun _ _ => rfl)) (pa_cons (pe_ix (ixL (K := K) rfl) (pv 4) pe_int (fun _ _ => rfl)) (pa_cons (pe_ix (ixL (K := K) rfl) (pv 4) pe_int (fun _ _ => rfl)) (pa_cons (pe_ix (ixL (K := K) rfl) (pv 4) pe_int (fun _ _ => rfl)) (pa_cons pe_non pa_nil))))))))))))))), ?_⟩
  try dsimp only [cx_K]
  have hx : x.length ≤ 900 := hx
  have hws : ∀ y ∈ Txt.split x " ", y.length ≤ 900 := fun y hy => Nat.le_trans (split_len hy) hx
  refine q_asgD K s0 (d := .list ((Txt.split x " ").map PyData.str)) (by tm_at "ed") fun v2 A1 B1 P1 hv2 => ?_
  have k : ∀ r, parseW (Txt.split x " ") = r → ∀ v A' B', Pr A0 H A' B' → Dp K A' v (dueD r) → Q v B' := fun r hr v A' B' P hv => k v A' B' P (by show Dp K A' v (dueD (parseW (Txt.split x " "))); rw [hr]; exact hv)
  generalize Txt.split x " " = ws at k hv2 hws
  by_cases h6 : ws.length = 6
  · obtain ⟨w0, w1, w2, w3, w4, w5, rfl⟩ := len6 h6
    have z1 : w1.length ≤ 900 := hws w1 (by simp)
    have z3 : w3.length ≤ 900 := hws w3 (by simp)
    have z5 : w5.length ≤ 900 := hws w5 (by simp)
    have hv3 : Dp K A1 v2 (.list [.str w0, .str w1, .str w2, .str w3, .str w4, .str w5]) := hv2
    have k : ∀ r, parse6 w0 w1 w2 w3 w4 w5 = r → ∀ v A' B', Pr A0 H A' B' → Dp K A' v (dueD r) → Q v B' := k
    refine q_ifE K (b := (!(w2 == "from") || !(w4 == "to"))) P1.s (by tm_at "et") (by rfl) (fun hb B2 P2 => ?_) (fun hb B2 P2 => q_next ?_)
    · refine s_retK K P2.s ed_non (show (PyData.none : D) = dueD none from rfl) fun v A' B' P6 hv => k none ?_ v A' B' (by tm_at "pr") hv
      unfold parse6
      rw [if_pos]
      cases h2 : w2 == "from" <;> cases h4 : w4 == "to" <;> simp [h2, h4] at hb ⊢
    simp only [Bool.or_eq_false_iff, Bool.not_eq_false'] at hb
    refine q_asgD K P2.s (d := .list [.str w1, .str w3, .str w5]) (by tm_at "ed") fun v4 A3 B3 P3 hv4 => ?_
    refine q_ifE K (b := false) P3.s (by tm_at "et") (by rfl) (fun h => by cases h) (fun _ B4 P4 => ?_)
    refine s_ifE K (b := !(w0 == "letter")) P4.s (by tm_at "et") (by rfl) (fun hb2 B5 P5 => ?_) (fun hb2 B5 P5 => q_next ?_)
    · refine s_retK K P5.s ed_non (show (PyData.none : D) = dueD none from rfl) fun v A' B' P6 hv => k none ?_ v A' B' (by tm_at "pr") hv
      unfold parse6
      rw [if_pos]
      have e : (w0 == "letter") = false := by simpa using hb2
      rw [e]
      simp
    have e0 : (w0 == "letter") = true := by simpa using hb2
    have hp : parse6 w0 w1 w2 w3 w4 w5 = (consO (some (.str w0)) (consO (numO w1) (consO (numO w3) (consO (numO w5) (some [.none]))))).map .tuple := by
      have q : w0 = "letter" := by simpa using e0
      unfold parse6
      rw [if_neg]
      rw [hb.1, hb.2, q]
      decide
    refine q_ifE K (b := !([goodW w1, goodW w3, goodW w5].all id)) P5.s (eb_not (eb_D (ed_all (bs := [goodW w1, goodW w3, goodW w5]) (ed_is (ed_n (en_lcL1 goodD (by tm_at "ed") (by show 3 ≤ 40000; decide) (fun _ => rfl) fun d hd v H1 ex hv => ?ga)) rfl)))) rfl (fun hb3 B6 P6 => ?_) (fun hb3 B6 P6 => q_next ?_)
    case ga =>
      simp only [List.mem_cons, List.not_mem_nil, or_false] at hd
      rcases hd with rfl | rfl | rfl <;> tm_at "ed"
    · refine s_retK K P6.s ed_non (show (PyData.none : D) = dueD none from rfl) fun v A' B' P7 hv => k none ?_ v A' B' (by tm_at "pr") hv
      rw [hp]
      rcases all_good3 hb3 with e | e | e <;> rw [e] <;> simp only [consO_none, consO_noneR] <;> rfl
    have hg : goodW w1 = true ∧ goodW w3 = true ∧ goodW w5 = true := by simpa using hb3
    obtain ⟨y1, i1⟩ := good_int hg.1
    obtain ⟨y3, i3⟩ := good_int hg.2.1
    obtain ⟨y5, i5⟩ := good_int hg.2.2
    refine q_asgD K P6.s (d := .list [.int (valW w1), .int (valW w3), .int (valW w5)]) (ed_is (ed_n (en_lcL1 valD (by tm_at "ed") (by show 3 ≤ 40000; decide) (fun _ => rfl) fun d hd v H1 ex hv => ?gc)) rfl) fun v7 A7 B7 P7 hv7 => ?_
    case gc =>
      simp only [List.mem_cons, List.not_mem_nil, or_false] at hd
      rcases hd with rfl | rfl | rfl
      · exact ed_intS (by tm_at "ed") i1 (by omega)
      · exact ed_intS (by tm_at "ed") i3 (by omega)
      · exact ed_intS (by tm_at "ed") i5 (by omega)
    refine q_ifE K (b := false) P7.s (by tm_at "et") (by rfl) (fun h => by cases h) (fun _ B8 P8 => q_next ?_)
    refine s_retK K P8.s (by tm_at "ed") rfl fun v A' B' P9 hv => k _ hp v A' B' (by tm_at "pr") ?_
    rw [numO_good hg.1, numO_good hg.2.1, numO_good hg.2.2]
    exact hv
  · by_cases h9 : ws.length = 9
    · obtain ⟨w0, w1, w2, w3, w4, w5, w6, w7, w8, rfl⟩ := len9 h9
      have z1 : w1.length ≤ 900 := hws w1 (by simp)
      have z3 : w3.length ≤ 900 := hws w3 (by simp)
      have z5' : w5.length ≤ 900 := hws w5 (by simp)
      have z5 : (cutS w5 none (some (-1))).length ≤ 900 := Nat.le_trans (cutS_length _ _ _) z5'
      have z6 : w6.length ≤ 900 := hws w6 (by simp)
      have z8 : w8.length ≤ 900 := hws w8 (by simp)
      have hv3 : Dp K A1 v2 (.list [.str w0, .str w1, .str w2, .str w3, .str w4, .str w5, .str w6, .str w7, .str w8]) := hv2
      have k : ∀ r, parse9 w0 w1 w2 w3 w4 w5 w6 w7 w8 = r → ∀ v A' B', Pr A0 H A' B' → Dp K A' v (dueD r) → Q v B' := k
      refine q_ifE K (b := (!(w2 == "from") || !(w4 == "to"))) P1.s (by tm_at "et") (by rfl) (fun hb B2 P2 => ?_) (fun hb B2 P2 => q_next ?_)
      · refine s_retK K P2.s ed_non (show (PyData.none : D) = dueD none from rfl) fun v A' B' P6 hv => k none ?_ v A' B' (by tm_at "pr") hv
        unfold parse9
        rw [if_pos]
        cases h2 : w2 == "from" <;> cases h4 : w4 == "to" <;> simp [h2, h4] at hb ⊢
      simp only [Bool.or_eq_false_iff, Bool.not_eq_false'] at hb
      refine q_asgD K P2.s (d := .list [.str w1, .str w3, .str w5]) (by tm_at "ed") fun v4 A3 B3 P3 hv4 => ?_
      refine q_ifE K (b := true) P3.s (by tm_at "et") (by rfl) (fun _ B4 P4 => ?_) (fun h => by cases h)
      refine q_ifE K (b := (!([PyData.str "number", .str "mark"].any fun y => PyData.eqv y (.str w0)) || (!(cutS w5 (some (-1)) none == ":") || (!(w7 == "of") || w6 == "0")))) P4.s (by tm_at "et") (by rfl) (fun hb2 B5 P5 => ?_) (fun hb2 B5 P5 => q_next ?_)
      · refine s_retK K P5.s ed_non (show (PyData.none : D) = dueD none from rfl) fun v A' B' P6 hv => k none ?_ v A' B' (by tm_at "pr") hv
        rw [Bool.or_eq_true] at hb2
        rcases hb2 with hb2 | hb2
        · unfold parse9
          rw [if_pos]
          rw [hb.1, hb.2]
          exact word9 hb2
        · unfold parse9
          split
          · rfl
          · first | rfl | rw [if_pos hb2]
      rw [Bool.or_eq_false_iff] at hb2
      obtain ⟨hw0, hb3⟩ := hb2
      have hp : parse9 w0 w1 w2 w3 w4 w5 w6 w7 w8 = match (consO (numO w6) (consO (numO w8) (some []))).map PyData.tuple with
          | none => none
          | some mk => (consO (some (.str w0)) (consO (numO w1) (consO (numO w3) (consO (numO (cutS w5 none (some (-1)))) (some [mk]))))).map .tuple := by
        have c1 : ¬ ((!isWord w0 || (!(w2 == "from") || (!(w4 == "to") || !((w0 == "letter") == false)))) = true) := by
          rw [hb.1, hb.2, word9f hw0]; decide
        have c2 : ¬ ((!(cutS w5 (some (-1)) none == ":") || (!(w7 == "of") || w6 == "0")) = true) := by
          rw [hb3]; decide
        unfold parse9
        exact (if_neg c1).trans ((if_neg c2).trans rfl)
      refine s_asgD K P5.s (d := .list [.str w1, .str w3, .str (cutS w5 none (some (-1))), .str w6, .str w8]) (by tm_at "ed") fun v6 A6 B6 P6 hv6 => go_nx ?_
      refine q_ifE K (b := !([goodW w1, goodW w3, goodW (cutS w5 none (some (-1))), goodW w6, goodW w8].all id)) P6.s (eb_not (eb_D (ed_all (bs := [goodW w1, goodW w3, goodW (cutS w5 none (some (-1))), goodW w6, goodW w8]) (ed_is (ed_n (en_lcL1 goodD (by tm_at "ed") (by show 5 ≤ 40000; decide) (fun _ => rfl) fun d hd v H1 ex hv => ?gb)) rfl)))) rfl (fun hb4 B7 P7 => ?_) (fun hb4 B7 P7 => q_next ?_)
      case gb =>
        simp only [List.mem_cons, List.not_mem_nil, or_false] at hd
        rcases hd with rfl | rfl | rfl | rfl | rfl <;> tm_at "ed"
      · refine s_retK K P7.s ed_non (show (PyData.none : D) = dueD none from rfl) fun v A' B' P8 hv => k none ?_ v A' B' (by tm_at "pr") hv
        rw [hp]
        rcases all_good5 hb4 with e | e | e | e | e <;> rw [e] <;> simp only [consO_none, consO_noneR, Option.map_none] <;> split <;> rfl
      have hg : goodW w1 = true ∧ goodW w3 = true ∧ goodW (cutS w5 none (some (-1))) = true ∧ goodW w6 = true ∧ goodW w8 = true := by simpa using hb4
      obtain ⟨g1, g3, g5, g6, g8⟩ := hg
      obtain ⟨y1, i1⟩ := good_int g1
      obtain ⟨y3, i3⟩ := good_int g3
      obtain ⟨y5, i5⟩ := good_int g5
      obtain ⟨y6, i6⟩ := good_int g6
      obtain ⟨y8, i8⟩ := good_int g8
      refine q_asgD K P7.s (d := .list [.int (valW w1), .int (valW w3), .int (valW (cutS w5 none (some (-1)))), .int (valW w6), .int (valW w8)]) (ed_is (ed_n (en_lcL1 valD (by tm_at "ed") (by show 5 ≤ 40000; decide) (fun _ => rfl) fun d hd v H1 ex hv => ?gd)) rfl) fun v8 A8 B8 P8 hv8 => ?_
      case gd =>
        simp only [List.mem_cons, List.not_mem_nil, or_false] at hd
        rcases hd with rfl | rfl | rfl | rfl | rfl
        · exact ed_intS (by tm_at "ed") i1 (by omega)
        · exact ed_intS (by tm_at "ed") i3 (by omega)
        · exact ed_intS (by tm_at "ed") i5 (by omega)
        · exact ed_intS (by tm_at "ed") i6 (by omega)
        · exact ed_intS (by tm_at "ed") i8 (by omega)
      refine q_ifE K (b := true) P8.s (by tm_at "et") (by rfl) (fun _ B9 P9 => ?_) (fun h => by cases h)
      refine s_retK K P9.s (by tm_at "ed") rfl fun v A' B' P10 hv => k _ hp v A' B' (by tm_at "pr") ?_
      rw [numO_good g1, numO_good g3, numO_good g5, numO_good g6, numO_good g8]
      exact hv
    · refine q_ifE K (b := true) P1.s (eb_or (a := true) (b := true) (eb_is (by tm_at "et") ?_) fun h => by cases h) rfl (fun _ B2 P2 => s_retK K P2.s ed_non (show (PyData.none : D) = dueD none from rfl) fun v A' B' P6 hv => k none (parseW_none h6 h9) v A' B' (by tm_at "pr") hv) (fun h => by cases h)
      rw [List.length_map]
      simp
      omega
end

end K5

namespace K5
open PySem L2 Evl Ob

local macro_rules | `(tactic| tm_at "sh") => `(tactic| first | exact sh_mk | exact sh_mks | exact sh_b3)

local macro_rules | `(tactic| tm_at "fn") => `(tactic| first | exact at_num _ | exact at_sign _ | exact at_whole _ | exact at_mark _)

/-! ## read, or refused -/
structure ShIn where
  w : Str
  l : Int
  a : Int
  b : Int
  m : Option Mk
theorem isWord_of {x : Str} (h : isWord x = true) : x = "letter" ∨ x = "number" ∨ x = "mark" := by
  unfold isWord at h
  simp only [List.any_cons, List.any_nil, Bool.or_false, eqv_strB, Bool.or_eq_true, beq_iff_eq] at h
  rcases h with h | h | h
  · exact .inl h.symm
  · exact .inr (.inl h.symm)
  · exact .inr (.inr h.symm)
theorem numO_some {x : Str} {d : D} (h : numO x = some d) : ∃ i, d = .int i := by
  unfold numO at h
  split at h
  · cases h; exact ⟨_, rfl⟩
  · cases h
theorem consO_some {r : Option D} {q : Option (List D)} {ds : List D} (h : consO r q = some ds) : ∃ d es, r = some d ∧ q = some es ∧ ds = d :: es := by
  cases r <;> cases q <;> simp only [consO] at h <;> cases h
  exact ⟨_, _, rfl, rfl, rfl⟩
/-- what is read is a mail -/
theorem parse_mail {x : Str} {d : D} (h : parse x = some d) : ∃ (w : Str) (l a b : Int) (m : Option Mk), d = mailD w l a b m ∧ (w = "letter" ∨ w = "number" ∨ w = "mark") := by
  unfold parse at h
  generalize Txt.split x " " = ws at h
  unfold parseW at h
  split at h
  · rename_i w0 w1 w2 w3 w4 w5
    unfold parse6 at h
    split at h
    · cases h
    · rename_i hn
      have hw : isWord w0 = true := by
        cases e : isWord w0 with
        | true => rfl
        | false => rw [e] at hn; exact absurd rfl hn
      obtain ⟨ds, h1, rfl⟩ := Option.map_eq_some_iff.mp h
      obtain ⟨d0, e0, q0, h2, rfl⟩ := consO_some h1
      obtain ⟨d1, e1, q1, h3, rfl⟩ := consO_some h2
      obtain ⟨d2, e2, q2, h4, rfl⟩ := consO_some h3
      obtain ⟨d3, e3, q3, h5, rfl⟩ := consO_some h4
      cases q0
      cases h5
      obtain ⟨i1, rfl⟩ := numO_some q1
      obtain ⟨i2, rfl⟩ := numO_some q2
      obtain ⟨i3, rfl⟩ := numO_some q3
      exact ⟨w0, i1, i2, i3, none, rfl, isWord_of hw⟩
  · rename_i w0 w1 w2 w3 w4 w5 w6 w7 w8
    unfold parse9 at h
    split at h
    · cases h
    · rename_i hn
      have hw : isWord w0 = true := by
        cases e : isWord w0 with
        | true => rfl
        | false => rw [e] at hn; exact absurd rfl hn
      split at h
      · cases h
      · split at h
        · cases h
        · rename_i mk hm
          obtain ⟨ms, hm1, rfl⟩ := Option.map_eq_some_iff.mp hm
          obtain ⟨m0, f0, r0, hm2, rfl⟩ := consO_some hm1
          obtain ⟨m1, f1, r1, hm3, rfl⟩ := consO_some hm2
          cases hm3
          obtain ⟨j0, rfl⟩ := numO_some r0
          obtain ⟨j1, rfl⟩ := numO_some r1
          obtain ⟨ds, h1, rfl⟩ := Option.map_eq_some_iff.mp h
          obtain ⟨d0, e0, q0, h2, rfl⟩ := consO_some h1
          obtain ⟨d1, e1, q1, h3, rfl⟩ := consO_some h2
          obtain ⟨d2, e2, q2, h4, rfl⟩ := consO_some h3
          obtain ⟨d3, e3, q3, h5, rfl⟩ := consO_some h4
          cases q0
          cases h5
          obtain ⟨i1, rfl⟩ := numO_some q1
          obtain ⟨i2, rfl⟩ := numO_some q2
          obtain ⟨i3, rfl⟩ := numO_some q3
          exact ⟨w0, i1, i2, i3, some (j0, j1), rfl, isWord_of hw⟩
  · cases h
theorem strOk_word {w : Str} (hw : w = "letter" ∨ w = "number" ∨ w = "mark") : PyData.strOk w = true := by
  rcases hw with rfl | rfl | rfl <;> decide +kernel
theorem sh_mail {w : Str} {l a b : Int} {m : Option Mk} (h : PyData.strOk w = true) : SeqAt.shaped (mailD w l a b m) = true := ShN.sh (n := 2) (shn_tup fun d hd => by
  simp only [List.mem_cons, List.not_mem_nil, or_false] at hd
  rcases hd with rfl | rfl | rfl | rfl | rfl
  · exact shn_str h
  · exact shn_int
  · exact shn_int
  · exact shn_int
  · cases m with
    | none => exact shn_non
    | some m => exact shn_mk) (by decide)
theorem sh_due (x : Str) : SeqAt.shaped (dueD (parse x)) = true := by
  cases h : parse x with
  | none => exact (shn_non (n := 0)).sh (by decide)
  | some d =>
    obtain ⟨w, l, a, b, m, rfl, hw⟩ := parse_mail h
    exact sh_mail (strOk_word hw)
section
variable {P : Program} {w : World} {K : PySem.W.Frag} {mg : Str → Option Value} {base : Heap} {c : Cs}
def sp_mail (K : PySem.W.Frag) : Sp := spF K (fun x : ShIn => [mailD x.w x.l x.a x.b x.m]) (fun _ => True) (fun _ => .bool true)
theorem at_mail {w : Str} {l a b : Int} {m : Option Mk} : SpD K (sp_mail K) [mailD w l a b m] (.bool true) := spF_at (ShIn.mk w l a b m) trivial
theorem ok_mail (T : Tx K mg c) : DefOk P w K mg base CX0 3 "_law_mail" ["_law_found"] (sp_mail K) := by
  obtain ⟨f, fd, d⟩ := T.d_law_mail
  refine d.ok (d.F.ok sc_law_mail (fun vs H Q E h => spF_len h fun _ => rfl) fun cdv A outer s H vs Q E hr h => ?_)
  obtain ⟨A0, ⟨wd, l, a, b, m⟩, _, s0, ha, k⟩ := h
  obtain ⟨v1, rfl, h1⟩ := dpa1 ha
  have nd := sc_law_mail.nd
  have G_law_whole := ok_whole (P := P) (w := w) (base := base) T
  have G_law_mark := ok_mark (P := P) (w := w) (base := base) T
  refine ⟨_, (pss_cons (ps_if (PW.pt (pw_or (pt_not (pt_val (pe_callB (c_isi (K := K) rfl) rfl T.mn_isinstance (by decide +kernel) (pa_cons (pv 0) (pa_cons (pe_ty (T := "tuple") rfl T.mn_tuple (by decide +kernel)) pa_nil))))) (pw_or (pt_cmpR op_ne (pe_callB (c_len (K := K) rfl) rfl T.mn_len (by decide +kernel) (pa_cons (pv 0) pa_nil)) pe_int (nomark _)) (pw_or1 (pt_not (pt_val (pe_callB (c_isi (K := K) rfl) rfl T.mn_isinstance (by decide +kernel) (pa_cons (pe_ix (ixT (K := K) rfl) (pv 0) pe_int (fun _ _ => rfl)) (pa_cons (pe_ty (T := "str") rfl T.mn_str (by decide +kernel)) pa_nil))))))))) (pss_one (ps_ret pe_bl)) pss_nil)
      (pss_cons (ps_if (PW.pt (pw_or (pt_not (pt_val (pe_cd G_law_whole (hr.mono (by decide)) rfl pass0 (pa_cons (pe_ix (ixT (K := K) rfl) (pv 0) pe_int (fun _ _ => rfl)) pa_nil)))) (pw_or (pt_not (pt_val (pe_cd G_law_whole (hr.mono (by decide)) rfl pass0 (pa_cons (pe_ix (ixT (K := K) rfl) (pv 0) pe_int (fun _ _ => rfl)) pa_nil)))) (pw_or1 (pt_not (pt_val (pe_cd G_law_whole (hr.mono (by decide)) rfl pass0 (pa_cons (pe_ix (ixT (K := K) rfl) (pv 0) pe_int (fun _ _ => rfl)) pa_nil)))))))) (pss_one (ps_ret pe_bl)) pss_nil)
      (pss_one (ps_ret (pe_or (pe_cmpR op_isN1 (pe_ix (ixT (K := K) rfl) (pv 0) pe_int (fun _ _ => rfl)) pe_non (nomark _)) (pe_one (pe_cd G_law_mark (hr.mono (by decide)) rfl pass0 (pa_cons (pe_ix (ixT (K := K) rfl) (pv 0) pe_int (fun _ _ => rfl)) pa_nil)))))))), ?_⟩
  try dsimp only [cx_K]
  try dsimp only at h1
  refine q_ifE K (b := false) s0 (by tm_at "et") (by rfl) (fun h => by cases h) (fun _ B1 P1 => q_next ?_)
  refine q_ifE K (b := false) P1.s (by tm_at "et") (by rfl) (fun h => by cases h) (fun _ B2 P2 => q_next ?_)
  cases m with
  | none => exact s_retK K P2.s (by tm_at "ed") (by rfl) fun v A' B' P6 hv => k v A' B' (by tm_at "pr") hv
  | some m => exact s_retK K P2.s (by tm_at "ed") (by rfl) fun v A' B' P6 hv => k v A' B' (by tm_at "pr") hv
def sp_told (K : PySem.W.Frag) : Sp := spF K (fun x : Str => [.str x]) (fun x => x.length ≤ 900) (fun x => dueD (parse x))
theorem at_told {x : Str} (h : x.length ≤ 900) : SpD K (sp_told K) [.str x] (dueD (parse x)) := spF_at x h
theorem ok_told (T : Tx K mg c) : DefOk P w K mg base CX0 3 "_law_told" ["_law_text_here"] (sp_told K) := by
  obtain ⟨f, fd, d⟩ := T.d_law_told
  refine d.ok (d.F.ok sc_law_told (fun vs H Q E h => spF_len h fun _ => rfl) fun cdv A outer s H vs Q E hr h => ?_)
  obtain ⟨A0, x, hx, s0, ha, k⟩ := h
  obtain ⟨v1, rfl, h1⟩ := dpa1 ha
  cases h1
  have nd := sc_law_told.nd
  have G_read := ok_read (P := P) (w := w) (base := base) T
  have G_law_only := ok_only (P := P) (w := w) (base := base) T
  refine ⟨_, (pss_one (L2N.ps_try_as (i := 1) rfl rfl nd rfl rfl ⟨rfl, by decide, Or.inl T.x_BellError.g⟩ takes0 (fun W pn xe tk po => (pss_one (ps_ret (pe_cs G_read (hr.mono (by decide)) rfl (fun σ => L2N.passAt tk σ) (pa_cons (pv 0) pa_nil))))) (fun a oe cls d pn hz hf => (pss_cons (ps_if (pt_val (pe_callZ (E := fun _ => E0) G_law_only (hr.mono (by decide)) hz hf rfl passA0 (pa_cons (pv 1) (pa_cons pe_str pa_nil)))) (pss_one (ps_ret pe_non)) pss_nil)
          (pss_one (ps_ret pe_str)))))), ?_⟩
  try dsimp only [cx_K]
  have hx : x.length ≤ 900 := hx
  refine s_retX K s0 (ex_callS (by tm_at "ea") (at_read ⟨hx, fun y hy => Nat.le_trans (split_len hy) hx⟩) fun _ z => z) (fun d hd v A' B' P hv => k v A' B' P (by show Dp K A' v (dueD (parse x)); rw [hd]; exact hv)) fun hn B' e => ?_
  refine ⟨true, T.i_NoNote.e, fun _ a na => ?_, fun z => by cases z⟩
  refine q_ifE K (b := true) (s0.trans e) (eb_DB (ed_only T.i_NoNote rfl (by tm_at "ed"))) (by decide) (fun _ B2 P2 => ?_) (fun z => by cases z)
  refine s_retK K P2.s ed_non rfl fun v A' B'' P3 hv => k v A' B'' ?_ (by show Dp K A' v (dueD (parse x)); rw [hn]; exact hv)
  exact (Pr.up s0 (e.trans P2.e)).trans P3
end
local macro_rules | `(tactic| tm_at "fn") => `(tactic| first | exact at_text | exact at_due (by assumption) | exact at_told (by assumption))
/-! ## the law -/
theorem cut4 (ns : List Int) (k : Int) (h0 : 0 ≤ k) (h5 : k + 4 ≤ ns.length) : ∃ c0 c1 c2 c3, cutL (ns.map PyData.int) (some k) (some (k + 4)) = [.int c0, .int c1, .int c2, .int c3] := by
  obtain ⟨n, rfl⟩ : ∃ n : Nat, k = (n : Int) := ⟨k.toNat, by omega⟩
  have hl : (cutL ns (some (n : Int)) (some ((n : Int) + 4))).length = 4 := by
    unfold cutL
    rw [HT.sIx_nat, show (n : Int) + 4 = ((n + 4 : Nat) : Int) by omega, HT.sIx_nat, List.length_take, List.length_drop]
    omega
  rw [cutL_map]
  match cutL ns (some (n : Int)) (some ((n : Int) + 4)), hl with
  | [a, b, c, d], _ => exact ⟨a, b, c, d, rfl⟩
section
variable {P : Program} {w : World} {K : PySem.W.Frag} {mg : Str → Option Value} {base : Heap} {c : Cs}
def sp_law (K : PySem.W.Frag) : Sp := fun vs H Q _ => ∃ (a : Addr) (ns : List Int), vs = [.ref a] ∧ SqL K H a (ns.map V.int) ∧ ns.length ≤ 63 ∧ ∀ H', Q (.bl true) H'
theorem ok_law {f : Addr} {fd : FuncData} (T : Tx K mg c) (F : Fun K "law" "law" s_law f fd) : FnOk P w K mg base CX0 4 f fd ["_law_script"] (sp_law K) := by
  refine F.ok sc_law (fun vs H Q E h => ?_) fun cdv A outer s H vs Q E hr h => ?_
  · obtain ⟨a, ns, rfl, _⟩ := h; rfl
  obtain ⟨a, ns, rfl, hS, hlen, k⟩ := h
  have s0 : Ex H H := Ex.refl H
  have h1 : Dp K H (.ref a) (.list (ns.map .int)) := .lst hS dpa_ints
  have nd := sc_law.nd
  have G_law_text := ok_text (P := P) (w := w) (base := base) T
  have G_law_bent := ok_bent (P := P) (w := w) (base := base) T
  have G_law_due := ok_due (P := P) (w := w) (base := base) T
  have G_law_told := ok_told (P := P) (w := w) (base := base) T
  have G_law_mail := ok_mail (P := P) (w := w) (base := base) T
  refine ⟨_, (pss_cons (ps_for PassesOwn.never rfl (pi_range3 rfl T.mn_range (pa_cons pe_int (pa_cons (pe_op op_sub (pe_callB (c_len (K := K) rfl) rfl T.mn_len (by decide +kernel) (pa_cons (pv 0) pa_nil)) pe_int) (pa_cons pe_int pa_nil)))) (pg_name (i := 1) nd rfl (Or.inl rfl)) (pss_cons (ps_set (i := 2) nd rfl (Or.inl rfl) (pe_cd G_law_text (hr.mono (by decide)) rfl pass0 (pa_cons (pe_slice (slL (K := K) rfl) (pv 0) (po_some (pv 1)) (po_some (pe_op op_add (pv 1) pe_int))) pa_nil)))
        (pss_cons (ps_set (i := 2) nd rfl (Or.inl rfl) (pe_cd G_law_bent (hr.mono (by decide)) rfl pass0 (pa_cons (pv 2) (pa_cons (pe_op op_fdiv (pe_ix (ixL (K := K) rfl) (pv 0) (pe_op op_add (pv 1) pe_int) (fun _ _ => rfl)) pe_int) (pa_cons (pe_ix (ixL (K := K) rfl) (pv 0) (pe_op op_add (pv 1) pe_int) (fun _ _ => rfl)) pa_nil)))))
        (pss_cons (ps_set (i := 3) nd rfl (Or.inl rfl) (pe_cd G_law_due (hr.mono (by decide)) rfl pass0 (pa_cons (pv 2) pa_nil)))
        (pss_cons (ps_set (i := 4) nd rfl (Or.inl rfl) (pe_cd G_law_told (hr.mono (by decide)) rfl pass0 (pa_cons (pv 2) pa_nil)))
        (pss_one (ps_if (PW.pt (pw_or (pt_cmpR (o_neD (K := K) rfl hr.units) (pv 4) (pv 3) (nomark _)) (pw_or1 (PW.pt (pw_and (pt_cmpR op_notN1 (pv 3) pe_non (nomark _)) (pw_and1 (pt_not (pt_val (pe_cd G_law_mail (hr.mono (by decide)) rfl pass0 (pa_cons (pv 4) pa_nil)))))))))) (pss_one (ps_ret pe_bl)) pss_nil)))))))
      (pss_one (ps_ret pe_bl))), ?_⟩
  try dsimp only [cx_K]
  refine q_forR3 K s0 (lo := 0) (hi := ((ns.map PyData.int).length : Int) - 3) (c := 4) (by tm_at "ea") (by decide) (by rw [List.length_map]; omega)
    (fun i σ A' _ => ∃ w1 w2 w3 w4, σ = [some (.ref a), w1, w2, w3, w4]) ?_ ?_ ?_
  · exact fun A1 B1 P1 => ⟨_, _, _, _, rfl⟩
  · rintro A1 B1 P1 i σ A2 B2 hi P2 ⟨w1, w2, w3, w4, rfl⟩
    rw [List.length_map] at hi
    have hk3 := cell_at (ns := ns) (k := 0 + (i : Int) * 4 + 3) (by omega) (by omega)
    have hk2 := cell_at (ns := ns) (k := 0 + (i : Int) * 4 + 2) (by omega) (by omega)
    obtain ⟨c0, c1, c2, c3, hc⟩ := cut4 ns (0 + (i : Int) * 4) (by omega) (by omega)
    refine q_asgD K P2.s (ed_call (ea_consD (ed_is (by tm_at "ed") (congrArg PyData.list hc)) ea_nilD) at_text) fun x2 A3 B3 P3 hx2 => ?_
    have ht := textW_len c0 c1 c2 c3
    generalize textW c0 c1 c2 c3 = t at ht hx2
    refine q_asgD K P3.s (ed_call (by tm_at "ea") (at_bent ht)) fun x3 A4 B4 P4 hx3 => ?_
    have hb := Nat.le_trans (bentW_len (t := t) (cell ns (0 + (i : Int) * 4 + 3) / 3) (cell ns (0 + (i : Int) * 4 + 2)) ht.2) (show 500 ≤ 900 by decide)
    generalize bentW t (cell ns (0 + (i : Int) * 4 + 3) / 3) (cell ns (0 + (i : Int) * 4 + 2)) = y at hb hx3
    refine q_asgD K P4.s (d := dueD (parse y)) (by tm_at "ed") fun x4 A5 B5 P5 hx4 => ?_
    refine q_asgD K P5.s (d := dueD (parse y)) (ed_call (by tm_at "ea") (at_told hb)) fun x5 A6 B6 P6 hx5 => ?_
    have hs := sh_due y
    have hq : PyData.eqv (dueD (parse y)) (dueD (parse y)) = true := eqv_refl hs
    refine s_ifE K (b := false) P6.s (eb_or (a := false) (b := false) (eb_is (eb_D (ed_neD (by tm_at "ed") (by tm_at "ed") hs hs)) (by rw [hq]; rfl)) fun _ => ?_) rfl (fun h => by cases h) (fun _ B7 P7 => ?_)
    · cases hp : parse y with
      | none =>
        rw [hp] at hx4 hx5
        have hx4 : Dp K A5 x4 .none := hx4
        exact eb_is (eb_and (a := false) (b := false) (eb_is (by tm_at "et") (by rfl)) fun h => by cases h) rfl
      | some d =>
        obtain ⟨w', l, a', b, m, rfl, hw⟩ := parse_mail hp
        rw [hp] at hx4 hx5
        have hx4 : Dp K A5 x4 (mailD w' l a' b m) := hx4
        have hx5 : Dp K A6 x5 (mailD w' l a' b m) := hx5
        exact eb_is (eb_and (a := true) (b := false) (eb_is (by tm_at "et") (by rfl)) fun h => eb_is (eb_not (eb_D (ed_call (by tm_at "ea") at_mail))) rfl) rfl
    exact ⟨_, by tm_at "pr", _, _, _, _, rfl⟩
  · rintro A1 B1 σ A2 B2 P1 P2 ⟨w1, w2, w3, w4, rfl⟩
    exact s_retK K P2.s (by tm_at "ed") (by rfl) fun v A' B' P6 hv => by cases hv; exact k _
end

end K5

namespace K5
open PySem L2 Evl Ob
theorem all_mk {l : PySem.W.OpenLaw} {w : World} {K : PySem.W.Frag} {h : Heap} {mg : Str → Option Value} {fa : Addr} (X : K.In h) (G : h.Ns mainGlobals mg) (hfa : mg "law" = some (.ref fa))
    {f0 : Addr} {od0 an0 : Option Addr} {sl0 : Array (Option Value)} {oc0 kV0 dc0 pm0 cd0 ct0 : Value}
    {f1 : Addr} {od1 an1 : Option Addr} {sl1 : Array (Option Value)} {oc1 kV1 dc1 pm1 cd1 ct1 : Value}
    {f2 : Addr} {od2 an2 : Option Addr} {sl2 : Array (Option Value)} {oc2 kV2 dc2 pm2 cd2 ct2 : Value}
    {f3 : Addr} {od3 an3 : Option Addr} {sl3 : Array (Option Value)} {oc3 kV3 dc3 pm3 cd3 ct3 : Value}
    {f4 : Addr} {od4 an4 : Option Addr} {sl4 : Array (Option Value)} {oc4 kV4 dc4 pm4 cd4 ct4 : Value}
    {f5 : Addr} {od5 an5 : Option Addr} {sl5 : Array (Option Value)} {oc5 kV5 dc5 pm5 cd5 ct5 : Value}
    {f6 : Addr} {od6 an6 : Option Addr} {sl6 : Array (Option Value)} {oc6 kV6 dc6 pm6 cd6 ct6 : Value}
    {f7 : Addr} {od7 an7 : Option Addr} {sl7 : Array (Option Value)} {oc7 kV7 dc7 pm7 cd7 ct7 : Value}
    {f8 : Addr} {od8 an8 : Option Addr} {sl8 : Array (Option Value)} {oc8 kV8 dc8 pm8 cd8 ct8 : Value}
    {f9 : Addr} {od9 an9 : Option Addr} {sl9 : Array (Option Value)} {oc9 kV9 dc9 pm9 cd9 ct9 : Value}
    {f10 : Addr} {od10 an10 : Option Addr} {sl10 : Array (Option Value)} {oc10 kV10 dc10 pm10 cd10 ct10 : Value}
    {f11 : Addr} {od11 an11 : Option Addr} {sl11 : Array (Option Value)} {oc11 kV11 dc11 pm11 cd11 ct11 : Value}
    {f12 : Addr} {od12 an12 : Option Addr} {sl12 : Array (Option Value)} {oc12 kV12 dc12 pm12 cd12 ct12 : Value}
    {f13 : Addr} {od13 an13 : Option Addr} {sl13 : Array (Option Value)} {oc13 kV13 dc13 pm13 cd13 ct13 : Value}
    {C_BellError : Addr}
    {C_BadCount : Addr}
    {C_NoHand : Addr}
    {C_NoLetter : Addr}
    {C_NoMail : Addr}
    {C_Twice : Addr}
    {C_NotOpen : Addr}
    {C_BadMark : Addr}
    {C_NoNote : Addr}
    {tk_MOST_FIGURES : Tok}
    (a0 : PySem.W.nsIn K mainGlobals "number_of" = some (some (.ref f0))) (l0 : K.lookup f0 = some ⟨oc0, od0, .func (PySem.W.fnOf "number_of" "number_of" (defArgs s_number_of) (defBody s_number_of) (defScope s_number_of) .none kV0 dc0 pm0 an0 cd0 ct0), sl0⟩) (c0 : PySem.W.codeIn K cd0 "number_of" = true) (k0 : PySem.W.keepIn K (.ref f0) = true)
    (a1 : PySem.W.nsIn K mainGlobals "read" = some (some (.ref f1))) (l1 : K.lookup f1 = some ⟨oc1, od1, .func (PySem.W.fnOf "read" "read" (defArgs s_read) (defBody s_read) (defScope s_read) .none kV1 dc1 pm1 an1 cd1 ct1), sl1⟩) (c1 : PySem.W.codeIn K cd1 "read" = true) (k1 : PySem.W.keepIn K (.ref f1) = true)
    (a2 : PySem.W.nsIn K mainGlobals "_law_whole" = some (some (.ref f2))) (l2 : K.lookup f2 = some ⟨oc2, od2, .func (PySem.W.fnOf "_law_whole" "_law_whole" (defArgs s_law_whole) (defBody s_law_whole) (defScope s_law_whole) .none kV2 dc2 pm2 an2 cd2 ct2), sl2⟩) (c2 : PySem.W.codeIn K cd2 "_law_whole" = true) (k2 : PySem.W.keepIn K (.ref f2) = true)
    (a3 : PySem.W.nsIn K mainGlobals "_law_mark" = some (some (.ref f3))) (l3 : K.lookup f3 = some ⟨oc3, od3, .func (PySem.W.fnOf "_law_mark" "_law_mark" (defArgs s_law_mark) (defBody s_law_mark) (defScope s_law_mark) .none kV3 dc3 pm3 an3 cd3 ct3), sl3⟩) (c3 : PySem.W.codeIn K cd3 "_law_mark" = true) (k3 : PySem.W.keepIn K (.ref f3) = true)
    (a4 : PySem.W.nsIn K mainGlobals "_law_mail" = some (some (.ref f4))) (l4 : K.lookup f4 = some ⟨oc4, od4, .func (PySem.W.fnOf "_law_mail" "_law_mail" (defArgs s_law_mail) (defBody s_law_mail) (defScope s_law_mail) .none kV4 dc4 pm4 an4 cd4 ct4), sl4⟩) (c4 : PySem.W.codeIn K cd4 "_law_mail" = true) (k4 : PySem.W.keepIn K (.ref f4) = true)
    (a5 : PySem.W.nsIn K mainGlobals "_law_sign" = some (some (.ref f5))) (l5 : K.lookup f5 = some ⟨oc5, od5, .func (PySem.W.fnOf "_law_sign" "_law_sign" (defArgs s_law_sign) (defBody s_law_sign) (defScope s_law_sign) .none kV5 dc5 pm5 an5 cd5 ct5), sl5⟩) (c5 : PySem.W.codeIn K cd5 "_law_sign" = true) (k5 : PySem.W.keepIn K (.ref f5) = true)
    (a6 : PySem.W.nsIn K mainGlobals "_law_number" = some (some (.ref f6))) (l6 : K.lookup f6 = some ⟨oc6, od6, .func (PySem.W.fnOf "_law_number" "_law_number" (defArgs s_law_number) (defBody s_law_number) (defScope s_law_number) .none kV6 dc6 pm6 an6 cd6 ct6), sl6⟩) (c6 : PySem.W.codeIn K cd6 "_law_number" = true) (k6 : PySem.W.keepIn K (.ref f6) = true)
    (a7 : PySem.W.nsIn K mainGlobals "_law_text" = some (some (.ref f7))) (l7 : K.lookup f7 = some ⟨oc7, od7, .func (PySem.W.fnOf "_law_text" "_law_text" (defArgs s_law_text) (defBody s_law_text) (defScope s_law_text) .none kV7 dc7 pm7 an7 cd7 ct7), sl7⟩) (c7 : PySem.W.codeIn K cd7 "_law_text" = true) (k7 : PySem.W.keepIn K (.ref f7) = true)
    (a8 : PySem.W.nsIn K mainGlobals "_law_bent" = some (some (.ref f8))) (l8 : K.lookup f8 = some ⟨oc8, od8, .func (PySem.W.fnOf "_law_bent" "_law_bent" (defArgs s_law_bent) (defBody s_law_bent) (defScope s_law_bent) .none kV8 dc8 pm8 an8 cd8 ct8), sl8⟩) (c8 : PySem.W.codeIn K cd8 "_law_bent" = true) (k8 : PySem.W.keepIn K (.ref f8) = true)
    (a9 : PySem.W.nsIn K mainGlobals "_law_good" = some (some (.ref f9))) (l9 : K.lookup f9 = some ⟨oc9, od9, .func (PySem.W.fnOf "_law_good" "_law_good" (defArgs s_law_good) (defBody s_law_good) (defScope s_law_good) .none kV9 dc9 pm9 an9 cd9 ct9), sl9⟩) (c9 : PySem.W.codeIn K cd9 "_law_good" = true) (k9 : PySem.W.keepIn K (.ref f9) = true)
    (a10 : PySem.W.nsIn K mainGlobals "_law_due" = some (some (.ref f10))) (l10 : K.lookup f10 = some ⟨oc10, od10, .func (PySem.W.fnOf "_law_due" "_law_due" (defArgs s_law_due) (defBody s_law_due) (defScope s_law_due) .none kV10 dc10 pm10 an10 cd10 ct10), sl10⟩) (c10 : PySem.W.codeIn K cd10 "_law_due" = true) (k10 : PySem.W.keepIn K (.ref f10) = true)
    (a11 : PySem.W.nsIn K mainGlobals "_law_only" = some (some (.ref f11))) (l11 : K.lookup f11 = some ⟨oc11, od11, .func (PySem.W.fnOf "_law_only" "_law_only" (defArgs s_law_only) (defBody s_law_only) (defScope s_law_only) .none kV11 dc11 pm11 an11 cd11 ct11), sl11⟩) (c11 : PySem.W.codeIn K cd11 "_law_only" = true) (k11 : PySem.W.keepIn K (.ref f11) = true)
    (a12 : PySem.W.nsIn K mainGlobals "_law_told" = some (some (.ref f12))) (l12 : K.lookup f12 = some ⟨oc12, od12, .func (PySem.W.fnOf "_law_told" "_law_told" (defArgs s_law_told) (defBody s_law_told) (defScope s_law_told) .none kV12 dc12 pm12 an12 cd12 ct12), sl12⟩) (c12 : PySem.W.codeIn K cd12 "_law_told" = true) (k12 : PySem.W.keepIn K (.ref f12) = true)
    (a13 : PySem.W.nsIn K mainGlobals "law" = some (some (.ref f13))) (l13 : K.lookup f13 = some ⟨oc13, od13, .func (PySem.W.fnOf "law" "law" (defArgs s_law) (defBody s_law) (defScope s_law) .none kV13 dc13 pm13 an13 cd13 ct13), sl13⟩) (c13 : PySem.W.codeIn K cd13 "law" = true) (k13 : PySem.W.keepIn K (.ref f13) = true)
    (g_BellError : PySem.W.nsIn K mainGlobals "BellError" = some (some (.ref C_BellError))) (e_BellError : PySem.W.keepIn K (.ref C_BellError) = true)
    (x_BellError : PySem.W.excIn K C_BellError [.type "ValueError", .type "Exception", .type "BaseException", .type "object"] "ValueError.__new__" = true) (s_BellError : PySem.W.subIn K (.ref C_BellError) (.type "BaseException") = some true) (t_BellError : PySem.W.typeIn K (.ref C_BellError) = some (.type "type"))
    (g_BadCount : PySem.W.nsIn K mainGlobals "BadCount" = some (some (.ref C_BadCount))) (e_BadCount : PySem.W.keepIn K (.ref C_BadCount) = true)
    (x_BadCount : PySem.W.excIn K C_BadCount [.type "ValueError", .type "Exception", .type "BaseException", .type "object"] "ValueError.__new__" = true) (s_BadCount : PySem.W.subIn K (.ref C_BadCount) (.type "BaseException") = some true) (t_BadCount : PySem.W.typeIn K (.ref C_BadCount) = some (.type "type"))
    (g_NoHand : PySem.W.nsIn K mainGlobals "NoHand" = some (some (.ref C_NoHand))) (e_NoHand : PySem.W.keepIn K (.ref C_NoHand) = true)
    (x_NoHand : PySem.W.excIn K C_NoHand [.type "ValueError", .type "Exception", .type "BaseException", .type "object"] "ValueError.__new__" = true) (s_NoHand : PySem.W.subIn K (.ref C_NoHand) (.type "BaseException") = some true) (t_NoHand : PySem.W.typeIn K (.ref C_NoHand) = some (.type "type"))
    (g_NoLetter : PySem.W.nsIn K mainGlobals "NoLetter" = some (some (.ref C_NoLetter))) (e_NoLetter : PySem.W.keepIn K (.ref C_NoLetter) = true)
    (x_NoLetter : PySem.W.excIn K C_NoLetter [.type "ValueError", .type "Exception", .type "BaseException", .type "object"] "ValueError.__new__" = true) (s_NoLetter : PySem.W.subIn K (.ref C_NoLetter) (.type "BaseException") = some true) (t_NoLetter : PySem.W.typeIn K (.ref C_NoLetter) = some (.type "type"))
    (g_NoMail : PySem.W.nsIn K mainGlobals "NoMail" = some (some (.ref C_NoMail))) (e_NoMail : PySem.W.keepIn K (.ref C_NoMail) = true)
    (x_NoMail : PySem.W.excIn K C_NoMail [.type "ValueError", .type "Exception", .type "BaseException", .type "object"] "ValueError.__new__" = true) (s_NoMail : PySem.W.subIn K (.ref C_NoMail) (.type "BaseException") = some true) (t_NoMail : PySem.W.typeIn K (.ref C_NoMail) = some (.type "type"))
    (g_Twice : PySem.W.nsIn K mainGlobals "Twice" = some (some (.ref C_Twice))) (e_Twice : PySem.W.keepIn K (.ref C_Twice) = true)
    (x_Twice : PySem.W.excIn K C_Twice [.type "ValueError", .type "Exception", .type "BaseException", .type "object"] "ValueError.__new__" = true) (s_Twice : PySem.W.subIn K (.ref C_Twice) (.type "BaseException") = some true) (t_Twice : PySem.W.typeIn K (.ref C_Twice) = some (.type "type"))
    (g_NotOpen : PySem.W.nsIn K mainGlobals "NotOpen" = some (some (.ref C_NotOpen))) (e_NotOpen : PySem.W.keepIn K (.ref C_NotOpen) = true)
    (x_NotOpen : PySem.W.excIn K C_NotOpen [.type "ValueError", .type "Exception", .type "BaseException", .type "object"] "ValueError.__new__" = true) (s_NotOpen : PySem.W.subIn K (.ref C_NotOpen) (.type "BaseException") = some true) (t_NotOpen : PySem.W.typeIn K (.ref C_NotOpen) = some (.type "type"))
    (g_BadMark : PySem.W.nsIn K mainGlobals "BadMark" = some (some (.ref C_BadMark))) (e_BadMark : PySem.W.keepIn K (.ref C_BadMark) = true)
    (x_BadMark : PySem.W.excIn K C_BadMark [.type "ValueError", .type "Exception", .type "BaseException", .type "object"] "ValueError.__new__" = true) (s_BadMark : PySem.W.subIn K (.ref C_BadMark) (.type "BaseException") = some true) (t_BadMark : PySem.W.typeIn K (.ref C_BadMark) = some (.type "type"))
    (g_NoNote : PySem.W.nsIn K mainGlobals "NoNote" = some (some (.ref C_NoNote))) (e_NoNote : PySem.W.keepIn K (.ref C_NoNote) = true)
    (x_NoNote : PySem.W.excIn K C_NoNote [.type "ValueError", .type "Exception", .type "BaseException", .type "object"] "ValueError.__new__" = true) (s_NoNote : PySem.W.subIn K (.ref C_NoNote) (.type "BaseException") = some true) (t_NoNote : PySem.W.typeIn K (.ref C_NoNote) = some (.type "type"))
    (i_hn : PySem.W.specialIn K (.builtin "object.__class__") "__get__" = some (some (.builtin "getset_descriptor.__get__")))
    (i_ht : PySem.W.takesIn K (.builtin "object.__class__") = some true)
    (hd_BellError : PySem.W.hasDictIn K C_BellError = true)
    (hd_BadCount : PySem.W.hasDictIn K C_BadCount = true)
    (hd_NoHand : PySem.W.hasDictIn K C_NoHand = true)
    (hd_NoLetter : PySem.W.hasDictIn K C_NoLetter = true)
    (hd_NoMail : PySem.W.hasDictIn K C_NoMail = true)
    (hd_Twice : PySem.W.hasDictIn K C_Twice = true)
    (hd_NotOpen : PySem.W.hasDictIn K C_NotOpen = true)
    (hd_BadMark : PySem.W.hasDictIn K C_BadMark = true)
    (hd_NoNote : PySem.W.hasDictIn K C_NoNote = true)
    (i_NoNote_hg : PySem.W.findIn K (.ref C_NoNote) "__getattribute__" = some (some (.builtin "BaseException.__getattribute__")))
    (i_NoNote_hk : PySem.W.findIn K (.ref C_NoNote) "__getattr__" = some none)
    (i_NoNote_ha : PySem.W.findIn K (.ref C_NoNote) "__class__" = some (some (.builtin "object.__class__")))
    (i_NoNote_hm : PySem.W.mroIn K C_NoNote (.type "object") = some true)
    (i_NoNote_v : PySem.W.subIn K (.ref C_NoNote) (.type "ValueError") = some true)
    (i_NoNote_b : PySem.W.subIn K (.ref C_NoNote) (.ref C_BellError) = some true)
    (i_NoNote_BadCount : PySem.W.subIn K (.ref C_NoNote) (.ref C_BadCount) = some false)
    (n_NoNote_BadCount : (C_NoNote == C_BadCount) = false)
    (i_NoNote_NoHand : PySem.W.subIn K (.ref C_NoNote) (.ref C_NoHand) = some false)
    (n_NoNote_NoHand : (C_NoNote == C_NoHand) = false)
    (i_NoNote_NoLetter : PySem.W.subIn K (.ref C_NoNote) (.ref C_NoLetter) = some false)
    (n_NoNote_NoLetter : (C_NoNote == C_NoLetter) = false)
    (i_NoNote_NoMail : PySem.W.subIn K (.ref C_NoNote) (.ref C_NoMail) = some false)
    (n_NoNote_NoMail : (C_NoNote == C_NoMail) = false)
    (i_NoNote_Twice : PySem.W.subIn K (.ref C_NoNote) (.ref C_Twice) = some false)
    (n_NoNote_Twice : (C_NoNote == C_Twice) = false)
    (i_NoNote_NotOpen : PySem.W.subIn K (.ref C_NoNote) (.ref C_NotOpen) = some false)
    (n_NoNote_NotOpen : (C_NoNote == C_NotOpen) = false)
    (i_NoNote_BadMark : PySem.W.subIn K (.ref C_NoNote) (.ref C_BadMark) = some false)
    (n_NoNote_BadMark : (C_NoNote == C_BadMark) = false)
    (z_int : PySem.W.nsIn K mainGlobals "int" = some none)
    (z_len : PySem.W.nsIn K mainGlobals "len" = some none)
    (z_isinstance : PySem.W.nsIn K mainGlobals "isinstance" = some none)
    (z_bool : PySem.W.nsIn K mainGlobals "bool" = some none)
    (z_tuple : PySem.W.nsIn K mainGlobals "tuple" = some none)
    (z_str : PySem.W.nsIn K mainGlobals "str" = some none)
    (z_all : PySem.W.nsIn K mainGlobals "all" = some none)
    (z_ValueError : PySem.W.nsIn K mainGlobals "ValueError" = some none)
    (z_range : PySem.W.nsIn K mainGlobals "range" = some none)
    (y_MOST_FIGURES : PySem.W.nsIn K mainGlobals "MOST_FIGURES" = some (some (.int 30 tk_MOST_FIGURES))) :
    ∃ fd : FuncData, (∀ (s : Shared) (v : Value), BindsTo s fd ⟨[v], []⟩ [("_law_script", v)]) ∧ ∀ base : Heap, K.In base → base.Ns mainGlobals mg → FnOk l.prog w K mg base CX0 4 fa fd ["_law_script"] (sp_law K) := by
  have e := hfa.symm.trans (PySem.W.mg_of X G a13)
  cases e
  have F0 := fun_mk (st := s_number_of) l0 c0 k0
  have b0 := F0.binds (ps := ["word"]) fun _ _ _ _ _ _ us hl => match us, hl with | [_], _ => rfl
  have F1 := fun_mk (st := s_read) l1 c1 k1
  have b1 := F1.binds (ps := ["text"]) fun _ _ _ _ _ _ us hl => match us, hl with | [_], _ => rfl
  have F2 := fun_mk (st := s_law_whole) l2 c2 k2
  have b2 := F2.binds (ps := ["_law_found"]) fun _ _ _ _ _ _ us hl => match us, hl with | [_], _ => rfl
  have F3 := fun_mk (st := s_law_mark) l3 c3 k3
  have b3 := F3.binds (ps := ["_law_found"]) fun _ _ _ _ _ _ us hl => match us, hl with | [_], _ => rfl
  have F4 := fun_mk (st := s_law_mail) l4 c4 k4
  have b4 := F4.binds (ps := ["_law_found"]) fun _ _ _ _ _ _ us hl => match us, hl with | [_], _ => rfl
  have F5 := fun_mk (st := s_law_sign) l5 c5 k5
  have b5 := F5.binds (ps := ["_law_cell"]) fun _ _ _ _ _ _ us hl => match us, hl with | [_], _ => rfl
  have F6 := fun_mk (st := s_law_number) l6 c6 k6
  have b6 := F6.binds (ps := ["_law_cell"]) fun _ _ _ _ _ _ us hl => match us, hl with | [_], _ => rfl
  have F7 := fun_mk (st := s_law_text) l7 c7 k7
  have b7 := F7.binds (ps := ["_law_cells"]) fun _ _ _ _ _ _ us hl => match us, hl with | [_], _ => rfl
  have F8 := fun_mk (st := s_law_bent) l8 c8 k8
  have b8 := F8.binds (ps := ["_law_text_here", "_law_cell", "_law_more"]) fun _ _ _ _ _ _ us hl => match us, hl with | [_, _, _], _ => rfl
  have F9 := fun_mk (st := s_law_good) l9 c9 k9
  have b9 := F9.binds (ps := ["_law_word"]) fun _ _ _ _ _ _ us hl => match us, hl with | [_], _ => rfl
  have F10 := fun_mk (st := s_law_due) l10 c10 k10
  have b10 := F10.binds (ps := ["_law_text_here"]) fun _ _ _ _ _ _ us hl => match us, hl with | [_], _ => rfl
  have F11 := fun_mk (st := s_law_only) l11 c11 k11
  have b11 := F11.binds (ps := ["_law_error", "_law_word"]) fun _ _ _ _ _ _ us hl => match us, hl with | [_, _], _ => rfl
  have F12 := fun_mk (st := s_law_told) l12 c12 k12
  have b12 := F12.binds (ps := ["_law_text_here"]) fun _ _ _ _ _ _ us hl => match us, hl with | [_], _ => rfl
  have F13 := fun_mk (st := s_law) l13 c13 k13
  have T : Tx K mg ⟨C_BellError, C_BadCount, C_NoHand, C_NoLetter, C_NoMail, C_Twice, C_NotOpen, C_BadMark, C_NoNote⟩ := ⟨⟨PySem.W.mg_of X G g_BellError, e_BellError, x_BellError, s_BellError, t_BellError⟩, ⟨PySem.W.mg_of X G g_BadCount, e_BadCount, x_BadCount, s_BadCount, t_BadCount⟩, ⟨PySem.W.mg_of X G g_NoHand, e_NoHand, x_NoHand, s_NoHand, t_NoHand⟩, ⟨PySem.W.mg_of X G g_NoLetter, e_NoLetter, x_NoLetter, s_NoLetter, t_NoLetter⟩, ⟨PySem.W.mg_of X G g_NoMail, e_NoMail, x_NoMail, s_NoMail, t_NoMail⟩, ⟨PySem.W.mg_of X G g_Twice, e_Twice, x_Twice, s_Twice, t_Twice⟩, ⟨PySem.W.mg_of X G g_NotOpen, e_NotOpen, x_NotOpen, s_NotOpen, t_NotOpen⟩, ⟨PySem.W.mg_of X G g_BadMark, e_BadMark, x_BadMark, s_BadMark, t_BadMark⟩, ⟨PySem.W.mg_of X G g_NoNote, e_NoNote, x_NoNote, s_NoNote, t_NoNote⟩, ⟨⟨i_NoNote_hg, i_NoNote_hk, s_NoNote, hd_NoNote, i_NoNote_ha, i_hn, i_ht, i_NoNote_hm⟩, kitV i_NoNote_v, PySem.W.exm_ref s_BellError hd_BellError t_BellError i_NoNote_b, kitF hd_BadCount t_BadCount i_NoNote_BadCount (kitN n_NoNote_BadCount), kitF hd_NoHand t_NoHand i_NoNote_NoHand (kitN n_NoNote_NoHand), kitF hd_NoLetter t_NoLetter i_NoNote_NoLetter (kitN n_NoNote_NoLetter), kitF hd_NoMail t_NoMail i_NoNote_NoMail (kitN n_NoNote_NoMail), kitF hd_Twice t_Twice i_NoNote_Twice (kitN n_NoNote_Twice), kitF hd_NotOpen t_NotOpen i_NoNote_NotOpen (kitN n_NoNote_NotOpen), kitF hd_BadMark t_BadMark i_NoNote_BadMark (kitN n_NoNote_BadMark), kitR⟩, ⟨_, _, F0, PySem.W.mg_of X G a0, b0⟩, ⟨_, _, F1, PySem.W.mg_of X G a1, b1⟩, ⟨_, _, F2, PySem.W.mg_of X G a2, b2⟩, ⟨_, _, F3, PySem.W.mg_of X G a3, b3⟩, ⟨_, _, F4, PySem.W.mg_of X G a4, b4⟩, ⟨_, _, F5, PySem.W.mg_of X G a5, b5⟩, ⟨_, _, F6, PySem.W.mg_of X G a6, b6⟩, ⟨_, _, F7, PySem.W.mg_of X G a7, b7⟩, ⟨_, _, F8, PySem.W.mg_of X G a8, b8⟩, ⟨_, _, F9, PySem.W.mg_of X G a9, b9⟩, ⟨_, _, F10, PySem.W.mg_of X G a10, b10⟩, ⟨_, _, F11, PySem.W.mg_of X G a11, b11⟩, ⟨_, _, F12, PySem.W.mg_of X G a12, b12⟩, PySem.W.mg_none_of X G z_int, PySem.W.mg_none_of X G z_len, PySem.W.mg_none_of X G z_isinstance, PySem.W.mg_none_of X G z_bool, PySem.W.mg_none_of X G z_tuple, PySem.W.mg_none_of X G z_str, PySem.W.mg_none_of X G z_all, PySem.W.mg_none_of X G z_ValueError, PySem.W.mg_none_of X G z_range, ⟨_, PySem.W.mg_of X G y_MOST_FIGURES⟩⟩
  exact ⟨PySem.W.fnOf "law" "law" (defArgs s_law) (defBody s_law) (defScope s_law) .none kV13 dc13 pm13 an13 cd13 ct13, fun s v => .of_eq rfl, fun base _ _ => ok_law T F13⟩
theorem walk {l : PySem.W.OpenLaw} {q : Program} {loose : List Str} {XP : (Str → Option Value) → Heap → Prop} {YP : World → Heap → Prop} {d : DefRec} {K : Params → PySem.W.Frag} (hn : l.most = some 63) (hdf : d.params.defaults = [])
    (hY : ∀ (w : World) (h : Heap), YP w h → (K w.params).In h)
    (F : ∀ (w : World) (mg : Str → Option Value) (fa : Addr) (h : Heap), (K w.params).In h → h.Ns mainGlobals mg → mg d.name = some (.ref fa) →
      ∃ fd : FuncData, (∀ (s : Shared) (u : Value), BindsTo s fd ⟨[u], []⟩ [("_law_script", u)]) ∧ ∀ base : Heap, (K w.params).In base → base.Ns mainGlobals mg → FnOk l.prog w (K w.params) mg base CX0 4 fa fd ["_law_script"] (sp_law (K w.params))) :
    PySem.W.WalkO q loose XP YP l.row.toRowW d [] (fun f vs => PySem.call f vs) :=
  L2.walk_of (n := 63) (k := 4) (x := "_law_script") (CX := fun _ => CX0) (sp := fun w => sp_law (K w.params)) hn (by decide) hdf ⟨rfl, by decide, by decide⟩ hY F (fun _ _ a ns hl _ hS => ⟨a, ns, rfl, hS, hl, fun _ => rfl⟩) fun _ _ _ _ _ z => z
end K5
open PySem PySem.W PyProof.Rows
set_option maxRecDepth 100000 in
set_option maxHeartbeats 0 in
theorem PySem.Challenge.cw_onebell_k05_what_writes_no_mail_holds : PySem.Challenge.rw_onebell_k05_what_writes_no_mail.Holds := by
  w_on; o_law; k_head; (case hw => w_witness2)
  k_fill
  refine K5.walk (l := PySem.Challenge.rw_onebell_k05_what_writes_no_mail) rfl rfl (fun w h Y => PySem.W.kIn_of Y) ?F
  case F =>
    intro w mg fa h KX G hmg
    refine' K5.all_mk KX G hmg ?a0 ?l0 ?c0 ?k0 ?a1 ?l1 ?c1 ?k1 ?a2 ?l2 ?c2 ?k2 ?a3 ?l3 ?c3 ?k3 ?a4 ?l4 ?c4 ?k4 ?a5 ?l5 ?c5 ?k5 ?a6 ?l6 ?c6 ?k6 ?a7 ?l7 ?c7 ?k7 ?a8 ?l8 ?c8 ?k8 ?a9 ?l9 ?c9 ?k9 ?a10 ?l10 ?c10 ?k10 ?a11 ?l11 ?c11 ?k11 ?a12 ?l12 ?c12 ?k12 ?a13 ?l13 ?c13 ?k13 ?g_BellError ?e_BellError ?x_BellError ?s_BellError ?t_BellError ?g_BadCount ?e_BadCount ?x_BadCount ?s_BadCount ?t_BadCount ?g_NoHand ?e_NoHand ?x_NoHand ?s_NoHand ?t_NoHand ?g_NoLetter ?e_NoLetter ?x_NoLetter ?s_NoLetter ?t_NoLetter ?g_NoMail ?e_NoMail ?x_NoMail ?s_NoMail ?t_NoMail ?g_Twice ?e_Twice ?x_Twice ?s_Twice ?t_Twice ?g_NotOpen ?e_NotOpen ?x_NotOpen ?s_NotOpen ?t_NotOpen ?g_BadMark ?e_BadMark ?x_BadMark ?s_BadMark ?t_BadMark ?g_NoNote ?e_NoNote ?x_NoNote ?s_NoNote ?t_NoNote ?i_hn ?i_ht ?hd_BellError ?hd_BadCount ?hd_NoHand ?hd_NoLetter ?hd_NoMail ?hd_Twice ?hd_NotOpen ?hd_BadMark ?hd_NoNote ?i_NoNote_hg ?i_NoNote_hk ?i_NoNote_ha ?i_NoNote_hm ?i_NoNote_v ?i_NoNote_b ?i_NoNote_BadCount ?n_NoNote_BadCount ?i_NoNote_NoHand ?n_NoNote_NoHand ?i_NoNote_NoLetter ?n_NoNote_NoLetter ?i_NoNote_NoMail ?n_NoNote_NoMail ?i_NoNote_Twice ?n_NoNote_Twice ?i_NoNote_NotOpen ?n_NoNote_NotOpen ?i_NoNote_BadMark ?n_NoNote_BadMark ?z_int ?z_len ?z_isinstance ?z_bool ?z_tuple ?z_str ?z_all ?z_ValueError ?z_range ?y_MOST_FIGURES
    (case a0 => k_is)
    (case l0 => k_is)
    (case c0 => k_is)
    (case k0 => k_is)
    (case a1 => k_is)
    (case l1 => k_is)
    (case c1 => k_is)
    (case k1 => k_is)
    (case a2 => k_is)
    (case l2 => k_is)
    (case c2 => k_is)
    (case k2 => k_is)
    (case a3 => k_is)
    (case l3 => k_is)
    (case c3 => k_is)
    (case k3 => k_is)
    (case a4 => k_is)
    (case l4 => k_is)
    (case c4 => k_is)
    (case k4 => k_is)
    (case a5 => k_is)
    (case l5 => k_is)
    (case c5 => k_is)
    (case k5 => k_is)
    (case a6 => k_is)
    (case l6 => k_is)
    (case c6 => k_is)
    (case k6 => k_is)
    (case a7 => k_is)
    (case l7 => k_is)
    (case c7 => k_is)
    (case k7 => k_is)
    (case a8 => k_is)
    (case l8 => k_is)
    (case c8 => k_is)
    (case k8 => k_is)
    (case a9 => k_is)
    (case l9 => k_is)
    (case c9 => k_is)
    (case k9 => k_is)
    (case a10 => k_is)
    (case l10 => k_is)
    (case c10 => k_is)
    (case k10 => k_is)
    (case a11 => k_is)
    (case l11 => k_is)
    (case c11 => k_is)
    (case k11 => k_is)
    (case a12 => k_is)
    (case l12 => k_is)
    (case c12 => k_is)
    (case k12 => k_is)
    (case a13 => k_is)
    (case l13 => k_is)
    (case c13 => k_is)
    (case k13 => k_is)
    (case g_BellError => k_is)
    (case e_BellError => k_is)
    (case x_BellError => k_exc)
    (case s_BellError => k_is)
    (case t_BellError => k_is)
    (case g_BadCount => k_is)
    (case e_BadCount => k_is)
    (case x_BadCount => k_exc)
    (case s_BadCount => k_is)
    (case t_BadCount => k_is)
    (case g_NoHand => k_is)
    (case e_NoHand => k_is)
    (case x_NoHand => k_exc)
    (case s_NoHand => k_is)
    (case t_NoHand => k_is)
    (case g_NoLetter => k_is)
    (case e_NoLetter => k_is)
    (case x_NoLetter => k_exc)
    (case s_NoLetter => k_is)
    (case t_NoLetter => k_is)
    (case g_NoMail => k_is)
    (case e_NoMail => k_is)
    (case x_NoMail => k_exc)
    (case s_NoMail => k_is)
    (case t_NoMail => k_is)
    (case g_Twice => k_is)
    (case e_Twice => k_is)
    (case x_Twice => k_exc)
    (case s_Twice => k_is)
    (case t_Twice => k_is)
    (case g_NotOpen => k_is)
    (case e_NotOpen => k_is)
    (case x_NotOpen => k_exc)
    (case s_NotOpen => k_is)
    (case t_NotOpen => k_is)
    (case g_BadMark => k_is)
    (case e_BadMark => k_is)
    (case x_BadMark => k_exc)
    (case s_BadMark => k_is)
    (case t_BadMark => k_is)
    (case g_NoNote => k_is)
    (case e_NoNote => k_is)
    (case x_NoNote => k_exc)
    (case s_NoNote => k_is)
    (case t_NoNote => k_is)
    (case i_hn => k_is)
    (case i_ht => k_is)
    (case hd_BellError => k_is)
    (case hd_BadCount => k_is)
    (case hd_NoHand => k_is)
    (case hd_NoLetter => k_is)
    (case hd_NoMail => k_is)
    (case hd_Twice => k_is)
    (case hd_NotOpen => k_is)
    (case hd_BadMark => k_is)
    (case hd_NoNote => k_is)
    (case i_NoNote_hg => k_is)
    (case i_NoNote_hk => k_is)
    (case i_NoNote_ha => k_is)
    (case i_NoNote_hm => k_is)
    (case i_NoNote_v => k_is)
    (case i_NoNote_b => k_is)
    (case i_NoNote_BadCount => k_is)
    (case n_NoNote_BadCount => rfl)
    (case i_NoNote_NoHand => k_is)
    (case n_NoNote_NoHand => rfl)
    (case i_NoNote_NoLetter => k_is)
    (case n_NoNote_NoLetter => rfl)
    (case i_NoNote_NoMail => k_is)
    (case n_NoNote_NoMail => rfl)
    (case i_NoNote_Twice => k_is)
    (case n_NoNote_Twice => rfl)
    (case i_NoNote_NotOpen => k_is)
    (case n_NoNote_NotOpen => rfl)
    (case i_NoNote_BadMark => k_is)
    (case n_NoNote_BadMark => rfl)
    (case z_int => k_is)
    (case z_len => k_is)
    (case z_isinstance => k_is)
    (case z_bool => k_is)
    (case z_tuple => k_is)
    (case z_str => k_is)
    (case z_all => k_is)
    (case z_ValueError => k_is)
    (case z_range => k_is)
    (case y_MOST_FIGURES => k_is)
#print axioms PySem.Challenge.cw_onebell_k05_what_writes_no_mail_holds

