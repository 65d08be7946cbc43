import PyProof.Rows.All
import Wide.All
import OpenK.AllK
import Wide.FinOn
import HandS.ForMost
import HandS.ForExc
import HandS.Evl
import HandS.Walk
import HandS.Steps
import HandS.IsInst
import HandS.FStr
import HandS.ExcCtx
import HandS.Text
import HandS.ExcIs
import HandS.HotCalls
import HandS.Conv
import HandS.SetFor
import HandS.Style
import HandS.TupLe
import HandS.Deep
import HandS.TupSets
import HandS.NoneIn
import HandS.SortInts
import HandS.FltList
import PyProof.StrBlock2
import PyProof.Rows.StrMul
import PySem.Challenge.RW_onebell_k08_whole_every_history
set_option Elab.async false
set_option linter.all false
set_option maxRecDepth 100000
set_option maxHeartbeats 4000000
set_option Elab.async false
set_option linter.all false
set_option maxRecDepth 100000
set_option maxHeartbeats 2000000
namespace Ob
open PySem L2 Evl
abbrev D := PyData
/-! ## data and heaps that grow -/
mutual
theorem dp_ex {K : PySem.W.Frag} {H H' : Hp} (e : Ex H H') : ∀ {v : V} {d : D}, Dp K H v d → Dp K H' v d
  | _, _, .non => .non
  | _, _, .bl b => .bl b
  | _, _, .int i => .int i
  | _, _, .str x => .str x
  | _, _, .lst s a => .lst (ex_l e s) (dpa_ex e a)
  | _, _, .tup s a => .tup (ex_t e s) (dpa_ex e a)
theorem dpa_ex {K : PySem.W.Frag} {H H' : Hp} (e : Ex H H') : ∀ {v : List V} {d : List D}, DpAll K H v d → DpAll K H' v d
  | _, _, .nil => .nil
  | _, _, .cons h t => .cons (dp_ex e h) (dpa_ex e t)
end
section
variable {K : PySem.W.Frag} {H H' H1 H2 : Hp} {σ : L2.St} {v : V} {vs xs : List V} {d d' e : D} {ds es : List D}
theorem dpa_len : ∀ {vs : List V} {ds : List D}, DpAll K H vs ds → vs.length = ds.length
  | _, _, .nil => rfl
  | _, _, .cons _ t => by simp [dpa_len t]
theorem dpa_get : ∀ {vs : List V} {ds : List D} {i : Nat} {d : D}, DpAll K H vs ds → ds[i]? = some d → ∃ v, vs[i]? = some v ∧ Dp K H v d
  | _, _, _, _, .nil, h => by simp at h
  | _, _, 0, _, .cons a _, h => by simp at h; subst h; exact ⟨_, rfl, a⟩
  | _, _, i + 1, _, .cons _ t, h => by
    obtain ⟨v, h1, h2⟩ := dpa_get (i := i) t (by simpa using h)
    exact ⟨v, by simpa using h1, h2⟩
theorem dpa_getV : ∀ {vs : List V} {ds : List D} {i : Nat} {v : V}, DpAll K H vs ds → vs[i]? = some v → ∃ d, ds[i]? = some d ∧ Dp K H v d
  | _, _, _, _, .nil, h => by simp at h
  | _, _, 0, _, .cons a _, h => by simp at h; subst h; exact ⟨_, rfl, a⟩
  | _, _, i + 1, _, .cons _ t, h => by
    obtain ⟨v, h1, h2⟩ := dpa_getV (i := i) t (by simpa using h)
    exact ⟨v, by simpa using h1, h2⟩
theorem dpa_app : ∀ {vs : List V} {ds : List D} {ws : List V} {es : List D}, DpAll K H vs ds → DpAll K H ws es → DpAll K H (vs ++ ws) (ds ++ es)
  | _, _, _, _, .nil, h => h
  | _, _, _, _, .cons a t, h => .cons a (dpa_app t h)
theorem dpa_take : ∀ (n : Nat) {vs : List V} {ds : List D}, DpAll K H vs ds → DpAll K H (vs.take n) (ds.take n)
  | 0, _, _, _ => .nil
  | _ + 1, _, _, .nil => .nil
  | n + 1, _, _, .cons a t => .cons a (dpa_take n t)
theorem dpa_drop : ∀ (n : Nat) {vs : List V} {ds : List D}, DpAll K H vs ds → DpAll K H (vs.drop n) (ds.drop n)
  | 0, _, _, h => h
  | _ + 1, _, _, .nil => .nil
  | n + 1, _, _, .cons _ t => dpa_drop n t
theorem dpa_ints : ∀ {ns : List Int}, DpAll K H (ns.map V.int) (ns.map PyData.int)
  | [] => .nil
  | _ :: _ => .cons (.int _) dpa_ints
theorem dpa_ints_inv : ∀ {vs : List V} {ns : List Int}, DpAll K H vs (ns.map PyData.int) → vs = ns.map V.int
  | [], [], _ => rfl
  | _, _ :: _, .cons a t => by cases a; rw [List.map_cons, dpa_ints_inv t]
theorem dpa_bls_inv : ∀ {vs : List V} {ns : List Bool}, DpAll K H vs (ns.map PyData.bool) → vs = ns.map V.bl
  | [], [], _ => rfl
  | _, _ :: _, .cons a t => by cases a; rw [List.map_cons, dpa_bls_inv t]
theorem dpa1 (h : DpAll K H vs [d]) : ∃ v, vs = [v] ∧ Dp K H v d := by
  cases h with | cons a t => cases t; exact ⟨_, rfl, a⟩
theorem dpa2 {d1 d2 : D} (h : DpAll K H vs [d1, d2]) : ∃ v1 v2, vs = [v1, v2] ∧ Dp K H v1 d1 ∧ Dp K H v2 d2 := by
  cases h with | cons a t => obtain ⟨v, rfl, b⟩ := dpa1 t; exact ⟨_, _, rfl, a, b⟩
theorem dpa3 {d1 d2 d3 : D} (h : DpAll K H vs [d1, d2, d3]) : ∃ v1 v2 v3, vs = [v1, v2, v3] ∧ Dp K H v1 d1 ∧ Dp K H v2 d2 ∧ Dp K H v3 d3 := by
  cases h with | cons a t => obtain ⟨v, w, rfl, b, c⟩ := dpa2 t; exact ⟨_, _, _, rfl, a, b, c⟩
/-- a slice's items, of any list -/
def cutL {α : Type} (xs : List α) (lo hi : Option Int) : List α := (xs.drop (HT.sIx xs.length 0 lo)).take (HT.sIx xs.length xs.length hi - HT.sIx xs.length 0 lo)
theorem dpa_cut {lo hi : Option Int} (h : DpAll K H vs ds) : DpAll K H (cutV vs lo hi) (cutL ds lo hi) := by
  unfold cutV cutL
  rw [dpa_len h]
  exact dpa_take _ (dpa_drop _ h)
theorem cutL_map {α β : Type} (f : α → β) (xs : List α) (lo hi : Option Int) : cutL (xs.map f) lo hi = (cutL xs lo hi).map f := by
  unfold cutL
  rw [List.length_map, List.map_take, List.map_drop]
theorem cutL_len {α : Type} (xs : List α) (lo hi : Option Int) : (cutL xs lo hi).length ≤ xs.length := by
  unfold cutL
  rw [List.length_take, List.length_drop]
  omega
theorem cutL_mem {α : Type} {xs : List α} {lo hi : Option Int} {x : α} (h : x ∈ cutL xs lo hi) : x ∈ xs := List.mem_of_mem_drop (List.mem_of_mem_take h)
theorem atI_some {α : Type} {xs : List α} {i : Int} {x : α} (h : atI xs i = some x) : ∃ j, ixN xs.length i = some j ∧ xs[j]? = some x := by
  unfold atI at h
  cases q : ixN xs.length i with
  | none => rw [q] at h; cases h
  | some j => rw [q] at h; exact ⟨j, rfl, h⟩
theorem dpa_at {i : Int} (h : DpAll K H vs ds) (ha : atI ds i = some d) : ∃ v, atI vs i = some v ∧ Dp K H v d := by
  obtain ⟨j, h1, h2⟩ := atI_some ha
  obtain ⟨v, h3, h4⟩ := dpa_get h h2
  refine ⟨v, ?_, h4⟩
  unfold atI
  rw [dpa_len h, h1]
  exact h3
theorem dp_list (h : Dp K H v (.list ds)) : ∃ a xs, v = .ref a ∧ SqL K H a xs ∧ DpAll K H xs ds := by
  cases h with | lst s a => exact ⟨_, _, rfl, s, a⟩
theorem dp_tuple (h : Dp K H v (.tuple ds)) : ∃ a xs, v = .ref a ∧ SqT K H a xs ∧ DpAll K H xs ds := by
  cases h with | tup s a => exact ⟨_, _, rfl, s, a⟩

/-! ## what evaluates to which data: A the heap of the data, B the whole heap -/
structure Pr (A B A' B' : Hp) : Prop where
  a : Ex A A'
  b : Ex B B'
  s : Ex A' B'
  n : ∀ x, A x = none → B x ≠ none → A' x = none
theorem Pr.refl {A B : Hp} (h : Ex A B) : Pr A B A B := ⟨Ex.refl _, Ex.refl _, h, fun _ q _ => q⟩
theorem Pr.trans {A B A' B' A'' B'' : Hp} (h : Pr A B A' B') (k : Pr A' B' A'' B'') : Pr A B A'' B'' :=
  ⟨h.a.trans k.a, h.b.trans k.b, k.s, fun x q r => k.n x (h.n x q r) fun z => r (fresh_back h.b z)⟩
theorem Ex.upd2 {A B : Hp} {p : Addr} {o : HO} (h : Ex A B) : Ex (upd A p o) (upd B p o) := fun a u e => by
  by_cases q : a = p
  · subst q; rw [upd_same] at e; rw [upd_same]; exact e
  · rw [upd_ne q] at e; rw [upd_ne q]; exact h a u e
theorem Pr.new {A B : Hp} {p : Addr} {o : HO} (h : Ex A B) (hp : B p = none) : Pr A B (upd A p o) (upd B p o) :=
  ⟨Ex.new (fresh_back h hp), Ex.new hp, Ex.upd2 h, fun x q r => by rw [upd_ne (fun (z : x = p) => r (by rw [z]; exact hp))]; exact q⟩
theorem Pr.priv {A B : Hp} {p : Addr} {o : HO} (h : Ex A B) (hp : B p = none) : Pr A B A (upd B p o) :=
  ⟨Ex.refl _, Ex.new hp, h.trans (Ex.new hp), fun _ q _ => q⟩
theorem Pr.up {A B B' : Hp} (h : Ex A B) (e : Ex B B') : Pr A B A B' := ⟨Ex.refl _, e, h.trans e, fun _ q _ => q⟩
/-- the whole heap alone has grown -/
structure Pu (A B B' : Hp) : Prop where
  z : Ex A B
  e : Ex B B'
theorem Pu.s {A B B' : Hp} (h : Pu A B B') : Ex A B' := h.z.trans h.e
theorem Pu.pr {A B B' : Hp} (h : Pu A B B') : Pr A B A B' := Pr.up h.z h.e
theorem Pr.whole {B A' B' : Hp} (h : Pr B B A' B') : Ex B B' := h.b
def EvD (K : PySem.W.Frag) (te : TE) (σ : L2.St) (H : Hp) (d : D) : Prop := ∀ A B, Ex H A → Ex A B → ∀ Q : VK, (∀ v A' B', Pr A B A' B' → Dp K A' v d → Q v B') → te σ B Q
/-- a new list of such data -/
def EvN (K : PySem.W.Frag) (te : TE) (σ : L2.St) (H : Hp) (ds : List D) : Prop := ∀ A B, Ex H A → Ex A B → ∀ Q : VK, (∀ p xs A' B', B p = none → Pr A B A' B' → A' p = none → B' p = some (.lst xs) → DpAll K A' xs ds → Q (.ref p) B') → te σ B Q
/-- a list that is tracked -/
def EvK (K : PySem.W.Frag) (te : TE) (σ : L2.St) (H : Hp) (ds : List D) : Prop := ∀ A B, Ex H A → Ex A B → ∀ Q : VK, (∀ p xs A' B', Pr A B A' B' → B' p = some (.lst xs) → DpAll K A' xs ds → Q (.ref p) B') → te σ B Q
def EvAD (K : PySem.W.Frag) (ta : TA) (σ : L2.St) (H : Hp) (ds : List D) : Prop := ∀ A B, Ex H A → Ex A B → ∀ Q : List V → Hp → Prop, (∀ vs A' B', Pr A B A' B' → DpAll K A' vs ds → Q vs B') → ta σ B Q
variable {ta tb te tl : TE} {t u : TT} {tr : TA}
theorem EvD.mono (e : Ex H H') (h : EvD K te σ H d) : EvD K te σ H' d := fun A B a => h A B (e.trans a)
theorem EvN.mono (e : Ex H H') (h : EvN K te σ H ds) : EvN K te σ H' ds := fun A B a => h A B (e.trans a)
theorem ed_is (h : EvD K te σ H d) (q : d = d') : EvD K te σ H d' := q ▸ h
theorem en_is (h : EvN K te σ H ds) (q : ds = es) : EvN K te σ H es := q ▸ h
theorem ed_n (h : EvN K te σ H ds) : EvD K te σ H (.list ds) := fun A B e s Q q => h A B e s Q fun p xs A' B' hp P hA h2 a =>
  q (.ref p) (upd A' p (.lst xs)) B' ⟨P.a.trans (Ex.new hA), P.b, fun x o z => by
    by_cases w : x = p
    · subst w; rw [upd_same] at z; rw [h2]; exact z
    · rw [upd_ne w] at z; exact P.s x o z, fun x y z => by rw [upd_ne (fun (w : x = p) => z (by rw [w]; exact hp))]; exact P.n x y z⟩ (.lst (sq_of upd_same) (dpa_ex (Ex.new hA) a))
theorem ek_n (h : EvN K te σ H ds) : EvK K te σ H ds := fun A B e s Q q => h A B e s Q fun p xs A' B' _ P _ => q p xs A' B' P
theorem ek_var {i : Nat} {p : Addr} (h : σ[i]? = some (some (.ref p))) (hp : H p = some (.lst xs)) (ha : DpAll K H xs ds) : EvK K (tVar i) σ H ds := fun A B e s Q q => ⟨_, h, q p xs A B (Pr.refl s) (s _ _ (e _ _ hp)) (dpa_ex e ha)⟩
theorem ed_v (h : Ev te σ H v) (hd : Dp K H v d) : EvD K te σ H d := fun A B e s Q q => h B (e.trans s) Q fun B' e2 => q v A B' (Pr.up s e2) (dp_ex e hd)
theorem ed_var {i : Nat} (h : σ[i]? = some (some v)) (hd : Dp K H v d) : EvD K (tVar i) σ H d := ed_v (ev_var h) hd
theorem ed_int {i : Int} : EvD K (tC (.int i)) σ H (.int i) := ed_v ev_c (.int i)
theorem ed_str {i : Str} : EvD K (tC (.str i)) σ H (.str i) := ed_v ev_c (.str i)
theorem ed_bl {i : Bool} : EvD K (tC (.bl i)) σ H (.bool i) := ed_v ev_c (.bl i)
theorem ed_non : EvD K (tC .non) σ H .none := ed_v ev_c .non
theorem v_int {i : Int} (h : EvD K te σ H (.int i)) : Ev te σ H (.int i) := fun H1 e Q q => h H1 H1 e (Ex.refl _) Q fun v _ H2 P hv => by cases hv; exact q H2 P.b
theorem v_bl {i : Bool} (h : EvD K te σ H (.bool i)) : Ev te σ H (.bl i) := fun H1 e Q q => h H1 H1 e (Ex.refl _) Q fun v _ H2 P hv => by cases hv; exact q H2 P.b
theorem v_str {i : Str} (h : EvD K te σ H (.str i)) : Ev te σ H (.str i) := fun H1 e Q q => h H1 H1 e (Ex.refl _) Q fun v _ H2 P hv => by cases hv; exact q H2 P.b
theorem v_non (h : EvD K te σ H .none) : Ev te σ H .non := fun H1 e Q q => h H1 H1 e (Ex.refl _) Q fun v _ H2 P hv => by cases hv; exact q H2 P.b
/-- two operands -/
theorem ed_op {r : R2} {d1 d2 : D} (ha : EvD K ta σ H d1) (hb : EvD K tb σ H d2) (hr : ∀ x y A B, Ex H A → Ex A B → Dp K A x d1 → Dp K A y d2 → ∀ Q : VK, (∀ v A' B', Pr A B A' B' → Dp K A' v d → Q v B') → r x y B Q) : EvD K (tOp r ta tb) σ H d := fun A B e s Q q =>
  ha A B e s _ fun x A2 B2 P2 hx => hb A2 B2 (e.trans P2.a) P2.s _ fun y A3 B3 P3 hy => hr x y A3 B3 ((e.trans P2.a).trans P3.a) P3.s (dp_ex P3.a hx) hy Q fun v A4 B4 P4 => q v A4 B4 ((P2.trans P3).trans P4)
/-- the answer is no new thing -/
theorem ed_opB {r : R2} {d1 d2 : D} (ha : EvD K ta σ H d1) (hb : EvD K tb σ H d2) (hr : ∀ x y B, Dp K B x d1 → Dp K B y d2 → ∀ Q : VK, (∀ v, (∀ A, Ex A B → Dp K A x d1 → Dp K A y d2 → Dp K A v d) → Q v B) → r x y B Q) : EvD K (tOp r ta tb) σ H d :=
  ed_op ha hb fun x y A B _ s hx hy Q q => hr x y B (dp_ex s hx) (dp_ex s hy) Q fun v hv => q v A B (Pr.refl s) (hv A s hx hy)
theorem ed_Ii {f : Int → Int → Int} {i j : Int} (ha : EvD K ta σ H (.int i)) (hb : EvD K tb σ H (.int j)) : EvD K (tOp (rI0 fun i j => .int (f i j)) ta tb) σ H (.int (f i j)) :=
  ed_v (ev_op (v_int ha) (v_int hb) rv_I0) (.int _)
theorem ed_Ib {f : Int → Int → Bool} {i j : Int} (ha : EvD K ta σ H (.int i)) (hb : EvD K tb σ H (.int j)) : EvD K (tOp (rI0 fun i j => .bl (f i j)) ta tb) σ H (.bool (f i j)) :=
  ed_v (ev_op (v_int ha) (v_int hb) rv_I0) (.bl _)
theorem ed_Ic {C : Int → Int → Prop} {f : Int → Int → Int} {i j : Int} (ha : EvD K ta σ H (.int i)) (hb : EvD K tb σ H (.int j)) (hc : C i j) : EvD K (tOp (rI C fun i j => .int (f i j)) ta tb) σ H (.int (f i j)) :=
  ed_v (ev_op (v_int ha) (v_int hb) (rv_I hc)) (.int _)
theorem ed_eqi {i j : Int} (ha : EvD K ta σ H (.int i)) (hb : EvD K tb σ H (.int j)) : EvD K (tOp rEq ta tb) σ H (.bool (i == j)) :=
  ed_v (ev_op (v_int ha) (v_int hb) (rv_eq rfl)) (by rw [dec_int]; exact .bl _)
theorem ed_nei {i j : Int} (ha : EvD K ta σ H (.int i)) (hb : EvD K tb σ H (.int j)) : EvD K (tOp rNe ta tb) σ H (.bool (!(i == j))) :=
  ed_v (ev_op (v_int ha) (v_int hb) (rv_ne rfl)) (by rw [dec_int]; exact .bl _)
theorem ed_eqs {i j : Str} (ha : EvD K ta σ H (.str i)) (hb : EvD K tb σ H (.str j)) : EvD K (tOp rEq ta tb) σ H (.bool (i == j)) :=
  ed_v (ev_op (v_str ha) (v_str hb) (rv_eq rfl)) (by rw [dec_str]; exact .bl _)
theorem ed_nes {i j : Str} (ha : EvD K ta σ H (.str i)) (hb : EvD K tb σ H (.str j)) : EvD K (tOp rNe ta tb) σ H (.bool (!(i == j))) :=
  ed_v (ev_op (v_str ha) (v_str hb) (rv_ne rfl)) (by rw [dec_str]; exact .bl _)
theorem ed_eqb {i j : Bool} (ha : EvD K ta σ H (.bool i)) (hb : EvD K tb σ H (.bool j)) : EvD K (tOp rEq ta tb) σ H (.bool (i == j)) :=
  ed_v (ev_op (v_bl ha) (v_bl hb) (rv_eq rfl)) (by rw [dec_bl]; exact .bl _)
theorem ed_neb {i j : Bool} (ha : EvD K ta σ H (.bool i)) (hb : EvD K tb σ H (.bool j)) : EvD K (tOp rNe ta tb) σ H (.bool (!(i == j))) :=
  ed_v (ev_op (v_bl ha) (v_bl hb) (rv_ne rfl)) (by rw [dec_bl]; exact .bl _)
theorem ed_eqD {d1 d2 : D} (ha : EvD K ta σ H d1) (hb : EvD K tb σ H d2) (s1 : SeqAt.shaped d1 = true) (s2 : SeqAt.shaped d2 = true) : EvD K (tOp (rEqD K) ta tb) σ H (.bool (PyData.eqv d1 d2)) :=
  ed_opB ha hb fun _ _ _ hx hy _ q => ⟨d1, d2, hx, hy, s1, s2, q _ fun _ _ _ _ => .bl _⟩
theorem ed_neD {d1 d2 : D} (ha : EvD K ta σ H d1) (hb : EvD K tb σ H d2) (s1 : SeqAt.shaped d1 = true) (s2 : SeqAt.shaped d2 = true) : EvD K (tOp (rNeD K) ta tb) σ H (.bool (!PyData.eqv d1 d2)) :=
  ed_opB ha hb fun _ _ _ hx hy _ q => ⟨d1, d2, hx, hy, s1, s2, q _ fun _ _ _ _ => .bl _⟩
theorem ed_ixL {i : Int} (ha : EvD K ta σ H (.list ds)) (hb : EvD K tb σ H (.int i)) (h : atI ds i = some d) : EvD K (tOp (rIxL K) ta tb) σ H d :=
  ed_op ha hb fun _ _ A B _ s hx hy _ q => by
    obtain ⟨a, xs, rfl, sq, al⟩ := dp_list hx
    cases hy
    obtain ⟨v, h1, h2⟩ := dpa_at al h
    exact ⟨a, xs, i, v, rfl, rfl, ex_l s sq, h1, q v A B (Pr.refl s) h2⟩
theorem ed_ixT {i : Int} (ha : EvD K ta σ H (.tuple ds)) (hb : EvD K tb σ H (.int i)) (h : atI ds i = some d) : EvD K (tOp (rIxT K) ta tb) σ H d :=
  ed_op ha hb fun _ _ A B _ s hx hy _ q => by
    obtain ⟨a, xs, rfl, sq, al⟩ := dp_tuple hx
    cases hy
    obtain ⟨v, h1, h2⟩ := dpa_at al h
    exact ⟨a, xs, i, v, rfl, rfl, ex_t s sq, h1, q v A B (Pr.refl s) h2⟩
theorem ed_ixS {w : Str} {i : Int} {c : Nat} (ha : EvD K ta σ H (.str w)) (hb : EvD K tb σ H (.int i)) (hl : w.length ≤ 100000) (h : atI w.cps.toList i = some c) : EvD K (tOp rIxS ta tb) σ H (.str ⟨#[c]⟩) :=
  ed_v (ev_op (v_str ha) (v_int hb) (rv_ixS hl h)) (.str _)
theorem ea_nilD : EvAD K tNil σ H [] := fun A B _ s _ q => q [] A B (Pr.refl s) .nil
theorem ea_consD (h : EvD K ta σ H d) (hr : EvAD K tr σ H ds) : EvAD K (tCons ta tr) σ H (d :: ds) := fun A B e s _ q =>
  h A B e s _ fun v A2 B2 P2 hv => hr A2 B2 (e.trans P2.a) P2.s _ fun vs A3 B3 P3 ha => q _ A3 B3 (P2.trans P3) (.cons (dp_ex P3.a hv) ha)
theorem ed_tup (h : EvAD K tr σ H ds) (hl : ds.length ≤ 100000) : EvD K (tTup tr) σ H (.tuple ds) := fun A B e s _ q =>
  h A B e s _ fun vs A2 B2 P2 ha => ⟨sz_of (by rw [dpa_len ha]; exact hl), fun p hp => q _ (upd A2 p (.tup vs)) _ (P2.trans (Pr.new P2.s hp)) (.tup (st_of upd_same) (dpa_ex (Ex.new (fresh_back P2.s hp)) ha))⟩
theorem en_lst (h : EvAD K tr σ H ds) (hl : ds.length ≤ 100000) : EvN K (tLst tr) σ H ds := fun A B e s _ q =>
  h A B e s _ fun vs A2 B2 P2 ha => ⟨sz_of (by rw [dpa_len ha]; exact hl), fun p hp => q p vs A2 _ (fresh_back P2.b hp) (P2.trans (Pr.priv P2.s hp)) (fresh_back P2.s hp) upd_same ha⟩
theorem en_cat (ha : EvK K ta σ H ds) (hb : EvK K tb σ H es) (hl : ds.length + es.length ≤ 100000) : EvN K (tOp rCat ta tb) σ H (ds ++ es) := fun A B e s Q q =>
  ha A B e s _ fun p xs A2 B2 P2 hp h1 => hb A2 B2 (e.trans P2.a) P2.s _ fun r ys A3 B3 P3 hr h2 => ⟨p, r, xs, ys, rfl, rfl, P3.b _ _ hp, hr, sz_of (by rw [dpa_len h1, dpa_len h2]; exact hl), fun z hz =>
    q z _ A3 _ (fresh_back (P2.b.trans P3.b) hz) ((P2.trans P3).trans (Pr.priv P3.s hz)) (fresh_back P3.s hz) upd_same (dpa_app (dpa_ex P3.a h1) h2)⟩
/-- a slice's bound; the written part stands by -/
def EvOK (_ : PySem.W.Frag) (to : TO) (σ : L2.St) (H : Hp) (o : Option Int) : Prop := EvO to σ H o
theorem eo_noneD : EvOK K tNoPart σ H none := fun H1 _ _ q => q H1 (Ex.refl H1)
theorem eo_someD {i : Int} (h : EvD K te σ H (.int i)) : EvOK K (tPart te) σ H (some i) := fun H1 e _ q => v_int h H1 e _ fun H2 e2 => ⟨i, rfl, q H2 e2⟩
theorem en_slice {lo hi : Option Int} {t1 t2 : TO} (h : EvD K te σ H (.list ds)) (h1 : EvOK K t1 σ H lo) (h2 : EvOK K t2 σ H hi) : EvN K (tSl (rSlL K) te t1 t2) σ H (cutL ds lo hi) := fun A B e s Q q =>
  h A B e s _ fun v A2 B2 P2 hv => h1 B2 ((e.trans P2.a).trans P2.s) _ fun B3 e3 => h2 B3 (((e.trans P2.a).trans P2.s).trans e3) _ fun B4 e4 => by
    obtain ⟨a, xs, rfl, sq, al⟩ := dp_list hv
    have s4 := (P2.s.trans e3).trans e4
    exact ⟨a, xs, rfl, ex_l s4 sq, fun p hp => q p _ A2 _ (fresh_back ((P2.b.trans e3).trans e4) hp) (P2.trans ((Pr.up P2.s (e3.trans e4)).trans (Pr.priv s4 hp))) (fresh_back s4 hp) upd_same (dpa_cut al)⟩
theorem ed_sliceS {x : Str} {lo hi : Option Int} {t1 t2 : TO} (h : EvD K te σ H (.str x)) (hl : x.length ≤ 100000) (h1 : EvOK K t1 σ H lo) (h2 : EvOK K t2 σ H hi) : EvD K (tSl rSlS te t1 t2) σ H (.str (cutS x lo hi)) :=
  ed_v (v := .str (cutS x lo hi)) (fun H1 e Q q => v_str h H1 e _ fun H2 e2 => h1 H2 (e.trans e2) _ fun H3 e3 => h2 H3 ((e.trans e2).trans e3) _ fun H4 e4 => ⟨x, rfl, sz_of hl, q H4 ((e2.trans e3).trans e4)⟩) (.str _)
theorem ed_call1 {r : List V → Hp → VK → Prop} (h : EvD K ta σ H d) (hr : ∀ v B, Dp K B v d → ∀ Q : VK, (∀ w, (∀ A, Dp K A w e) → Q w B) → r [v] B Q) : EvD K (tCB r (tCons ta tNil)) σ H e := fun A B a s Q q =>
  h A B a s _ fun v A2 B2 P2 hv => hr v B2 (dp_ex P2.s hv) Q fun w hw => q w A2 B2 P2 (hw A2)
theorem ed_len (h : EvD K ta σ H (.list ds)) : EvD K (tCB (rLenS K) (tCons ta tNil)) σ H (.int (ds.length : Int)) := ed_call1 h fun _ B hv _ q => by
  obtain ⟨a, xs, rfl, s, al⟩ := dp_list hv
  refine ⟨a, xs, rfl, .inl s, ?_⟩
  rw [dpa_len al]
  exact q _ fun _ => .int _
theorem ed_lenT (h : EvD K ta σ H (.tuple ds)) : EvD K (tCB (rLenS K) (tCons ta tNil)) σ H (.int (ds.length : Int)) := ed_call1 h fun _ B hv _ q => by
  obtain ⟨a, xs, rfl, s, al⟩ := dp_tuple hv
  refine ⟨a, xs, rfl, .inr s, ?_⟩
  rw [dpa_len al]
  exact q _ fun _ => .int _
theorem en_listof (h : EvD K ta σ H (.list ds)) : EvN K (tCB (rListS K) (tCons ta tNil)) σ H ds := fun A B e s Q q =>
  h A B e s _ fun v A2 B2 P2 hv => by
    obtain ⟨a, xs, rfl, sq, al⟩ := dp_list hv
    exact ⟨a, xs, rfl, .inl (ex_l P2.s sq), fun p hp => q p xs A2 _ (fresh_back P2.b hp) (P2.trans (Pr.priv P2.s hp)) (fresh_back P2.s hp) upd_same al⟩
/-- the name of a datum's type -/
def tyN : D → String
  | .none => "NoneType" | .bool _ => "bool" | .int _ => "int" | .str _ => "str" | .list _ => "list" | .tuple _ => "tuple" | .dict _ => "dict"
theorem tyX_dp (h : Dp K H v d) : TyX K H v (.type (tyN d)) := by
  cases h with
  | non => exact .base .non
  | bl b => exact .base (.bl b)
  | int b => exact .base (.int b)
  | str b => exact .base (.str b)
  | lst s a =>
    rcases s with (s | ⟨o, s⟩) | ⟨ob, vs, n, e, c, _⟩
    · exact .base (.lst s)
    · exact .base (.frz s)
    · exact .kList e c
  | tup s a =>
    rcases s with (s | ⟨o, s⟩) | ⟨ob, vs, n, e, c, _⟩
    · exact .base (.tup s)
    · exact .fTuple s
    · exact .kTuple e c
theorem ed_isi {n : String} {b : Bool} (h : EvD K ta σ H d) (hk : kitB (tyN d) n = some b) : EvD K (tCB (rIsi K) (tCons ta (tCons (tC (.ty n)) tNil))) σ H (.bool b) := fun A B e s Q q =>
  h A B e s _ fun v A2 B2 P2 hv => ⟨v, .ty n, _, _, b, rfl, .ty n, tyX_dp (dp_ex P2.s hv), kit_ty hk, q _ A2 B2 P2 (.bl b)⟩
theorem ki_ii : kitB "int" "int" = some true := by decide +kernel
theorem ki_ib : kitB "int" "bool" = some false := by decide +kernel
theorem ki_bb : kitB "bool" "bool" = some true := by decide +kernel
theorem ki_bi : kitB "bool" "int" = some true := by decide +kernel
theorem ki_nb : kitB "NoneType" "bool" = some false := by decide +kernel
theorem ki_sb : kitB "str" "bool" = some false := by decide +kernel
theorem ki_lb : kitB "list" "bool" = some false := by decide +kernel
theorem ki_tb : kitB "tuple" "bool" = some false := by decide +kernel
theorem ki_ni : kitB "NoneType" "int" = some false := by decide +kernel
theorem ki_si : kitB "str" "int" = some false := by decide +kernel
theorem ki_li : kitB "list" "int" = some false := by decide +kernel
theorem ki_ti : kitB "tuple" "int" = some false := by decide +kernel
theorem ki_di : kitB "dict" "int" = some false := by decide +kernel
theorem ki_tt : kitB "tuple" "tuple" = some true := by decide +kernel
theorem ki_lt : kitB "list" "tuple" = some false := by decide +kernel
theorem ki_st : kitB "str" "tuple" = some false := by decide +kernel
theorem ki_it : kitB "int" "tuple" = some false := by decide +kernel
theorem ki_bt : kitB "bool" "tuple" = some false := by decide +kernel
theorem ki_nt : kitB "NoneType" "tuple" = some false := by decide +kernel
theorem ki_ll : kitB "list" "list" = some true := by decide +kernel
theorem ki_tl : kitB "tuple" "list" = some false := by decide +kernel
theorem ki_sl : kitB "str" "list" = some false := by decide +kernel
theorem ki_nl : kitB "NoneType" "list" = some false := by decide +kernel
theorem ki_il : kitB "int" "list" = some false := by decide +kernel
theorem ki_bl : kitB "bool" "list" = some false := by decide +kernel
theorem ki_ss : kitB "str" "str" = some true := by decide +kernel
theorem ki_ts : kitB "tuple" "str" = some false := by decide +kernel
theorem ki_ls : kitB "list" "str" = some false := by decide +kernel
theorem ki_ns : kitB "NoneType" "str" = some false := by decide +kernel
theorem ki_is : kitB "int" "str" = some false := by decide +kernel
theorem ki_bs : kitB "bool" "str" = some false := by decide +kernel
/-- a test; the written part stands by -/
def EvB (_ : PySem.W.Frag) (t : TT) (σ : L2.St) (H : Hp) (b : Bool) : Prop := EvT t σ H b
theorem eb_D {b : Bool} (h : EvD K te σ H (.bool b)) : EvB K (tTest te) σ H b := et_test (v_bl h)
theorem eb_DB {b : Bool} (h : EvD K te σ H (.bool b)) : EvB K (tB te) σ H b := et_B (v_bl h)
theorem eb_yes : EvB K tYes σ H true := fun H1 _ _ q => q H1 (Ex.refl H1)
theorem eb_not {a : Bool} (h : EvB K t σ H a) : EvB K (tNot t) σ H (!a) := et_not h
theorem eb_and {a b : Bool} (h1 : EvB K t σ H a) (h2 : a = true → EvB K u σ H b) : EvB K (tAnd t u) σ H (a && b) := Evl.et_and h1 h2
theorem eb_or {a b : Bool} (h1 : EvB K t σ H a) (h2 : a = false → EvB K u σ H b) : EvB K (tOr t u) σ H (a || b) := Evl.et_or h1 h2
theorem eb_is {a b : Bool} (h : EvB K t σ H a) (e : a = b) : EvB K t σ H b := e ▸ h
theorem ed_and {a b : Bool} (h1 : EvD K ta σ H (.bool a)) (h2 : a = true → EvD K tb σ H (.bool b)) : EvD K (tAndV ta tb) σ H (.bool (a && b)) := ed_v (ev_andV (v_bl h1) fun q => v_bl (h2 q)) (.bl _)
theorem ed_or {a b : Bool} (h1 : EvD K ta σ H (.bool a)) (h2 : a = false → EvD K tb σ H (.bool b)) : EvD K (tOrV ta tb) σ H (.bool (a || b)) := ed_v (ev_orV (v_bl h1) fun q => v_bl (h2 q)) (.bl _)
theorem ed_not {a : Bool} (h1 : EvD K ta σ H (.bool a)) : EvD K (tNotV ta) σ H (.bool (!a)) := ed_v (ev_notV (v_bl h1)) (.bl _)
/-- max of ints, all of bools -/
def maxI (ns : List Int) : Int := ns.foldl max (ns.headD 0)
theorem foldl_max_ge : ∀ (ns : List Int) (a : Int), a ≤ ns.foldl max a ∧ ∀ n ∈ ns, n ≤ ns.foldl max a
  | [], a => ⟨Int.le_refl _, fun _ h => by simp at h⟩
  | n :: ns, a => by
    obtain ⟨h1, h2⟩ := foldl_max_ge ns (max a n)
    refine ⟨?_, fun m hm => ?_⟩
    · simp only [List.foldl_cons]; omega
    · simp only [List.foldl_cons]
      rcases List.mem_cons.mp hm with rfl | hm
      · omega
      · exact h2 m hm
theorem foldl_max_mem : ∀ (ns : List Int) (a : Int), ns.foldl max a = a ∨ ns.foldl max a ∈ ns
  | [], a => .inl rfl
  | n :: ns, a => by
    simp only [List.foldl_cons]
    rcases foldl_max_mem ns (max a n) with h | h
    · by_cases q : a ≤ n
      · right; rw [h]; simp; left; omega
      · left; rw [h]; omega
    · right; exact List.mem_cons_of_mem _ h
theorem maxI_mem {ns : List Int} (h : ns ≠ []) : maxI ns ∈ ns := by
  cases ns with
  | nil => exact absurd rfl h
  | cons n ns =>
    unfold maxI
    rcases foldl_max_mem (n :: ns) n with q | q
    · simp only [List.headD_cons]; rw [q]; exact List.mem_cons_self
    · exact q
theorem maxI_ge {ns : List Int} : ∀ n ∈ ns, n ≤ maxI ns := (foldl_max_ge ns _).2
theorem maxI_uniq {ns : List Int} {m : Int} (h1 : m ∈ ns) (h2 : ∀ y, y ∈ ns → y ≤ m) : m = maxI ns := by
  have a := maxI_ge m h1
  have b := h2 _ (maxI_mem (List.ne_nil_of_mem h1))
  omega
theorem ed_max {ns : List Int} (h : EvD K ta σ H (.list (ns.map .int))) (hn : ns ≠ []) : EvD K (tCB (rMax K) (tCons ta tNil)) σ H (.int (maxI ns)) := ed_call1 h fun _ B hv _ q => by
  obtain ⟨a, xs, rfl, s, al⟩ := dp_list hv
  rw [dpa_ints_inv al] at s
  refine ⟨a, ns, rfl, s, List.length_pos_iff.mpr hn, fun m h1 h2 => ?_⟩
  rw [maxI_uniq h1 h2]
  exact q _ fun _ => .int _
theorem ed_all {bs : List Bool} (h : EvD K ta σ H (.list (bs.map .bool))) : EvD K (tCB (rAll K) (tCons ta tNil)) σ H (.bool (bs.all id)) := ed_call1 h fun _ B hv _ q => by
  obtain ⟨a, xs, rfl, s, al⟩ := dp_list hv
  rw [dpa_bls_inv al] at s
  exact ⟨a, bs, rfl, s, q _ fun _ => .bl _⟩
/-! ## comprehensions -/
/-- between two turns: the list at L holds what is made, the data lean on A' -/
structure LcI (K : PySem.W.Frag) (A B : Hp) (L : Addr) (es : List D) (H' : Hp) : Prop where
  ex : ∃ A' ys, Ex A A' ∧ Ex A' H' ∧ A' L = none ∧ H' L = some (.lst ys) ∧ DpAll K A' ys es ∧ (∀ x, A x = none → B x ≠ none → A' x = none)
  b : Ex B H'
theorem lci_start {A B : Hp} {L : Addr} (s : Ex A B) (hL : B L = none) : LcI K A B L [] (upd B L (.lst [])) :=
  ⟨⟨A, [], Ex.refl _, s.trans (Ex.new hL), fresh_back s hL, upd_same, .nil, fun _ q _ => q⟩, Ex.new hL⟩
theorem lci_turn {A B H1 : Hp} {L : Addr} {g : D} {f : Bool} (hB : B L = none) (p : LcI K A B L es H1) (hz : es.length < 100000)
    (ht : ∀ A', Ex A A' → EvB K t σ A' f) (he : f = true → ∀ A', Ex A A' → EvD K te σ A' g) :
    t σ H1 fun b H3 => if b = true then te σ H3 fun y H4 => ∃ acc, H4 L = some (.lst acc) ∧ acc.length < sizeLine ∧ LcI K A B L (if f then es ++ [g] else es) (upd H4 L (.lst (acc ++ [y]))) else LcI K A B L (if f then es ++ [g] else es) H3 := by
  obtain ⟨⟨A', ys, a1, a2, a3, a4, a5, a6⟩, a7⟩ := p
  refine ht A' a1 H1 a2 _ fun H3 e3 => ?_
  cases f with
  | true =>
    refine iteT ?_
    refine he rfl A' a1 A' H3 (Ex.refl _) (a2.trans e3) _ fun y A4 H4 P4 hy => ?_
    have e4 : H4 L = some (.lst ys) := P4.b _ _ (e3 _ _ a4)
    have n4 : A4 L = none := P4.n L a3 (by rw [e3 _ _ a4]; simp)
    refine ⟨ys, e4, sz_lt (by rw [dpa_len a5]; exact hz), ⟨⟨A4, ys ++ [y], a1.trans P4.a, ?_, n4, upd_same, dpa_app (dpa_ex P4.a a5) (.cons hy .nil), fun x q r => ?_⟩, ?_⟩⟩
    · exact Ex.mut P4.s n4
    · exact P4.n x (a6 x q r) fun z => r (fresh_back (a7.trans e3) z)
    · exact Ex.mut ((a7.trans e3).trans P4.b) hB
  | false =>
    refine iteF ?_
    exact ⟨⟨A', ys, a1, a2.trans e3, a3, e3 _ _ a4, a5, a6⟩, a7.trans e3⟩
theorem lci_end {A B H' : Hp} {L : Addr} {Q : VK} (hB : B L = none) (p : LcI K A B L es H') (q : ∀ p xs A' B', B p = none → Pr A B A' B' → A' p = none → B' p = some (.lst xs) → DpAll K A' xs es → Q (.ref p) B') : Q (.ref L) H' := by
  obtain ⟨⟨A', ys, a1, a2, a3, a4, a5, a6⟩, a7⟩ := p
  exact q L ys A' H' hB ⟨a1, a7, a2, a6⟩ a3 a4 a5
theorem take_f (f : D → Bool) (g : D → D) {i : Nat} (h : ds[i]? = some d) : ((ds.take (i + 1)).filter f).map g = if f d = true then ((ds.take i).filter f).map g ++ [g d] else ((ds.take i).filter f).map g := by
  have tk : ds.take (i + 1) = ds.take i ++ [d] := by rw [List.take_succ, h]; rfl
  rw [tk, List.filter_append, List.map_append]
  cases hf : f d with
  | true => simp [hf]
  | false => simp [hf]
theorem en_lcL {j : Nat} {ws : List Nat} (f : D → Bool) (g : D → D) (h : EvD K tl σ H (.list ds)) (hz : ds.length ≤ 40000) (hw : ∀ x, wipe ((wipe σ ws).set j (some x)) ws = wipe σ ws)
    (ht : ∀ d ∈ ds, ∀ v H1, Ex H H1 → Dp K H1 v d → EvB K t ((wipe σ ws).set j (some v)) H1 (f d)) (he : ∀ d ∈ ds, f d = true → ∀ v H1, Ex H H1 → Dp K H1 v d → EvD K te ((wipe σ ws).set j (some v)) H1 (g d)) :
    EvN K (tLc (iList K tl) (gName j) t te ws) σ H ((ds.filter f).map g) := fun A B e s Q q => h A B e s _ fun v A1 B1 P1 hv => by
  obtain ⟨a, xs, rfl, sq, al⟩ := dp_list hv
  refine ⟨a, rfl, ⟨xs, ex_l P1.s sq⟩, fun L hL => lc_list (xs := xs) (fun i H' => LcI K A1 B1 L (((ds.take i).filter f).map g) H') (lci_start P1.s hL) (fun i H' _ p => ex_l (P1.s.trans p.b) sq) ?_ ?_⟩
  · intro i x H' hi p
    obtain ⟨d, hd, hx⟩ := dpa_getV al hi
    have hm : d ∈ ds := List.mem_of_getElem? hd
    have hil : i < ds.length := (List.getElem?_eq_some_iff.mp hd).1
    refine ⟨hw x, ?_⟩
    rw [take_f f g hd]
    refine lci_turn hL p ?_ (fun A' ea => ht d hm x A' ((e.trans P1.a).trans ea) (dp_ex ea hx)) (fun hf A' ea => he d hm hf x A' ((e.trans P1.a).trans ea) (dp_ex ea hx))
    have q2 := List.length_filter_le f (ds.take i)
    rw [List.length_take] at q2
    rw [List.length_map]
    omega
  · intro H' p
    rw [dpa_len al, List.take_length] at p
    exact lci_end hL p fun p xs A' B' hp P => q p xs A' B' (fresh_back P1.b hp) (P1.trans P)
/-- without a test -/
theorem en_lcL1 {j : Nat} {ws : List Nat} (g : D → D) (h : EvD K tl σ H (.list ds)) (hz : ds.length ≤ 40000) (hw : ∀ x, wipe ((wipe σ ws).set j (some x)) ws = wipe σ ws)
    (he : ∀ d ∈ ds, ∀ v H1, Ex H H1 → Dp K H1 v d → EvD K te ((wipe σ ws).set j (some v)) H1 (g d)) :
    EvN K (tLc (iList K tl) (gName j) tYes te ws) σ H (ds.map g) := by
  have := en_lcL (t := tYes) (te := te) (j := j) (ws := ws) (fun _ => true) g h hz hw (fun _ _ _ _ _ _ => eb_yes) (fun d hm _ => he d hm)
  rwa [List.filter_eq_self.mpr (by simp)] at this
/-- over range(n) -/
theorem en_lcR {j : Nat} {m : Int} {ws : List Nat} (g : Nat → D) (h : EvD K te σ H (.int m)) (hz : 0 ≤ m ∧ m ≤ 40000) (hw : ∀ x, wipe ((wipe σ ws).set j (some x)) ws = wipe σ ws)
    (he : ∀ i : Nat, (i : Int) < m → ∀ H1, Ex H H1 → EvD K tb ((wipe σ ws).set j (some (.int (i : Int)))) H1 (g i)) :
    EvN K (tLc (iRng1 (tCons te tNil)) (gName j) tYes tb ws) σ H ((List.range m.toNat).map g) := fun A B e s Q q => h A B e s _ fun v A1 B1 P1 hv => by
  cases hv
  refine ⟨m, rfl, by omega, by omega, fun L hL => lc_range (lo := 0) (n := m.toNat) (fun i H' => LcI K A1 B1 L ((List.range i).map g) H') (lci_start P1.s hL) ?_ ?_⟩
  · intro i H' hi p
    have e0 : (0 : Int) + (i : Int) = (i : Int) := Int.zero_add _
    show wipe ((wipe σ ws).set j (some (.int ((0 : Int) + (i : Int))))) ws = wipe σ ws ∧ tYes ((wipe σ ws).set j (some (.int ((0 : Int) + (i : Int))))) H' fun b H3 => if b = true then tb ((wipe σ ws).set j (some (.int ((0 : Int) + (i : Int))))) H3 fun y H4 => ∃ acc, H4 L = some (.lst acc) ∧ acc.length < sizeLine ∧ LcI K A1 B1 L ((List.range (i + 1)).map g) (upd H4 L (.lst (acc ++ [y]))) else LcI K A1 B1 L ((List.range (i + 1)).map g) H3
    rw [e0]
    refine ⟨hw _, ?_⟩
    have z : (List.range (i + 1)).map g = if true = true then (List.range i).map g ++ [g i] else (List.range i).map g := by rw [if_pos rfl, List.range_succ, List.map_append]; rfl
    rw [z]
    refine lci_turn (f := true) hL p ?_ (fun A' _ => eb_yes) (fun _ A' ea => he i (by omega) A' ((e.trans P1.a).trans ea))
    rw [List.length_map, List.length_range]
    omega
  · intro H' p
    exact lci_end hL p fun p xs A' B' hp P => q p xs A' B' (fresh_back P1.b hp) (P1.trans P)
/-! ## statements -/
variable (K) {Dd : Ends} {ts tw tz : TS} {A A0 H0 B : Hp}
theorem s_asgD {i : Nat} (s : Ex A H) (h : EvD K te σ A d) (k : ∀ v A' B', Pr A H A' B' → Dp K A' v d → Dd.nx (σ.set i (some v)) B') : tAsg te (gName i) Dd σ H := h A H (Ex.refl _) s _ k
theorem s_asgN {i : Nat} (s : Ex A H) (h : EvN K te σ A ds) (k : ∀ p xs A' B', H p = none → Pr A H A' B' → A' p = none → B' p = some (.lst xs) → DpAll K A' xs ds → Dd.nx (σ.set i (some (.ref p))) B') : tAsg te (gName i) Dd σ H := h A H (Ex.refl _) s _ k
theorem s_retD (s : Ex A H) (h : EvD K te σ A d) (k : ∀ v A' B', Pr A H A' B' → Dp K A' v d → Dd.rt v B') : tRet te Dd σ H := h A H (Ex.refl _) s _ k
theorem q_appD {i : Nat} {l : Addr} {t2 : TS} (s : Ex A H) (hi : σ[i]? = some (some (.ref l))) (hl : H l = some (.lst xs)) (hz : xs.length < 100000) (h : EvD K te σ A d)
    (k : ∀ v A' B', Pr A H A' B' → Dp K A' v d → t2 Dd σ (upd B' l (.lst (xs ++ [v])))) : tSeq (tDrop (tBM K "list" rAppend (tVar i) (tCons te tNil))) t2 Dd σ H :=
  ⟨.ref l, hi, .inl ⟨rfl, xs, sq_of hl⟩, h A H (Ex.refl _) s _ fun v A' B' P hv => ⟨l, xs, v, rfl, rfl, P.b _ _ hl, sz_lt hz, k v A' B' P hv⟩⟩
theorem s_retK (s : Ex A H) (h : EvD K te σ A d) (q : d = d') (k : ∀ v A' B', Pr A H A' B' → Dp K A' v d' → Dd.rt v B') : tRet te Dd σ H := by
  subst q
  exact h A H (Ex.refl _) s _ k
/-- the ends of a statement that another one follows -/
def go (Dd : Ends) (t2 : TS) : Ends := { Dd with nx := t2 Dd }
theorem s_seq {t1 t2 : TS} (h : t1 (go Dd t2) σ H) : tSeq t1 t2 Dd σ H := h
theorem go_nx {t2 : TS} (h : t2 Dd σ H) : (go Dd t2).nx σ H := h
theorem s_next (h : Dd.nx σ H) : tNext Dd σ H := h
theorem q_next {t2 : TS} (h : t2 Dd σ H) : tNext (go Dd t2) σ H := h
theorem q_asgD {i : Nat} {t2 : TS} (s : Ex A H) (h : EvD K te σ A d) (k : ∀ v A' B', Pr A H A' B' → Dp K A' v d → t2 Dd (σ.set i (some v)) B') : tSeq (tAsg te (gName i)) t2 Dd σ H := h A H (Ex.refl _) s _ k
theorem q_asgN {i : Nat} {t2 : TS} (s : Ex A H) (h : EvN K te σ A ds) (k : ∀ p xs A' B', H p = none → Pr A H A' B' → A' p = none → B' p = some (.lst xs) → DpAll K A' xs ds → t2 Dd (σ.set i (some (.ref p))) B') : tSeq (tAsg te (gName i)) t2 Dd σ H := h A H (Ex.refl _) s _ k
theorem s_ifD {b : Bool} (s : Ex A H) (h : EvB K t σ A b) (h1 : b = true → ∀ B', Pu A H B' → tw Dd σ B') (h2 : b = false → ∀ B', Pu A H B' → tz Dd σ B') : tIfS t tw tz Dd σ H := h H s _ fun B' e => by
  cases b with
  | true => exact iteT (h1 rfl B' ⟨s, e⟩)
  | false => exact iteF (h2 rfl B' ⟨s, e⟩)
theorem q_ifD {b : Bool} {t2 : TS} (s : Ex A H) (h : EvB K t σ A b) (h1 : b = true → ∀ B', Pu A H B' → tw (go Dd t2) σ B') (h2 : b = false → ∀ B', Pu A H B' → tz (go Dd t2) σ B') : tSeq (tIfS t tw tz) t2 Dd σ H := s_ifD K (Dd := go Dd t2) s h h1 h2
theorem q_ifE {b b' : Bool} {t2 : TS} (s : Ex A H) (h : EvB K t σ A b') (q : b' = b) (h1 : b = true → ∀ B', Pu A H B' → tw (go Dd t2) σ B') (h2 : b = false → ∀ B', Pu A H B' → tz (go Dd t2) σ B') : tSeq (tIfS t tw tz) t2 Dd σ H := s_ifD K (Dd := go Dd t2) s (q ▸ h) h1 h2
theorem s_ifE {b b' : Bool} (s : Ex A H) (h : EvB K t σ A b') (q : b' = b) (h1 : b = true → ∀ B', Pu A H B' → tw Dd σ B') (h2 : b = false → ∀ B', Pu A H B' → tz Dd σ B') : tIfS t tw tz Dd σ H := s_ifD K s (q ▸ h) h1 h2
theorem ed_abs {K : PySem.W.Frag} {p : Prop} (h : p) (hn : ¬ p) : EvD K te σ H (.bool false) := absurd h hn
theorem eb_abs {K : PySem.W.Frag} {p : Prop} (h : p) (hn : ¬ p) : EvB K t σ H false := absurd h hn
/-- a for over a list of data: J of the turn, the slots, the data's heap, the whole heap -/
theorem s_forD {g : TG} (s : Ex A H) (h : EvD K tl σ A (.list ds)) (J : Nat → L2.St → Hp → Hp → Prop) (h0 : ∀ A1 B1, Pr A H A1 B1 → J 0 σ A1 B1)
    (hs : ∀ A1 B1, Pr A H A1 B1 → ∀ i d v σ' A' B', ds[i]? = some d → Pr A1 B1 A' B' → Dp K A' v d → J i σ' A' B' →
      g v σ' B' fun σ2 H2 => ts { Dd with nx := fun σ3 H3 => ∃ A3, Pr A1 B1 A3 H3 ∧ J (i + 1) σ3 A3 H3, ct := fun σ3 H3 => ∃ A3, Pr A1 B1 A3 H3 ∧ J (i + 1) σ3 A3 H3, bk := Dd.nx } σ2 H2)
    (hd : ∀ A1 B1 σ' A' B', Pr A H A1 B1 → Pr A1 B1 A' B' → J ds.length σ' A' B' → Dd.nx σ' B') : tFor (iList K tl) g ts Dd σ H := h A H (Ex.refl _) s _ fun v A1 B1 P1 hv => by
  obtain ⟨a, xs, rfl, sq, al⟩ := dp_list hv
  have hlen := dpa_len al
  refine ⟨a, rfl, ⟨xs, ex_l P1.s sq⟩, for_list (xs := xs) (fun i σ' H' => ∃ A', Pr A1 B1 A' H' ∧ J i σ' A' H') ⟨A1, Pr.refl P1.s, h0 A1 B1 P1⟩ (fun i σ' H' _ ⟨A', P, _⟩ => ex_l (P.a.trans P.s) sq) ?_ ?_⟩
  · rintro i x σ' H' hi' ⟨A', P, p⟩
    obtain ⟨d, hdd, hx⟩ := dpa_getV al hi'
    exact hs A1 B1 P1 i d x σ' A' H' hdd P (dp_ex P.a hx) p
  · rintro σ' H' ⟨A', P, p⟩
    rw [hlen] at p
    exact hd A1 B1 σ' A' H' P1 P p
/-- .. over range(n) -/
theorem s_forR {j : Nat} {n : Int} (s : Ex A H) (h : EvAD K tr σ A [.int n]) (hn : -100000 ≤ n ∧ n ≤ 100000) (J : Nat → L2.St → Hp → Hp → Prop) (h0 : ∀ A1 B1, Pr A H A1 B1 → J 0 σ A1 B1)
    (hs : ∀ A1 B1, Pr A H A1 B1 → ∀ (i : Nat) σ' A' B', (i : Int) < n → Pr A1 B1 A' B' → J i σ' A' B' →
      ts { Dd with nx := fun σ3 H3 => ∃ A3, Pr A1 B1 A3 H3 ∧ J (i + 1) σ3 A3 H3, ct := fun σ3 H3 => ∃ A3, Pr A1 B1 A3 H3 ∧ J (i + 1) σ3 A3 H3, bk := Dd.nx } (σ'.set j (some (.int (i : Int)))) B')
    (hd : ∀ A1 B1 σ' A' B', Pr A H A1 B1 → Pr A1 B1 A' B' → J n.toNat σ' A' B' → Dd.nx σ' B') : tFor (iRng1 tr) (gName j) ts Dd σ H := h A H (Ex.refl _) s _ fun vs A1 B1 P1 hv => by
  obtain ⟨v, rfl, hv1⟩ := dpa1 hv
  cases hv1
  refine ⟨n, rfl, by omega, by omega, for_range (lo := 0) (n := n.toNat) (fun i σ' H' => ∃ A', Pr A1 B1 A' H' ∧ J i σ' A' H') ⟨A1, Pr.refl P1.s, h0 A1 B1 P1⟩ ?_ ?_⟩
  · rintro i σ' H' hi ⟨A', P, p⟩
    have e0 : (0 : Int) + (i : Int) = (i : Int) := Int.zero_add _
    show ts _ (σ'.set j (some (.int ((0 : Int) + (i : Int))))) H'
    rw [e0]
    exact hs A1 B1 P1 i σ' A' H' (by omega) P p
  · rintro σ' H' ⟨A', P, p⟩
    exact hd A1 B1 σ' A' H' P1 P p
/-- the turns of range(lo, hi, c) -/
def rgN (lo hi c : Int) : Nat := (if lo < hi then (hi - lo - 1) / c + 1 else 0).toNat
theorem rgN_lt {lo hi c : Int} (hc : 0 < c) {i : Nat} (h : i < rgN lo hi c) : lo + i * c < hi := by
  unfold rgN at h
  split at h
  · rename_i q
    have z0 : 0 ≤ (hi - lo - 1) / c := Int.ediv_nonneg (by omega) (by omega)
    have z1 : (i : Int) ≤ (hi - lo - 1) / c := by omega
    have z3 : (i : Int) * c ≤ hi - lo - 1 := (Int.le_ediv_iff_mul_le hc).mp z1
    omega
  · simp at h
theorem rgc_up {lo hi c : Int} (hc : 0 < c) (hc2 : c < 1000) (h1 : -100000 ≤ lo ∧ lo ≤ 100000) (h2 : -100000 ≤ hi ∧ hi ≤ 100000) : RgC lo hi c (rgN lo hi c) := by
  have e : Builtin.Range.rangeSize lo hi c = (rgN lo hi c : Int) := by
    unfold Builtin.Range.rangeSize rgN
    rw [if_pos (by omega)]
    split
    · have z0 : 0 ≤ (hi - lo - 1) / c := Int.ediv_nonneg (by omega) (by omega)
      omega
    · rfl
  have hn : (rgN lo hi c : Int) ≤ 200000 := by
    unfold rgN
    split
    · have z0 : 0 ≤ (hi - lo - 1) / c := Int.ediv_nonneg (by omega) (by omega)
      have z1 : (hi - lo - 1) / c ≤ hi - lo - 1 := Int.ediv_le_self _ (by omega)
      omega
    · simp
  refine ⟨by omega, by omega, ?_, e⟩
  unfold Builtin.Range.small
  rw [e]
  simp only [Builtin.Range.rangeFitsLong, Bool.and_eq_true, Bool.or_eq_true, decide_eq_true_eq, beq_iff_eq]
  refine ⟨⟨⟨⟨⟨by omega, by omega⟩, by omega, by omega⟩, by omega, by omega⟩, by omega, by omega⟩, .inr ?_⟩
  rw [if_pos hc, Bool.and_eq_true, decide_eq_true_eq, decide_eq_true_eq]
  omega
/-- .. over range(lo, hi, c), c a small positive number -/
theorem s_forR3 {j : Nat} {lo hi c : Int} (s : Ex A H) (h : EvAD K tr σ A [.int lo, .int hi, .int c]) (hc : 0 < c ∧ c < 1000) (hn : -100000 ≤ lo ∧ lo ≤ 100000 ∧ -100000 ≤ hi ∧ hi ≤ 100000) (J : Nat → L2.St → Hp → Hp → Prop) (h0 : ∀ A1 B1, Pr A H A1 B1 → J 0 σ A1 B1)
    (hs : ∀ A1 B1, Pr A H A1 B1 → ∀ (i : Nat) σ' A' B', lo + i * c < hi → Pr A1 B1 A' B' → J i σ' A' B' →
      ts { Dd with nx := fun σ3 H3 => ∃ A3, Pr A1 B1 A3 H3 ∧ J (i + 1) σ3 A3 H3, ct := fun σ3 H3 => ∃ A3, Pr A1 B1 A3 H3 ∧ J (i + 1) σ3 A3 H3, bk := Dd.nx } (σ'.set j (some (.int (lo + (i : Nat) * c)))) B')
    (hd : ∀ A1 B1 σ' A' B', Pr A H A1 B1 → Pr A1 B1 A' B' → J (rgN lo hi c) σ' A' B' → Dd.nx σ' B') : tFor (iRng3 tr) (gName j) ts Dd σ H := h A H (Ex.refl _) s _ fun vs A1 B1 P1 hv => by
  obtain ⟨v1, v2, v3, rfl, hv1, hv2, hv3⟩ := dpa3 hv
  cases hv1; cases hv2; cases hv3
  refine ⟨lo, hi, c, _, rfl, rgc_up hc.1 hc.2 ⟨by omega, by omega⟩ ⟨by omega, by omega⟩, for_it (walk_rangeC (lo := lo) (c := c) (n := rgN lo hi c)) (fun i σ' H' => ∃ A', Pr A1 B1 A' H' ∧ J i σ' A' H') ⟨A1, Pr.refl P1.s, h0 A1 B1 P1⟩ (fun _ _ _ _ _ => trivial) ?_ ?_⟩
  · rintro i x σ' H' H'' hi' ⟨A', P, p⟩ ⟨rfl, rfl⟩
    exact hs A1 B1 P1 i σ' A' H'' (rgN_lt hc.1 hi') P p
  · rintro σ' H' ⟨A', P, p⟩
    exact hd A1 B1 σ' A' H' P1 P p
/-! ### lists that grow: owned ones, not yet data -/
theorem Pr.mut {A B A' B' : Hp} {l : Addr} {o : HO} (P : Pr A B A' B') (hB : B l = none) (hA : A' l = none) : Pr A B A' (upd B' l o) :=
  ⟨P.a, Ex.mut P.b hB, Ex.mut P.s hA, P.n⟩
theorem Ex.frz {A B : Hp} {l : Addr} {o : HO} (s : Ex A B) (hB : B l = some o) : Ex (upd A l o) B := fun x u z => by
  by_cases w : x = l
  · subst w; rw [upd_same] at z; rw [hB]; exact z
  · rw [upd_ne w] at z; exact s x u z
/-- an owned list becomes a datum -/
theorem Pr.frz {A B A' B' : Hp} {l : Addr} {o : HO} (P : Pr A B A' B') (hB : B l = none) (hA : A' l = none) (h : B' l = some o) : Pr A B (upd A' l o) B' :=
  ⟨P.a.trans (Ex.new hA), P.b, Ex.frz P.s h, fun x y z => by rw [upd_ne (fun (w : x = l) => z (by rw [w]; exact hB))]; exact P.n x y z⟩
theorem Pr.owned {A B A' B' : Hp} {l : Addr} (P : Pr A B A' B') (hA : A l = none) {o : HO} (h : B l = some o) : A' l = none ∧ B' l = some o :=
  ⟨P.n l hA (by rw [h]; simp), P.b _ _ h⟩
theorem s_appD {i : Nat} {l : Addr} (s : Ex A H) (hi : σ[i]? = some (some (.ref l))) (hl : H l = some (.lst xs)) (hz : xs.length < 100000) (h : EvD K te σ A d)
    (k : ∀ v A' B', Pr A H A' B' → Dp K A' v d → Dd.nx σ (upd B' l (.lst (xs ++ [v])))) : tDrop (tBM K "list" rAppend (tVar i) (tCons te tNil)) Dd σ H :=
  ⟨.ref l, hi, .inl ⟨rfl, xs, sq_of hl⟩, h A H (Ex.refl _) s _ fun v A' B' P hv => ⟨l, xs, v, rfl, rfl, P.b _ _ hl, sz_lt hz, k v A' B' P hv⟩⟩
/-- loops with an owned list: J tells all -/
theorem s_forR3x {j : Nat} {lo hi c : Int} (s : Ex A H) (h : EvAD K tr σ A [.int lo, .int hi, .int c]) (hc : 0 < c ∧ c < 1000) (hn : -100000 ≤ lo ∧ lo ≤ 100000 ∧ -100000 ≤ hi ∧ hi ≤ 100000) (J : Nat → L2.St → Hp → Prop) (h0 : ∀ A1 B1, Pr A H A1 B1 → J 0 σ B1)
    (hs : ∀ (i : Nat) σ' B', lo + i * c < hi → J i σ' B' → ts { Dd with nx := J (i + 1), ct := J (i + 1), bk := Dd.nx } (σ'.set j (some (.int (lo + (i : Nat) * c)))) B')
    (hd : ∀ σ' B', J (rgN lo hi c) σ' B' → Dd.nx σ' B') : tFor (iRng3 tr) (gName j) ts Dd σ H := h A H (Ex.refl _) s _ fun vs A1 B1 P1 hv => by
  obtain ⟨v1, v2, v3, rfl, hv1, hv2, hv3⟩ := dpa3 hv
  cases hv1; cases hv2; cases hv3
  refine ⟨lo, hi, c, _, rfl, rgc_up hc.1 hc.2 ⟨by omega, by omega⟩ ⟨by omega, by omega⟩, for_it (walk_rangeC (lo := lo) (c := c) (n := rgN lo hi c)) J (h0 A1 B1 P1) (fun _ _ _ _ _ => trivial) ?_ hd⟩
  rintro i x σ' H' H'' hi' p ⟨rfl, rfl⟩
  exact hs i σ' H'' (rgN_lt hc.1 hi') p
/-- for a, b in zip(list, list) -/
theorem s_forZ {i j : Nat} (s : Ex A H) (h : EvAD K tr σ A [.list ds, .list es]) (J : Nat → L2.St → Hp → Hp → Prop) (h0 : ∀ A1 B1, Pr A H A1 B1 → J 0 σ A1 B1)
    (hs : ∀ A1 B1, Pr A H A1 B1 → ∀ t d e v w σ' A' B', ds[t]? = some d → es[t]? = some e → Pr A1 B1 A' B' → Dp K A' v d → Dp K A' w e → J t σ' A' B' →
      ∀ B2, Pu A' B' B2 → ts { Dd with nx := fun σ3 H3 => ∃ A3, Pr A1 B1 A3 H3 ∧ J (t + 1) σ3 A3 H3, ct := fun σ3 H3 => ∃ A3, Pr A1 B1 A3 H3 ∧ J (t + 1) σ3 A3 H3, bk := Dd.nx } ((σ'.set i (some v)).set j (some w)) B2)
    (hd : ∀ A1 B1 σ' A' B', Pr A H A1 B1 → Pr A1 B1 A' B' → J (min ds.length es.length) σ' A' B' → Dd.nx σ' B') : tFor (iZip K tr) (gTup K 2 (gCons (gName i) (gCons (gName j) gNil))) ts Dd σ H := h A H (Ex.refl _) s _ fun vs A1 B1 P1 hv => by
  obtain ⟨v1, v2, rfl, hv1, hv2⟩ := dpa2 hv
  obtain ⟨a, xs, rfl, sq, al⟩ := dp_list hv1
  obtain ⟨b, ys, rfl, sq2, al2⟩ := dp_list hv2
  refine ⟨a, b, xs, ys, rfl, ex_l P1.s sq, ex_l P1.s sq2, for_it (walk_zip (xs := xs) (ys := ys) (n := min ds.length es.length) (by rw [dpa_len al, dpa_len al2])) (fun i σ' H' => ∃ A', Pr A1 B1 A' H' ∧ J i σ' A' H') ⟨A1, Pr.refl P1.s, h0 A1 B1 P1⟩ (fun i σ' H' _ ⟨A', P, _⟩ => ⟨ex_l (P.a.trans P.s) sq, ex_l (P.a.trans P.s) sq2⟩) ?_ ?_⟩
  · rintro t v σ' H' H'' ht ⟨A', P, p⟩ ⟨T, x, y, rfl, hT, rfl, hx, hy⟩
    obtain ⟨d, hd1, hd2⟩ := dpa_getV al hx
    obtain ⟨e, he1, he2⟩ := dpa_getV al2 hy
    exact ⟨T, [x, y], rfl, st_of upd_same, rfl, x, [y], rfl, y, [], rfl, rfl, hs A1 B1 P1 t d e x y σ' A' H' hd1 he1 P (dp_ex P.a hd2) (dp_ex P.a he2) p _ ⟨P.s, Ex.new hT⟩⟩
  · rintro σ' H' ⟨A', P, p⟩
    exact hd A1 B1 σ' A' H' P1 P p
theorem q_forD {t2 : TS} {g : TG} (s : Ex A H) (h : EvD K tl σ A (.list ds)) (J : Nat → L2.St → Hp → Hp → Prop) (h0 : ∀ A1 B1, Pr A H A1 B1 → J 0 σ A1 B1)
    (hs : ∀ A1 B1, Pr A H A1 B1 → ∀ i d v σ' A' B', ds[i]? = some d → Pr A1 B1 A' B' → Dp K A' v d → J i σ' A' B' →
      g v σ' B' fun σ2 H2 => ts { (go Dd t2) with nx := fun σ3 H3 => ∃ A3, Pr A1 B1 A3 H3 ∧ J (i + 1) σ3 A3 H3, ct := fun σ3 H3 => ∃ A3, Pr A1 B1 A3 H3 ∧ J (i + 1) σ3 A3 H3, bk := t2 Dd } σ2 H2)
    (hd : ∀ A1 B1 σ' A' B', Pr A H A1 B1 → Pr A1 B1 A' B' → J ds.length σ' A' B' → t2 Dd σ' B') : tSeq (tFor (iList K tl) g ts) t2 Dd σ H := s_forD K (Dd := go Dd t2) s h J h0 hs hd
theorem q_forR {t2 : TS} {j : Nat} {n : Int} (s : Ex A H) (h : EvAD K tr σ A [.int n]) (hn : -100000 ≤ n ∧ n ≤ 100000) (J : Nat → L2.St → Hp → Hp → Prop) (h0 : ∀ A1 B1, Pr A H A1 B1 → J 0 σ A1 B1)
    (hs : ∀ A1 B1, Pr A H A1 B1 → ∀ (i : Nat) σ' A' B', (i : Int) < n → Pr A1 B1 A' B' → J i σ' A' B' →
      ts { (go Dd t2) with nx := fun σ3 H3 => ∃ A3, Pr A1 B1 A3 H3 ∧ J (i + 1) σ3 A3 H3, ct := fun σ3 H3 => ∃ A3, Pr A1 B1 A3 H3 ∧ J (i + 1) σ3 A3 H3, bk := t2 Dd } (σ'.set j (some (.int (i : Int)))) B')
    (hd : ∀ A1 B1 σ' A' B', Pr A H A1 B1 → Pr A1 B1 A' B' → J n.toNat σ' A' B' → t2 Dd σ' B') : tSeq (tFor (iRng1 tr) (gName j) ts) t2 Dd σ H := s_forR K (Dd := go Dd t2) s h hn J h0 hs hd
theorem q_forR3 {t2 : TS} {j : Nat} {lo hi c : Int} (s : Ex A H) (h : EvAD K tr σ A [.int lo, .int hi, .int c]) (hc : 0 < c ∧ c < 1000) (hn : -100000 ≤ lo ∧ lo ≤ 100000 ∧ -100000 ≤ hi ∧ hi ≤ 100000) (J : Nat → L2.St → Hp → Hp → Prop) (h0 : ∀ A1 B1, Pr A H A1 B1 → J 0 σ A1 B1)
    (hs : ∀ A1 B1, Pr A H A1 B1 → ∀ (i : Nat) σ' A' B', lo + i * c < hi → Pr A1 B1 A' B' → J i σ' A' B' →
      ts { (go Dd t2) with nx := fun σ3 H3 => ∃ A3, Pr A1 B1 A3 H3 ∧ J (i + 1) σ3 A3 H3, ct := fun σ3 H3 => ∃ A3, Pr A1 B1 A3 H3 ∧ J (i + 1) σ3 A3 H3, bk := t2 Dd } (σ'.set j (some (.int (lo + (i : Nat) * c)))) B')
    (hd : ∀ A1 B1 σ' A' B', Pr A H A1 B1 → Pr A1 B1 A' B' → J (rgN lo hi c) σ' A' B' → t2 Dd σ' B') : tSeq (tFor (iRng3 tr) (gName j) ts) t2 Dd σ H := s_forR3 K (Dd := go Dd t2) s h hc hn J h0 hs hd
theorem q_forR3x {t2 : TS} {j : Nat} {lo hi c : Int} (s : Ex A H) (h : EvAD K tr σ A [.int lo, .int hi, .int c]) (hc : 0 < c ∧ c < 1000) (hn : -100000 ≤ lo ∧ lo ≤ 100000 ∧ -100000 ≤ hi ∧ hi ≤ 100000) (J : Nat → L2.St → Hp → Prop) (h0 : ∀ A1 B1, Pr A H A1 B1 → J 0 σ B1)
    (hs : ∀ (i : Nat) σ' B', lo + i * c < hi → J i σ' B' → ts { (go Dd t2) with nx := J (i + 1), ct := J (i + 1), bk := t2 Dd } (σ'.set j (some (.int (lo + (i : Nat) * c)))) B')
    (hd : ∀ σ' B', J (rgN lo hi c) σ' B' → t2 Dd σ' B') : tSeq (tFor (iRng3 tr) (gName j) ts) t2 Dd σ H := s_forR3x K (Dd := go Dd t2) s h hc hn J h0 hs hd
theorem q_forZ {t2 : TS} {i j : Nat} (s : Ex A H) (h : EvAD K tr σ A [.list ds, .list es]) (J : Nat → L2.St → Hp → Hp → Prop) (h0 : ∀ A1 B1, Pr A H A1 B1 → J 0 σ A1 B1)
    (hs : ∀ A1 B1, Pr A H A1 B1 → ∀ t d e v w σ' A' B', ds[t]? = some d → es[t]? = some e → Pr A1 B1 A' B' → Dp K A' v d → Dp K A' w e → J t σ' A' B' →
      ∀ B2, Pu A' B' B2 → ts { (go Dd t2) with nx := fun σ3 H3 => ∃ A3, Pr A1 B1 A3 H3 ∧ J (t + 1) σ3 A3 H3, ct := fun σ3 H3 => ∃ A3, Pr A1 B1 A3 H3 ∧ J (t + 1) σ3 A3 H3, bk := t2 Dd } ((σ'.set i (some v)).set j (some w)) B2)
    (hd : ∀ A1 B1 σ' A' B', Pr A H A1 B1 → Pr A1 B1 A' B' → J (min ds.length es.length) σ' A' B' → t2 Dd σ' B') : tSeq (tFor (iZip K tr) (gTup K 2 (gCons (gName i) (gCons (gName j) gNil))) ts) t2 Dd σ H := s_forZ K (Dd := go Dd t2) s h J h0 hs hd
variable {K}
/-! ### shapes of data -/
def ShN (n : Nat) (d : D) : Prop := d.canLay0 = true ∧ d.depth ≤ n
theorem shn_int {n : Nat} {i : Int} : ShN n (.int i) := ⟨rfl, Nat.zero_le _⟩
theorem shn_bl {n : Nat} {i : Bool} : ShN n (.bool i) := ⟨rfl, Nat.zero_le _⟩
theorem shn_non {n : Nat} : ShN n .none := ⟨rfl, Nat.zero_le _⟩
theorem shn_all {n : Nat} : ∀ {ds : List D}, (∀ d ∈ ds, ShN n d) → PyData.canLayAll0 ds = true ∧ PyData.depthAll ds ≤ n
  | [], _ => ⟨rfl, Nat.zero_le _⟩
  | d :: ds, h => by
    obtain ⟨a, b⟩ := h d List.mem_cons_self
    obtain ⟨c, e⟩ := shn_all (ds := ds) fun x hx => h x (List.mem_cons_of_mem _ hx)
    refine ⟨?_, ?_⟩
    · show (d.canLay0 && PyData.canLayAll0 ds) = true
      rw [a, c]; rfl
    · show max d.depth (PyData.depthAll ds) ≤ n
      omega
theorem shn_tup {n : Nat} (h : ∀ d ∈ ds, ShN n d) : ShN (n + 1) (.tuple ds) := by
  obtain ⟨a, b⟩ := shn_all h
  exact ⟨a, Nat.succ_le_succ b⟩
theorem shn_list {n : Nat} (h : ∀ d ∈ ds, ShN n d) : ShN (n + 1) (.list ds) := by
  obtain ⟨a, b⟩ := shn_all h
  exact ⟨a, Nat.succ_le_succ b⟩
theorem ShN.sh {n : Nat} (h : ShN n d) (hn : n ≤ 64) : SeqAt.shaped d = true := by
  unfold SeqAt.shaped
  rw [h.1, decide_eq_true (Nat.le_trans h.2 hn)]
  rfl
theorem eqv_refl (h : SeqAt.shaped d = true) : PyData.eqv d d = true := by
  have := (Bool.and_eq_true_iff.mp h).1
  exact SeqAt.eqv_refl d this
/-! ## promises over data -/
/-- to such arguments such an answer -/
def SpD (K : PySem.W.Frag) (sp : Sp) (ds : List D) (d : D) : Prop := ∀ A B vs Q E, Ex A B → DpAll K A vs ds → (∀ v A' B', Pr A B A' B' → Dp K A' v d → Q v B') → sp vs B Q E
theorem ed_call {sp : Sp} {E : XK} (h : EvAD K tr σ H ds) (hs : SpD K sp ds d) : EvD K (tCall sp [] E tr) σ H d := fun A B e s Q q => h A B e s _ fun vs A2 B2 P2 ha => by
  show sp (vs ++ []) B2 Q E
  rw [List.append_nil]
  exact hs A2 B2 vs Q E P2.s ha fun v A3 B3 P3 => q v A3 B3 (P2.trans P3)
end
/-- the promise of a def whose answer is the datum res x, to the arguments args x -/
def spF (K : PySem.W.Frag) {α : Type} (args : α → List D) (ok : α → Prop) (res : α → D) : Sp := fun vs H Q _ => ∃ A x, ok x ∧ Ex A H ∧ DpAll K A vs (args x) ∧ ∀ v A' B', Pr A H A' B' → Dp K A' v (res x) → Q v B'
theorem spF_len {K : PySem.W.Frag} {α : Type} {args : α → List D} {ok : α → Prop} {res : α → D} {vs : List V} {H : Hp} {Q : VK} {E : XK} {n : Nat} (h : spF K args ok res vs H Q E) (hl : ∀ x, (args x).length = n) : vs.length = n := by
  obtain ⟨A, x, _, _, ha, _⟩ := h
  rw [dpa_len ha, hl x]
theorem spF_at {K : PySem.W.Frag} {α : Type} {args : α → List D} {ok : α → Prop} {res : α → D} (x : α) (h : ok x) : SpD K (spF K args ok res) (args x) (res x) := fun A _ _ _ _ s ha k => ⟨A, x, h, s, ha, k⟩
theorem cx_K {CX : CXT} {P : Program} {w : World} {K : PySem.W.Frag} {mg : Str → Option Value} {base : Heap} {N : List Str} {qual : Str} {scope : Scope} {f : Addr} {cd : Value} {A : Around} {outer : List Env} {s : Shared} {H : Hp} {E : XK} :
    (cxOf CX P w K mg base N qual scope f cd A outer s H E).nox.K = K := rfl
/-- one def of the text, ready to be called by its name -/
def DefOk (P : Program) (w : World) (K : PySem.W.Frag) (mg : Str → Option Value) (base : Heap) (CX : CXT) (k : Nat) (x : Str) (ps : List Str) (sp : Sp) : Prop :=
  ∃ f fd, mg x = some (.ref f) ∧ PySem.W.keepIn K (.ref f) = true ∧ Binds K fd ps [] ∧ FnOk P w K mg base CX k f fd ps sp
/-- what the top says of a def -/
structure DefAt (K : PySem.W.Frag) (mg : Str → Option Value) (x : Str) (st : Stmt) (ps : List Str) (f : Addr) (fd : FuncData) : Prop where
  F : Fun K x x st f fd
  g : mg x = some (.ref f)
  b : Binds K fd ps []
theorem DefAt.ok {P : Program} {w : World} {K : PySem.W.Frag} {mg : Str → Option Value} {base : Heap} {CX : CXT} {k : Nat} {x : Str} {st : Stmt} {ps : List Str} {f : Addr} {fd : FuncData} {sp : Sp} (d : DefAt K mg x st ps f fd) (h : FnOk P w K mg base CX k f fd ps sp) : DefOk P w K mg base CX k x ps sp :=
  ⟨f, fd, d.g, d.F.kp, d.b, h⟩
section
variable {X : Cx} {CX : CXT} {k : Nat} {x : Str} {ps : List Str} {sp : Sp} {E : XK} {p pos : Pos} {e : Expr} {es : List Expr} {t : TA}
theorem pe_cd (G : DefOk X.prog X.w X.K X.mg X.base CX k x ps sp) (hr : Room k X.A) (hg : Gl X x) (hx : Passes CX X E) (ha : PA X (e :: es) t) (hdb : (x == ("__debug__" : Str)) = false := by decide)
    (he : starEach (e :: es) X.env = (false, eval e X.env) :: starEach es X.env := by rfl) (hpl : (backTo pos (starEach es X.env)).any (·.1) = false := by rfl) : PE X (.Call (.Name x p) (e :: es) [] pos) (tCall sp [] E t) := by
  obtain ⟨f, fd, h1, h2, h3, h4⟩ := G
  exact pe_call h4 hr hg h1 h2 h3 .nil hx ha hdb he hpl
theorem pe_ty {T : String} (hg : Gl X x) (hm : X.mg x = none) (hv : bootBuiltins x = some (.type T)) (hn : x ≠ "__name__" := by decide) (hd : (x == ("__debug__" : Str)) = false := by decide) : PE X (.Name x p) (tC (.ty T)) :=
  pe_bltn (v := .ty T) hg hm hv rfl hn hd
/-! built-in words, the written part a letter -/
section
variable {K : PySem.W.Frag}
theorem ixT (h : X.K = K) : IxR X (rIxT K) := h ▸ ix_tup
theorem ixL (h : X.K = K) : IxR X (rIxL K) := h ▸ ix_list
theorem slL (h : X.K = K) : SlR X (rSlL K) := h ▸ sl_list
theorem o_eqD (h : X.K = K) (hu : X.A.units + 64 < cLine) : OpR X (compareOp .Eq) (rEqD K) := h ▸ op_eqD hu
theorem o_neD (h : X.K = K) (hu : X.A.units + 64 < cLine) : OpR X (compareOp .NotEq) (rNeD K) := h ▸ op_neD hu
theorem o_in (h : X.K = K) : OpR X (compareOp .In) (rIn K false) := h ▸ op_in_seq
theorem o_notIn (h : X.K = K) : OpR X (compareOp .NotIn) (rIn K true) := h ▸ op_notIn_seq
theorem c_len (h : X.K = K) : CallR X (.builtin "len") (rLenS K) := h ▸ call_len_seq
theorem c_list (h : X.K = K) : CallR X (.type "list") (rListS K) := h ▸ call_list_of
theorem c_isi (h : X.K = K) : CallR X (.builtin "isinstance") (rIsi K) := h ▸ call_isi
theorem c_max (h : X.K = K) (hc : X.calm = true) : CallR X (.builtin "max") (rMax K) := h ▸ cr_max hc
theorem c_all (h : X.K = K) (hc : X.calm = true) : CallR X (.builtin "all") (rAll K) := h ▸ cr_all hc
end
end
end Ob

set_option Elab.async false
set_option linter.all false
set_option maxRecDepth 100000
set_option maxHeartbeats 2000000
namespace Ob
open PySem L2 Evl
section
variable {X : Cx} {K : PySem.W.Frag} {H H' H1 : Hp} {σ : L2.St} {v : V} {ds es : List D} {d d' : D} {ta tb te to tl : TE} {tr : TA}
/-! ## texts -/
theorem o_addS : OpR X (binaryOp .Add) rAddS := op_add_str
theorem ed_addS {x y : Str} (ha : EvD K ta σ H (.str x)) (hb : EvD K tb σ H (.str y)) (hl : x.length + y.length ≤ 100000) : EvD K (tOp rAddS ta tb) σ H (.str (x ++ y)) :=
  ed_v (ev_op (v_str ha) (v_str hb) (rv_val fun _ _ _ q => ⟨x, y, rfl, rfl, sz_of hl, q⟩)) (.str _)
/-- the figures of a whole number -/
def numS (i : Int) : Str := Str.ofString (toString i)
def rStrI : List V → Hp → VK → Prop := fun xs H Q => ∃ i : Int, xs = [.int i] ∧ i.natAbs.log2 < 1920 ∧ Q (.str (numS i)) H
theorem c_strI : CallR X (.type "str") rStrI := call_str_int
theorem ed_strI {i : Int} (h : EvD K ta σ H (.int i)) (hl : i.natAbs.log2 < 1920) : EvD K (tCB rStrI (tCons ta tNil)) σ H (.str (numS i)) := ed_call1 h fun _ B hv _ q => by
  cases hv
  exact ⟨i, rfl, hl, q _ fun _ => .str _⟩
def rIntS : List V → Hp → VK → Prop := fun xs H Q => ∃ a n, xs = [.str a] ∧ PySem.intText? a = some n ∧ a.length ≤ 640 ∧ Q (.int n) H
theorem c_intS : CallR X (.type "int") rIntS := call_int_str
theorem ed_intS {w : Str} {n : Int} (h : EvD K ta σ H (.str w)) (hn : PySem.intText? w = some n) (hl : w.length ≤ 640) : EvD K (tCB rIntS (tCons ta tNil)) σ H (.int n) := ed_call1 h fun _ B hv _ q => by
  cases hv
  exact ⟨w, n, rfl, hn, hl, q _ fun _ => .int _⟩
def rLenT : List V → Hp → VK → Prop := fun xs H Q => ∃ z : Str, xs = [.str z] ∧ z.length ≤ sizeLine ∧ Q (.int z.length) H
theorem c_lenS : CallR X (.builtin "len") rLenT := call_len_str
theorem ed_lenS {w : Str} (h : EvD K ta σ H (.str w)) (hl : w.length ≤ 100000) : EvD K (tCB rLenT (tCons ta tNil)) σ H (.int (w.length : Int)) := ed_call1 h fun _ B hv _ q => by
  cases hv
  exact ⟨w, rfl, sz_of hl, q _ fun _ => .int _⟩
theorem ed_fmtI {i : Int} (h : EvD K te σ H (.int i)) (hl : i.natAbs.log2 < 1920) : EvD K (tFmt te) σ H (.str (numS i)) :=
  ed_v (v := .str (numS i)) (fun H1 e Q q => v_int h H1 e _ fun H2 e2 => .inr ⟨i, rfl, hl, q H2 e2⟩) (.str _)
/-- the parts of an f-string -/
def tJn (ts : List TE) : TE := fun σ H Q => tJs ts Str.empty σ H fun out H1 => Q (.str out) H1
theorem pe_jn {v1 v2 : Expr} {rest : List Expr} {ts : List TE} {pos : Pos} (h : PJ X (v1 :: v2 :: rest) ts) : PE X (.JoinedStr (v1 :: v2 :: rest) pos) (tJn ts) := pe_joined h
def EvJ (_ : PySem.W.Frag) (ts : List TE) (acc : Str) (σ : L2.St) (H : Hp) (out : Str) : Prop := ∀ H1, Ex H H1 → ∀ Q : Str → Hp → Prop, (∀ H2, Ex H1 H2 → Q out H2) → tJs ts acc σ H1 Q
theorem ej_nil {acc : Str} : EvJ K [] acc σ H acc := fun H1 _ _ q => q H1 (Ex.refl _)
theorem ej_cons {t : TE} {ts : List TE} {acc y out : Str} (h : EvD K t σ H (.str y)) (hl : acc.length + y.length ≤ 100000) (r : EvJ K ts (acc ++ y) σ H out) : EvJ K (t :: ts) acc σ H out := fun H1 e Q q =>
  v_str h H1 e _ fun H2 e2 => ⟨y, rfl, sz_of (by rw [show (acc ++ y).length = acc.length + y.length from Str.length_append _ _]; exact hl), r H2 (e.trans e2) Q fun H3 e3 => q H3 (e2.trans e3)⟩
theorem ed_jn {ts : List TE} {out : Str} (h : EvJ K ts Str.empty σ H out) : EvD K (tJn ts) σ H (.str out) :=
  ed_v (v := .str out) (fun H1 e Q q => h H1 e _ fun H2 e2 => q H2 e2) (.str _)
def rSplit : V → List V → Hp → VK → Prop := fun x xs H Q => ∃ a b, x = .str a ∧ xs = [.str b] ∧ (b.length == 0) = false ∧ a.length + 2 ≤ sizeLine ∧ rNewStrs (Txt.split a b) H Q
theorem pe_splitN {o e : Expr} {apos pos : Pos} (ho : PE X o to) (he : PE X e te) (hs : starEach [e] X.env = [(false, eval e X.env)] := by rfl) (hbase : attributeBase o "split" X.env (eval o X.env) = eval o X.env := by rfl) (hline : (apos.endLine == pos.line) = true := by rfl) :
    PE X (.Call (.Attribute o "split" apos) [e] [] pos) (tM1 rSplit to te) := pe_split ho he hs hbase hline
theorem dpa_strs : ∀ {ns : List Str}, DpAll K H (ns.map V.str) (ns.map PyData.str)
  | [] => .nil
  | _ :: _ => .cons (.str _) dpa_strs
theorem en_split {a b : Str} (h1 : EvD K to σ H (.str a)) (h2 : EvD K te σ H (.str b)) (hb : (b.length == 0) = false) (hl : a.length ≤ 100000) : EvN K (tM1 rSplit to te) σ H ((Txt.split a b).map PyData.str) := fun A B e s Q q =>
  v_str h1 B (e.trans s) _ fun B2 e2 => ⟨⟨a, rfl⟩, v_str h2 B2 ((e.trans s).trans e2) _ fun B3 e3 => ⟨a, b, rfl, rfl, hb, Nat.le_trans (show a.length + 2 ≤ 100002 by omega) (by decide), fun p hp =>
    q p _ A _ (fresh_back (e2.trans e3) hp) ((Pr.up s (e2.trans e3)).trans (Pr.priv (s.trans (e2.trans e3)) hp)) (fresh_back (s.trans (e2.trans e3)) hp) upd_same dpa_strs⟩⟩
theorem shn_str {n : Nat} {x : Str} (h : PyData.strOk x = true) : ShN n (.str x) := ⟨h, Nat.zero_le _⟩
/-! ## in -/
def flatD : D → Bool
  | .none => true | .bool _ => true | .int _ => true | .str _ => true | _ => false
theorem flat_V (h : Dp K H v d) (hf : flatD d = true) : flatV v = true := by
  cases h <;> first | rfl | cases hf
theorem eqv_V {w : V} {e : D} (h : Dp K H v d) (h' : Dp K H w e) (hf : flatD d = true) (hf' : flatD e = true) : eqV v w = PyData.eqv d e := by
  cases h <;> first | (cases hf; done) | (cases h' <;> first | (cases hf'; done) | rfl | (simp [eqV, PyData.eqv]))
theorem flat_all : ∀ {vs : List V} {ds : List D}, DpAll K H vs ds → ds.all flatD = true → vs.all flatV = true
  | _, _, .nil, _ => rfl
  | _, _, .cons a t, h => by
    rw [List.all_cons, Bool.and_eq_true] at h
    rw [List.all_cons, flat_V a h.1, flat_all t h.2]
    rfl
theorem inV_D {w : V} {e : D} (h : Dp K H w e) (hf : flatD e = true) : ∀ {vs : List V} {ds : List D}, DpAll K H vs ds → ds.all flatD = true → inV w vs = ds.any fun y => PyData.eqv y e
  | _, _, .nil, _ => rfl
  | _, _, .cons a t, q => by
    rw [List.all_cons, Bool.and_eq_true] at q
    unfold inV
    rw [List.any_cons, List.any_cons, eqv_V a h q.1 hf]
    have := inV_D h hf t q.2
    unfold inV at this
    rw [this]
theorem ed_inT (ha : EvD K ta σ H d) (hb : EvD K tb σ H (.tuple ds)) (hf : flatD d = true) (hs : ds.all flatD = true) : EvD K (tOp (rIn K false) ta tb) σ H (.bool (ds.any fun y => PyData.eqv y d)) :=
  ed_opB ha hb fun _ _ _ hx hy _ q => by
    obtain ⟨a, xs, rfl, s, al⟩ := dp_tuple hy
    refine ⟨a, xs, rfl, .inr s, flat_V hx hf, flat_all al hs, q _ fun _ _ _ _ => ?_⟩
    rw [← inV_D hx hf al hs]
    exact .bl _
theorem ed_niT (ha : EvD K ta σ H d) (hb : EvD K tb σ H (.tuple ds)) (hf : flatD d = true) (hs : ds.all flatD = true) : EvD K (tOp (rIn K true) ta tb) σ H (.bool (!ds.any fun y => PyData.eqv y d)) :=
  ed_opB ha hb fun _ _ _ hx hy _ q => by
    obtain ⟨a, xs, rfl, s, al⟩ := dp_tuple hy
    refine ⟨a, xs, rfl, .inr s, flat_V hx hf, flat_all al hs, q _ fun _ _ _ _ => ?_⟩
    rw [← inV_D hx hf al hs]
    exact .bl _
theorem ed_inL (ha : EvD K ta σ H d) (hb : EvD K tb σ H (.list ds)) (hf : flatD d = true) (hs : ds.all flatD = true) : EvD K (tOp (rIn K false) ta tb) σ H (.bool (ds.any fun y => PyData.eqv y d)) :=
  ed_opB ha hb fun _ _ _ hx hy _ q => by
    obtain ⟨a, xs, rfl, s, al⟩ := dp_list hy
    refine ⟨a, xs, rfl, .inl s, flat_V hx hf, flat_all al hs, q _ fun _ _ _ _ => ?_⟩
    rw [← inV_D hx hf al hs]
    exact .bl _
theorem ed_niL (ha : EvD K ta σ H d) (hb : EvD K tb σ H (.list ds)) (hf : flatD d = true) (hs : ds.all flatD = true) : EvD K (tOp (rIn K true) ta tb) σ H (.bool (!ds.any fun y => PyData.eqv y d)) :=
  ed_opB ha hb fun _ _ _ hx hy _ q => by
    obtain ⟨a, xs, rfl, s, al⟩ := dp_list hy
    refine ⟨a, xs, rfl, .inl s, flat_V hx hf, flat_all al hs, q _ fun _ _ _ _ => ?_⟩
    rw [← inV_D hx hf al hs]
    exact .bl _
theorem c_max2 (hc : X.calm = true) : CallR X (.builtin "max") rMax2 := call_max2 hc
theorem ed_max2 {i j : Int} (ha : EvD K ta σ H (.int i)) (hb : EvD K tb σ H (.int j)) : EvD K (tCB rMax2 (tCons ta (tCons tb tNil))) σ H (.int (if j > i then j else i)) := ed_v (ev_max2 (v_int ha) (v_int hb)) (.int _)
theorem ed_neg {i : Int} (h : EvD K ta σ H (.int i)) : EvD K (tUn (rU fun i => .int (-i)) ta) σ H (.int (-i)) := ed_v (ev_un (v_int h) ru_neg) (.int _)
/-- one sign in a text -/
theorem ed_inSg {c : Nat} {z : Str} (ha : EvD K ta σ H (.str ⟨#[c]⟩)) (hb : EvD K tb σ H (.str z)) : EvD K (tOp rInS ta tb) σ H (.bool (decide (c ∈ z.cps.toList))) :=
  ed_v (ev_op (v_str ha) (v_str hb) (rv_val fun _ _ _ q => ⟨c, z, rfl, rfl, q⟩)) (.bl _)
theorem ed_niSg {c : Nat} {z : Str} (ha : EvD K ta σ H (.str ⟨#[c]⟩)) (hb : EvD K tb σ H (.str z)) : EvD K (tOp rNotInS ta tb) σ H (.bool (!decide (c ∈ z.cps.toList))) :=
  ed_v (ev_op (v_str ha) (v_str hb) (rv_val fun _ _ _ q => ⟨c, z, rfl, rfl, q⟩)) (.bl _)
/-- is None -/
def isNone : D → Bool
  | .none => true
  | _ => false
theorem dec_non (h : Dp K H v d) : decide (v = .non) = isNone d := by
  cases h <;> first | rfl | (rw [decide_eq_false]; rfl; intro z; cases z)
theorem ed_isN (h : EvD K ta σ H d) : EvD K (tOp rIsN ta (tC .non)) σ H (.bool (isNone d)) := fun A B e s Q q => h A B e s _ fun v A2 B2 P2 hv => ⟨rfl, by rw [dec_non hv]; exact q _ A2 B2 P2 (.bl _)⟩
theorem ed_notN (h : EvD K ta σ H d) : EvD K (tOp rNotN ta (tC .non)) σ H (.bool (!isNone d)) := fun A B e s Q q => h A B e s _ fun v A2 B2 P2 hv => ⟨rfl, by rw [dec_non hv]; exact q _ A2 B2 P2 (.bl _)⟩
/-- two names at once -/
theorem q_asg2 (K : PySem.W.Frag) {Dd : Ends} {A : Hp} {t2 : TS} {i j : Nat} {d1 d2 : D} (s : Ex A H) (h : EvD K te σ A (.tuple [d1, d2])) (k : ∀ v1 v2 A' B', Pr A H A' B' → Dp K A' v1 d1 → Dp K A' v2 d2 → t2 Dd ((σ.set i (some v1)).set j (some v2)) B') :
    tSeq (tAsg te (gTup K 2 (gCons (gName i) (gCons (gName j) gNil)))) t2 Dd σ H := h A H (Ex.refl _) s _ fun v A' B' P hv => by
  obtain ⟨a, xs, rfl, sq, al⟩ := dp_tuple hv
  obtain ⟨v1, v2, rfl, h1, h2⟩ := dpa2 al
  exact ⟨a, [v1, v2], rfl, ex_t P.s sq, rfl, v1, [v2], rfl, v2, [], rfl, rfl, k v1 v2 A' B' P h1 h2⟩
/-- a for over a text's signs -/
theorem q_forS (K : PySem.W.Frag) {Dd : Ends} {A : Hp} {g : TG} {ts t2 : TS} {z : Str} (s : Ex A H) (h : EvD K tl σ A (.str z)) (J : Nat → L2.St → Hp → Hp → Prop) (h0 : ∀ A1 B1, Pr A H A1 B1 → J 0 σ A1 B1)
    (hs : ∀ A1 B1, Pr A H A1 B1 → ∀ i c σ' A' B', z.cps.toList[i]? = some c → Pr A1 B1 A' B' → J i σ' A' B' →
      g (.str ⟨#[c]⟩) σ' B' fun σ2 H2 => ts { (go Dd t2) with nx := fun σ3 H3 => ∃ A3, Pr A1 B1 A3 H3 ∧ J (i + 1) σ3 A3 H3, ct := fun σ3 H3 => ∃ A3, Pr A1 B1 A3 H3 ∧ J (i + 1) σ3 A3 H3, bk := t2 Dd } σ2 H2)
    (hd : ∀ A1 B1 σ' A' B', Pr A H A1 B1 → Pr A1 B1 A' B' → J z.cps.toList.length σ' A' B' → t2 Dd σ' B') : tSeq (tFor (iStr tl) g ts) t2 Dd σ H := h A H (Ex.refl _) s _ fun v A1 B1 P1 hv => by
  cases hv
  refine ⟨z, rfl, for_it walk_str (fun i σ' H' => ∃ A', Pr A1 B1 A' H' ∧ J i σ' A' H') ⟨A1, Pr.refl P1.s, h0 A1 B1 P1⟩ (fun _ _ _ _ _ => trivial) ?_ ?_⟩
  · rintro i x σ' H' H'' hi ⟨A', P, p⟩ ⟨rfl, c, hc, rfl⟩
    exact hs A1 B1 P1 i c σ' A' H'' (by rw [Array.getElem?_toList]; exact hc) P p
  · rintro σ' H' ⟨A', P, p⟩
    exact hd A1 B1 σ' A' H' P1 P (by rw [Array.length_toList]; exact p)
/-! ## what may raise: r = none -/
def EvX (K : PySem.W.Frag) (te : TE) (σ : L2.St) (H : Hp) (r : Option D) (R : Hp → Prop) : Prop :=
  ∀ A B, Ex H A → Ex A B → ∀ Q : VK, (∀ d, r = some d → ∀ v A' B', Pr A B A' B' → Dp K A' v d → Q v B') → (r = none → ∀ B', Ex B B' → R B') → te σ B Q
def EvAX (K : PySem.W.Frag) (ta : TA) (σ : L2.St) (H : Hp) (r : Option (List D)) (R : Hp → Prop) : Prop :=
  ∀ A B, Ex H A → Ex A B → ∀ Q : List V → Hp → Prop, (∀ ds, r = some ds → ∀ vs A' B', Pr A B A' B' → DpAll K A' vs ds → Q vs B') → (r = none → ∀ B', Ex B B' → R B') → ta σ B Q
variable {r r1 : Option D} {R : Hp → Prop}
theorem ex_d (h : EvD K te σ H d) : EvX K te σ H (some d) R := fun A B e s Q q _ => h A B e s Q fun v A' B' P hv => q d rfl v A' B' P hv
theorem ex_is (h : EvX K te σ H r R) (q : r = r1) : EvX K te σ H r1 R := q ▸ h
theorem eax_nil : EvAX K tNil σ H (some []) R := fun A B _ s _ q _ => q [] rfl [] A B (Pr.refl s) .nil
def consO (r : Option D) (q : Option (List D)) : Option (List D) := match r, q with
  | some d, some ds => some (d :: ds)
  | _, _ => none
theorem eax_cons {q : Option (List D)} (h : EvX K ta σ H r R) (hr : EvAX K tr σ H q R) : EvAX K (tCons ta tr) σ H (consO r q) R := fun A B e s Q k x =>
  h A B e s _ (fun d hd v A2 B2 P2 hv => hr A2 B2 (e.trans P2.a) P2.s _ (fun ds hds vs A3 B3 P3 ha => k (d :: ds) (by rw [hd, hds]; rfl) _ A3 B3 (P2.trans P3) (.cons (dp_ex P3.a hv) ha)) fun hn B3 e3 => x (by rw [hd, hn]; rfl) B3 (P2.b.trans e3)) fun hn B2 e2 => x (by rw [hn]; rfl) B2 e2
theorem ex_tup {q : Option (List D)} (h : EvAX K tr σ H q R) (hl : ∀ ds, q = some ds → ds.length ≤ 100000) : EvX K (tTup tr) σ H (q.map .tuple) R := fun A B e s Q k x =>
  h A B e s _ (fun ds hds vs A2 B2 P2 ha => ⟨sz_of (by rw [dpa_len ha]; exact hl ds hds), fun p hp => k (.tuple ds) (by rw [hds]; rfl) _ (upd A2 p (.tup vs)) _ (P2.trans (Pr.new P2.s hp)) (.tup (st_of upd_same) (dpa_ex (Ex.new (fresh_back P2.s hp)) ha))⟩) fun hn B2 e2 => x (by rw [hn]; rfl) B2 e2
/-- to such arguments such an answer, or C is raised -/
def SpX (K : PySem.W.Frag) (sp : Sp) (C : Addr) (ds : List D) (r : Option D) : Prop := ∀ A B vs Q E, Ex A B → DpAll K A vs ds → (∀ d, r = some d → ∀ v A' B', Pr A B A' B' → Dp K A' v d → Q v B') → (r = none → ∀ B', Ex B B' → E (.ref C) none B') → sp vs B Q E
theorem ex_callS {sp : Sp} {C : Addr} {E : L2.St → XK} (h : EvAD K tr σ H ds) (hs : SpX K sp C ds r) (hR : ∀ B', R B' → E σ (.ref C) none B') : EvX K (tCallS sp E tr) σ H r R := fun A B e s Q q x => h A B e s _ fun vs A2 B2 P2 ha =>
  hs A2 B2 vs Q (E σ) P2.s ha (fun d hd v A3 B3 P3 => q d hd v A3 B3 (P2.trans P3)) fun hn B3 e3 => hR B3 (x hn B3 (P2.b.trans e3))
def spX (K : PySem.W.Frag) (C : Addr) {α : Type} (args : α → List D) (ok : α → Prop) (res : α → Option D) : Sp := fun vs H Q E => ∃ A x, ok x ∧ Ex A H ∧ DpAll K A vs (args x) ∧ (∀ d, res x = some d → ∀ v A' B', Pr A H A' B' → Dp K A' v d → Q v B') ∧ (res x = none → ∀ B', Ex H B' → E (.ref C) none B')
theorem spX_len {C : Addr} {α : Type} {args : α → List D} {ok : α → Prop} {res : α → Option D} {vs : List V} {Q : VK} {E : XK} {n : Nat} (h : spX K C args ok res vs H Q E) (hl : ∀ x, (args x).length = n) : vs.length = n := by
  obtain ⟨A, x, _, _, ha, _⟩ := h
  rw [dpa_len ha, hl x]
theorem spX_at {C : Addr} {α : Type} {args : α → List D} {ok : α → Prop} {res : α → Option D} (x : α) (h : ok x) : SpX K (spX K C args ok res) C (args x) (res x) := fun A _ _ _ _ s ha k q => ⟨A, x, h, s, ha, k, q⟩
/-- a call that raises nothing -/
theorem spX_ok {C : Addr} {α : Type} {args : α → List D} {ok : α → Prop} {res : α → Option D} (x : α) (h : ok x) (hd : res x = some d) : SpD K (spX K C args ok res) (args x) d := fun A _ _ _ _ s ha k =>
  ⟨A, x, h, s, ha, fun d' h' => by rw [hd] at h'; cases h'; exact k, fun h' => by rw [hd] at h'; cases h'⟩
/-! statements -/
variable (K) {Dd : Ends} {t2 : TS} {A : Hp}
theorem q_asgX {i : Nat} (s : Ex A H) (h : EvX K te σ A r R) (k : ∀ d, r = some d → ∀ v A' B', Pr A H A' B' → Dp K A' v d → t2 Dd (σ.set i (some v)) B') (x : r = none → ∀ B', Ex H B' → R B') : tSeq (tAsg te (gName i)) t2 Dd σ H := h A H (Ex.refl _) s _ k x
theorem s_retX (s : Ex A H) (h : EvX K te σ A r R) (k : ∀ d, r = some d → ∀ v A' B', Pr A H A' B' → Dp K A' v d → Dd.rt v B') (x : r = none → ∀ B', Ex H B' → R B') : tRet te Dd σ H := h A H (Ex.refl _) s _ k x
end
/-! ## defs that raise -/
section
variable {X : Cx}
/-- a module's whole number -/
theorem pe_gi {x : Str} {i : Int} {pos : Pos} (hg : Gl X x) (h : ∃ t, X.mg x = some (.int i t)) (hd : (x == ("__debug__" : Str)) = false := by decide) : PE X (.Name x pos) (tC (.int i)) := by
  obtain ⟨t, e⟩ := h
  exact pe_glob (v := .int i) hg e ⟨t, rfl⟩ hd
/-- what the top says of an own class of errors -/
structure ExcCl (K : PySem.W.Frag) (mg : Str → Option Value) (x : Str) (C : Addr) : Prop where
  g : mg x = some (.ref C)
  k : PySem.W.keepIn K (.ref C) = true
  x : PySem.W.excIn K C [.type "ValueError", .type "Exception", .type "BaseException", .type "object"] "ValueError.__new__" = true
  b : PySem.W.subIn K (.ref C) (.type "BaseException") = some true
  t : PySem.W.typeIn K (.ref C) = some (.type "type")
def tRaiseC (C : Addr) (W : WX) : TS := fun _ σ H => W (.ref C) none σ H
theorem ps_rs {x m : Str} {C : Addr} {W : WX} {j : Nat} {p p2 pos pos2 : Pos} (hc : X.calm = true) (tk : L2N.Takes X W) (T : ExcCl X.K X.mg x C) (hg : Gl X x) (hdb : (x == ("__debug__" : Str)) = false := by decide) :
    PS X (.Raise (some (.Call (.Name x p) [.Constant (.str m) j p2] [] pos)) none pos2) (tRaiseC C W) :=
  L2N.ps_raise hc tk (L2N.pmk_own PySem.F.excBase_ValueError T.x T.g T.k (raises_own T.b T.t) hg hdb)
/-- nothing is wished of an error: none comes -/
theorem passN {X : Cx} : Passes (L2N.CX X.prog X.w) X E0 := fun _ _ _ _ _ _ _ c =>
  let ⟨_, _, _, _, _, _, _, _, _, _, _, _, z⟩ := c
  z.elim
theorem okN {P : Program} {w : World} {K : PySem.W.Frag} {mg : Str → Option Value} {base : Heap} {x qual : Str} {st : Stmt} {f : Addr} {fd : FuncData} {N ps : List Str} {k : Nat} {sp : Sp} (F : Fun K x qual st f fd) (S : FnScope N ps (defScope st))
    (len : ∀ vs H Q E, sp vs H Q E → vs.length = ps.length)
    (body : ∀ cdv A outer s H vs Q E, Room k (A.deeper (PyProof.Rows.envOfC qual (defScope st) s.heap.objs.size f cdv)) → sp vs H Q E →
      ∃ t, PSs (cxOf (L2N.CX P w) P w K mg base N qual (defScope st) f cdv A outer s H E) (defBody st) t ∧ t ⟨fun _ H' => Q .non H', Q, fun _ _ => False, fun _ _ => False⟩ (L2.start N vs) H) : FnOk P w K mg base (L2N.CX P w) (k + 1) f fd ps sp := by
  obtain ⟨_, _, _, _, _, _, _, _, _, e, lk, hc⟩ := F.ex
  subst e
  exact fn_of lk hc S len fun A outer s H vs Q E hr hs => body _ A outer s H vs Q E hr hs
variable {CX : CXT} {k : Nat} {x : Str} {ps : List Str} {sp : Sp} {E : L2.St → XK} {p pos : Pos} {e : Expr} {es : List Expr} {t : TA}
theorem pe_cs (G : DefOk X.prog X.w X.K X.mg X.base CX k x ps sp) (hr : Room k X.A) (hg : Gl X x) (hx : ∀ σ, PassesAt CX X σ (E σ)) (ha : PA X (e :: es) t) (hdb : (x == ("__debug__" : Str)) = false := by decide)
    (he : starEach (e :: es) X.env = (false, eval e X.env) :: starEach es X.env := by rfl) (hpl : (backTo pos (starEach es X.env)).any (·.1) = false := by rfl) : PE X (.Call (.Name x p) (e :: es) [] pos) (tCallS sp E t) := by
  obtain ⟨f, fd, h1, h2, h3, h4⟩ := G
  exact pe_callS h4 hr hg h1 h2 h3 hx ha hdb he hpl
theorem cx_K2 {CX : CXT} {P : Program} {w : World} {K : PySem.W.Frag} {mg : Str → Option Value} {base : Heap} {N : List Str} {qual : Str} {scope : Scope} {f : Addr} {cd : Value} {A : Around} {outer : List Env} {s : Shared} {H : Hp} {E : XK} :
    (cxOf CX P w K mg base N qual scope f cd A outer s H E).K = K := rfl
end
end Ob

set_option Elab.async false
set_option linter.all false
set_option maxRecDepth 100000
set_option maxHeartbeats 2000000
namespace Ob
open PySem PySem.Spec PyProof.Rows L2 L2H HotX
/-! ## within an except suite -/
section
variable {prog : Program} {w : World} {A : Around} {E : Value → Shared → Prop} {z : Shared}
/-- a list's iterator ends while an error is handled -/
theorem nx_endH {it l x1 : Addr} {i : Nat} {its : Array Value} {Q : Option Value → Shared → Prop} (hot : HotAt A x1 z.heap) (hI : z.heap.IsListIter it l i) (hL : z.heap.IsList l its) (hx : its[i]? = none)
    (hQ : ∀ g, (∀ b o, b ≠ it → z.heap.get? b = some o → g.get? b = some o) → Q none { z with heap := g }) : wpAny (model prog w) A (pyNext (.ref it)) Q E z := by
  obtain ⟨oI, eI, cI, dI⟩ := id hI
  obtain ⟨oL, eL, _, nL, dL⟩ := hL
  obtain ⟨hh, o1, vs1, e1, d1, c1⟩ := hot
  have n1 : x1 ≠ it := fun y => by
    rw [y, eI] at e1
    cases e1
    rw [dI] at d1
    cases d1
    simp at c1
  unfold pyNext
  refine wpAny_bind (wpAny_attempt (wpAny_callSpecial?_slot (name := Str.ofString "__next__") hI.typeIs slot_listiter_next (wpAny_call_entry slot_listiter_next hI.typeIs entry_listiter_next ?_ (args_listiter_next _))))
  show wpAny _ _ (field (.ref it) 0 >>= _) _ _ z
  refine wpAny_bind (wpAny_field eI dI (x := .ref l) rfl ?_)
  show wpAny _ _ (if (Value.ref l == Value.none) = true then _ else _) _ _ z
  rw [if_neg (by intro y; cases y)]
  show wpAny _ _ (field (.ref it) 1 >>= _) _ _ z
  refine wpAny_bind (wpAny_field eI dI (x := .int i 0) rfl ?_)
  show wpAny _ _ (seqItems? (.ref l) >>= _) _ _ z
  refine wpAny_bind (wpAny_seqItems eL dL ?_)
  simp only [Int.toNat_natCast, hx]
  refine wpAny_bind (wpAny_rule (wpAny_bind (wpAny_setField eI dI (by simp) ?_)))
  have g1 := (Heap.get?_update_other z.heap (Obj.mapFields (·.setIfInBounds 0 Value.none)) (Ne.symm n1)).trans e1
  have kp : ∀ b o, b ≠ it → z.heap.get? b = some o → (z.heap.update it (Obj.mapFields (·.setIfInBounds 0 Value.none))).get? b = some o := fun b o nb e => (Heap.get?_update_other _ _ (Ne.symm nb)).trans e
  generalize (z.heap.update it (Obj.mapFields (·.setIfInBounds 0 Value.none))) = h2 at g1 kp ⊢
  show wpAny _ _ (newExc (.type "StopIteration") [] >>= _) _ _ _
  refine wpAny_bind ?_
  simp only [newExc, newTuple]
  refine wpAny_bind (wpAny_newObj_type ?_ (by size_fits))
  refine wpAny_bind (m := firstArgMember _ _) (wpAny_of_eq (a := Value.none) (by first | rfl | (simp only [firstArgMember]; rfl)) ?_)
  refine wpAny_newObj_type ?_ (by size_fits)
  refine raiseNew_hot ⟨hh, o1, vs1, Heap.get?_push_of_some _ (Heap.get?_push_of_some _ g1), d1, c1⟩ (Nat.ne_of_lt (Heap.lt_size (Heap.get?_push_of_some _ g1))) (Heap.get?_push_size _ rfl) rfl (by first | (simp; done) | (simp; omega) | (simp only [Array.size_append]; simp; omega)) ?_
  refine wpAny_bind (wpAny_isInstance (T := "StopIteration") (b := true) ⟨_, Heap.get?_update_self _ (Heap.get?_push_size _ rfl) rfl, rfl⟩ isSubtype_stop ?_)
  refine wpAny_pure (hQ _ fun b o nb e => ?_)
  have e2 := kp b o nb e
  rw [Heap.get?_update_other _ _ (Nat.ne_of_gt (Heap.lt_size (Heap.get?_push_of_some _ e2)))]
  exact Heap.get?_push_of_some _ (Heap.get?_push_of_some _ e2)
end
/-- what a turn over a list asks, an error handled somewhere in the state -/
theorem list_doneH {X : Cx} {pins : List (Addr × Obj)} {σ : L2.St} {H : Hp} {z : Shared} {E : Value → Shared → Prop} {a it : Addr} {i : Nat} (hot : ∃ x1, HotAt X.A x1 z.heap) (I : Inv X pins σ H z) (hf : FpOk X pins H it) (st : z.heap.IsListIter it a i) (hs : (Itl X.K a).stop i H) :
    wpAny (model X.prog X.w) X.A (pyNext (.ref it)) (fun r s1 => r = none ∧ Inv X pins σ H s1) E z := by
  obtain ⟨xs, hq, hx⟩ := hs
  obtain ⟨its, rv, p, hz⟩ := I.list hq
  obtain ⟨f0, f1, f2, f3, f4, f5⟩ := hf
  obtain ⟨x1, hot⟩ := hot
  have hl := rv.length
  exact nx_endH hot st p.isList (by simp; omega) fun g eb => ⟨rfl, I.turned (t' := z.toks) (fun b o hb e => eb b o hb e) f0 f1 f3 f4 f5⟩
theorem list_itemH {X : Cx} {tg : Expr} {pins : List (Addr × Obj)} {σ : L2.St} {H : Hp} {z : Shared} {E : Value → Shared → Prop} {a it : Addr} {i : Nat} (I : Inv X pins σ H z) (hf : FpOk X pins H it) (st : z.heap.IsListIter it a i) (hg : (Itl X.K a).go i H) :
    wpAny (model X.prog X.w) X.A (pyNext (.ref it)) (fun r s1 => ∃ u, r = some u ∧
      wpAny (model X.prog X.w) X.A (letOwnedTupleGo tg (.ref it) u) (fun _ s2 => ∃ x H', Inv X pins σ H' s2 ∧ RelV x u ∧ (Itl X.K a).yld i H x H' ∧ s2.heap.IsListIter it a (i + 1) ∧ ∀ b ∈ [it], H' b = none) E s1) E z := by
  obtain ⟨xs, x, hq, hx⟩ := hg
  obtain ⟨its, rv, p, hz⟩ := I.list hq
  obtain ⟨u, hu, ru⟩ := rv.get hx
  obtain ⟨f0, f1, f2, f3, f4, f5⟩ := hf
  refine wpAny_pyNext_list_item st p.isList (x := u) (by simpa using hu) fun g st' sb => ?_
  have I1 : Inv X pins σ H { z with heap := g } := I.turned (t' := z.toks) (fun b o hb e => (sb.2 b hb).trans e) f0 f1 f3 f4 f5
  obtain ⟨o, e, c, d⟩ := id st'
  refine ⟨u, rfl, go_of (s := { z with heap := g }) e c d (by decide) ⟨x, H, I1, ru, ⟨rfl, fun ys hy => ?_⟩, st', fun b hb => ?_⟩⟩
  · rw [I.list_inj hy hq]; exact hx
  · rw [List.mem_singleton.mp hb]; exact f0
theorem turn_listH {P : Program} {w : World} {K : PySem.W.Frag} {tg : Expr} (a it : Addr) : TurnH P w K tg (Itl K a) [it] it (fun i h => h.IsListIter it a i) where
  mem := by simp
  obj := fun i h st b hb => by
    rw [List.mem_singleton.mp hb]
    obtain ⟨o, e, _, d⟩ := st
    exact ⟨o, e, fun v y => by rw [d] at y; cases y⟩
  keep := fun i h h' st k => st.at fun o e => k it (by simp) o e
  item := by
    intro Y hP hw hK hc i pins z σ H E I hf st hg
    subst hP hw hK
    exact list_itemH I (hf it (by simp)) st hg
  done := by
    intro Y hP hw hK hc i pins z σ H E I hf st hg
    subst hP hw hK
    exact list_doneH (hc.at I) I (hf it (by simp)) st hg
  self := fun _ _ _ _ _ st h => wpAny_pyIter_listiter st h
theorem pi_listH {X : Cx} {tg l : Expr} {tl : TE} (hl : PE X l tl) : PIH X tg l (iList X.K tl) := by
  refine ⟨fun pins z σ H R I h => thn (hl.run pins z σ H _ I h) fun v z1 ⟨x, H1, I1, r1, q1⟩ => ?_⟩
  obtain ⟨a, e, ⟨xs, hq⟩, q⟩ := q1
  subst e
  cases r1
  obtain ⟨its, rv, p, hz⟩ := I1.list hq
  refine wpAny_pyIter_list p.isList ⟨z1.heap.objs.size, [z1.heap.objs.size], _, _, H1, rfl, I1.kept (t' := z1.toks) fun b o e => Heap.get?_push_of_some _ e, turn_listH a _, ⟨_, Heap.get?_push_size _ rfl, rfl, rfl⟩, fun b hb => ?_, q⟩
  rw [List.mem_singleton.mp hb]
  exact I1.fpOk (Nat.le_refl _) (I1.hok.fresh (Nat.le_refl _))
/-! ### a list comprehension there -/
section
variable {X : Cx}
theorem pe_lcH {elt tg iter : Expr} {ifs : List Expr} {scope : Scope} {own : List (Str × Nat)} {pos : Pos} {tl : TE} {g : TG} {tt : TT} {te : TE} (hot : HotC X) (hN : X.N.Nodup) (hl : PE X iter tl) (ok : BlkOk X.N X.env.scope scope own)
    (hg : ∀ (y : Shared) (H : Hp) (C : Addr) (cl : List (Str × Addr)) (fp : List Addr), PG (X.blk y H scope (compEnvC scope cl C X.env) fp) tg g) (ht : ∀ (y : Shared) (H : Hp) (C : Addr) (cl : List (Str × Addr)) (fp : List Addr), PTs (X.blk y H scope (compEnvC scope cl C X.env) fp) ifs tt)
    (he : ∀ (y : Shared) (H : Hp) (C : Addr) (cl : List (Str × Addr)) (fp : List Addr), PE (X.blk y H scope (compEnvC scope cl C X.env) fp) elt te) (hs : ∀ x, foldedSetIterable iter X.env x = pure x := by intro _; rfl) :
    PE X (.ListComp elt [⟨tg, iter, ifs, 0⟩] scope pos) (tLc (iList X.K tl) g tt te (own.map (·.2))) := by
  refine ⟨fun pins z σ H Q I hw => ?_⟩
  rw [eval_ListComp]
  have hfree : ∀ y ∈ scope.names, y.2 = .free → ∃ c, X.env.cells.lookup y.1 = some c := fun y hy e => (ok.free y hy e).elim (fun k => I.ok.has _ (.inl k)) fun k => I.ok.has _ (.inr k)
  refine wpAny_comprehension_free (use := none) rfl hs (closure_ok hfree) ok.kind (fun y hy e => by rw [ok.uniq y hy, e]) (thn (hl.run pins z σ H _ I hw) fun v z1 ⟨x, H1, I1, r1, q1⟩ => ?_)
  obtain ⟨a, e, ⟨xs, hq⟩, q⟩ := q1
  subst e
  cases r1
  obtain ⟨its, rv, p, hz⟩ := I1.list hq
  refine wpAny_pyIter_list p.isList ?_
  generalize hz2 : ({ z1 with heap := z1.heap.push { cls := .type "list_iterator", data := .fields #[.ref a, .int 0 0] } } : Shared) = z2
  have I2 : Inv X pins σ H1 z2 := by rw [← hz2]; exact I1.kept (t' := z1.toks) fun b o e => Heap.get?_push_of_some _ e
  generalize hit : z1.heap.objs.size = it
  have st2 : z2.heap.IsListIter it a 0 := by rw [← hz2, ← hit]; exact ⟨_, Heap.get?_push_size _ rfl, rfl, rfl⟩
  have f2 : FpOk X pins H1 it := by rw [← hit]; exact I1.fpOk (Nat.le_refl _) (I1.hok.fresh (Nat.le_refl _))
  refine wpAny_newObj_type (newEnv_comp ?_) (by show 0 ≤ sizeLine; decide)
  generalize hD : z2.heap.objs.size = D
  have hDn : H1 D = none := I2.hok.fresh (Nat.le_of_eq hD)
  obtain ⟨W, ⟨m0, w0⟩, turn⟩ := q D hDn
  generalize hz3 : ({ z2 with heap := z2.heap.push { cls := .type "list", data := .seq ([] : List Value).toArray } } : Shared) = z3
  have I3 : Inv X pins σ (upd H1 D (.lst [])) z3 := by
    rw [← hz3]
    refine I2.laid (t' := z2.toks) (fun b o e => Heap.get?_push_of_some _ e) (Nat.le_of_eq hD) ⟨Nat.zero_le _, [], 0, .nil, ?_⟩
    rw [← hD]
    exact Heap.get?_push_size _ rfl
  have h3 : z3.heap = z2.heap.push { cls := .type "list", data := .seq ([] : List Value).toArray } := by rw [← hz3]
  have hlt : it < z2.heap.objs.size := by obtain ⟨o, e, _⟩ := id st2; exact Heap.lt_size e
  have f3 : ∀ b ∈ [it], FpOk X pins (upd H1 D (.lst [])) b ∧ b < z3.heap.objs.size := fun b hb => by
    rw [List.mem_singleton.mp hb]
    refine ⟨⟨?_, f2.2⟩, by rw [h3, Heap.size_push]; exact Nat.lt_succ_of_lt hlt⟩
    rw [upd_ne (by rw [← hD]; exact Nat.ne_of_lt hlt)]
    exact f2.1
  have st3 : z3.heap.IsListIter it a 0 := st2.at fun o e => by rw [h3]; exact Heap.get?_push_of_some _ e
  have I4 := block_start I3 ok hN f3
  have pg := hg z3 (upd H1 D (.lst [])) z3.heap.objs.size (cellsFrom (z3.heap.objs.size + 1) scope.names (cloFrom X.env.cells scope.names [])) [it]
  have pt := ht z3 (upd H1 D (.lst [])) z3.heap.objs.size (cellsFrom (z3.heap.objs.size + 1) scope.names (cloFrom X.env.cells scope.names [])) [it]
  have pe := he z3 (upd H1 D (.lst [])) z3.heap.objs.size (cellsFrom (z3.heap.objs.size + 1) scope.names (cloFrom X.env.cells scope.names [])) [it]
  -- the handled error stands at the block's entry
  obtain ⟨px, ⟨hh, v1, ed, ec⟩, hpx⟩ := hot
  obtain ⟨p1, p2, p3, p4, p5⟩ := I3.pin px (List.mem_append_left _ hpx)
  have p6 : px.1 ∉ frs X.stack := fun y => (List.mem_cons.mp (I3.stkSub _ y)).elim p3 p4
  have p7 : px.1 ∉ [it] := fun y => (f3 it (by simp)).1.2.2.2.2.2 px (List.mem_append_left _ hpx) (List.mem_singleton.mp y)
  show codeAny _ _ (.compStart (.ListComp elt [⟨tg, iter, ifs, 0⟩] scope pos) 0 (.ref it) (.ref D) (compEnvC scope (cellsFrom (z3.heap.objs.size + 1) scope.names (cloFrom X.env.cells scope.names [])) z3.heap.objs.size X.env)) (compPost (model X.prog X.w) X.A X.xe none (EP X pins σ Q) (.ref D) z3.heap.objs.size) { z3 with heap := pushCells (z3.heap.push { cls := .type "dict", data := .dict #[] }) scope.names }
  generalize hce : compEnvC scope (cellsFrom (z3.heap.objs.size + 1) scope.names (cloFrom X.env.cells scope.names [])) z3.heap.objs.size X.env = ce at I4 pg pt pe ⊢
  have cL : ce.locals = z3.heap.objs.size := by subst hce; rfl
  have nfp : ∀ b ∈ [it], (upd H1 D (.lst [])) b = none := fun b hb => (f3 b hb).1.1
  generalize hH3 : upd H1 D (.lst []) = H3 at I3 I4 pg pt pe w0 nfp f3 p2
  have st4 : ({ z3 with heap := pushCells (z3.heap.push { cls := .type "dict", data := .dict #[] }) scope.names } : Shared).heap.IsListIter it a 0 := st3.at fun o e => pushCells_keeps _ _ _ _ (Heap.get?_push_of_some _ e)
  generalize hz4 : ({ z3 with heap := pushCells (z3.heap.push { cls := .type "dict", data := .dict #[] }) scope.names } : Shared) = z4 at I4 st4 ⊢
  have stat : ∀ {σ' : L2.St} {H' : Hp} {z' : Shared}, Inv (X.blk z3 H3 scope ce [it]) [] σ' H' z' → (∀ b ∈ [it], H' b = none) → ∀ b ∈ [it], FpOk (X.blk z3 H3 scope ce [it]) [] H' b := fun {σ' H' z'} J hn b hb =>
    ⟨hn b hb, (J.ok.exf b hb).1, J.ok.exfs b hb, .inl hb, fun x c e => (J.ok.exf b hb).2 x c e, fun p hp => absurd (show p ∈ ([] : List (Addr × Obj)) ++ [] from hp) (by simp)⟩
  have loop : codeAny (model X.prog X.w) X.A (.compLoop (.ListComp elt [⟨tg, iter, ifs, 0⟩] scope pos) 0 (.ref it) (.ref D) ce) (compPost (model X.prog X.w) X.A X.xe none (EP X pins σ Q) (.ref D) z3.heap.objs.size) z4 := by
    refine compLoop_any (fun n z' => ∃ i H', Inv (X.blk z3 H3 scope ce [it]) [] (wipe σ (own.map (·.2))) H' z' ∧ z'.heap.IsListIter it a i ∧ (∀ b ∈ [it], H' b = none) ∧ W i n H') ?_ m0 ⟨0, H3, I4, st4, nfp, w0⟩
    rintro n z5 ⟨i, H5, I5, st5, n5, w5⟩
    have hot5 : ∃ x1, HotAt X.A x1 z5.heap := ⟨px.1, hh, px.2, v1, I5.base.keep px.1 px.2 p1 p2 p6 p7, ed, ec⟩
    rcases turn i n H5 w5 with ⟨stop, qq⟩ | ⟨go, Nx, hNx, step⟩
    · refine thnF (list_doneH (X := X.blk z3 H3 scope ce [it]) hot5 I5 (stat I5 n5 it (by simp)) st5 stop) fun r z6 ⟨hr, I6⟩ => ?_
      subst hr
      have I7 : Inv X pins σ H5 z6 := I3.call' (ch := [it]) I6.os I6.base I6.hok I6.bare fun b hb => ⟨(f3 b hb).1.2.2.2.1, (f3 b hb).1.2.1, (f3 b hb).1.2.2.2.2.1, (f3 b hb).1.2.2.2.2.2⟩
      have nC : H5 z3.heap.objs.size = none := by
        have y : H5 ce.locals = none := I6.free
        rw [cL] at y
        exact y
      obtain ⟨m, hn, _⟩ := I6.loc
      have hn : z6.heap.Ns ce.locals m := hn
      rw [cL] at hn
      refine ⟨m, hn, fun g sb => ?_⟩
      obtain ⟨g0, g1, g2, g3, g4, g5⟩ := I3.fpOk (H' := H5) (Nat.le_refl _) nC
      exact ⟨.ref D, H5, I7.turned (t' := z6.toks) (fun b o hb e => (sb.2 b hb).trans e) g0 g1 g3 g4 g5, rfl, qq⟩
    · refine thnF (list_itemH (X := X.blk z3 H3 scope ce [it]) (tg := tg) I5 (stat I5 n5 it (by simp)) st5 go) fun r z6 ⟨u, hr, h6⟩ => ?_
      subst hr
      refine thnF h6 fun _ z7 ⟨x, H7, I7, r7, y7, st7, n7⟩ => ?_
      obtain ⟨o7, e7, c7, d7⟩ := id st7
      have ob7 : ∀ b ∈ [it], ∃ o, z7.heap.get? b = some o ∧ ∀ v, o.data ≠ .cell v := fun b hb => by
        rw [List.mem_singleton.mp hb]
        exact ⟨o7, e7, fun v y => by rw [d7] at y; cases y⟩
      have I7' := I7.pinned (stat I7 n7) ob7
      refine thnF (pg.run _ z7 _ H7 x u _ I7' r7 (step x H7 y7)) fun _ z8 ⟨σ8, H8, I8, hw8, q8⟩ => ?_
      refine thnF (pt.run _ z8 σ8 H8 _ I8 q8) fun b z9 ⟨H9, I9, q9⟩ => ?_
      have fin : ∀ {z' : Shared} {H' : Hp}, Inv (X.blk z3 H3 scope ce [it]) ([] ++ pinsAt [it] z7.heap) σ8 H' z' → Nx H' → ∃ m, m < n ∧ ∃ i H', Inv (X.blk z3 H3 scope ce [it]) [] (wipe σ (own.map (·.2))) H' z' ∧ z'.heap.IsListIter it a i ∧ (∀ b ∈ [it], H' b = none) ∧ W i m H' := fun {z' H'} J nx => by
        obtain ⟨m', hm, w'⟩ := hNx H' nx
        have pin' : ∀ b ∈ [it], ∀ o, z7.heap.get? b = some o → z'.heap.get? b = some o ∧ H' b = none := fun b hb o e =>
          let y := J.pin (b, o) (List.mem_append_right _ (List.mem_append_right _ (mem_pinsAt hb e)))
          ⟨y.1, y.2.1⟩
        have hln : (wipe σ (own.map (·.2))).length = σ8.length := by rw [← hw8, wipe_length]
        refine ⟨m', hm, i + 1, H', (J.unpinned (pins := [])).weak hln (fun j v e => ?_), st7.at fun o e => (pin' it (by simp) o e).1, fun b hb => ?_, w'⟩
        · rw [← hw8] at e
          exact (wipe_some e).1
        · obtain ⟨o, e, _⟩ := ob7 b hb
          exact (pin' b hb o e).2
      cases b with
      | false =>
        simp only [Bool.false_eq_true, if_false] at q9 ⊢
        exact fin I9 q9
      | true =>
        simp only [if_true] at q9 ⊢
        refine thnF (pe.run _ z9 σ8 H9 _ I9 q9) fun y z10 ⟨yv, H10, I10, r10, acc, hD10, hz10, nx⟩ => ?_
        exact app_ok (X := X.blk z3 H3 scope ce [it]) I10 hD10 hz10 r10 fun z11 I11 => fin I11 nx
  exact codeAny_compStart_list loop (wpAny_pyIter_listiter st4 loop)
end
/-! ### defs called there, whose promise sees the error that is handled -/
structure FnP (P : Program) (w : World) (K : PySem.W.Frag) (mg : Str → Option Value) (base : Heap) (CX : CXT) (k : Nat) (f : Addr) (fd : FuncData) (ps : List Str) (sp : Addr → Value → Option Addr → Sp) : Prop where
  len : ∀ a cls d vs H Q E, sp a cls d vs H Q E → vs.length = ps.length
  go : ∀ (p : Addr × Obj) (A : Around) (outer : List Env) (z : Shared) (H : Hp) (args : Args) (us : List Value) (vs : List V) (Q : VK) (E : XK), RoomH k A → Hot1 A p → PinOk outer H z p → Env0 P w K mg base A outer z H → BindsTo z fd args (ps.zip us) → Vals vs us → sp p.1 p.2.cls p.2.dict vs H Q E →
    codeAny (model P w) A (.call (.ref f) args) (CR CX outer P w H z Q E) z
theorem fnP {CX : CXT} {P : Program} {w : World} {K : PySem.W.Frag} {mg : Str → Option Value} {base : Heap} {x qual : Str} {st : Stmt} {f : Addr} {fd : FuncData} {N ps : List Str} {k : Nat} {sp : Addr → Value → Option Addr → Sp} (F : Fun K x qual st f fd) (S : FnScope N ps (defScope st))
    (len : ∀ a cls d vs H Q E, sp a cls d vs H Q E → vs.length = ps.length)
    (body : ∀ cdv (A : Around) (outer : List Env) (z : Shared) (H : Hp) (vs : List V) (Q : VK) (E : XK) (p : Addr × Obj), Hot1 (A.deeper (envOfC qual (defScope st) z.heap.objs.size f cdv)) p → RoomH k (A.deeper (envOfC qual (defScope st) z.heap.objs.size f cdv)) → sp p.1 p.2.cls p.2.dict vs H Q E →
      ∃ t, PSs (cxH CX P w K mg base N qual (defScope st) f cdv A outer z H E p) (defBody st) t ∧ t ⟨fun _ H' => Q .non H', Q, fun _ _ => False, fun _ _ => False⟩ (L2.start N vs) H) : FnP P w K mg base CX (k + 1) f fd ps sp := by
  obtain ⟨oc, od, kV, doc, pm, an, cdv, ct, osl, e, lk, hc⟩ := F.ex
  subst e
  refine ⟨len, fun p A outer z H args us vs Q E hr hot hp e0 hb r hsp => ?_⟩
  have hl := len _ _ _ _ _ _ _ hsp
  have kI : K.In z.heap := e0.mod.kin.keeps fun b o e => (e0.bs b o e).1
  have nL : z.heap.NoLimit := e0.mod.nolimit.keeps fun b o e => (e0.bs b o e).1
  have hkind : ∀ y ∈ ps.zip us, (defScope st).names.lookup y.1 = some .local ∨ ((defScope st).names.lookup y.1 = some .cell ∧ ((cellsFrom (z.heap.objs.size + 1) (defScope st).names []).lookup y.1).isSome = true) := fun ⟨n, v⟩ hy =>
    (S.par n (List.of_mem_zip hy).1).elim .inl fun q => .inr ⟨q, PySem.W.cellsFrom_some _ _ _ (.inl q)⟩
  refine codeAny_call_function hr.depth (kI _ _ lk) rfl S.co S.gen rfl (PySem.W.codeRec_of kI hc) (hb _ _ _ _ (wpAny_newFunctionEnv_cells S.kind hkind fun env he z1 x => ?_))
  subst he
  refine ⟨nL.keeps x.toInCall.keep, codeAny_func ?_⟩
  obtain ⟨t, ht, hq⟩ := body cdv A outer z H vs Q E p hot (hr.deeper _) hsp
  have I : Inv (cxH CX P w K mg base N qual (defScope st) f cdv A outer z H E p) [] (L2.start N vs) H z1 := inv_startH S hp e0 hl r x
  refine wpAny_mono (ht.run [] z1 (L2.start N vs) H _ I hq) (fun fl z' h' => ?_) fun e z' h' => h'
  cases fl with
  | ret u => obtain ⟨v, σ', H', J, rv, q⟩ := h'; exact ⟨v, H', J.os, J.bare, J.base, J.hok, rv, q⟩
  | next => obtain ⟨σ', H', J, q⟩ := h'; exact ⟨V.non, H', J.os, J.bare, J.base, J.hok, rfl, q⟩
  | brk => obtain ⟨_, _, _, q⟩ := h'; exact q.elim
  | cont => obtain ⟨_, _, _, q⟩ := h'; exact q.elim
structure DefP (P : Program) (w : World) (K : PySem.W.Frag) (mg : Str → Option Value) (base : Heap) (CX : CXT) (k : Nat) (x : Str) (ps : List Str) (sp : Addr → Value → Option Addr → Sp) : Prop where
  ex : ∃ f fd, FnP P w K mg base CX k f fd ps sp ∧ mg x = some (.ref f) ∧ PySem.W.keepIn K (.ref f) = true ∧ Binds K fd ps []
theorem DefAt.okP {P : Program} {w : World} {K : PySem.W.Frag} {mg : Str → Option Value} {base : Heap} {x : Str} {st : Stmt} {ps : List Str} {f : Addr} {fd : FuncData} {CX : CXT} {k : Nat} {sp : Addr → Value → Option Addr → Sp} (d : DefAt K mg x st ps f fd) (h : FnP P w K mg base CX k f fd ps sp) : DefP P w K mg base CX k x ps sp :=
  ⟨f, fd, h, d.g, d.F.kp, d.b⟩
section
variable {X : Cx} {CX : CXT} {k : Nat} {ps : List Str} {sp : Addr → Value → Option Addr → Sp} {E : L2.St → XK} {x : Str} {q pos : Pos} {e : Expr} {es : List Expr} {t : TA} {p : Addr × Obj}
theorem pe_callP (D : DefP X.prog X.w X.K X.mg X.base CX k x ps sp) (hr : RoomH k X.A) (hot : Hot1 X.A p) (hp : p ∈ X.pn) (hg : Gl X x) (hx : ∀ σ, PassesAt CX X σ (E σ)) (ha : PA X (e :: es) t)
    (hdb : (x == ("__debug__" : Str)) = false := by decide) (he : starEach (e :: es) X.env = (false, eval e X.env) :: starEach es X.env := by rfl) (hpl : (backTo pos (starEach es X.env)).any (·.1) = false := by rfl) : PE X (.Call (.Name x q) (e :: es) [] pos) (tCallS (sp p.1 p.2.cls p.2.dict) E t) := by
  obtain ⟨f, fd, F, hm, hk, hb⟩ := D
  refine ⟨fun pins z σ H Q I h => wpAny_Call_Name_kw (ld_glob I hg hm ?_ hdb)⟩
  refine PySem.W.callWith_K (h₀ := X.base) I.ok.mod.kin hk (thn (ha.run pos pins z σ H _ I h) fun us z1 ⟨vs, H1, I1, r, q1⟩ => ⟨I1.kIn, ?_⟩) he hpl
  have hl : us.length = ps.length := by rw [← r.length]; exact F.len _ _ _ _ _ _ _ q1
  have b := hb z1 us I1.kIn (by rw [List.append_nil]; exact hl)
  rw [List.append_nil] at b
  obtain ⟨p1, p2, p3, p4, p5⟩ := I1.pin p (List.mem_append_left _ hp)
  have pok : PinOk X.stack H1 z1 p := ⟨p1, p2, fun y => (List.mem_cons.mp (I1.stkSub p.1 y)).elim p3 p4, p5⟩
  refine wpAny_call (codeAny_mono (F.go p X.A X.stack z1 H1 ⟨us, []⟩ us vs Q (E σ) hr hot pok I1.env0 b r q1) fun r z' y => ?_)
  cases r with
  | error u => exact hx σ pins H1 z1 u z' I1 y
  | ok fl =>
    cases fl with
    | ret u => exact I1.after y
    | next => exact y.elim
    | brk => exact y.elim
    | cont => exact y.elim
end
/-! ### isinstance of the handled error -/
theorem c_isH {X : Cx} {p : Addr × Obj} {D : Addr} (C : ExcC X.K D) (hp : p ∈ X.pn) (hz : Zc (.ref D) none p.2) (hf : ∃ vs, p.2.data = .fields vs) : CallR X (.builtin "isinstance") (rIsE X.K D p.1) := by
  intro pins z σ H xs us Q I r h
  obtain ⟨c, cv, b, rfl, hcv, e, q⟩ := h
  cases r with
  | cons rx rr =>
    cases rr with
    | cons rt rr =>
      cases rr
      cases rx
      have ec := hcv _ rt
      subst ec
      obtain ⟨hget, _⟩ := I.pin p (List.mem_append_left _ hp)
      obtain ⟨vs, hv⟩ := hf
      have J : PySem.W.InstAt z.heap p.1 p.2 D none := by
        obtain ⟨a, oc, od, oda, osl⟩ := p
        obtain ⟨h1, h2⟩ := hz
        dsimp only at h1 h2 hv
        subst h1 h2 hv
        exact ⟨hget, rfl, rfl, trivial⟩
      exact PySem.W.kia_one (PySem.W.handS_kitx_exc C.hg C.hk C.hs C.hd C.ha C.hn C.ht C.hm) I.kIn J e (fun y => nomatch y) fun tk => ⟨.bl b, H, I.kept (t' := tk) fun _ _ y => y, rfl, q⟩
theorem c_isHK {X : Cx} {K : PySem.W.Frag} {p : Addr × Obj} {D : Addr} (h : X.K = K) (C : ExcC K D) (hp : p ∈ X.pn) (hz : Zc (.ref D) none p.2) (hf : ∃ vs, p.2.data = .fields vs) : CallR X (.builtin "isinstance") (rIsE K D p.1) := by
  subst h
  exact c_isH C hp hz hf
theorem ed_isE {K : PySem.W.Frag} {σ : L2.St} {H : Hp} {D a : Addr} {i : Nat} {cv : V} {u : Value} {b : Bool} (hσ : σ[i]? = some (some (.ref a))) (hc : ClsV cv u) (hk : PySem.W.kitOne K (.ref D) u = some b) : EvD K (tCB (rIsE K D a) (tCons (tVar i) (tCons (tC cv) tNil))) σ H (.bool b) :=
  fun A B e s Q q => ⟨_, hσ, cv, u, b, rfl, fun _ r => hc.eq r, hk, q _ A B (Pr.refl s) (.bl _)⟩
theorem hot_suite {X : Cx} {a : Addr} {oe : Obj} {cls : Value} {d : Option Addr} {pn : List (Addr × Obj)} (hz : L2N.Zn cls d oe) (hf : ∃ vs, oe.data = .fields vs) : Hot1 (X.suite a ((a, oe) :: pn)).A (a, oe) := by
  obtain ⟨vs, e⟩ := hf
  exact ⟨rfl, vs, e, hz.2.2 vs e⟩
theorem passA0 {X : Cx} {E : L2.St → XK} : ∀ σ, PassesAt CX0 X σ (E σ) := fun _ _ _ _ _ _ _ z => z.elim
theorem takes0 {X : Cx} : L2N.Takes X (fun _ _ _ _ => False) := fun _ _ x => by
  obtain ⟨_, _, _, _, _, _, _, _, _, _, _, _, _, _, _, _, z⟩ := x
  exact z.elim
theorem roomHm {k : Nat} {A : Around} {u : Option Value} (r : Room k A) : RoomH k (A.mark u) := ⟨r.dp, r.un⟩
theorem huH {k : Nat} {A : Around} (r : RoomH k A) : A.units + 64 < cLine := by have := r.un; omega
section
variable {X : Cx} {CX : CXT} {k : Nat} {ps : List Str} {sp : Addr → Value → Option Addr → Sp} {E : L2.St → XK} {x : Str} {q pos : Pos} {e : Expr} {es : List Expr} {t : TA} {a : Addr} {oe : Obj} {cls : Value} {d : Option Addr} {pn : List (Addr × Obj)}
/-- a def called in the suite itself -/
theorem pe_callZ (D : DefP X.prog X.w X.K X.mg X.base CX k x ps sp) (hr : Room k X.A) (hz : L2N.Zn cls d oe) (hf : ∃ vs, oe.data = .fields vs) (hg : Gl (X.suite a ((a, oe) :: pn)) x) (hx : ∀ σ, PassesAt CX (X.suite a ((a, oe) :: pn)) σ (E σ)) (ha : PA (X.suite a ((a, oe) :: pn)) (e :: es) t)
    (hdb : (x == ("__debug__" : Str)) = false := by decide) (he : starEach (e :: es) X.env = (false, eval e X.env) :: starEach es X.env := by rfl) (hpl : (backTo pos (starEach es X.env)).any (·.1) = false := by rfl) : PE (X.suite a ((a, oe) :: pn)) (.Call (.Name x q) (e :: es) [] pos) (tCallS (sp a cls d) E t) := by
  have y := pe_callP (X := X.suite a ((a, oe) :: pn)) (p := (a, oe)) (q := q) (pos := pos) D (roomHm hr) (hot_suite hz hf) List.mem_cons_self hg hx ha hdb he hpl
  obtain ⟨h1, h2, _⟩ := hz
  subst h1 h2
  exact y
end
/-- the facts of a class that an error may be of -/
theorem kitF {K : PySem.W.Frag} {t : Value} {C : Addr} {b : Bool} (hd : PySem.W.hasDictIn K C = true) (ht : PySem.W.typeIn K (.ref C) = some (.type "type")) (hs : PySem.W.subIn K t (.ref C) = some b) (hn : (t == .ref C) = true → b = true) : PySem.W.kitOne K t (.ref C) = some b := by
  obtain ⟨cd, hc, _⟩ := PySem.W.any_some hd
  unfold PySem.W.kitOne
  by_cases h : (t == .ref C) = true
  · rw [if_pos h, hn h]
  · rw [if_neg h]
    show (if ((PySem.W.clsIn K C).isSome && PySem.W.typeIn K (.ref C) == some (.type "type")) = true then PySem.W.subIn K t (.ref C) else none) = some b
    rw [if_pos (by rw [hc, ht]; rfl)]
    exact hs
theorem kitR {K : PySem.W.Frag} {C : Addr} : PySem.W.kitOne K (.ref C) (.ref C) = some true := by
  unfold PySem.W.kitOne
  rw [if_pos (beq_self_eq_true _)]
theorem kitV {K : PySem.W.Frag} {t : Value} (hs : PySem.W.subIn K t (.type "ValueError") = some true) : PySem.W.kitOne K t (.type "ValueError") = some true := by
  unfold PySem.W.kitOne
  by_cases h : (t == .type "ValueError") = true
  · rw [if_pos h]
  · rw [if_neg h]
    show (if PySem.W.kitMeta "ValueError" = true then PySem.W.subIn K t (.type "ValueError") else none) = some true
    rw [if_pos (by decide +kernel)]
    exact hs
theorem kitN {C D : Addr} (hn : (C == D) = false) : ((Value.ref C : Value) == .ref D) = true → false = true := fun h => by
  have e : C = D := Value.ref.inj (beq_iff_eq.mp h)
  rw [e] at hn
  simp at hn
theorem hotC_mk {X : Cx} {p : Addr × Obj} (hot : Hot1 X.A p) (hp : p ∈ X.pn) : HotC X := ⟨p, hot, hp⟩
theorem cx_KH {CX : CXT} {P : Program} {w : World} {K : PySem.W.Frag} {mg : Str → Option Value} {base : Heap} {N : List Str} {qual : Str} {scope : Scope} {f : Addr} {cd : Value} {A : Around} {outer : List Env} {z : Shared} {H : Hp} {E : XK} {p : Addr × Obj} :
    (cxH CX P w K mg base N qual scope f cd A outer z H E p).K = K := rfl
theorem Pr.appfrz {A B A' B' : Hp} {l : Addr} {o : HO} (P : Pr A B A' B') (hB : B l = none) (hA : A' l = none) : Pr A B (upd A' l o) (upd B' l o) := (P.mut hB hA).frz hB hA upd_same
section
open Evl
variable {K : PySem.W.Frag} {H : Hp} {σ : L2.St} {tl te : TE}
/-- a list of what a text's signs give -/
theorem en_lcS {j : Nat} {z : Str} {ws : List Nat} (g : Nat → D) (h : EvD K tl σ H (.str z)) (hz : z.length ≤ 40000) (hw : ∀ x, wipe ((wipe σ ws).set j (some x)) ws = wipe σ ws)
    (he : ∀ y ∈ z.cps.toList, ∀ H1, Ex H H1 → EvD K te ((wipe σ ws).set j (some (.str ⟨#[y]⟩))) H1 (g y)) :
    EvN K (tLc (iStr tl) (gName j) tYes te ws) σ H (z.cps.toList.map g) := fun A B e s Q q => h A B e s _ fun v A1 B1 P1 hv => by
  cases hv
  refine ⟨z, rfl, fun L hL => lc_it walk_str (fun i H' => LcI K A1 B1 L ((z.cps.toList.take i).map g) H') (lci_start P1.s hL) (fun _ _ _ _ => trivial) ?_ ?_⟩
  · rintro i x H' H'' hi p ⟨rfl, y, hy, rfl⟩
    have hy' : z.cps.toList[i]? = some y := by rw [Array.getElem?_toList]; exact hy
    refine ⟨hw _, ?_⟩
    have tk : (z.cps.toList.take (i + 1)).map g = if true = true then (z.cps.toList.take i).map g ++ [g y] else (z.cps.toList.take i).map g := by rw [if_pos rfl, List.take_succ, hy', List.map_append]; rfl
    rw [tk]
    refine lci_turn (f := true) hL p ?_ (fun A' _ => eb_yes) (fun _ A' ea => he y (List.mem_of_getElem? hy') A' ((e.trans P1.a).trans ea))
    rw [List.length_map, List.length_take, Array.length_toList]
    have : z.cps.size ≤ 40000 := hz
    omega
  · intro H' p
    have e1 : z.cps.toList.take z.cps.size = z.cps.toList := by rw [← Array.length_toList, List.take_length]
    rw [e1] at p
    exact lci_end hL p fun p xs A' B' hp P => q p xs A' B' (fresh_back P1.b hp) (P1.trans P)
/-- one of some texts -/
def pickS (ws : List Str) (i : Int) : Str := ws.getD i.toNat ""
theorem at_pickS (ws : List Str) {i : Int} (h0 : 0 ≤ i) (h1 : i < ws.length) : atI (ws.map PyData.str) i = some (.str (pickS ws i)) := by
  obtain ⟨n, rfl⟩ : ∃ n : Nat, i = (n : Int) := ⟨i.toNat, by omega⟩
  have hn : n < ws.length := by omega
  unfold atI
  rw [List.length_map, ixN_nat hn]
  show (ws.map PyData.str)[n]? = _
  rw [List.getElem?_map]
  unfold pickS
  rw [show ((n : Int).toNat) = n from rfl, List.getD_eq_getElem?_getD, List.getElem?_eq_getElem hn]
  rfl
theorem pickS_mem {ws : List Str} {i : Int} (h0 : 0 ≤ i) (h1 : i < ws.length) : pickS ws i ∈ ws := by
  have hn : i.toNat < ws.length := by omega
  unfold pickS
  rw [List.getD_eq_getElem?_getD, List.getElem?_eq_getElem hn]
  exact List.getElem_mem hn
theorem pickS_len {ws : List Str} {n : Nat} (h : ∀ x ∈ ws, x.length ≤ n) (i : Int) : (pickS ws i).length ≤ n := by
  unfold pickS
  rw [List.getD_eq_getElem?_getD]
  cases e : ws[i.toNat]? with
  | none => exact Nat.zero_le _
  | some x => exact h x (List.mem_of_getElem? e)
end
end Ob

set_option Elab.async false
set_option linter.all false
set_option maxRecDepth 100000
set_option maxHeartbeats 2000000
namespace Ob
open PySem L2 Evl
/-! ## what may change -/
/-- data A in the heap B grew to A' in B'; what stood at F may have changed -/
structure PrM (F : Addr → Prop) (A B A' B' : Hp) : Prop where
  a : Ex A A'
  b : ∀ x u, ¬ F x → B x = some u → B' x = some u
  s : Ex A' B'
  n : ∀ x, A x = none → B x ≠ none → A' x = none
  f : ∀ x, B x ≠ none → B' x ≠ none
section
variable {F G : Addr → Prop} {A B A' B' A'' B'' : Hp} {l p : Addr} {o : HO}
theorem ex_some {H H' : Hp} (e : Ex H H') {x : Addr} (h : H x ≠ none) : H' x ≠ none := by
  cases z : H x with
  | none => exact absurd z h
  | some u => rw [e _ _ z]; simp
theorem Pr.m (h : Pr A B A' B') : PrM F A B A' B' := ⟨h.a, fun x u _ e => h.b x u e, h.s, h.n, fun _ z => ex_some h.b z⟩
theorem PrM.refl (h : Ex A B) : PrM F A B A B := (Pr.refl h).m
theorem PrM.mono (h : PrM F A B A' B') (i : ∀ x, F x → G x) : PrM G A B A' B' := ⟨h.a, fun x u n e => h.b x u (fun z => n (i x z)) e, h.s, h.n, h.f⟩
theorem PrM.trans (h : PrM F A B A' B') (k : PrM F A' B' A'' B'') : PrM F A B A'' B'' :=
  ⟨h.a.trans k.a, fun x u n e => k.b x u n (h.b x u n e), k.s, fun x e n => k.n x (h.n x e n) (h.f x n), fun x n => k.f x (h.f x n)⟩
/-- then something that may change only what is new -/
theorem PrM.then (h : PrM F A B A' B') (k : PrM G A' B' A'' B'') (i : ∀ x, G x → F x ∨ B x = none) : PrM F A B A'' B'' :=
  ⟨h.a.trans k.a, fun x u n e => k.b x u (fun z => (i x z).elim n fun y => by rw [y] at e; cases e) (h.b x u n e), k.s, fun x e n => k.n x (h.n x e n) (h.f x n), fun x n => k.f x (h.f x n)⟩
theorem PrM.up (h : PrM F A B A' B') (e : Ex B' B'') : PrM F A B A' B'' := h.trans (Pr.up h.s e).m
theorem PrM.pr (h : PrM F A B A' B') (k : Pr A' B' A'' B'') : PrM F A B A'' B'' := h.trans k.m
/-- a thing of F, or a new one, is written -/
theorem PrM.put (h : PrM F A B A' B') (i : F l ∨ B l = none) (hA : A' l = none) : PrM F A B A' (upd B' l o) :=
  ⟨h.a, fun x u n e => by
    have ne : x ≠ l := fun z => i.elim (fun y => n (z ▸ y)) fun y => by rw [z, y] at e; cases e
    rw [upd_ne ne]
    exact h.b x u n e, Ex.mut h.s hA, h.n, fun x n => by
    by_cases z : x = l
    · rw [z, upd_same]; simp
    · rw [upd_ne z]; exact h.f x n⟩
theorem PrM.fresh (h : PrM F A B A' B') (hp : B' p = none) : B p = none := by
  cases z : B p with
  | none => rfl
  | some u => exact absurd hp (h.f p (by rw [z]; simp))
/-- a new thing that is no datum -/
theorem PrM.new (h : PrM F A B A' B') (hp : B' p = none) : PrM F A B A' (upd B' p o) := h.put (.inr (h.fresh hp)) (fresh_back h.s hp)
/-- a new datum -/
theorem PrM.newD (h : PrM F A B A' B') (hp : B' p = none) : PrM F A B (upd A' p o) (upd B' p o) := h.trans (Pr.new h.s hp).m
/-- a thing that was made here becomes a datum -/
theorem PrM.frz (h : PrM F A B A' B') (hB : B l = none) (hA : A' l = none) (hl : B' l = some o) : PrM F A B (upd A' l o) B' :=
  ⟨h.a.trans (Ex.new hA), h.b, Ex.frz h.s hl, fun x e n => by rw [upd_ne (fun z : x = l => n (z ▸ hB))]; exact h.n x e n, h.f⟩
theorem Pu.of {H : Hp} (s : Ex A B) (e : Ex B H) : Pu A B H := ⟨s, e⟩
end
/-! ## evaluation beside what may change -/
section
variable {X : Cx} {K : PySem.W.Frag} {A B H H' : Hp} {σ : L2.St} {v : V} {ds es : List D} {d d' d1 d2 : D} {ta tb te to td ty tl : TE} {tr : TA} {a l m : Addr}
def EvP (K : PySem.W.Frag) (te : TE) (σ : L2.St) (A B : Hp) (d : D) : Prop := ∀ A1 B1, Pr A B A1 B1 → ∀ Q : VK, (∀ v A' B', Pr A1 B1 A' B' → Dp K A' v d → Q v B') → te σ B1 Q
def EvPA (K : PySem.W.Frag) (ta : TA) (σ : L2.St) (A B : Hp) (ds : List D) : Prop := ∀ A1 B1, Pr A B A1 B1 → ∀ Q : List V → Hp → Prop, (∀ vs A' B', Pr A1 B1 A' B' → DpAll K A' vs ds → Q vs B') → ta σ B1 Q
theorem ep_ed (h : EvD K te σ A d) : EvP K te σ A B d := fun A1 B1 P Q q => h A1 B1 P.a P.s Q q
theorem ep_v (h : Ev te σ B v) (hd : Dp K A v d) : EvP K te σ A B d := fun A1 B1 P Q q => h B1 P.b Q fun B' e => q v A1 B' (Pr.up P.s e) (dp_ex P.a hd)
theorem ep_is (h : EvP K te σ A B d) (e : d = d') : EvP K te σ A B d' := e ▸ h
/-- a number, a truth, a text: read with all that stands there -/
theorem ep_i {i : Int} (h : EvD K te σ B (.int i)) : EvP K te σ A B (.int i) := ep_v (v_int h) (.int i)
theorem ep_b {i : Bool} (h : EvD K te σ B (.bool i)) : EvP K te σ A B (.bool i) := ep_v (v_bl h) (.bl i)
theorem ep_s {i : Str} (h : EvD K te σ B (.str i)) : EvP K te σ A B (.str i) := ep_v (v_str h) (.str i)
theorem ep_n (h : EvD K te σ B .none) : EvP K te σ A B .none := ep_v (v_non h) .non
theorem epa_nil : EvPA K tNil σ A B [] := fun A1 B1 P _ q => q [] A1 B1 (Pr.refl P.s) .nil
theorem epa_cons (h : EvP K ta σ A B d) (hr : EvPA K tr σ A B ds) : EvPA K (tCons ta tr) σ A B (d :: ds) := fun A1 B1 P _ q =>
  h A1 B1 P _ fun v A2 B2 P2 hv => hr A2 B2 (P.trans P2) _ fun vs A3 B3 P3 hs => q _ A3 B3 (P2.trans P3) (.cons (dp_ex P3.a hv) hs)
theorem ep_tup (h : EvPA K tr σ A B ds) (hl : ds.length ≤ 100000) : EvP K (tTup tr) σ A B (.tuple ds) := fun A1 B1 P Q q =>
  h A1 B1 P _ fun vs A2 B2 P2 hs => ⟨sz_of (by rw [dpa_len hs]; exact hl), fun p hp => q _ (upd A2 p (.tup vs)) _ (P2.trans (Pr.new P2.s hp)) (.tup (st_of upd_same) (dpa_ex (Ex.new (fresh_back P2.s hp)) hs))⟩
theorem ep_call {sp : Sp} {E : XK} (h : EvPA K tr σ A B ds) (hs : SpD K sp ds d) : EvP K (tCall sp [] E tr) σ A B d := fun A1 B1 P Q q => h A1 B1 P _ fun vs A2 B2 P2 ha => by
  rw [List.append_nil]
  exact hs A2 B2 vs Q E P2.s ha fun v A3 B3 P3 => q v A3 B3 (P2.trans P3)
/-! fields, dicts -/
theorem ev_fld {C dx : Addr} {fs : List (Str × V)} {f : Str} (h : Ev ta σ H (.ref a)) (ha : H a = some (.ins C dx fs)) (c : Cls K C) (n : NoAttr K C f) (hv : fs.lookup f = some v) : Ev (tFld K ta f) σ H v := fun H1 e Q q =>
  h H1 e _ fun H2 e2 => ⟨a, C, dx, fs, v, rfl, e2 _ _ (e _ _ ha), c, n, hv, q H2 e2⟩
theorem ed_ev (h : Ev te σ H v) (hd : Dp K H v d) : EvD K te σ H d := ed_v h hd
theorem ex_rd {u : HO} (e : Ex H H') (h : Rd H a u) : Rd H' a u := h.elim (fun z => .inl (e _ _ z)) fun ⟨o, z⟩ => .inr ⟨o, e _ _ z⟩
theorem ev_dget {kvs : List (Key × V)} {i : Int} (h : Ev td σ H (.ref m)) (hm : Rd H m (.dK kvs)) (hi : EvD K ty σ H (.int i)) (hv : valV kvs (.inl i) = some v) : Ev (tDGet td ty) σ H v := fun H1 e Q q =>
  h H1 e _ fun H2 e2 => v_int hi H2 (e.trans e2) _ fun H3 e3 => ⟨m, v, rfl, .inl ⟨kvs, .inl i, ex_rd ((e.trans e2).trans e3) hm, rfl, hv.symm⟩, q H3 (e2.trans e3)⟩
theorem ev_dgetS {kvs : List (Key × V)} {i : Str} (h : Ev td σ H (.ref m)) (hm : Rd H m (.dK kvs)) (hi : EvD K ty σ H (.str i)) (hv : valV kvs (.inr i) = some v) : Ev (tDGet td ty) σ H v := fun H1 e Q q =>
  h H1 e _ fun H2 e2 => v_str hi H2 (e.trans e2) _ fun H3 e3 => ⟨m, v, rfl, .inl ⟨kvs, .inr i, ex_rd ((e.trans e2).trans e3) hm, rfl, hv.symm⟩, q H3 (e2.trans e3)⟩
theorem ed_din {kvs : List (Key × V)} {i : Int} (hi : EvD K ty σ H (.int i)) (h : Ev td σ H (.ref m)) (hm : Rd H m (.dK kvs)) : EvD K (tDIn ty td) σ H (.bool (valV kvs (.inl i)).isSome) :=
  ed_v (v := .bl (valV kvs (.inl i)).isSome) (fun H1 e Q q => v_int hi H1 e _ fun H2 e2 => h H2 (e.trans e2) _ fun H3 e3 => ⟨m, _, rfl, .inl ⟨kvs, .inl i, ex_rd ((e.trans e2).trans e3) hm, rfl, rfl⟩, q H3 (e2.trans e3)⟩) (.bl _)
theorem ed_dnin {kvs : List (Key × V)} {i : Int} (hi : EvD K ty σ H (.int i)) (h : Ev td σ H (.ref m)) (hm : Rd H m (.dK kvs)) : EvD K (tDNotIn ty td) σ H (.bool (!(valV kvs (.inl i)).isSome)) :=
  ed_v (v := .bl (!(valV kvs (.inl i)).isSome)) (fun H1 e Q q => v_int hi H1 e _ fun H2 e2 => h H2 (e.trans e2) _ fun H3 e3 => ⟨m, _, rfl, .inl ⟨kvs, .inl i, ex_rd ((e.trans e2).trans e3) hm, rfl, rfl⟩, q H3 (e2.trans e3)⟩) (.bl _)
/-- a place of a list, its thing itself -/
theorem ev_ixL {xs : List V} {i : Int} (h : Ev ta σ H (.ref l)) (hl : SqL K H l xs) (hi : EvD K tb σ H (.int i)) (hv : atI xs i = some v) : Ev (tOp (rIxL K) ta tb) σ H v := fun H1 e Q q =>
  h H1 e _ fun H2 e2 => v_int hi H2 (e.trans e2) _ fun H3 e3 => ⟨l, xs, i, v, rfl, rfl, ex_l ((e.trans e2).trans e3) hl, hv, q H3 (e2.trans e3)⟩
theorem ed_isB {a b : Bool} (ha : EvD K ta σ H (.bool a)) (hb : EvD K tb σ H (.bool b)) : EvD K (tOp rIsB ta tb) σ H (.bool (decide (a = b))) :=
  ed_v (ev_op (v_bl ha) (v_bl hb) (rv_val fun _ _ _ q => ⟨a, b, rfl, rfl, q⟩)) (.bl _)
theorem ed_notB {a b : Bool} (ha : EvD K ta σ H (.bool a)) (hb : EvD K tb σ H (.bool b)) : EvD K (tOp rNotB ta tb) σ H (.bool (!decide (a = b))) :=
  ed_v (ev_op (v_bl ha) (v_bl hb) (rv_val fun _ _ _ q => ⟨a, b, rfl, rfl, q⟩)) (.bl _)
theorem Ev.mono {H' : Hp} (h : Ev te σ H v) (e : Ex H H') : Ev te σ H' v := fun H1 e1 => h H1 (e.trans e1)
/-! ## statements -/
variable (K) {Dd : Ends} {t : TT} {tw tz t2 ts : TS}
theorem q_asgP {i : Nat} (s : Ex A H) (h : EvP K te σ A H d) (k : ∀ v A' B', Pr A H A' B' → Dp K A' v d → t2 Dd (σ.set i (some v)) B') : tSeq (tAsg te (gName i)) t2 Dd σ H := h A H (Pr.refl s) _ k
theorem s_asgP {i : Nat} (s : Ex A H) (h : EvP K te σ A H d) (k : ∀ v A' B', Pr A H A' B' → Dp K A' v d → Dd.nx (σ.set i (some v)) B') : tAsg te (gName i) Dd σ H := h A H (Pr.refl s) _ k
/-- a name for a thing itself -/
theorem q_asgV {i : Nat} (h : Ev te σ H v) (k : ∀ B', Ex H B' → t2 Dd (σ.set i (some v)) B') : tSeq (tAsg te (gName i)) t2 Dd σ H := h H (Ex.refl _) _ k
theorem s_asgV {i : Nat} (h : Ev te σ H v) (k : ∀ B', Ex H B' → Dd.nx (σ.set i (some v)) B') : tAsg te (gName i) Dd σ H := h H (Ex.refl _) _ k
/-- a name for a new list -/
theorem q_asgL {i : Nat} (k : ∀ p, H p = none → t2 Dd (σ.set i (some (.ref p))) (upd H p (.lst []))) : tSeq (tAsg (tLst tNil) (gName i)) t2 Dd σ H := ⟨sz_of (by decide), k⟩
theorem s_retP (s : Ex A H) (h : EvP K te σ A H d) (k : ∀ v A' B', Pr A H A' B' → Dp K A' v d → Dd.rt v B') : tRet te Dd σ H := h A H (Pr.refl s) _ k
theorem s_retV (h : Ev te σ H v) (k : ∀ B', Ex H B' → Dd.rt v B') : tRet te Dd σ H := h H (Ex.refl _) _ k
theorem q_ifM {b b' : Bool} (h : EvB K t σ H b') (q : b' = b) (h1 : b = true → ∀ B', Ex H B' → tw (go Dd t2) σ B') (h2 : b = false → ∀ B', Ex H B' → tz (go Dd t2) σ B') : tSeq (tIfS t tw tz) t2 Dd σ H :=
  q_ifE K (Ex.refl H) h q (fun z B' P => h1 z B' P.e) (fun z B' P => h2 z B' P.e)
theorem s_ifM {b b' : Bool} (h : EvB K t σ H b') (q : b' = b) (h1 : b = true → ∀ B', Ex H B' → tw Dd σ B') (h2 : b = false → ∀ B', Ex H B' → tz Dd σ B') : tIfS t tw tz Dd σ H :=
  s_ifE K (Ex.refl H) h q (fun z B' P => h1 z B' P.e) (fun z B' P => h2 z B' P.e)
/-- a field is set -/
theorem s_fld {C dx : Addr} {fs : List (Str × V)} {f : Str} (s : Ex A H) (hv : EvP K te σ A H d) (ha : Ev ta σ H (.ref a)) (hB : H a = some (.ins C dx fs)) (c : Cls K C) (n : NoAttr K C f) (hl : fs.length < 1000)
    (k : ∀ v A' B', Pr A H A' B' → Dp K A' v d → Dd.nx σ (upd B' a (.ins C dx (putF f v fs)))) : sFld K ta te f Dd σ H := hv A H (Pr.refl s) _ fun v A1 B1 P hd =>
  ha B1 P.b _ fun B2 e2 => ⟨a, C, dx, fs, rfl, e2 _ _ (P.b _ _ hB), c, n, hl, k v A1 B2 (P.trans (Pr.up P.s e2)) hd⟩
theorem s_fldD {C dx : Addr} {fs : List (Str × V)} {f : Str} (ha : Ev ta σ H (.ref a)) (hB : H a = some (.ins C dx fs)) (c : Cls K C) (n : NoAttr K C f) (hl : fs.length < 1000)
    (k : ∀ p B', H p = none → Ex (upd H p (.dK [])) B' → Dd.nx σ (upd B' a (.ins C dx (putF f (.ref p) fs)))) : sFld K ta tDNewK f Dd σ H := fun p hp =>
  ha (upd H p (.dK [])) (Ex.new hp) _ fun B2 e2 => ⟨a, C, dx, fs, rfl, e2 _ _ (Ex.new hp _ _ hB), c, n, hl, k p B2 hp e2⟩
theorem s_fldL {C dx : Addr} {fs : List (Str × V)} {f : Str} (ha : Ev ta σ H (.ref a)) (hB : H a = some (.ins C dx fs)) (c : Cls K C) (n : NoAttr K C f) (hl : fs.length < 1000)
    (k : ∀ p B', H p = none → Ex (upd H p (.lst [])) B' → Dd.nx σ (upd B' a (.ins C dx (putF f (.ref p) fs)))) : sFld K ta (tLst tNil) f Dd σ H := ⟨sz_of (by decide), fun p hp =>
  ha (upd H p (.lst [])) (Ex.new hp) _ fun B2 e2 => ⟨a, C, dx, fs, rfl, e2 _ _ (Ex.new hp _ _ hB), c, n, hl, k p B2 hp e2⟩⟩
/-- a field is set to a thing itself -/
theorem s_fldV {C dx : Addr} {fs : List (Str × V)} {f : Str} (hv : Ev te σ H v) (ha : Ev ta σ H (.ref a)) (hB : H a = some (.ins C dx fs)) (c : Cls K C) (n : NoAttr K C f) (hl : fs.length < 1000)
    (k : ∀ B', Ex H B' → Dd.nx σ (upd B' a (.ins C dx (putF f v fs)))) : sFld K ta te f Dd σ H := hv H (Ex.refl _) _ fun B1 e1 =>
  ha B1 e1 _ fun B2 e2 => ⟨a, C, dx, fs, rfl, e2 _ _ (e1 _ _ hB), c, n, hl, k B2 (e1.trans e2)⟩
/-- a dict's key is set -/
theorem s_dput {kvs : List (Key × V)} {i : Int} (s : Ex A H) (hv : EvP K te σ A H d) (hd : Ev td σ H (.ref m)) (hi : EvD K ty σ H (.int i)) (hm : H m = some (.dK kvs)) (hl : kvs.length < 100000)
    (k : ∀ v A' B', Pr A H A' B' → Dp K A' v d → Dd.nx σ (upd B' m (.dK (putK kvs (.inl i) v)))) : sDPut td ty te Dd σ H := hv A H (Pr.refl s) _ fun v A1 B1 P hd' =>
  hd B1 P.b _ fun B2 e2 => v_int hi B2 (P.b.trans e2) _ fun B3 e3 => ⟨m, _, rfl, .inl ⟨kvs, .inl i, e3 _ _ (e2 _ _ (P.b _ _ hm)), rfl, sz_lt hl, rfl⟩, k v A1 B3 (P.trans (Pr.up P.s (e2.trans e3))) hd'⟩
theorem s_dputS {kvs : List (Key × V)} {i : Str} (hv : Ev te σ H v) (hd : Ev td σ H (.ref m)) (hi : EvD K ty σ H (.str i)) (hm : H m = some (.dK kvs)) (hl : kvs.length < 100000)
    (k : ∀ B', Ex H B' → Dd.nx σ (upd B' m (.dK (putK kvs (.inr i) v)))) : sDPut td ty te Dd σ H := hv H (Ex.refl _) _ fun B1 e1 =>
  hd B1 e1 _ fun B2 e2 => v_str hi B2 (e1.trans e2) _ fun B3 e3 => ⟨m, _, rfl, .inl ⟨kvs, .inr i, e3 _ _ (e2 _ _ (e1 _ _ hm)), rfl, sz_lt hl, rfl⟩, k B3 ((e1.trans e2).trans e3)⟩
/-- a key is taken out -/
theorem s_dpop {kvs : List (Key × V)} {i : Int} {v : V} (hd : Ev td σ H (.ref m)) (hi : EvD K ty σ H (.int i)) (hm : H m = some (.dK kvs)) (hv : valV kvs (.inl i) = some v)
    (k : ∀ B', Ex H B' → Dd.nx σ (upd B' m (.dK (dropK kvs (.inl i))))) : tDrop (tDPop1 td ty) Dd σ H := hd H (Ex.refl _) _ fun B1 e1 =>
  ⟨m, rfl, .inl ⟨kvs, .inl (e1 _ _ hm)⟩, v_int hi B1 e1 _ fun B2 e2 => ⟨kvs, .inl i, v, e2 _ _ (e1 _ _ hm), rfl, hv, k B2 (e1.trans e2)⟩⟩
/-- a datum is appended to a list -/
theorem s_app {xs : List V} (s : Ex A H) (ho : Ev to σ H (.ref l)) (h : EvP K te σ A H d) (hl : H l = some (.lst xs)) (hz : xs.length < 100000)
    (k : ∀ v A' B', Pr A H A' B' → Dp K A' v d → Dd.nx σ (upd B' l (.lst (xs ++ [v])))) : tDrop (tBM K "list" rAppend to (tCons te tNil)) Dd σ H := ho H (Ex.refl _) _ fun B1 e1 =>
  ⟨.inl ⟨rfl, xs, sq_of (e1 _ _ hl)⟩, h A B1 (Pr.up s e1) _ fun v A' B' P hv => ⟨l, xs, v, rfl, rfl, P.b _ _ (e1 _ _ hl), sz_lt hz, k v A' B' ((Pr.up s e1).trans P) hv⟩⟩
/-- a thing itself is appended -/
theorem s_appV {xs : List V} (ho : Ev to σ H (.ref l)) (h : Ev te σ H v) (hl : H l = some (.lst xs)) (hz : xs.length < 100000)
    (k : ∀ B', Ex H B' → Dd.nx σ (upd B' l (.lst (xs ++ [v])))) : tDrop (tBM K "list" rAppend to (tCons te tNil)) Dd σ H := ho H (Ex.refl _) _ fun B1 e1 =>
  ⟨.inl ⟨rfl, xs, sq_of (e1 _ _ hl)⟩, h B1 e1 _ fun B2 e2 => ⟨l, xs, v, rfl, rfl, e2 _ _ (e1 _ _ hl), sz_lt hz, k B2 (e1.trans e2)⟩⟩
theorem s_clear {xs : List V} (ho : Ev to σ H (.ref l)) (hl : H l = some (.lst xs)) (k : ∀ B', Ex H B' → Dd.nx σ (upd B' l (.lst []))) : tDrop (tBM0 K "list" rClear to) Dd σ H := ho H (Ex.refl _) _ fun B1 e1 =>
  ⟨.inl ⟨rfl, xs, sq_of (e1 _ _ hl)⟩, ⟨l, xs, rfl, rfl, e1 _ _ hl, k B1 e1⟩⟩
/-- as the first of two -/
theorem q_do {t1 : TS} (h : t1 (go Dd t2) σ H) : tSeq t1 t2 Dd σ H := h
/-- a for over a list that stays, whose body only reads and names -/
theorem s_forL {j : Nat} {xs : List V} (h : Ev tl σ H (.ref l)) (hl : SqL K H l xs) (J : Nat → L2.St → Prop) (h0 : J 0 σ)
    (hs : ∀ i x σ' B', xs[i]? = some x → Ex H B' → J i σ' → ts { Dd with nx := fun σ3 H3 => Ex H H3 ∧ J (i + 1) σ3, ct := fun σ3 H3 => Ex H H3 ∧ J (i + 1) σ3, bk := Dd.nx } (σ'.set j (some x)) B')
    (hd : ∀ σ' B', Ex H B' → J xs.length σ' → Dd.nx σ' B') : tFor (iList K tl) (gName j) ts Dd σ H := h H (Ex.refl _) _ fun B1 e1 =>
  ⟨l, rfl, ⟨xs, ex_l e1 hl⟩, for_it (walk_list (xs := xs)) (fun i σ' H' => Ex H H' ∧ J i σ') ⟨e1, h0⟩ (fun i σ' H' _ p => ex_l p.1 hl)
    (fun i x σ' H' H'' _ p y => by obtain ⟨rfl, hx⟩ := y; exact hs i x σ' _ hx p.1 p.2) (fun σ' H' p => hd σ' H' p.1 p.2)⟩
/-- for i, x in enumerate(list), whose body only reads and names -/
theorem s_forE {i j : Nat} {xs : List V} (h : Ev tl σ H (.ref l)) (hl : SqL K H l xs) (J : Nat → L2.St → Prop) (h0 : J 0 σ)
    (hs : ∀ (t : Nat) x σ' B', xs[t]? = some x → Ex H B' → J t σ' → ts { Dd with nx := fun σ3 H3 => Ex H H3 ∧ J (t + 1) σ3, ct := fun σ3 H3 => Ex H H3 ∧ J (t + 1) σ3, bk := Dd.nx } ((σ'.set i (some (.int (t : Int)))).set j (some x)) B')
    (hd : ∀ σ' B', Ex H B' → J xs.length σ' → Dd.nx σ' B') : tFor (iEnum K (tCons tl tNil)) (gTup K 2 (gCons (gName i) (gCons (gName j) gNil))) ts Dd σ H := h H (Ex.refl _) _ fun B1 e1 =>
  ⟨l, xs, rfl, ex_l e1 hl, for_it (walk_enum (xs := xs)) (fun t σ' H' => Ex H H' ∧ J t σ') ⟨e1, h0⟩ (fun t σ' H' _ p => ex_l p.1 hl)
    (fun t x σ' H' H'' _ p y => by
      obtain ⟨T, u, z, rfl, hT, rfl, hu, hz⟩ := y
      cases hu
      exact ⟨T, [.int (t : Nat), z], rfl, st_of upd_same, rfl, _, [z], rfl, z, [], rfl, rfl, hs t z σ' _ hz (p.1.trans (Ex.new hT)) p.2⟩) (fun σ' H' p => hd σ' H' p.1 p.2)⟩
/-- for i in range(n), whose body changes things: J tells all -/
theorem s_forRM {j : Nat} {n : Int} (h : EvD K te σ H (.int n)) (hn : 0 ≤ n ∧ n ≤ 40000) (J : Nat → L2.St → Hp → Prop) (h0 : ∀ B', Ex H B' → J 0 σ B')
    (hs : ∀ (i : Nat) σ' B', (i : Int) < n → J i σ' B' → ts { Dd with nx := J (i + 1), ct := J (i + 1), bk := Dd.nx } (σ'.set j (some (.int (i : Int)))) B')
    (hd : ∀ σ' B', J n.toNat σ' B' → Dd.nx σ' B') : tFor (iRng1 (tCons te tNil)) (gName j) ts Dd σ H := v_int h H (Ex.refl _) _ fun B1 e1 =>
  ⟨n, rfl, by omega, by omega, for_it walk_range J (h0 B1 e1) (fun _ _ _ _ _ => trivial)
    (fun i x σ' H' H'' hi p y => by
      obtain ⟨rfl, rfl⟩ := y
      show ts _ (σ'.set j (some (.int (0 + (i : Nat))))) _
      rw [Int.zero_add]
      exact hs i σ' _ (by omega) p) (fun σ' H' p => hd σ' H' p)⟩
/-- a for over a new list, whose body changes things -/
theorem s_forNM {j : Nat} (s : Ex A H) (h : EvN K tl σ A ds) (k : ∀ q xs A1 B1, H q = none → Pr A H A1 B1 → A1 q = none → B1 q = some (.lst xs) → DpAll K A1 xs ds → ∃ J : Nat → L2.St → Hp → Prop, J 0 σ B1 ∧ (∀ i σ' B', J i σ' B' → SqL K B' q xs) ∧
      (∀ i x σ' B', xs[i]? = some x → J i σ' B' → ts { Dd with nx := J (i + 1), ct := J (i + 1), bk := Dd.nx } (σ'.set j (some x)) B') ∧ ∀ σ' B', J xs.length σ' B' → Dd.nx σ' B') : tFor (iList K tl) (gName j) ts Dd σ H := h A H (Ex.refl _) s _ fun q xs A1 B1 hq P nq bq hxs => by
  obtain ⟨J, j0, j1, j2, j3⟩ := k q xs A1 B1 hq P nq bq hxs
  refine ⟨q, rfl, ⟨xs, sq_of bq⟩, for_it (walk_list (xs := xs)) J j0 (fun i σ' H' _ p => j1 i σ' H' p) (fun i x σ' H' H'' _ p y => ?_) j3⟩
  obtain ⟨rfl, hx⟩ := y
  exact j2 i x σ' _ hx p
/-- a for over a dict's keys, whose body only reads and names -/
theorem s_forK {j : Nat} {kvs : List (Key × V)} (h : ∀ H', (∀ x u, x ≠ m → H x = some u → H' x = some u) → Ev tl σ H' (.ref m)) (hm : H m = some (.dK kvs)) (J : Nat → L2.St → Prop) (h0 : J 0 σ)
    (hs : ∀ i kv σ' B', kvs[i]? = some kv → Rd B' m (.dK kvs) → (∀ x u, x ≠ m → H x = some u → B' x = some u) → J i σ' → ∀ N : L2.St → Hp → Prop, (∀ σ3 B3, Ex B' B3 → J (i + 1) σ3 → N σ3 B3) → ∀ Dn : Ends, Dn.nx = N → ts Dn (σ'.set j (some (kV kv.1))) B')
    (hd : ∀ σ' B', Ex H B' → J kvs.length σ' → Dd.nx σ' B') : tLock (tFor (iKeys tl) (gName j) ts) Dd σ H := by
  refine ⟨m, _, hm, trivial, fun od => ?_⟩
  have k0 : ∀ x u, x ≠ m → H x = some u → (upd H m (.frz od (.dK kvs))) x = some u := fun x u n e => by rw [upd_ne n]; exact e
  refine h _ k0 _ (Ex.refl _) _ fun B1 e1 => ⟨m, od, rfl, .inl ⟨kvs, e1 _ _ upd_same, ?_⟩⟩
  refine for_it (walk_keys (kvs := kvs)) (fun i σ' H' => Ex (upd H m (.frz od (.dK kvs))) H' ∧ J i σ') ⟨e1, h0⟩ (fun i σ' H' _ p => p.1 _ _ upd_same) (fun i x σ' H' H'' _ p y => ?_) (fun σ' H' p => ?_)
  · obtain ⟨rfl, k, v, hk, rfl⟩ := y
    exact hs i (k, v) σ' _ hk (.inr ⟨od, p.1 _ _ upd_same⟩) (fun x u n e => p.1 _ _ (k0 x u n e)) p.2 _ (fun σ3 B3 e3 j3 => ⟨p.1.trans e3, j3⟩) _ rfl
  · refine ⟨p.1 _ _ upd_same, hd σ' _ (fun x u e => ?_) p.2⟩
    by_cases n : x = m
    · rw [n] at e ⊢
      rw [hm] at e
      cases e
      exact upd_same
    · rw [upd_ne n]
      exact p.1 _ _ (k0 x u n e)
end
/-! ## methods, and things made of a class -/
/-- where a method stands -/
structure MethAt (K : PySem.W.Frag) (C : Addr) (qual m : Str) (st : Stmt) (ps : List Str) (f : Addr) (fd : FuncData) : Prop where
  F : Fun K m qual st f fd
  m : Meth K C m f
  b : Binds K fd ps []
/-- a method keeps its promise -/
def MethOk (P : Program) (w : World) (K : PySem.W.Frag) (mg : Str → Option Value) (base : Heap) (CX : CXT) (k : Nat) (C : Addr) (m : Str) (ps : List Str) (sp : Sp) : Prop :=
  ∃ f fd, Meth K C m f ∧ Binds K fd ps [] ∧ FnOk P w K mg base CX k f fd ps sp
/-- so does the making -/
def MkOk (P : Program) (w : World) (K : PySem.W.Frag) (mg : Str → Option Value) (base : Heap) (CX : CXT) (k : Nat) (C : Addr) (ps : List Str) (sp : Sp) : Prop :=
  ∃ f fd, Mk K C f ∧ Binds K fd ps [] ∧ FnOk P w K mg base CX k f fd ps sp
theorem MethAt.ok {P : Program} {w : World} {K : PySem.W.Frag} {mg : Str → Option Value} {base : Heap} {CX : CXT} {k : Nat} {C : Addr} {qual m : Str} {st : Stmt} {ps : List Str} {f : Addr} {fd : FuncData} {sp : Sp} (d : MethAt K C qual m st ps f fd) (h : FnOk P w K mg base CX k f fd ps sp) : MethOk P w K mg base CX k C m ps sp :=
  ⟨f, fd, d.m, d.b, h⟩
section
variable {X : Cx} {CX : CXT} {k : Nat} {C : Addr} {ps : List Str} {sp : Sp} {x m : Str} {p pos apos : Pos} {e o : Expr} {es : List Expr} {ta : TE} {t : TA}
theorem pe_md {E : XK} {pl : Sem Bool} (he : PE X o ta) (c : Cls X.K C) (G : MethOk X.prog X.w X.K X.mg X.base CX k C m ps sp) (hr : Room k X.A) (hx : Passes CX X E) (ha : PA X (e :: es) t)
    (hst : starEach (e :: es) X.env = (false, eval e X.env) :: starEach es X.env := by rfl) (hpl : (backTo pos (starEach es X.env)).any (·.1) = false := by rfl)
    (ht : eval (.Call (.Attribute o m apos) (e :: es) [] pos) X.env = (do
      let ov ← eval o X.env
      standAt apos.atName
      let (g, first) ← holding [ov] (getMethod ov m pl)
      callWith pos g first (backTo pos (starEach (e :: es) X.env)) (backToKw pos (keywordEach [] X.env))) := by rfl) :
    PE X (.Call (.Attribute o m apos) (e :: es) [] pos) (tMeth C m sp [] E ta t) := by
  obtain ⟨f, fd, h1, h2, h3⟩ := G
  exact pe_meth (pl := pl) he c h1 h3 hr h2 .nil hx ha hst hpl ht
theorem pe_md0 {E : XK} {pl : Sem Bool} (he : PE X o ta) (c : Cls X.K C) (G : MethOk X.prog X.w X.K X.mg X.base CX k C m ps sp) (hr : Room k X.A) (hx : Passes CX X E)
    (ht : eval (.Call (.Attribute o m apos) [] [] pos) X.env = (do
      let ov ← eval o X.env
      standAt apos.atName
      let (g, first) ← holding [ov] (getMethod ov m pl)
      callWith pos g first (backTo pos (starEach [] X.env)) (backToKw pos (keywordEach [] X.env))) := by rfl) :
    PE X (.Call (.Attribute o m apos) [] [] pos) (tMeth C m sp [] E ta tNil) := by
  obtain ⟨f, fd, h1, h2, h3⟩ := G
  exact pe_meth0 (pl := pl) he c h1 h3 hr h2 .nil hx ht
/-- a method that may raise, what comes of that told by the names' values -/
def tMethX (C : Addr) (m : Str) (sp : Sp) (E : L2.St → XK) (ta : TE) (t : TA) : TE := fun σ H Q => ta σ H fun x H1 => ∃ a dx fs, x = .ref a ∧ H1 a = some (.ins C dx fs) ∧ fs.lookup m = none ∧ t σ H1 fun vs H2 => sp (x :: vs) H2 Q (E σ)
theorem pe_mdX {E : L2.St → XK} {pl : Sem Bool} (he : PE X o ta) (c : Cls X.K C) (G : MethOk X.prog X.w X.K X.mg X.base CX k C m ps sp) (hr : Room k X.A) (hx : ∀ σ, PassesAt CX X σ (E σ)) (ha : PA X (e :: es) t)
    (hst : starEach (e :: es) X.env = (false, eval e X.env) :: starEach es X.env := by rfl) (hpl : (backTo pos (starEach es X.env)).any (·.1) = false := by rfl)
    (ht : eval (.Call (.Attribute o m apos) (e :: es) [] pos) X.env = (do
      let ov ← eval o X.env
      standAt apos.atName
      let (g, first) ← holding [ov] (getMethod ov m pl)
      callWith pos g first (backTo pos (starEach (e :: es) X.env)) (backToKw pos (keywordEach [] X.env))) := by rfl) :
    PE X (.Call (.Attribute o m apos) (e :: es) [] pos) (tMethX C m sp E ta t) := by
  obtain ⟨f, fd, hm, hb, F⟩ := G
  refine ⟨fun pins z σ H Q I h => PySem.W.methodCall_KW (pl := pl) (thn (he.run pins z σ H _ I h) fun u z1 ⟨y, H1, I1, ry, a, dx, fs, ey, ea, l, q⟩ => ?_) ht⟩
  subst ey
  obtain rfl : u = Value.ref a := ry
  refine getmeth_ok I1 ea c hm l (PySem.W.callWith_K (first := [.ref a]) (h₀ := X.base) I.ok.mod.kin hm.kp (thn (ha.run pos pins z1 σ H1 _ I1 q) fun us z2 ⟨vs, H2, I2, r, q2⟩ => ⟨I2.kIn, ?_⟩) hst hpl)
  exact run_fnS (us := .ref a :: us) (vs := .ref a :: vs) F hr hb (hx σ) I2 (.cons rfl r) q2
theorem pe_mk {E : XK} (hg : Gl X x) (hm : X.mg x = some (.ref C)) (G : MkOk X.prog X.w X.K X.mg X.base CX k C ps sp) (hr : Room (k + 1) X.A) (hx : Passes CX X E) (ha : PA X (e :: es) t)
    (hdb : (x == ("__debug__" : Str)) = false := by decide) (he : starEach (e :: es) X.env = (false, eval e X.env) :: starEach es X.env := by rfl) (hpl : (backTo pos (starEach es X.env)).any (·.1) = false := by rfl) :
    PE X (.Call (.Name x p) (e :: es) [] pos) (tMake C sp [] E t) := by
  obtain ⟨f, fd, h1, h2, h3⟩ := G
  exact pe_make h1 h3 hr hg hm h2 .nil hx ha hdb he hpl
end
section
variable {K : PySem.W.Frag} {A B H : Hp} {σ : L2.St} {ds : List D} {C a dx : Addr} {m : Str} {fs : List (Str × V)} {sp : Sp} {E : XK} {EX : L2.St → XK} {ta : TE} {t : TA} {Q : VK}
theorem m_call (s : Ex A H) (ha : Ev ta σ H (.ref a)) (hB : H a = some (.ins C dx fs)) (hl : fs.lookup m = none) (h : EvPA K t σ A H ds) (k : ∀ vs A1 B1, Pr A H A1 B1 → DpAll K A1 vs ds → sp (.ref a :: vs) B1 Q E) : tMeth C m sp [] E ta t σ H Q :=
  ha H (Ex.refl _) _ fun B1 e1 => ⟨a, dx, fs, rfl, e1 _ _ hB, hl, h A B1 (Pr.up s e1) _ fun vs A2 B2 P2 hv => by rw [List.append_nil]; exact k vs A2 B2 ((Pr.up s e1).trans P2) hv⟩
theorem m_callX (s : Ex A H) (ha : Ev ta σ H (.ref a)) (hB : H a = some (.ins C dx fs)) (hl : fs.lookup m = none) (h : EvPA K t σ A H ds) (k : ∀ vs A1 B1, Pr A H A1 B1 → DpAll K A1 vs ds → sp (.ref a :: vs) B1 Q (EX σ)) : tMethX C m sp EX ta t σ H Q :=
  ha H (Ex.refl _) _ fun B1 e1 => ⟨a, dx, fs, rfl, e1 _ _ hB, hl, h A B1 (Pr.up s e1) _ fun vs A2 B2 P2 hv => k vs A2 B2 ((Pr.up s e1).trans P2) hv⟩
end
end Ob

set_option Elab.async false
set_option linter.all false
set_option maxRecDepth 100000
set_option maxHeartbeats 2000000
namespace Ob
open PySem L2 Evl PyProof.Rows
/-! ## for the house -/
section
variable {K : PySem.W.Frag} {A B H : Hp} {σ : L2.St} {ta tb tc td te ty : TE} {t : TT} {tw tz t2 : TS} {Dd : Ends} {ds : List D} {m p : Addr} {xs : List V}
theorem q_ifJ (K : PySem.W.Frag) {b b' : Bool} (J : L2.St → Hp → Prop) (h : EvB K t σ H b') (q : b' = b) (rest : ∀ σ' B', J σ' B' → t2 Dd σ' B')
    (h1 : (∀ σ' B', J σ' B' → t2 Dd σ' B') → b = true → ∀ B', Ex H B' → tw (go Dd t2) σ B') (h2 : (∀ σ' B', J σ' B' → t2 Dd σ' B') → b = false → ∀ B', Ex H B' → tz (go Dd t2) σ B') : tSeq (tIfS t tw tz) t2 Dd σ H := q_ifM K h q (h1 rest) (h2 rest)
def rInt1 : List V → Hp → VK → Prop := fun xs H Q => (∃ i, xs = [.int i] ∧ Q (.int i) H) ∨ ∃ k, xs = [.bl k] ∧ Q (.int (if k then 1 else 0)) H
theorem ed_int1b {b : Bool} (h : EvD K te σ H (.bool b)) : EvD K (tCB rInt1 (tCons te tNil)) σ H (.int (if b then 1 else 0)) :=
  ed_v (v := .int (if b then 1 else 0)) (fun H1 e Q q => v_bl h H1 e _ fun H2 e2 => .inr ⟨b, rfl, q H2 e2⟩) (.int _)
theorem at_ix2 {a b : D} {j : Int} (h : j = 0 ∨ j = 1) : atI [a, b] j = some (if j = 0 then a else b) := by
  rcases h with rfl | rfl <;> rfl
theorem c_callV {sp : Sp} {E : XK} {tr : TA} {vs : List V} {Q : VK} (h : EvA tr σ H vs) (k : ∀ B', Ex H B' → sp vs B' Q E) : tCall sp [] E tr σ H Q := h H (Ex.refl _) _ fun B1 e1 => by
  rw [List.append_nil]
  exact k B1 e1
theorem c_call2 {sp : Sp} {E : XK} {Q : VK} (h : ta σ H fun x H1 => tb σ H1 fun y H2 => sp [x, y] H2 Q E) : tCall sp [] E (tCons ta (tCons tb tNil)) σ H Q := h
theorem un_ifcall1 : tIfS (tNot (tB te)) tw tz Dd σ H = te σ H fun x H1 => ∃ b, x = .bl b ∧ if (!b) = true then tw Dd σ H1 else tz Dd σ H1 := rfl
theorem un_ifcall : tSeq (tIfS (tNot (tB te)) tw tz) t2 Dd σ H = te σ H fun x H1 => ∃ b, x = .bl b ∧ if (!b) = true then tw (go Dd t2) σ H1 else tz (go Dd t2) σ H1 := rfl
theorem q_orNot (K : PySem.W.Frag) (h : EvB K t σ H false) (k : ∀ B', Ex H B' → te σ B' fun x H1 => ∃ b, x = .bl b ∧ if (!b) = true then tw (go Dd t2) σ H1 else tz (go Dd t2) σ H1) : tSeq (tIfS (tOr t (tNot (tB te))) tw tz) t2 Dd σ H :=
  h H (Ex.refl _) _ fun B' e => k B' e
theorem s_dputSN {kvs : List (Key × V)} {i : Str} (hv : EvN K te σ H ds) (hd : Ev td σ H (.ref m)) (hi : EvD K ty σ H (.str i)) (hm : H m = some (.dK kvs)) (hl : kvs.length < 100000)
    (k : ∀ p ys B', H p = none → Ex H B' → B' p = some (.lst ys) → DpAll K B' ys ds → Dd.nx σ (upd B' m (.dK (putK kvs (.inr i) (.ref p))))) : sDPut td ty te Dd σ H :=
  hv H H (Ex.refl _) (Ex.refl _) _ fun p xs A1 B1 hp P hA h1 hx => hd B1 P.b _ fun B2 e2 => v_str hi B2 (P.b.trans e2) _ fun B3 e3 =>
    ⟨m, _, rfl, .inl ⟨kvs, .inr i, e3 _ _ (e2 _ _ (P.b _ _ hm)), rfl, sz_lt hl, rfl⟩, k p xs B3 hp ((P.b.trans e2).trans e3) ((e2.trans e3) _ _ h1) (dpa_ex (P.s.trans (e2.trans e3)) hx)⟩
theorem ek_v (h : Ev te σ H (.ref p)) (hp : H p = some (.lst xs)) (ha : DpAll K H xs ds) : EvK K te σ H ds := fun A B e s Q q => h B (e.trans s) _ fun B' e2 => q p xs A B' (Pr.up s e2) (e2 _ _ (s _ _ (e _ _ hp))) (dpa_ex e ha)
theorem ed_chain {f g : Int → Int → Bool} {i j k : Int} (ha : EvD K ta σ H (.int i)) (hb : EvD K tb σ H (.int j)) (hc : EvD K tc σ H (.int k)) : EvD K (tChain (rI0 fun i j => .bl (f i j)) (rI0 fun i j => .bl (g i j)) ta tb tc) σ H (.bool (f i j && g j k)) :=
  ed_v (v := .bl (f i j && g j k)) (fun H1 e Q q => v_int ha H1 e _ fun H2 e2 => v_int hb H2 (e.trans e2) _ fun H3 e3 => ⟨i, j, rfl, rfl, f i j, rfl, by
    cases hf : f i j with
    | true =>
      rw [if_pos rfl]
      exact v_int hc H3 ((e.trans e2).trans e3) _ fun H4 e4 => ⟨j, k, rfl, rfl, by rw [hf, Bool.true_and] at q; exact q H4 ((e2.trans e3).trans e4)⟩
    | false =>
      rw [if_neg (by decide)]
      rw [hf, Bool.false_and] at q
      exact q H3 (e2.trans e3)⟩) (.bl _)
theorem any_int (l : Int) : ∀ ms : List Int, ((ms.map PyData.int).any fun y => PyData.eqv y (.int l)) = decide (l ∈ ms)
  | [] => rfl
  | x :: r => by
    rw [List.map_cons, List.any_cons, any_int l r]
    show ((x == l) || decide (l ∈ r)) = _
    by_cases e : x = l
    · subst e; simp
    · rw [beq_false_of_ne e]
      simp [Ne.symm e]
theorem flat_ints (ms : List Int) : (ms.map PyData.int).all flatD = true := by
  rw [List.all_map, List.all_eq_true]
  intro x _
  rfl
theorem sh_ints (l : List Int) : SeqAt.shaped (.list (l.map PyData.int)) = true := ShN.sh (n := 1) (shn_list fun d hd => by
  obtain ⟨i, _, rfl⟩ := List.mem_map.mp hd
  exact shn_int) (by decide)
/-- a thing of any sort: a whole number, or none -/
def Thing (K : PySem.W.Frag) (H : Hp) (v : V) : Option Int → Prop
  | some i => v = .int i
  | none => ∃ n, (∀ H', Ex H H' → TyX K H' v (.type n)) ∧ (kitB n "int" = some false ∨ kitB n "int" = some true ∧ kitB n "bool" = some true)
theorem Thing.up {v : V} {o : Option Int} {H' : Hp} (h : Thing K H v o) (e : Ex H H') : Thing K H' v o := by
  cases o with
  | some i => exact h
  | none =>
    obtain ⟨n, h1, h2⟩ := h
    exact ⟨n, fun H2 e2 => h1 H2 (e.trans e2), h2⟩
theorem thing_dp {v : V} {d : D} (h : Dp K H v d) (hk : kitB (tyN d) "int" = some false ∨ kitB (tyN d) "int" = some true ∧ kitB (tyN d) "bool" = some true) : Thing K H v none :=
  ⟨tyN d, fun H' e => tyX_dp (dp_ex e h), hk⟩
theorem ed_isiX {v : V} {n m : String} {b : Bool} (h : Ev ta σ H v) (ht : ∀ H', Ex H H' → TyX K H' v (.type n)) (hk : kitB n m = some b) : EvD K (tCB (rIsi K) (tCons ta (tCons (tC (.ty m)) tNil))) σ H (.bool b) :=
  ed_v (v := .bl b) (fun H1 e Q q => h H1 e _ fun H2 e2 => ⟨v, .ty m, _, _, b, rfl, .ty m, ht H2 (e.trans e2), kit_ty hk, q H2 e2⟩) (.bl _)
end
/-! ### the making of a thing, in a try -/
def tMakeX (C : Addr) (sp : Sp) (E : L2.St → XK) (t : TA) : TE := fun σ H Q => t σ H fun vs H1 => ∀ x dx, H1 x = none → H1 dx = none → dx ≠ x →
  sp (.ref x :: vs) (upd (upd H1 dx (.own x)) x (.ins C dx [])) (fun v H2 => v = .non ∧ Q (.ref x) H2) (E σ)
section
variable {X : Cx} {CX : CXT} {k : Nat} {f C : Addr} {fd : FuncData} {ps : List Str} {sp : Sp} {E : L2.St → XK} {x : Str} {p pos : Pos} {e : Expr} {es : List Expr} {t : TA}
theorem run_makeS {pins : List (Addr × Obj)} {σ : L2.St} {H : Hp} {s : Shared} {Q : VK} {us : List Value} {vs : List V} (M : L2.Mk X.K C f) (F : FnOk X.prog X.w X.K X.mg X.base CX k f fd ps sp) (hr : Room (k + 1) X.A) (hb : Binds X.K fd ps [])
    (hx : PassesAt CX X σ (E σ)) (I : Inv X pins σ H s) (r : Vals vs us)
    (h : ∀ x dx, H x = none → H dx = none → dx ≠ x → sp (.ref x :: vs) (upd (upd H dx (.own x)) x (.ins C dx [])) (fun v H2 => v = .non ∧ Q (.ref x) H2) (E σ)) :
    wpAny (model X.prog X.w) X.A (call (.ref C) us) (EP X pins σ Q) X.xe s := by
  have hq := h (s.heap.objs.size + 1) s.heap.objs.size (I.hok.fresh (Nat.le_succ _)) (I.hok.fresh (Nat.le_refl _)) (Nat.ne_of_lt (Nat.lt_succ_self _))
  have I2 := Inv.made (C := C) I
  have r2 : Vals (V.ref (s.heap.objs.size + 1) :: vs) (Value.ref (s.heap.objs.size + 1) :: us) := .cons rfl r
  have hl : (Value.ref (s.heap.objs.size + 1) :: us).length = ps.length := by
    have e := r2.length
    rw [F.len _ _ _ _ hq] at e
    exact e.symm
  have b := hb _ (Value.ref (s.heap.objs.size + 1) :: us) I2.kIn (by rw [List.append_nil]; exact hl)
  rw [List.append_nil] at b
  refine wpAny_call (make_map (f := f) I.kIn M.makes M.init (beq_iff_eq.mp M.fn) (codeAny_mono (F.run _ X.stack _ _ ⟨Value.ref (s.heap.objs.size + 1) :: us, []⟩ (Value.ref (s.heap.objs.size + 1) :: us) _ _ (E σ) (hr.make C us [])
    (I2.env0.make C us []) b r2 hq) fun r s' hq' => ?_))
  cases r with
  | error e => exact hx pins _ _ e s' I2 hq'
  | ok fl =>
    cases fl with
    | ret u =>
      obtain ⟨v, H', I3, rv, ev, q3⟩ := I2.after hq'
      subst ev
      exact ⟨rv, ⟨V.ref (s.heap.objs.size + 1), H', I3, rfl, q3⟩⟩
    | next => exact False.elim hq'
    | brk => exact False.elim hq'
    | cont => exact False.elim hq'
theorem pe_mkX (hg : Gl X x) (hm : X.mg x = some (.ref C)) (G : MkOk X.prog X.w X.K X.mg X.base CX k C ps sp) (hx : ∀ σ, PassesAt CX X σ (E σ)) (hr : Room (k + 1) X.A) (ha : PA X (e :: es) t)
    (hdb : (x == ("__debug__" : Str)) = false := by decide) (he : starEach (e :: es) X.env = (false, eval e X.env) :: starEach es X.env := by rfl) (hpl : (backTo pos (starEach es X.env)).any (·.1) = false := by rfl) :
    PE X (.Call (.Name x p) (e :: es) [] pos) (tMakeX C sp E t) := by
  obtain ⟨f, fd, M, hb, F⟩ := G
  refine ⟨fun pins s σ H Q I h => ?_⟩
  refine wpAny_Call_Name_kw (ld_glob I hg hm ?_ hdb)
  refine PySem.W.callWith_K (h₀ := X.base) I.ok.mod.kin M.kp (thn (ha.run pos pins s σ H _ I h) fun us s1 ⟨vs, H1, I1, r, q⟩ => ⟨I1.kIn, ?_⟩) he hpl
  exact run_makeS M F hr hb (hx σ) I1 r q
end
end Ob

set_option Elab.async false
set_option linter.all false
set_option maxRecDepth 100000
set_option maxHeartbeats 2000000
namespace Ob
open PySem L2 Evl PyProof.Rows
/-! ## tuples: greater, among, sets of them -/
def lexGt (ns ms : List Int) : Bool := Ob.lexAt (fun j => decide (ns.getD j 0 = ms.getD j 0)) (fun j => decide (ms.getD j 0 < ns.getD j 0)) (decide (ns.length > ms.length)) 0 (min ns.length ms.length)
def lexGe (ns ms : List Int) : Bool := Ob.lexAt (fun j => decide (ns.getD j 0 = ms.getD j 0)) (fun j => decide (ms.getD j 0 ≤ ns.getD j 0)) (decide (ns.length ≥ ms.length)) 0 (min ns.length ms.length)
def rGtT (K : PySem.W.Frag) : R2 := fun x y H Q => ∃ (a b : Addr) (ns ms : List Int), x = .ref a ∧ y = .ref b ∧ SqT K H a (ns.map V.int) ∧ SqT K H b (ms.map V.int) ∧ Q (.bl (lexGt ns ms)) H
def rGeT (K : PySem.W.Frag) : R2 := fun x y H Q => ∃ (a b : Addr) (ns ms : List Int), x = .ref a ∧ y = .ref b ∧ SqT K H a (ns.map V.int) ∧ SqT K H b (ms.map V.int) ∧ Q (.bl (lexGe ns ms)) H
theorem op_gtT {X : Cx} (hu : X.A.units < cLine) : OpR X (compareOp .Gt) (rGtT X.K) := by
  intro pins s σ H x y v u Q I rx ry h
  obtain ⟨a, b, ns, ms, rfl, rfl, ha, hb, q⟩ := h
  cases rx
  cases ry
  obtain ⟨its, r1, p1, _⟩ := I.tuple ha
  obtain ⟨its2, r2, p2, _⟩ := I.tuple hb
  have i1 : IntsAre its ns := Vals.ints r1
  have i2 : IntsAre its2 ms := Vals.ints r2
  have e1 : its.toArray.size = ns.length := by rw [List.size_toArray]; exact i1.length
  have e2 : its2.toArray.size = ms.length := by rw [List.size_toArray]; exact i2.length
  have at1 : ∀ j (h1 : j < its.toArray.size), ∃ t, its.toArray[j] = .int (ns.getD j 0) t := fun j h1 => PyProof.Rows.IntsAre.int_at i1 _ _ (by simp at h1; simp [h1])
  have at2 : ∀ j (h1 : j < its2.toArray.size), ∃ t, its2.toArray[j] = .int (ms.getD j 0) t := fun j h1 => PyProof.Rows.IntsAre.int_at i2 _ _ (by simp at h1; simp [h1])
  have R := Ob.RcOp.tuples_gt (A := X.A) (s := s) (e := fun j => decide (ns.getD j 0 = ms.getD j 0)) (r := fun j => decide (ms.getD j 0 < ns.getD j 0)) p1 p2 hu (fun j h1 h2 => by
    obtain ⟨t, et⟩ := at1 j h1
    obtain ⟨t', et'⟩ := at2 j h2
    rw [et, et']
    have z : (ns.getD j 0 == ms.getD j 0) = decide (ns.getD j 0 = ms.getD j 0) := by
      by_cases q : ns.getD j 0 = ms.getD j 0
      · rw [decide_eq_true q]; exact beq_iff_eq.mpr q
      · rw [decide_eq_false q]; exact beq_eq_false_iff_ne.mpr q
    rw [← z]
    exact SeqAt.EqAt.int_int _ _ _ _) (fun j h1 h2 _ => by
    obtain ⟨t, et⟩ := at1 j h1
    obtain ⟨t', et'⟩ := at2 j h2
    rw [et, et']
    exact Ob.RcOp.gt_int _ _ _ _)
  rw [e1, e2] at R
  have z : wpAny (model X.prog X.w) X.A (compareOp .Gt (.ref a) (.ref b)) (EP X pins σ Q) X.xe s := R X.prog X.w X.xe (EP X pins σ Q) ⟨.bl _, H, I, rfl, q⟩
  exact z
theorem op_geT {X : Cx} (hu : X.A.units < cLine) : OpR X (compareOp .GtE) (rGeT X.K) := by
  intro pins s σ H x y v u Q I rx ry h
  obtain ⟨a, b, ns, ms, rfl, rfl, ha, hb, q⟩ := h
  cases rx
  cases ry
  obtain ⟨its, r1, p1, _⟩ := I.tuple ha
  obtain ⟨its2, r2, p2, _⟩ := I.tuple hb
  have i1 : IntsAre its ns := Vals.ints r1
  have i2 : IntsAre its2 ms := Vals.ints r2
  have e1 : its.toArray.size = ns.length := by rw [List.size_toArray]; exact i1.length
  have e2 : its2.toArray.size = ms.length := by rw [List.size_toArray]; exact i2.length
  have at1 : ∀ j (h1 : j < its.toArray.size), ∃ t, its.toArray[j] = .int (ns.getD j 0) t := fun j h1 => PyProof.Rows.IntsAre.int_at i1 _ _ (by simp at h1; simp [h1])
  have at2 : ∀ j (h1 : j < its2.toArray.size), ∃ t, its2.toArray[j] = .int (ms.getD j 0) t := fun j h1 => PyProof.Rows.IntsAre.int_at i2 _ _ (by simp at h1; simp [h1])
  have R := Ob.RcOp.tuples_ge (A := X.A) (s := s) (e := fun j => decide (ns.getD j 0 = ms.getD j 0)) (r := fun j => decide (ms.getD j 0 ≤ ns.getD j 0)) p1 p2 hu (fun j h1 h2 => by
    obtain ⟨t, et⟩ := at1 j h1
    obtain ⟨t', et'⟩ := at2 j h2
    rw [et, et']
    have z : (ns.getD j 0 == ms.getD j 0) = decide (ns.getD j 0 = ms.getD j 0) := by
      by_cases q : ns.getD j 0 = ms.getD j 0
      · rw [decide_eq_true q]; exact beq_iff_eq.mpr q
      · rw [decide_eq_false q]; exact beq_eq_false_iff_ne.mpr q
    rw [← z]
    exact SeqAt.EqAt.int_int _ _ _ _) (fun j h1 h2 _ => by
    obtain ⟨t, et⟩ := at1 j h1
    obtain ⟨t', et'⟩ := at2 j h2
    rw [et, et']
    exact Ob.RcOp.ge_int _ _ _ _)
  rw [e1, e2] at R
  have z : wpAny (model X.prog X.w) X.A (compareOp .GtE (.ref a) (.ref b)) (EP X pins σ Q) X.xe s := R X.prog X.w X.xe (EP X pins σ Q) ⟨.bl _, H, I, rfl, q⟩
  exact z
theorem room65 {k : Nat} {A : Around} (r : Room (k + 2) A) : A.units + 65 < cLine := by have := r.un; omega
theorem o_inD {X : Cx} {K : PySem.W.Frag} (h : X.K = K) (hu : X.A.units + 65 < cLine) : OpR X (compareOp .In) (rInD K) := h ▸ op_inD hu
section
variable {K : PySem.W.Frag} {σ : L2.St} {H : Hp} {ta tb : TE} {d : D} {ds : List D}
theorem ed_inD (ha : EvD K ta σ H d) (hb : EvD K tb σ H (.list ds)) (hf : SeqAt.shaped d = true) (hs : SeqAt.shaped (.list ds) = true) : EvD K (tOp (rInD K) ta tb) σ H (.bool (ds.any fun y => PyData.eqv y d)) :=
  ed_opB ha hb fun _ _ _ hx hy _ q => ⟨d, ds, hx, hy, hf, hs, q _ fun _ _ _ _ => .bl _⟩
end
/-- sorted(xs), ints, as many as one likes -/
theorem o_sortedI {X : Cx} {K : PySem.W.Frag} (h : X.K = K) : CallR X (.builtin "sorted") (rSortedI K) := h ▸ cr_sortedI
theorem sorted_uniq : ∀ {l m : List Int}, l.Perm m → l.Pairwise (· ≤ ·) → m.Pairwise (· ≤ ·) → l = m
  | [], m, p, _, _ => (List.Perm.nil_eq p)
  | a :: l, [], p, _, _ => absurd p.symm.nil_eq (by simp)
  | a :: l, b :: m, p, h1, h2 => by
    obtain ⟨ha, hl⟩ := List.pairwise_cons.mp h1
    obtain ⟨hb, hm⟩ := List.pairwise_cons.mp h2
    have e : a = b := by
      have h3 : a ∈ b :: m := p.mem_iff.mp (by simp)
      have h4 : b ∈ a :: l := p.mem_iff.mpr (by simp)
      rcases List.mem_cons.mp h3 with e | e
      · exact e
      · rcases List.mem_cons.mp h4 with e2 | e2
        · exact e2.symm
        · have := ha b e2
          have := hb a e
          omega
    subst e
    rw [sorted_uniq (List.Perm.cons_inv p) hl hm]
theorem en_sortedI {K : PySem.W.Frag} {σ : L2.St} {H : Hp} {ta : TE} {ns ms : List Int} (h : EvD K ta σ H (.list (ns.map .int))) (p : ms.Perm ns) (hs : ms.Pairwise (· ≤ ·)) : EvN K (tCB (rSortedI K) (tCons ta tNil)) σ H (ms.map .int) := fun A B e s Q q =>
  h A B e s _ fun v A2 B2 P2 hv => by
    obtain ⟨a, xs, rfl, sq, al⟩ := dp_list hv
    have hx := dpa_ints_inv al
    subst hx
    refine ⟨a, ns, rfl, ex_l P2.s sq, fun ns' z hp hsrt hz => ?_⟩
    have e2 : ns' = ms := sorted_uniq (hp.trans p.symm) hsrt hs
    subst e2
    exact q z _ A2 _ (fresh_back P2.b hz) (P2.trans (Pr.priv P2.s hz)) (fresh_back P2.s hz) upd_same dpa_ints
/-- len(set(xs)), xs tuples of ints, no two alike -/
def tLenSetT (K : PySem.W.Frag) (ta : TE) : TE := fun σ H Q => ta σ H fun x H1 => ∃ (l : Addr) (ks : List (Addr × List Int)), x = V.ref l ∧ SqL K H1 l (ks.map fun p => V.ref p.1) ∧ (∀ p ∈ ks, SqT K H1 p.1 (p.2.map V.int)) ∧ ks.length < 64 ∧ (ks.map (·.2)).Nodup ∧ Q (.int (ks.length : Nat)) H1
theorem nodup_le {α : Type} [DecidableEq α] : ∀ {l m : List α}, l.Nodup → (∀ x ∈ l, x ∈ m) → l.length ≤ m.length
  | [], _, _, _ => Nat.zero_le _
  | x :: l, m, hn, h => by
    obtain ⟨h1, h2⟩ := List.nodup_cons.mp hn
    have hx := h x (by simp)
    have := nodup_le (m := m.erase x) h2 fun y hy => (List.mem_erase_of_ne fun e => h1 (by rw [← e]; exact hy)).mpr (h y (List.mem_cons_of_mem _ hy))
    rw [List.length_erase_of_mem hx] at this
    have := List.length_pos_of_mem hx
    rw [List.length_cons]
    omega
theorem pe_lenSetT {X : Cx} {k : Nat} {a : Expr} {ta : TE} {p p2 q pos : Pos} (hr : Room k X.A) (hg : Gl X "len") (hm : X.mg "len" = none) (hg2 : Gl X "set") (hm2 : X.mg "set" = none) (ha : PE X a ta) (hc : X.calm = true := by rfl)
    (na : starEach [a] X.env = (false, eval a X.env) :: starEach [] X.env := by rfl) : PE X (.Call (.Name "len" p) [.Call (.Name "set" p2) [a] [] q] [] pos) (tLenSetT X.K ta) := by
  refine ⟨fun pins s σ H Q I h => ?_⟩
  refine Call_ (ld_blt I hg hm boot_len ?_)
  refine PyProof.Rows.callWith_builtin1 (PyProof.Rows.args_cons ?_ rfl) rfl rfl
  refine Call_ (ld_blt I hg2 hm2 boot_set ?_)
  refine PyProof.Rows.callWith_type1 (PyProof.Rows.args_cons (thn (ha.run pins s σ H _ I h) fun v s1 ⟨x, H1, I1, r1, q1⟩ => PyProof.Rows.args_nil ?_) na) na rfl
  obtain ⟨l, ks, rfl, hq, hk, hf, hnd, q1⟩ := q1
  cases r1
  obtain ⟨its, r, pl, hz⟩ := I1.list hq
  have hu := hr.units
  refine call_set_tups (P := X.prog) (w := X.w) ks (I1.ok.hd hc) pl.isList (by simpa using refs_of_vals r) (fun p hp => I1.isT (hk p hp)) hf (by show X.A.units + 3 < cLine; omega) fun h' tk L es ep t R g k => ?_
  refine PyProof.Rows.args_nil ?_
  have hlen : L.length = ks.length := by
    have h1 : (L.map (·.2)).length ≤ (ks.map (·.2)).length := nodup_le R.nd fun x hx => by
      obtain ⟨p, hp, rfl⟩ := List.mem_map.mp hx
      exact List.mem_map.mpr ⟨p, List.mem_of_mem_take (g.sub p hp), rfl⟩
    have h2 : (ks.map (·.2)).length ≤ (L.map (·.2)).length := nodup_le hnd fun x hx => by
      obtain ⟨p, hp, rfl⟩ := List.mem_map.mp hx
      exact g.all p (by rw [List.take_length]; exact hp)
    simp only [List.length_map] at h1 h2
    omega
  have I2 : Inv X pins σ H1 { s1 with heap := h', toks := tk } := I1.kept fun b o e => k b o e
  have hsz : es.size = ks.length := by
    have := SetTR.size (s := { s1 with heap := h', toks := tk }) R
    omega
  obtain ⟨o, ho, hex, hd⟩ := R.ob
  exact call_len_set ho hex hd (SetTR.fits (s := { s1 with heap := h', toks := tk }) R) (by omega) ⟨.int (ks.length : Nat), H1, I2.tok _, ⟨_, by rw [hsz]⟩, q1⟩
end Ob

set_option Elab.async false
set_option linter.all false
set_option maxRecDepth 100000
set_option maxHeartbeats 400000
namespace Ob
open PySem L2 Evl PyProof.Rows
/-! ## max of a list of pairs of ints -/
section
variable {prog : Program} {w : World} {A : Around} {R : Result → Shared → Prop} {I S : Addr} {fp wr : List Addr} {n : Nat} {P : Nat → Value → Prop} {St : Nat → Heap → Prop} {G : Heap → Prop} {bt : Nat → Nat → Bool}
/-- what is compared stands in the heap: G; nothing that the loop does changes it -/
structure GKeep (wr : List Addr) (S : Addr) (G : Heap → Prop) : Prop where
  k : ∀ h h' : Heap, (∀ b o, b ∉ wr → b ≠ S → h.get? b = some o → h'.get? b = some o) → G h → G h'
/-- one turn behind the other: the best so far stands twice in the list S -/
theorem loop_on (W : Walks prog w A.in1 I fp wr n P St) (hg : GKeep wr S G) (hcmp : ∀ i j vi vj (s : Shared) (Q E : Value → Shared → Prop), G s.heap → P i vi → P j vj → Q (.bool (bt i j)) s → wpAny (model prog w) A.in1 (richCompare .Gt vi vj) Q E s) (hSf : S ∉ fp) :
    ∀ (k j : Nat) (s : Shared) (vb : Value) (c : Nat), j + 1 + k = n → St (j + 1) s.heap → G s.heap → P (argBest bt j) vb → s.heap.get? S = some { cls := .type "list", dict := none, data := .seq #[vb, vb] c, slots := #[] } →
      (∀ v h' tk, P (argBest bt (n - 1)) v → (∀ b o, b ∉ wr → b ≠ S → s.heap.get? b = some o → h'.get? b = some o) → R (.ok (.ret v)) { s with heap := h', toks := tk }) → codeAny (model prog w) A (.builtin "max.loop" ⟨[.ref I, .none, .ref S], []⟩) R s
  | 0, j, s, vb, c, hk, hst, hG, hPb, hS, hR => by
    have hSw : S ∉ wr := fun h => hSf (W.sub _ h)
    have hin : j + 1 = n := hk
    refine codeAny_builtin F.entry_max_loop ?_
    rw [Around.under_plainId F.plain_max_loop _]
    show wpAny _ A.in1 (seqItems? (.ref S) >>= _) _ _ s
    refine wpAny_bind (wpAny_seqItems hS rfl ?_)
    show wpAny _ A.in1 (tryCatch (pyNext (.ref I)) _ >>= _) _ _ s
    refine wpAny_bind (wpAny_tryCatch (W.done s _ _ (hin ▸ hst) fun h' tk hk' => ?_))
    have hS' := hk' S _ hSw hS
    show wpAny _ A.in1 (updateSeq S (fun _ => #[]) >>= _) _ _ _
    refine wpAny_bind ?_
    refine wpAny_updateSeq hS' rfl (wpAny_bind (wpAny_letGo (wpAny_pure ?_)))
    exact hR vb _ tk (by rw [← hin]; exact hPb) fun b o hbw hbS e => (Heap.get?_update_other _ _ (Ne.symm hbS)).trans (hk' b o hbw e)
  | k + 1, j, s, vb, c, hk, hst, hG, hPb, hS, hR => by
    have hname : (toString "max" ++ toString ".loop" : String) = "max.loop" := by decide
    have hSw : S ∉ wr := fun h => hSf (W.sub _ h)
    have hlt : j + 1 < n := by omega
    refine codeAny_builtin F.entry_max_loop ?_
    rw [Around.under_plainId F.plain_max_loop _]
    show wpAny _ A.in1 (seqItems? (.ref S) >>= _) _ _ s
    refine wpAny_bind (wpAny_seqItems hS rfl ?_)
    show wpAny _ A.in1 (tryCatch (pyNext (.ref I)) _ >>= _) _ _ s
    refine wpAny_bind (wpAny_tryCatch (W.item (j + 1) s _ _ hlt hst fun v h' tk hP hst' hk' => ?_))
    have hS' := hk' S _ hSw hS
    have hG' := hg.k _ h' (fun b o hb _ e => hk' b o hb e) hG
    show wpAny _ A.in1 (tryCatch (holding [v, v] (richCompare .Gt v vb >>= _)) _ >>= _) _ _ _
    refine wpAny_bind (wpAny_tryCatch (wpAny_holding (wpAny_bind (hcmp (j + 1) (argBest bt j) v vb _ _ _ hG' hP hPb ?_))))
    refine wpAny_bind (wpAny_holding (wpAny_truthy_bool ?_))
    refine wpAny_bind (wpAny_letGo (wpAny_pure ?_))
    cases hb : bt (j + 1) (argBest bt j) with
    | true =>
      simp only [if_true]
      refine wpAny_bind ?_
      refine wpAny_updateSeq hS' rfl (wpAny_bind (wpAny_letGo ?_))
      rw [hname]
      refine wpAny_pure ⟨plainId_quiet F.plain_max_loop _, loop_on W hg hcmp hSf k (j + 1) _ v _ (by omega) (W.frame _ _ _ hst' fun b hbf o e => ?_) (hg.k _ _ (fun b o _ hbS e => (Heap.get?_update_other _ _ (Ne.symm hbS)).trans e) hG') (by unfold argBest; rw [if_pos hb]; exact hP) (Heap.get?_update_self _ hS' rfl) fun v' h'' tk'' hP' hk'' => ?_⟩
      · exact (Heap.get?_update_other _ _ (fun h : S = b => hSf (by rw [h]; exact hbf))).trans e
      · exact hR v' h'' tk'' hP' fun b o hbw hbS e => hk'' b o hbw hbS ((Heap.get?_update_other _ _ (Ne.symm hbS)).trans (hk' b o hbw e))
    | false =>
      simp only [Bool.false_eq_true, if_false]
      refine wpAny_bind (wpAny_letGo ?_)
      rw [hname]
      refine wpAny_pure ⟨plainId_quiet F.plain_max_loop _, loop_on W hg hcmp hSf k (j + 1) _ vb c (by omega) hst' hG' (by unfold argBest; rw [hb, if_neg Bool.false_ne_true]; exact hPb) hS' fun v' h'' tk'' hP' hk'' => ?_⟩
      exact hR v' h'' tk'' hP' fun b o hbw hbS e => hk'' b o hbw hbS (hk' b o hbw e)
theorem loop_first (W : Walks prog w A.in1 I fp wr n P St) (hg : GKeep wr S G) (hcmp : ∀ i j vi vj (s : Shared) (Q E : Value → Shared → Prop), G s.heap → P i vi → P j vj → Q (.bool (bt i j)) s → wpAny (model prog w) A.in1 (richCompare .Gt vi vj) Q E s) (hSf : S ∉ fp) (hn : 0 < n) {s : Shared} {c : Nat} (hst : St 0 s.heap) (hG : G s.heap)
    (hS : s.heap.get? S = some { cls := .type "list", dict := none, data := .seq #[] c, slots := #[] })
    (hR : ∀ v h' tk, P (argBest bt (n - 1)) v → (∀ b o, b ∉ wr → b ≠ S → s.heap.get? b = some o → h'.get? b = some o) → R (.ok (.ret v)) { s with heap := h', toks := tk }) :
    codeAny (model prog w) A (.builtin "max.loop" ⟨[.ref I, .none, .ref S], []⟩) R s := by
  have hname : (toString "max" ++ toString ".loop" : String) = "max.loop" := by decide
  have hSw : S ∉ wr := fun h => hSf (W.sub _ h)
  refine codeAny_builtin F.entry_max_loop ?_
  rw [Around.under_plainId F.plain_max_loop _]
  show wpAny _ A.in1 (seqItems? (.ref S) >>= _) _ _ s
  refine wpAny_bind (wpAny_seqItems hS rfl ?_)
  show wpAny _ A.in1 (tryCatch (pyNext (.ref I)) _ >>= _) _ _ s
  refine wpAny_bind (wpAny_tryCatch (W.item 0 s _ _ hn hst fun v h' tk hP hst' hk' => ?_))
  have hS' := hk' S _ hSw hS
  have hG' := hg.k _ h' (fun b o hb _ e => hk' b o hb e) hG
  show wpAny _ A.in1 (updateSeq S (fun _ => #[v, v]) >>= _) _ _ _
  refine wpAny_bind ?_
  refine wpAny_updateSeq hS' rfl ?_
  rw [hname]
  refine wpAny_pure ⟨plainId_quiet F.plain_max_loop _, loop_on W hg hcmp hSf (n - 1) 0 _ v _ (by omega) (W.frame _ _ _ hst' fun b hbf o e => ?_) (hg.k _ _ (fun b o _ hbS e => (Heap.get?_update_other _ _ (Ne.symm hbS)).trans e) hG') hP (Heap.get?_update_self _ hS' rfl) fun v' h'' tk'' hP' hk'' => ?_⟩
  · exact (Heap.get?_update_other _ _ (fun h : S = b => hSf (by rw [h]; exact hbf))).trans e
  · exact hR v' h'' tk'' hP' fun b o hbw hbS e => hk'' b o hbw hbS ((Heap.get?_update_other _ _ (Ne.symm hbS)).trans (hk' b o hbw e))
end
section
variable {prog : Program} {w : World} {A : Around} {E : Value → Shared → Prop} {s : Shared} {l : Addr} {its : Array Value}
theorem max_listG {T : Addr → Prop} {bt : Nat → Nat → Bool} {Q : Value → Shared → Prop} (hh : A.handled = none) (hl : s.heap.IsList l its) (hne : 0 < its.size) (hT : ∀ b, T b → ∃ o, s.heap.get? b = some o)
    (hcmp : ∀ i j vi vj (s' : Shared) (Q E : Value → Shared → Prop), (∀ b o, T b → s.heap.get? b = some o → s'.heap.get? b = some o) → its[i]? = some vi → its[j]? = some vj → Q (.bool (bt i j)) s' → wpAny (model prog w) A.in1 (richCompare .Gt vi vj) Q E s')
    (h : ∀ v h' tk, its[argBest bt (its.size - 1)]? = some v → (∀ b o, s.heap.get? b = some o → h'.get? b = some o) → Q v { s with heap := h', toks := tk }) :
    wpAny (model prog w) A (call (.builtin "max") [.ref l]) Q E s := by
  have hname : (toString "max" ++ toString ".loop" : String) = "max.loop" := by decide
  refine call_function_tree F.kind_max F.plain_max F.entry_max (F.args_max1 _) ?_
  show wpAny _ A.in1 (Builtin.Builtins.bindParams "max" ["key", "default"] 0 ⟨[], []⟩ >>= _) _ _ s
  refine wpAny_bind (wpAny_of_eq (show Builtin.Builtins.bindParams "max" ["key", "default"] 0 ⟨[], []⟩ = pure [none, none] from rfl) ?_)
  refine wpAny_bind (wpAny_pure ?_)
  refine wpAny_bind (iter_anyList hl fun s₂ e2 st hfp hlI => ?_)
  subst e2
  refine wpAny_bind (wpAny_newObj_type ?_)
  rw [hname]
  have hsz : (s.heap.push { cls := .type "list_iterator", data := .fields #[.ref l, .int 0 0] }).objs.size = s.heap.objs.size + 1 := Heap.size_push ..
  have hll : l < s.heap.objs.size := by obtain ⟨_, e, _⟩ := hl; exact Heap.lt_size e
  have hTl : ∀ b, T b → b < s.heap.objs.size := fun b hb => by obtain ⟨o, e⟩ := hT b hb; exact Heap.lt_size e
  have W := Walks.list (prog := prog) (w := w) (A := A.in1) hh s.heap.objs.size l hlI its
  refine wpAny_pure ⟨plainId_quiet F.plain_max_loop _, loop_first (S := (s.heap.push { cls := .type "list_iterator", data := .fields #[.ref l, .int 0 0] }).objs.size) (G := fun h => ∀ b o, T b → s.heap.get? b = some o → h.get? b = some o) (bt := bt) W ⟨fun h h' hk hg b o hb e => hk b o (fun z => ?_) (fun z => ?_) (hg b o hb e)⟩ (hcmp) ?_ hne ?_ ?_ (Heap.get?_push_size _ rfl) fun v h' tk hv hk => h v h' tk hv fun b o e => ?_⟩
  · have := hTl b hb
    rw [List.mem_singleton.mp z] at this
    exact Nat.lt_irrefl _ this
  · have := hTl b hb
    exact absurd (Nat.lt_trans (by rw [z, hsz]; exact Nat.lt_succ_self _ : s.heap.objs.size < b) this) (Nat.lt_irrefl _)
  · rw [hsz]
    intro z
    rcases List.mem_cons.mp z with z | z
    · exact absurd z.symm (Nat.ne_of_lt (Nat.lt_succ_self _))
    · have z := List.mem_singleton.mp z
      rw [← z] at hll
      exact absurd (Nat.lt_trans (Nat.lt_succ_self _) hll) (Nat.lt_irrefl _)
  · exact W.frame _ _ _ st fun b _ o e => Heap.get?_push_of_some _ e
  · exact fun b o _ e => Heap.get?_push_of_some _ (Heap.get?_push_of_some _ e)
  · have hb := Heap.lt_size e
    exact hk b o (fun z => by rw [List.mem_singleton.mp z] at hb; exact Nat.lt_irrefl _ hb) (fun z => absurd (Nat.lt_trans (by rw [z, hsz]; exact Nat.lt_succ_self _ : s.heap.objs.size < b) hb) (Nat.lt_irrefl _)) (Heap.get?_push_of_some _ (Heap.get?_push_of_some _ e))
end
theorem lexGt_iff (a b c d : Int) : lexGt [a, b] [c, d] = true ↔ c < a ∨ (c = a ∧ d < b) := by
  unfold lexGt
  show Ob.lexAt _ _ _ 0 2 = true ↔ _
  rw [Ob.lexAt_succ, Ob.lexAt_succ, Ob.lexAt_zero]
  show (if decide (a = c) = true then (if decide (b = d) = true then decide (2 > 2) else decide (d < b)) else decide (c < a)) = true ↔ _
  by_cases h : a = c
  · by_cases h2 : b = d
    · rw [decide_eq_true h, decide_eq_true h2, if_pos rfl, if_pos rfl, decide_eq_true_eq]; omega
    · rw [decide_eq_true h, decide_eq_false h2, if_pos rfl, if_neg (by decide), decide_eq_true_eq]; omega
  · rw [decide_eq_false h, if_neg (by decide), decide_eq_true_eq]; omega
theorem best_max (f : Nat → Int × Int) : ∀ k i, i ≤ k → lexGt [(f i).1, (f i).2] [(f (argBest (fun i j => lexGt [(f i).1, (f i).2] [(f j).1, (f j).2]) k)).1, (f (argBest (fun i j => lexGt [(f i).1, (f i).2] [(f j).1, (f j).2]) k)).2] = false
  | 0, i, h => by
    have : i = 0 := by omega
    subst this
    rw [← Bool.not_eq_true]
    show ¬ (lexGt [(f 0).1, (f 0).2] [(f 0).1, (f 0).2] = true)
    rw [lexGt_iff]; omega
  | k + 1, i, h => by
    have ih := best_max f k
    unfold argBest
    generalize argBest (fun i j => lexGt [(f i).1, (f i).2] [(f j).1, (f j).2]) k = j at ih ⊢
    by_cases z : lexGt [(f (k + 1)).1, (f (k + 1)).2] [(f j).1, (f j).2] = true
    · rw [if_pos z]
      rw [← Bool.not_eq_true]
      rcases Nat.eq_or_lt_of_le h with q | q
      · subst q
        rw [lexGt_iff]; omega
      · have h2 := ih i (by omega)
        rw [← Bool.not_eq_true, lexGt_iff] at h2
        rw [lexGt_iff] at z ⊢
        omega
    · rw [if_neg z]
      rcases Nat.eq_or_lt_of_le h with q | q
      · subst q
        simpa using z
      · exact ih i (by omega)
theorem tup_gt {A : Around} {s : Shared} {t t' : Addr} {us us' : List Value} {a b c d : Int} (p1 : s.heap.IsTuple t us.toArray) (p2 : s.heap.IsTuple t' us'.toArray) (hu : A.units < cLine) (i1 : IntsAre us [a, b]) (i2 : IntsAre us' [c, d]) : Ob.RcOp .Gt A s (.ref t) (.ref t') (lexGt [a, b] [c, d]) := by
  have e1 : us.toArray.size = 2 := by rw [List.size_toArray]; exact i1.length
  have e2 : us'.toArray.size = 2 := by rw [List.size_toArray]; exact i2.length
  have at1 : ∀ j (h1 : j < us.toArray.size), ∃ t, us.toArray[j] = .int ([a, b].getD j 0) t := fun j h1 => PyProof.Rows.IntsAre.int_at i1 _ _ (by simp at h1; simp [h1])
  have at2 : ∀ j (h1 : j < us'.toArray.size), ∃ t, us'.toArray[j] = .int ([c, d].getD j 0) t := fun j h1 => PyProof.Rows.IntsAre.int_at i2 _ _ (by simp at h1; simp [h1])
  have R := Ob.RcOp.tuples_gt (A := A) (s := s) (e := fun j => decide ([a, b].getD j 0 = [c, d].getD j 0)) (r := fun j => decide ([c, d].getD j 0 < [a, b].getD j 0)) p1 p2 hu (fun j h1 h2 => by
    obtain ⟨t, et⟩ := at1 j h1
    obtain ⟨t', et'⟩ := at2 j h2
    rw [et, et']
    have z : ([a, b].getD j 0 == [c, d].getD j 0) = decide ([a, b].getD j 0 = [c, d].getD j 0) := by
      by_cases q : [a, b].getD j 0 = [c, d].getD j 0
      · rw [decide_eq_true q]; exact beq_iff_eq.mpr q
      · rw [decide_eq_false q]; exact beq_eq_false_iff_ne.mpr q
    rw [← z]
    exact SeqAt.EqAt.int_int _ _ _ _) (fun j h1 h2 _ => by
    obtain ⟨t, et⟩ := at1 j h1
    obtain ⟨t', et'⟩ := at2 j h2
    rw [et, et']
    exact Ob.RcOp.gt_int _ _ _ _)
  rw [e1, e2] at R
  exact R
/-- max(xs), xs a list of pairs of ints -/
def rMaxT (K : PySem.W.Frag) : List V → Hp → VK → Prop := fun vs H Q => ∃ (a : Addr) (xs : List V) (ms : List (Int × Int)), vs = [V.ref a] ∧ SqL K H a xs ∧ xs.length = ms.length ∧ 0 < xs.length ∧ (∀ (j : Nat) x m, xs[j]? = some x → ms[j]? = some m → ∃ t, x = V.ref t ∧ SqT K H t [.int m.1, .int m.2]) ∧
  ∀ (j : Nat) x mj, xs[j]? = some x → ms[j]? = some mj → (∀ (i : Nat) m, ms[i]? = some m → lexGt [m.1, m.2] [mj.1, mj.2] = false) → Q x H
theorem cr_maxT {X : Cx} {K : PySem.W.Frag} (hK : X.K = K) (hc : X.calm = true) (hu : X.A.units + 64 < cLine) : CallR X (.builtin "max") (rMaxT K) := by
  subst hK
  intro pins s σ H vs us Q I r h
  obtain ⟨a, xs, ms, rfl, hs, hlen, hne, hx, q⟩ := h
  obtain ⟨its, rv, hl, _⟩ := I.list hs
  rw [Vals.ref1 r]
  have hil : its.toArray.size = ms.length := by rw [List.size_toArray, ← rv.length, hlen]
  have getx : ∀ (i : Nat) (vi : Value), its.toArray[i]? = some vi → ∃ (m : Int × Int) (t : Addr) (us : List Value), ms[i]? = some m ∧ xs[i]? = some (V.ref t) ∧ vi = .ref t ∧ s.heap.IsTuple t us.toArray ∧ IntsAre us [m.1, m.2] := fun i vi hi => by
    have hi' : its[i]? = some vi := by rw [← hi]; simp
    have hlt : i < xs.length := by rw [rv.length]; exact (List.getElem?_eq_some_iff.mp hi').1
    have h1 := List.getElem?_eq_getElem hlt
    have hlm : i < ms.length := by omega
    have h2 := List.getElem?_eq_getElem hlm
    obtain ⟨t, e1, e2⟩ := hx i _ _ h1 h2
    rw [e1] at h1
    obtain ⟨u, hu1, hu2⟩ := rv.get h1
    rw [hi'] at hu1
    cases hu1
    cases hu2
    obtain ⟨us2, r2, p2, _⟩ := I.tuple e2
    exact ⟨_, t, us2, h2, h1, rfl, p2, Vals.ints r2⟩
  refine max_listG (T := fun b => ∃ (i : Nat) (vi : Value), its.toArray[i]? = some vi ∧ vi = .ref b) (bt := fun i j => lexGt [(ms.getD i (0, 0)).1, (ms.getD i (0, 0)).2] [(ms.getD j (0, 0)).1, (ms.getD j (0, 0)).2]) (I.ok.hd hc) hl.isList (by rw [hil]; omega) (fun b ⟨i, vi, h1, h2⟩ => ?_) (fun i j vi vj s' Q' E' hk hi hj hQ => ?_) fun v h' tk hv hk => ?_
  · obtain ⟨m, t, us2, _, _, e, ⟨o, ho, _⟩, _⟩ := getx i vi h1
    rw [h2] at e
    cases e
    exact ⟨o, ho⟩
  · obtain ⟨m1, t1, u1, a1, _, e1, ⟨o1, ho1, c1, d1⟩, n1⟩ := getx i vi hi
    obtain ⟨m2, t2, u2, a2, _, e2, ⟨o2, ho2, c2, d2⟩, n2⟩ := getx j vj hj
    subst e1 e2
    refine tup_gt (A := X.A.in1) ⟨o1, hk t1 o1 ⟨i, _, hi, rfl⟩ ho1, c1, d1⟩ ⟨o2, hk t2 o2 ⟨j, _, hj, rfl⟩ ho2, c2, d2⟩ (by show X.A.units + 1 < cLine; omega) n1 n2 X.prog X.w E' Q' ?_
    rw [List.getD_eq_getElem?_getD, List.getD_eq_getElem?_getD, a1, a2] at hQ
    exact hQ
  · obtain ⟨m, t, u, a1, a2, e, _, _⟩ := getx _ v hv
    subst e
    refine ⟨.ref t, H, I.kept hk, rfl, q _ _ m a2 a1 fun i m' hi => ?_⟩
    have hb := best_max (fun i => ms.getD i (0, 0)) (its.toArray.size - 1) i (by have := (List.getElem?_eq_some_iff.mp hi).1; omega)
    rw [List.getD_eq_getElem?_getD, List.getD_eq_getElem?_getD, hi, a1] at hb
    exact hb
/-! ## isinstance of the handled error, in the suite itself -/
def rIsZ (K : PySem.W.Frag) (a : Addr) (cls : Value) (d : Option Addr) : List V → Hp → VK → Prop := fun xs H Q => ∃ D, cls = .ref D ∧ d = none ∧ ExcC K D ∧ rIsE K D a xs H Q
theorem c_isZ {X : Cx} {K : PySem.W.Frag} {a : Addr} {oe : Obj} {cls : Value} {d : Option Addr} (h : X.K = K) (hp : (a, oe) ∈ X.pn) (hz : L2N.Zn cls d oe) (hf : ∃ vs, oe.data = .fields vs) : CallR X (.builtin "isinstance") (rIsZ K a cls d) := by
  intro pins z σ H xs us Q I r hh
  obtain ⟨D, hc, hd, C, q⟩ := hh
  subst hc hd
  exact c_isHK (p := (a, oe)) h C hp ⟨hz.1, hz.2.1⟩ hf pins z σ H xs us Q I r q
theorem ed_isZ {K : PySem.W.Frag} {σ : L2.St} {H : Hp} {D a : Addr} {i : Nat} {cv : V} {u : Value} {b : Bool} (hσ : σ[i]? = some (some (.ref a))) (C : ExcC K D) (hc : ClsV cv u) (hk : PySem.W.kitOne K (.ref D) u = some b) : EvD K (tCB (rIsZ K a (.ref D) none) (tCons (tVar i) (tCons (tC cv) tNil))) σ H (.bool b) :=
  fun A B e s Q q => ⟨_, hσ, D, rfl, rfl, C, cv, u, b, rfl, fun _ r => hc.eq r, hk, q _ A B (Pr.refl s) (.bl _)⟩
/-! ## a text a number of times; the less of two numbers -/
def rMulS : R2 := fun x y H Q => ∃ (i : Str) (n : Int), x = .str i ∧ y = .int n ∧ i.length ≤ 16 ∧ 0 ≤ n ∧ n ≤ 1048576 ∧ Q (.str (Txt.mul i n)) H
theorem op_mul_str {X : Cx} : OpR X (binaryOp .Mult) rMulS := by
  intro pins s σ H x y v u Q I rx ry h
  obtain ⟨i, n, rfl, rfl, h1, h2, h3, q⟩ := h
  obtain ⟨t, rfl⟩ := rx
  obtain ⟨t', rfl⟩ := ry
  exact SB.mul (mulOk_of 16 1048576 h1 (by omega) (by omega) (by decide) (by decide)) fun t' k => ⟨.str _, H, I.tok _, ⟨_, rfl⟩, q⟩
theorem foldl_size {α : Type} : ∀ (l : List (Array α)) (a : Array α), (l.foldl (· ++ ·) a).size = a.size + (l.map (·.size)).sum
  | [], a => by simp
  | x :: r, a => by
    rw [List.foldl_cons, foldl_size r, Array.size_append, List.map_cons, List.sum_cons]
    omega
theorem mul_len {x : Str} {n : Int} (h0 : 0 ≤ n) : (Txt.mul x n).length ≤ n.toNat * x.length := by
  unfold Txt.mul
  split
  · exact Nat.zero_le _
  · rename_i h
    split
    · have : 1 ≤ n.toNat := by omega
      exact Nat.le_mul_of_pos_left _ this
    · show ((List.replicate n.toNat x.cps).foldl (· ++ ·) #[]).size ≤ n.toNat * x.cps.size
      rw [foldl_size, List.map_replicate, List.sum_replicate_nat]
      simp
section
variable {K : PySem.W.Frag} {σ : L2.St} {H : Hp} {ta tb : TE}
theorem ed_mulS {x : Str} {n : Int} (ha : EvD K ta σ H (.str x)) (hb : EvD K tb σ H (.int n)) (h1 : x.length ≤ 16) (h2 : 0 ≤ n ∧ n ≤ 1048576) : EvD K (tOp rMulS ta tb) σ H (.str (Txt.mul x n)) :=
  ed_v (ev_op (v_str ha) (v_int hb) (rv_val fun _ _ _ q => ⟨x, n, rfl, rfl, h1, h2.1, h2.2, q⟩)) (.str _)
def rMin2 : List V → Hp → VK → Prop := fun xs H Q => ∃ i j, xs = [.int i, .int j] ∧ Q (.int (if j < i then j else i)) H
theorem c_min2 {X : Cx} (hc : X.calm = true) : CallR X (.builtin "min") rMin2 := call_min2 hc
theorem ed_min2 {i j : Int} (ha : EvD K ta σ H (.int i)) (hb : EvD K tb σ H (.int j)) : EvD K (tCB rMin2 (tCons ta (tCons tb tNil))) σ H (.int (if j < i then j else i)) :=
  ed_v (v := .int (if j < i then j else i)) (fun H1 e Q q => v_int ha H1 e _ fun H2 e2 => v_int hb H2 (e.trans e2) _ fun H3 e3 => ⟨i, j, rfl, q H3 (e2.trans e3)⟩) (.int _)
end
end Ob

/-! ## the tactics: ed (EvD), ea (EvAD), en (EvN), ek (EvK), eo (EvO), et (EvT), dp (Dp), pr (Pr), at (atI), fn (a def's promise), sz (sizes) -/
open PySem L2 Evl Ob
local macro_rules | `(tactic| tm_at "sz") => `(tactic| first | decide | (simp only [List.length_cons, List.length_nil]; decide) | omega | assumption)
local macro_rules | `(tactic| tm_at "at") => `(tactic| first | assumption | exact rfl)
local macro_rules | `(tactic| tm_at "cc") => `(tactic| first | (exact ⟨by decide, by decide⟩) | (show (0 : Int) < _; decide) | (exact ⟨by decide, by decide, by decide⟩) | assumption)
local macro_rules | `(tactic| tm_at "exa") => `(tactic| first | exact Ex.refl _ | assumption | exact Pr.a (by assumption) | (refine Ex.trans ?_ (Pr.a (by assumption)); tm_at "exa") | (refine Ex.trans ?_ (by assumption); tm_at "exa"))
local macro_rules | `(tactic| tm_at "dp") => `(tactic| first | assumption | exact Dp.int _ | exact Dp.bl _ | exact Dp.str _ | exact Dp.non | (refine dp_ex ?e (by assumption); tm_at "exa"))
local macro_rules | `(tactic| tm_at "pr") => `(tactic| first | assumption | exact Pu.pr (by assumption) | (with_reducible exact Pr.refl (by first | assumption | exact Pr.s (by assumption) | exact Pu.s (by assumption))) | (refine Pr.trans ?_ (by assumption); tm_at "pr") | (refine Pr.trans ?_ (Pu.pr (by assumption)); tm_at "pr"))
local macro_rules | `(tactic| tm_at "exs") => `(tactic| first | assumption | exact Pr.s (by assumption) | exact Pu.s (by assumption))
local macro_rules | `(tactic| tm_at "sh") => `(tactic| first | assumption | exact rfl)
local macro_rules | `(tactic| tm_at "fn") => `(tactic| fail)
local macro_rules | `(tactic| tm_at "ki") => `(tactic| first | exact ki_ii | exact ki_ib | exact ki_bb | exact ki_bi | exact ki_nb | exact ki_sb | exact ki_lb | exact ki_tb | exact ki_ni | exact ki_si | exact ki_li | exact ki_ti | exact ki_tt | exact ki_lt | exact ki_st | exact ki_it | exact ki_bt | exact ki_nt | exact ki_ll | exact ki_tl | exact ki_sl | exact ki_nl | exact ki_il | exact ki_bl | exact ki_ss | exact ki_ts | exact ki_ls | exact ki_ns | exact ki_is | exact ki_bs)
local macro_rules | `(tactic| tm_at "ea") => `(tactic| first | exact ea_nilD | (apply ea_consD; tm_at "ed"; tm_at "ea"))
local macro_rules | `(tactic| tm_at "eo") => `(tactic| first | exact eo_noneD | (apply eo_someD; tm_at "ed"))
local macro_rules | `(tactic| tm_at "le") => `(tactic| first | omega | (simp only [Str.length_append]; omega))
local macro_rules | `(tactic| tm_at "exs2") => `(tactic| first | exact Ex.refl _ | exact Pr.b (by assumption) | exact Pu.e (by assumption) | (refine Ex.trans ?_ (Pr.b (by assumption)); tm_at "exs2") | (refine Ex.trans ?_ (Pu.e (by assumption)); tm_at "exs2"))
local macro_rules | `(tactic| tm_at "l2") => `(tactic| first | assumption | decide)
local macro_rules | `(tactic| tm_at "ej") => `(tactic| first | exact ej_nil | (apply ej_cons; tm_at "ed"; tm_at "sz"; tm_at "ej"))
local macro_rules | `(tactic| tm_at "ek") => `(tactic| first | (apply ek_n; tm_at "en") | (apply ek_var; exact rfl; assumption; assumption))
local macro_rules | `(tactic| tm_at "en") => `(tactic| first
  | ((with_reducible apply en_lst); tm_at "ea"; tm_at "sz")
  | ((with_reducible apply en_cat); tm_at "ek"; tm_at "ek"; tm_at "sz")
  | ((with_reducible apply en_slice); tm_at "ed"; tm_at "eo"; tm_at "eo")
  | ((with_reducible apply en_split); tm_at "ed"; tm_at "ed"; exact rfl; tm_at "sz")
  | ((with_reducible apply en_listof); tm_at "ed"))
local macro_rules | `(tactic| tm_at "et") => `(tactic| first
  | ((with_reducible exact eb_yes))
  | ((with_reducible apply eb_D); tm_at "ed")
  | ((with_reducible apply eb_DB); tm_at "ed")
  | ((with_reducible apply eb_not); tm_at "et")
  | ((with_reducible apply eb_and); tm_at "et"; intro h; first | (exact eb_abs h (by decide)) | tm_at "et")
  | ((with_reducible apply eb_or); tm_at "et"; intro h; first | (exact eb_abs h (by decide)) | tm_at "et"))
local macro_rules | `(tactic| tm_at "ed") => `(tactic| first
  | ((with_reducible apply ed_var); exact rfl; tm_at "dp")
  | ((with_reducible exact ed_int))
  | ((with_reducible exact ed_str))
  | ((with_reducible exact ed_bl))
  | ((with_reducible exact ed_non))
  | ((with_reducible apply ed_Ii); tm_at "ed"; tm_at "ed")
  | ((with_reducible apply ed_Ib); tm_at "ed"; tm_at "ed")
  | ((with_reducible apply ed_Ic); tm_at "ed"; tm_at "ed"; tm_at "cc")
  | ((with_reducible apply ed_ixT); tm_at "ed"; tm_at "ed"; tm_at "at")
  | ((with_reducible apply ed_ixL); tm_at "ed"; tm_at "ed"; tm_at "at")
  | ((with_reducible apply ed_eqi); tm_at "ed"; tm_at "ed")
  | ((with_reducible apply ed_nei); tm_at "ed"; tm_at "ed")
  | ((with_reducible apply ed_eqs); tm_at "ed"; tm_at "ed")
  | ((with_reducible apply ed_nes); tm_at "ed"; tm_at "ed")
  | ((with_reducible apply ed_eqb); tm_at "ed"; tm_at "ed")
  | ((with_reducible apply ed_neb); tm_at "ed"; tm_at "ed")
  | ((with_reducible apply ed_eqD); tm_at "ed"; tm_at "ed"; tm_at "sh"; tm_at "sh")
  | ((with_reducible apply ed_neD); tm_at "ed"; tm_at "ed"; tm_at "sh"; tm_at "sh")
  | ((with_reducible apply ed_and); tm_at "ed"; intro h; first | (exact ed_abs h (by decide)) | tm_at "ed")
  | ((with_reducible apply ed_or); tm_at "ed"; intro h; first | (exact ed_abs h (by decide)) | tm_at "ed")
  | ((with_reducible apply ed_not); tm_at "ed")
  | ((with_reducible apply ed_isi); tm_at "ed"; tm_at "ki")
  | ((with_reducible apply ed_tup); tm_at "ea"; tm_at "sz")
  | ((with_reducible apply ed_call); tm_at "ea"; tm_at "fn")
  | ((with_reducible apply ed_len); tm_at "ed")
  | ((with_reducible apply ed_lenT); tm_at "ed")
  | ((with_reducible apply ed_all); tm_at "ed")
  | ((with_reducible apply ed_addS); tm_at "ed"; tm_at "ed"; tm_at "sz")
  | ((with_reducible apply ed_strI); tm_at "ed"; tm_at "l2")
  | ((with_reducible apply ed_lenS); tm_at "ed"; tm_at "sz")
  | ((with_reducible apply ed_jn); tm_at "ej")
  | ((with_reducible apply ed_fmtI); tm_at "ed"; tm_at "l2")
  | ((with_reducible apply ed_isN); tm_at "ed")
  | ((with_reducible apply ed_notN); tm_at "ed")
  | ((with_reducible apply ed_ixS); tm_at "ed"; tm_at "ed"; tm_at "sz"; tm_at "at")
  | ((with_reducible apply ed_sliceS); tm_at "ed"; tm_at "sz"; tm_at "eo"; tm_at "eo")
  | ((with_reducible apply ed_inT); tm_at "ed"; tm_at "ed"; exact rfl; exact rfl)
  | ((with_reducible apply ed_niT); tm_at "ed"; tm_at "ed"; exact rfl; exact rfl)
  | ((with_reducible apply ed_inSg); tm_at "ed"; tm_at "ed")
  | ((with_reducible apply ed_niSg); tm_at "ed"; tm_at "ed")
  | ((with_reducible apply ed_neg); tm_at "ed")
  | ((with_reducible apply ed_max2); tm_at "ed"; tm_at "ed")
  | (apply ed_n; tm_at "en"))

namespace K8
open PySem L2 Evl Ob
def top (i : Nat) : Stmt := PySem.Challenge.pw_onebell_k08_whole_every_history.main.body.getD i (.Pass ⟨0, 0, 0, 0⟩)
abbrev Mk := Int × Int
abbrev mkD (m : Mk) : D := .tuple [.int m.1, .int m.2]

-- less  slots: 0=one 1=other
abbrev s_less : Stmt := top 10
theorem sc_less : FnScope ["one", "other"] ["one", "other"] (defScope s_less) := ⟨rfl, rfl, rfl, by decide +kernel, rfl, by decide +kernel, by decide +kernel⟩
-- greatest  slots: 0=marks 1=found 2=mark
abbrev s_greatest : Stmt := top 11
theorem sc_greatest : FnScope ["marks", "found", "mark"] ["marks"] (defScope s_greatest) := ⟨rfl, rfl, rfl, by decide +kernel, rfl, by decide +kernel, by decide +kernel⟩
-- Desk.__init__  slots: 0=self 1=hand
abbrev s_Desk___init__ : Stmt := inClass (top 13) 0
theorem sc_Desk___init__ : FnScope ["self", "hand"] ["self", "hand"] (defScope s_Desk___init__) := ⟨rfl, rfl, rfl, by decide +kernel, rfl, by decide +kernel, by decide +kernel⟩
-- Desk.clock  slots: 0=self
abbrev s_Desk_clock : Stmt := inClass (top 13) 1
theorem sc_Desk_clock : FnScope ["self"] ["self"] (defScope s_Desk_clock) := ⟨rfl, rfl, rfl, by decide +kernel, rfl, by decide +kernel, by decide +kernel⟩
-- Desk.propose  slots: 0=self 1=letter
abbrev s_Desk_propose : Stmt := inClass (top 13) 2
theorem sc_Desk_propose : FnScope ["self", "letter"] ["self", "letter"] (defScope s_Desk_propose) := ⟨rfl, rfl, rfl, by decide +kernel, rfl, by decide +kernel, by decide +kernel⟩
-- Desk.settle  slots: 0=self 1=letter 2=mark
abbrev s_Desk_settle : Stmt := inClass (top 13) 3
theorem sc_Desk_settle : FnScope ["self", "letter", "mark"] ["self", "letter", "mark"] (defScope s_Desk_settle) := ⟨rfl, rfl, rfl, by decide +kernel, rfl, by decide +kernel, by decide +kernel⟩
-- Desk.first  slots: 0=self 1=found 2=letter
abbrev s_Desk_first : Stmt := inClass (top 13) 4
theorem sc_Desk_first : FnScope ["self", "found", "letter"] ["self"] (defScope s_Desk_first) := ⟨rfl, rfl, rfl, by decide +kernel, rfl, by decide +kernel, by decide +kernel⟩
-- Desk.hand_over  slots: 0=self 1=found 2=letter
abbrev s_Desk_hand_over : Stmt := inClass (top 13) 5
theorem sc_Desk_hand_over : FnScope ["self", "found", "letter"] ["self"] (defScope s_Desk_hand_over) := ⟨rfl, rfl, rfl, by decide +kernel, rfl, by decide +kernel, by decide +kernel⟩
-- Desk.handed  slots: 0=self
abbrev s_Desk_handed : Stmt := inClass (top 13) 7
theorem sc_Desk_handed : FnScope ["self"] ["self"] (defScope s_Desk_handed) := ⟨rfl, rfl, rfl, by decide +kernel, rfl, by decide +kernel, by decide +kernel⟩
-- is_place  slots: 0=thing 1=many
abbrev s_is_place : Stmt := top 16
theorem sc_is_place : FnScope ["thing", "many"] ["thing", "many"] (defScope s_is_place) := ⟨rfl, rfl, rfl, by decide +kernel, rfl, by decide +kernel, by decide +kernel⟩
-- Letter.__init__  slots: 0=self 1=writer 2=words
abbrev s_Letter___init__ : Stmt := inClass (top 17) 0
theorem sc_Letter___init__ : FnScope ["self", "writer", "words"] ["self", "writer", "words"] (defScope s_Letter___init__) := ⟨rfl, rfl, rfl, by decide +kernel, rfl, by decide +kernel, by decide +kernel⟩
-- House.__init__  slots: 0=self 1=many 2=hand
abbrev s_House___init__ : Stmt := inClass (top 18) 0
theorem sc_House___init__ : FnScope ["self", "many", "hand"] ["self", "many"] (defScope s_House___init__) := ⟨rfl, rfl, rfl, by decide +kernel, rfl, by decide +kernel, by decide +kernel⟩
-- House.need_hand  slots: 0=self 1=hand
abbrev s_House_need_hand : Stmt := inClass (top 18) 1
theorem sc_House_need_hand : FnScope ["self", "hand"] ["self", "hand"] (defScope s_House_need_hand) := ⟨rfl, rfl, rfl, by decide +kernel, rfl, by decide +kernel, by decide +kernel⟩
-- House.need_letter  slots: 0=self 1=letter
abbrev s_House_need_letter : Stmt := inClass (top 18) 2
theorem sc_House_need_letter : FnScope ["self", "letter"] ["self", "letter"] (defScope s_House_need_letter) := ⟨rfl, rfl, rfl, by decide +kernel, rfl, by decide +kernel, by decide +kernel⟩
-- House.send  slots: 0=self 1=hand 2=text 3=letter 4=one
abbrev s_House_send : Stmt := inClass (top 18) 3
theorem sc_House_send : FnScope ["self", "hand", "text", "letter", "one"] ["self", "hand", "text"] (defScope s_House_send) := ⟨rfl, rfl, rfl, by decide +kernel, rfl, by decide +kernel, by decide +kernel⟩
-- House.to_others  slots: 0=self 1=word 2=letter 3=mark 4=writer 5=hand
abbrev s_House_to_others : Stmt := inClass (top 18) 4
theorem sc_House_to_others : FnScope ["self", "word", "letter", "mark", "writer", "hand"] ["self", "word", "letter", "mark"] (defScope s_House_to_others) := ⟨rfl, rfl, rfl, by decide +kernel, rfl, by decide +kernel, by decide +kernel⟩
-- House.look  slots: 0=self 1=letter 2=one
abbrev s_House_look : Stmt := inClass (top 18) 5
theorem sc_House_look : FnScope ["self", "letter", "one"] ["self", "letter"] (defScope s_House_look) := ⟨rfl, rfl, rfl, by decide +kernel, rfl, by decide +kernel, by decide +kernel⟩
-- House.mails  slots: 0=self
abbrev s_House_mails : Stmt := inClass (top 18) 6
theorem sc_House_mails : FnScope ["self"] ["self"] (defScope s_House_mails) := ⟨rfl, rfl, rfl, by decide +kernel, rfl, by decide +kernel, by decide +kernel⟩
-- House.bring  slots: 0=self 1=place 2=mail 3=letter 4=mark
abbrev s_House_bring : Stmt := inClass (top 18) 7
theorem sc_House_bring : FnScope ["self", "place", "mail", "letter", "mark"] ["self", "place"] (defScope s_House_bring) := ⟨rfl, rfl, rfl, by decide +kernel, rfl, by decide +kernel, by decide +kernel⟩
-- House.rest  slots: 0=self 1=found
abbrev s_House_rest : Stmt := inClass (top 18) 8
theorem sc_House_rest : FnScope ["self", "found"] ["self"] (defScope s_House_rest) := ⟨rfl, rfl, rfl, by decide +kernel, rfl, by decide +kernel, by decide +kernel⟩
-- House.letters  slots: 0=self
abbrev s_House_letters : Stmt := inClass (top 18) 9
theorem sc_House_letters : FnScope ["self"] ["self"] (defScope s_House_letters) := ⟨rfl, rfl, rfl, by decide +kernel, rfl, by decide +kernel, by decide +kernel⟩
-- House.sender  slots: 0=self 1=letter
abbrev s_House_sender : Stmt := inClass (top 18) 10
theorem sc_House_sender : FnScope ["self", "letter"] ["self", "letter"] (defScope s_House_sender) := ⟨rfl, rfl, rfl, by decide +kernel, rfl, by decide +kernel, by decide +kernel⟩
-- House.text  slots: 0=self 1=letter
abbrev s_House_text : Stmt := inClass (top 18) 11
theorem sc_House_text : FnScope ["self", "letter"] ["self", "letter"] (defScope s_House_text) := ⟨rfl, rfl, rfl, by decide +kernel, rfl, by decide +kernel, by decide +kernel⟩
-- House.mark  slots: 0=self 1=letter
abbrev s_House_mark : Stmt := inClass (top 18) 12
theorem sc_House_mark : FnScope ["self", "letter"] ["self", "letter"] (defScope s_House_mark) := ⟨rfl, rfl, rfl, by decide +kernel, rfl, by decide +kernel, by decide +kernel⟩
-- House.handed  slots: 0=self 1=hand
abbrev s_House_handed : Stmt := inClass (top 18) 13
theorem sc_House_handed : FnScope ["self", "hand"] ["self", "hand"] (defScope s_House_handed) := ⟨rfl, rfl, rfl, by decide +kernel, rfl, by decide +kernel, by decide +kernel⟩
-- House.clock  slots: 0=self 1=hand
abbrev s_House_clock : Stmt := inClass (top 18) 14
theorem sc_House_clock : FnScope ["self", "hand"] ["self", "hand"] (defScope s_House_clock) := ⟨rfl, rfl, rfl, by decide +kernel, rfl, by decide +kernel, by decide +kernel⟩
-- _law_whole  slots: 0=_law_found
abbrev s_law_whole : Stmt := top 20
theorem sc_law_whole : FnScope ["_law_found"] ["_law_found"] (defScope s_law_whole) := ⟨rfl, rfl, rfl, by decide +kernel, rfl, by decide +kernel, by decide +kernel⟩
-- _law_cell_at  slots: 0=_law_script 1=_law_k
abbrev s_law_cell_at : Stmt := top 21
theorem sc_law_cell_at : FnScope ["_law_script", "_law_k"] ["_law_script", "_law_k"] (defScope s_law_cell_at) := ⟨rfl, rfl, rfl, by decide +kernel, rfl, by decide +kernel, by decide +kernel⟩
-- _law_mark  slots: 0=_law_found
abbrev s_law_mark : Stmt := top 22
theorem sc_law_mark : FnScope ["_law_found"] ["_law_found"] (defScope s_law_mark) := ⟨rfl, rfl, rfl, by decide +kernel, rfl, by decide +kernel, by decide +kernel⟩
-- _law_mail  slots: 0=_law_found
abbrev s_law_mail : Stmt := top 23
theorem sc_law_mail : FnScope ["_law_found"] ["_law_found"] (defScope s_law_mail) := ⟨rfl, rfl, rfl, by decide +kernel, rfl, by decide +kernel, by decide +kernel⟩
-- _law_sign  slots: 0=_law_cell 1=_law_some
abbrev s_law_sign : Stmt := top 24
theorem sc_law_sign : FnScope ["_law_cell", "_law_some"] ["_law_cell"] (defScope s_law_sign) := ⟨rfl, rfl, rfl, by decide +kernel, rfl, by decide +kernel, by decide +kernel⟩
-- _law_desk  slots: 0=_law_hand_here
abbrev s_law_desk : Stmt := top 25
theorem sc_law_desk : FnScope ["_law_hand_here"] ["_law_hand_here"] (defScope s_law_desk) := ⟨rfl, rfl, rfl, by decide +kernel, rfl, by decide +kernel, by decide +kernel⟩
-- _law_first  slots: 0=_law_d 1=_law_found 2=_law_letter_here
abbrev s_law_first : Stmt := top 26
theorem sc_law_first : FnScope ["_law_d", "_law_found", "_law_letter_here"] ["_law_d"] (defScope s_law_first) := ⟨rfl, rfl, rfl, by decide +kernel, rfl, by decide +kernel, by decide +kernel⟩
-- _law_proposed  slots: 0=_law_d 1=_law_letter_here
abbrev s_law_proposed : Stmt := top 27
theorem sc_law_proposed : FnScope ["_law_d", "_law_letter_here"] ["_law_d", "_law_letter_here"] (defScope s_law_proposed) := ⟨rfl, rfl, rfl, by decide +kernel, rfl, by decide +kernel, by decide +kernel⟩
-- _law_settled  slots: 0=_law_d 1=_law_letter_here 2=_law_mark_here 3=_law_found
abbrev s_law_settled : Stmt := top 28
theorem sc_law_settled : FnScope ["_law_d", "_law_letter_here", "_law_mark_here", "_law_found"] ["_law_d", "_law_letter_here", "_law_mark_here"] (defScope s_law_settled) := ⟨rfl, rfl, rfl, by decide +kernel, rfl, by decide +kernel, by decide +kernel⟩
-- _law_house  slots: 0=_law_many 1=_law_hand_here
abbrev s_law_house : Stmt := top 29
theorem sc_law_house : FnScope ["_law_many", "_law_hand_here"] ["_law_many"] (defScope s_law_house) := ⟨rfl, rfl, rfl, by decide +kernel, rfl, by decide +kernel, by decide +kernel⟩
-- _law_to_others  slots: 0=_law_h 1=_law_word 2=_law_letter_here 3=_law_mark_here 4=_law_writer 5=_law_hand_here
abbrev s_law_to_others : Stmt := top 30
theorem sc_law_to_others : FnScope ["_law_h", "_law_word", "_law_letter_here", "_law_mark_here", "_law_writer", "_law_hand_here"] ["_law_h", "_law_word", "_law_letter_here", "_law_mark_here"] (defScope s_law_to_others) := ⟨rfl, rfl, rfl, by decide +kernel, rfl, by decide +kernel, by decide +kernel⟩
-- _law_look  slots: 0=_law_h 1=_law_letter_here 2=_law_one
abbrev s_law_look : Stmt := top 31
theorem sc_law_look : FnScope ["_law_h", "_law_letter_here", "_law_one"] ["_law_h", "_law_letter_here"] (defScope s_law_look) := ⟨rfl, rfl, rfl, by decide +kernel, rfl, by decide +kernel, by decide +kernel⟩
-- _law_sent  slots: 0=_law_h 1=_law_hand_here 2=_law_text 3=_law_letter_here
abbrev s_law_sent : Stmt := top 32
theorem sc_law_sent : FnScope ["_law_h", "_law_hand_here", "_law_text", "_law_letter_here"] ["_law_h", "_law_hand_here", "_law_text"] (defScope s_law_sent) := ⟨rfl, rfl, rfl, by decide +kernel, rfl, by decide +kernel, by decide +kernel⟩
-- _law_brought  slots: 0=_law_h 1=_law_place 2=_law_mail_here 3=_law_mark_here
abbrev s_law_brought : Stmt := top 33
theorem sc_law_brought : FnScope ["_law_h", "_law_place", "_law_mail_here", "_law_mark_here"] ["_law_h", "_law_place"] (defScope s_law_brought) := ⟨rfl, rfl, rfl, by decide +kernel, rfl, by decide +kernel, by decide +kernel⟩
-- _law_mails  slots: 0=_law_found 1=_law_due 2=_law_one 3=_law_good
abbrev s_law_mails : Stmt := top 34
theorem sc_law_mails : FnScope ["_law_found", "_law_due", "_law_one", "_law_good"] ["_law_found", "_law_due"] (defScope s_law_mails) := ⟨rfl, rfl, rfl, by decide +kernel, rfl, by decide +kernel, by decide +kernel⟩
-- _law_row  slots: 0=_law_found 1=_law_due 2=_law_one 3=_law_good
abbrev s_law_row : Stmt := top 35
theorem sc_law_row : FnScope ["_law_found", "_law_due", "_law_one", "_law_good"] ["_law_found", "_law_due"] (defScope s_law_row) := ⟨rfl, rfl, rfl, by decide +kernel, rfl, by decide +kernel, by decide +kernel⟩
-- _law_hand  slots: 0=_law_house_here 1=_law_h 2=_law_hand_here 3=_law_time
abbrev s_law_hand : Stmt := top 36
theorem sc_law_hand : FnScope ["_law_house_here", "_law_h", "_law_hand_here", "_law_time"] ["_law_house_here", "_law_h", "_law_hand_here"] (defScope s_law_hand) := ⟨rfl, rfl, rfl, by decide +kernel, rfl, by decide +kernel, by decide +kernel⟩
-- _law_missing  slots: 0=_law_house_here 1=_law_place 2=error
abbrev s_law_missing : Stmt := top 37
theorem sc_law_missing : FnScope ["_law_house_here", "_law_place", "error"] ["_law_house_here", "_law_place"] (defScope s_law_missing) := ⟨rfl, rfl, rfl, by decide +kernel, rfl, by decide +kernel, by decide +kernel⟩
-- _law_letter  slots: 0=_law_house_here 1=_law_h 2=_law_letter_here 3=_law_mark_here 4=_law_sender 5=_law_text
abbrev s_law_letter : Stmt := top 38
theorem sc_law_letter : FnScope ["_law_house_here", "_law_h", "_law_letter_here", "_law_mark_here", "_law_sender", "_law_text"] ["_law_house_here", "_law_h", "_law_letter_here"] (defScope s_law_letter) := ⟨rfl, rfl, rfl, by decide +kernel, rfl, by decide +kernel, by decide +kernel⟩
-- _law_rested  slots: 0=_law_house_here 1=_law_h 2=_law_due 3=_law_found
abbrev s_law_rested : Stmt := top 39
theorem sc_law_rested : FnScope ["_law_house_here", "_law_h", "_law_due", "_law_found"] ["_law_house_here", "_law_h"] (defScope s_law_rested) := ⟨rfl, rfl, rfl, by decide +kernel, rfl, by decide +kernel, by decide +kernel⟩
-- _law_step  slots: 0=_law_house_here 1=_law_h 2=_law_kind 3=_law_cell 4=_law_hand_here 5=_law_text 6=_law_letter_here 7=_law_found 8=_law_good 9=_law_place 10=_law_mail_here
abbrev s_law_step : Stmt := top 40
theorem sc_law_step : FnScope ["_law_house_here", "_law_h", "_law_kind", "_law_cell", "_law_hand_here", "_law_text", "_law_letter_here", "_law_found", "_law_good", "_law_place", "_law_mail_here"] ["_law_house_here", "_law_h", "_law_kind", "_law_cell"] (defScope s_law_step) := ⟨rfl, rfl, rfl, by decide +kernel, rfl, by decide +kernel, by decide +kernel⟩
-- law  slots: 0=_law_script 1=_law_many 2=_law_house_here 3=_law_h 4=_law_other 5=_law_g 6=_law_k 7=_law_hand_here 8=_law_letter_here
abbrev s_law : Stmt := top 41
theorem sc_law : FnScope ["_law_script", "_law_many", "_law_house_here", "_law_h", "_law_other", "_law_g", "_law_k", "_law_hand_here", "_law_letter_here"] ["_law_script"] (defScope s_law) := ⟨rfl, rfl, rfl, by decide +kernel, rfl, by decide +kernel, by decide +kernel⟩
structure Cs where
  BellError : Addr
  BadCount : Addr
  NoHand : Addr
  NoLetter : Addr
  NoMail : Addr
  Twice : Addr
  NotOpen : Addr
  BadMark : Addr
  Desk : Addr
  Letter : Addr
  House : Addr
/-- an error's class D, the j-th kind -/
structure ExcD (K : PySem.W.Frag) (c : Cs) (D : Addr) (j : Nat) : Prop where
  i : ExcC K D
  v : PySem.W.kitOne K (.ref D) (.type "ValueError") = some true
  e : PySem.W.exmOne K (.ref D) (.ref c.BellError) = some true
  k0 : PySem.W.kitOne K (.ref D) (.ref c.BadCount) = some (0 == j)
  k1 : PySem.W.kitOne K (.ref D) (.ref c.NoHand) = some (1 == j)
  k2 : PySem.W.kitOne K (.ref D) (.ref c.NoLetter) = some (2 == j)
  k3 : PySem.W.kitOne K (.ref D) (.ref c.NoMail) = some (3 == j)
  k4 : PySem.W.kitOne K (.ref D) (.ref c.Twice) = some (4 == j)
  k5 : PySem.W.kitOne K (.ref D) (.ref c.NotOpen) = some (5 == j)
  k6 : PySem.W.kitOne K (.ref D) (.ref c.BadMark) = some (6 == j)
structure Tx (K : PySem.W.Frag) (mg : Str → Option Value) (c : Cs) : Prop where
  x_BellError : ExcCl K mg "BellError" c.BellError
  x_BadCount : ExcCl K mg "BadCount" c.BadCount
  x_NoHand : ExcCl K mg "NoHand" c.NoHand
  x_NoLetter : ExcCl K mg "NoLetter" c.NoLetter
  x_NoMail : ExcCl K mg "NoMail" c.NoMail
  x_Twice : ExcCl K mg "Twice" c.Twice
  x_NotOpen : ExcCl K mg "NotOpen" c.NotOpen
  x_BadMark : ExcCl K mg "BadMark" c.BadMark
  i_NoMail : ExcD K c c.NoMail 3
  d_less : ∃ f fd, DefAt K mg "less" s_less ["one", "other"] f fd
  d_greatest : ∃ f fd, DefAt K mg "greatest" s_greatest ["marks"] f fd
  d_is_place : ∃ f fd, DefAt K mg "is_place" s_is_place ["thing", "many"] f fd
  d_law_whole : ∃ f fd, DefAt K mg "_law_whole" s_law_whole ["_law_found"] f fd
  d_law_cell_at : ∃ f fd, DefAt K mg "_law_cell_at" s_law_cell_at ["_law_script", "_law_k"] f fd
  d_law_mark : ∃ f fd, DefAt K mg "_law_mark" s_law_mark ["_law_found"] f fd
  d_law_mail : ∃ f fd, DefAt K mg "_law_mail" s_law_mail ["_law_found"] f fd
  d_law_sign : ∃ f fd, DefAt K mg "_law_sign" s_law_sign ["_law_cell"] f fd
  d_law_desk : ∃ f fd, DefAt K mg "_law_desk" s_law_desk ["_law_hand_here"] f fd
  d_law_first : ∃ f fd, DefAt K mg "_law_first" s_law_first ["_law_d"] f fd
  d_law_proposed : ∃ f fd, DefAt K mg "_law_proposed" s_law_proposed ["_law_d", "_law_letter_here"] f fd
  d_law_settled : ∃ f fd, DefAt K mg "_law_settled" s_law_settled ["_law_d", "_law_letter_here", "_law_mark_here"] f fd
  d_law_house : ∃ f fd, DefAt K mg "_law_house" s_law_house ["_law_many"] f fd
  d_law_to_others : ∃ f fd, DefAt K mg "_law_to_others" s_law_to_others ["_law_h", "_law_word", "_law_letter_here", "_law_mark_here"] f fd
  d_law_look : ∃ f fd, DefAt K mg "_law_look" s_law_look ["_law_h", "_law_letter_here"] f fd
  d_law_sent : ∃ f fd, DefAt K mg "_law_sent" s_law_sent ["_law_h", "_law_hand_here", "_law_text"] f fd
  d_law_brought : ∃ f fd, DefAt K mg "_law_brought" s_law_brought ["_law_h", "_law_place"] f fd
  d_law_mails : ∃ f fd, DefAt K mg "_law_mails" s_law_mails ["_law_found", "_law_due"] f fd
  d_law_row : ∃ f fd, DefAt K mg "_law_row" s_law_row ["_law_found", "_law_due"] f fd
  d_law_hand : ∃ f fd, DefAt K mg "_law_hand" s_law_hand ["_law_house_here", "_law_h", "_law_hand_here"] f fd
  d_law_missing : ∃ f fd, DefAt K mg "_law_missing" s_law_missing ["_law_house_here", "_law_place"] f fd
  d_law_letter : ∃ f fd, DefAt K mg "_law_letter" s_law_letter ["_law_house_here", "_law_h", "_law_letter_here"] f fd
  d_law_rested : ∃ f fd, DefAt K mg "_law_rested" s_law_rested ["_law_house_here", "_law_h"] f fd
  d_law_step : ∃ f fd, DefAt K mg "_law_step" s_law_step ["_law_house_here", "_law_h", "_law_kind", "_law_cell"] f fd
  g_Desk : mg "Desk" = some (.ref c.Desk)
  c_Desk : Cls K c.Desk
  k_Desk : ∃ f fd, L2.Mk K c.Desk f ∧ Fun K "__init__" "Desk.__init__" s_Desk___init__ f fd ∧ Binds K fd ["self", "hand"] []
  m_Desk_clock : ∃ f fd, MethAt K c.Desk "Desk.clock" "clock" s_Desk_clock ["self"] f fd
  m_Desk_propose : ∃ f fd, MethAt K c.Desk "Desk.propose" "propose" s_Desk_propose ["self", "letter"] f fd
  m_Desk_settle : ∃ f fd, MethAt K c.Desk "Desk.settle" "settle" s_Desk_settle ["self", "letter", "mark"] f fd
  m_Desk_first : ∃ f fd, MethAt K c.Desk "Desk.first" "first" s_Desk_first ["self"] f fd
  m_Desk_hand_over : ∃ f fd, MethAt K c.Desk "Desk.hand_over" "hand_over" s_Desk_hand_over ["self"] f fd
  m_Desk_handed : ∃ f fd, MethAt K c.Desk "Desk.handed" "handed" s_Desk_handed ["self"] f fd
  na_Desk_hand : NoAttr K c.Desk "hand"
  na_Desk_time : NoAttr K c.Desk "time"
  na_Desk_known : NoAttr K c.Desk "known"
  na_Desk_marked : NoAttr K c.Desk "marked"
  na_Desk_done : NoAttr K c.Desk "done"
  na_Desk_row : NoAttr K c.Desk "row"
  g_Letter : mg "Letter" = some (.ref c.Letter)
  c_Letter : Cls K c.Letter
  k_Letter : ∃ f fd, L2.Mk K c.Letter f ∧ Fun K "__init__" "Letter.__init__" s_Letter___init__ f fd ∧ Binds K fd ["self", "writer", "words"] []
  na_Letter_writer : NoAttr K c.Letter "writer"
  na_Letter_words : NoAttr K c.Letter "words"
  na_Letter_numbers : NoAttr K c.Letter "numbers"
  na_Letter_final : NoAttr K c.Letter "final"
  g_House : mg "House" = some (.ref c.House)
  c_House : Cls K c.House
  k_House : ∃ f fd, L2.Mk K c.House f ∧ Fun K "__init__" "House.__init__" s_House___init__ f fd ∧ Binds K fd ["self", "many"] []
  m_House_need_hand : ∃ f fd, MethAt K c.House "House.need_hand" "need_hand" s_House_need_hand ["self", "hand"] f fd
  m_House_need_letter : ∃ f fd, MethAt K c.House "House.need_letter" "need_letter" s_House_need_letter ["self", "letter"] f fd
  m_House_send : ∃ f fd, MethAt K c.House "House.send" "send" s_House_send ["self", "hand", "text"] f fd
  m_House_to_others : ∃ f fd, MethAt K c.House "House.to_others" "to_others" s_House_to_others ["self", "word", "letter", "mark"] f fd
  m_House_look : ∃ f fd, MethAt K c.House "House.look" "look" s_House_look ["self", "letter"] f fd
  m_House_mails : ∃ f fd, MethAt K c.House "House.mails" "mails" s_House_mails ["self"] f fd
  m_House_bring : ∃ f fd, MethAt K c.House "House.bring" "bring" s_House_bring ["self", "place"] f fd
  m_House_rest : ∃ f fd, MethAt K c.House "House.rest" "rest" s_House_rest ["self"] f fd
  m_House_letters : ∃ f fd, MethAt K c.House "House.letters" "letters" s_House_letters ["self"] f fd
  m_House_sender : ∃ f fd, MethAt K c.House "House.sender" "sender" s_House_sender ["self", "letter"] f fd
  m_House_text : ∃ f fd, MethAt K c.House "House.text" "text" s_House_text ["self", "letter"] f fd
  m_House_mark : ∃ f fd, MethAt K c.House "House.mark" "mark" s_House_mark ["self", "letter"] f fd
  m_House_handed : ∃ f fd, MethAt K c.House "House.handed" "handed" s_House_handed ["self", "hand"] f fd
  m_House_clock : ∃ f fd, MethAt K c.House "House.clock" "clock" s_House_clock ["self", "hand"] f fd
  na_House_desks : NoAttr K c.House "desks"
  na_House_sent : NoAttr K c.House "sent"
  na_House_post : NoAttr K c.House "post"
  mn_max : mg "max" = none
  mn_list : mg "list" = none
  mn_isinstance : mg "isinstance" = none
  mn_int : mg "int" = none
  mn_bool : mg "bool" = none
  mn_range : mg "range" = none
  mn_len : mg "len" = none
  mn_tuple : mg "tuple" = none
  mn_str : mg "str" = none
  mn_ValueError : mg "ValueError" = none
  mn_min : mg "min" = none
  mg_MOST_HANDS : ∃ t, mg "MOST_HANDS" = some (.int 40 t)

/-! ## shapes -/
theorem shn_mk {m : Mk} {n : Nat} : ShN (n + 1) (mkD m) := shn_tup fun d hd => by
  rcases List.mem_cons.mp hd with rfl | hd
  · exact shn_int
  · rcases List.mem_cons.mp hd with rfl | hd
    · exact shn_int
    · cases hd
theorem sh_mk {m : Mk} : SeqAt.shaped (mkD m) = true := (shn_mk (n := 0)).sh (by decide)
theorem sh_mks {ms : List Mk} : SeqAt.shaped (.list (ms.map mkD)) = true := ShN.sh (n := 2) (shn_list fun d hd => by
  obtain ⟨m, _, rfl⟩ := List.mem_map.mp hd
  exact shn_mk) (by decide)
theorem sh_bls {bs : List Bool} : SeqAt.shaped (.list (bs.map PyData.bool)) = true := ShN.sh (n := 1) (shn_list fun d hd => by
  obtain ⟨m, _, rfl⟩ := List.mem_map.mp hd
  exact shn_bl) (by decide)
theorem sh_b3 {a b c : Bool} : SeqAt.shaped (.list [.bool a, .bool b, .bool c]) = true := sh_bls (bs := [a, b, c])
local macro_rules | `(tactic| tm_at "sh") => `(tactic| first | exact sh_mk | exact sh_mks | exact sh_b3)

section
variable {P : Program} {w : World} {K : PySem.W.Frag} {mg : Str → Option Value} {base : Heap} {c : Cs}
def mless (a b : Mk) : Bool := decide (a.1 < b.1) || (a.1 == b.1 && decide (a.2 < b.2))
def sp_less (K : PySem.W.Frag) : Sp := spF K (fun x : Mk × Mk => [mkD x.1, mkD x.2]) (fun _ => True) (fun x => .bool (mless x.1 x.2))
theorem at_less (a b : Mk) : SpD K (sp_less K) [mkD a, mkD b] (.bool (mless a b)) := spF_at (a, b) trivial
theorem ok_less (T : Tx K mg c) : DefOk P w K mg base CX0 1 "less" ["one", "other"] (sp_less K) := by
  obtain ⟨f, fd, d⟩ := T.d_less
  refine d.ok (d.F.ok sc_less (fun vs H Q E h => spF_len h fun _ => rfl) fun cdv A outer s H vs Q E hr h => ?_)
  obtain ⟨A0, ⟨a, b⟩, _, s0, ha, k⟩ := h
  obtain ⟨v1, v2, rfl, h1, h2⟩ := dpa2 ha
  have nd := sc_less.nd
  refine ⟨_, (pss_one (ps_ret (pe_or (pe_cmpR op_lt (pe_ix (ixT (K := K) rfl) (pv 0) pe_int (fun _ _ => rfl)) (pe_ix (ixT (K := K) rfl) (pv 1) pe_int (fun _ _ => rfl)) (nomark _)) (pe_one (pe_and (pe_cmpR op_eq (pe_ix (ixT (K := K) rfl) (pv 0) pe_int (fun _ _ => rfl)) (pe_ix (ixT (K := K) rfl) (pv 1) pe_int (fun _ _ => rfl)) (nomark _)) (pe_one (pe_cmpR op_lt (pe_ix (ixT (K := K) rfl) (pv 0) pe_int (fun _ _ => rfl)) (pe_ix (ixT (K := K) rfl) (pv 1) pe_int (fun _ _ => rfl)) (nomark _)))))))), ?_⟩
  try dsimp only [cx_K]
  exact s_retK K s0 (by tm_at "ed") (by rfl) k
end
local macro_rules | `(tactic| tm_at "fn") => `(tactic| exact at_less _ _)

/-! ## a desk -/
/-- where a desk's things stand -/
structure DP where
  a : Addr
  dx : Addr
  k : Addr
  m : Addr
  d : Addr
  r : Addr
def DP.foot (p : DP) : List Addr := [p.a, p.k, p.m, p.d, p.r]
/-- what it holds -/
structure DS where
  hand : Int
  time : Int
  known : List Int
  marked : List (Int × Mk)
  done : List Int
  row : List Int
def deskFs (p : DP) (s : DS) : List (Str × V) := [("hand", .int s.hand), ("time", .int s.time), ("known", .ref p.k), ("marked", .ref p.m), ("done", .ref p.d), ("row", .ref p.r)]
def flags (l : List Int) : List (Key × V) := l.map fun i => (.inl i, .bl true)
def MkKvs (K : PySem.W.Frag) (A : Hp) (kvs : List (Key × V)) (l : List (Int × Mk)) : Prop := Paired (fun kv e => kv.1 = .inl e.1 ∧ Dp K A kv.2 (mkD e.2)) kvs l
structure DeskAt (K : PySem.W.Frag) (C : Addr) (A B : Hp) (p : DP) (s : DS) : Prop where
  ia : B p.a = some (.ins C p.dx (deskFs p s))
  ik : B p.k = some (.dK (flags s.known))
  im : ∃ kvs, B p.m = some (.dK kvs) ∧ MkKvs K A kvs s.marked
  id : B p.d = some (.dK (flags s.done))
  ir : B p.r = some (.lst (s.row.map V.int))
  nd : p.foot.Nodup
  na : ∀ x ∈ p.foot, A x = none
/-! its dicts -/
theorem flags_val (i : Int) : ∀ l : List Int, (valV (flags l) (.inl i)).isSome = decide (i ∈ l)
  | [] => rfl
  | x :: r => by
    have ih := flags_val i r
    by_cases h : x = i
    · subst h
      rw [show flags (x :: r) = (Sum.inl x, V.bl true) :: flags r from rfl, valV_pos rfl]
      simp
    · rw [show flags (x :: r) = (Sum.inl x, V.bl true) :: flags r from rfl, valV_neg (fun z => h (Sum.inl.inj z)), ih]
      simp [List.mem_cons, Ne.symm h]
theorem flags_put {i : Int} {l : List Int} (h : i ∉ l) : putK (flags l) (.inl i) (.bl true) = flags (l ++ [i]) := by
  have e := valV_any (.inl i) (flags l)
  rw [flags_val, decide_eq_false h] at e
  unfold putK
  rw [e]
  simp [flags]
/-- the mark of a letter -/
def lkM (l : List (Int × Mk)) (i : Int) : Option Mk := (l.find? fun e => decide (e.1 = i)).map (·.2)
def putM (l : List (Int × Mk)) (i : Int) (m : Mk) : List (Int × Mk) := if (l.any fun e => decide (e.1 = i)) = true then l.map (fun e => if e.1 = i then (e.1, m) else e) else l ++ [(i, m)]
def dropM (l : List (Int × Mk)) (i : Int) : List (Int × Mk) := l.filter fun e => decide (e.1 ≠ i)
theorem MkKvs.mono {K : PySem.W.Frag} {A A' : Hp} (e : Ex A A') : ∀ {kvs : List (Key × V)} {l : List (Int × Mk)}, MkKvs K A kvs l → MkKvs K A' kvs l
  | _, _, .nil => .nil
  | _, _, .cons h t => .cons ⟨h.1, dp_ex e h.2⟩ (MkKvs.mono e t)
theorem MkKvs.lk {K : PySem.W.Frag} {A : Hp} {i : Int} : ∀ {kvs : List (Key × V)} {l : List (Int × Mk)}, MkKvs K A kvs l → ∀ {m : Mk}, lkM l i = some m → ∃ v, valV kvs (.inl i) = some v ∧ Dp K A v (mkD m)
  | _, _, .nil, m, h => by cases h
  | _, _, .cons (a := kv) (b := e) (l₁ := r) (l₂ := s) hh t, m, h => by
    obtain ⟨k, v⟩ := kv
    obtain ⟨h1, h2⟩ := hh
    dsimp only at h1 h2
    subst h1
    by_cases q : e.1 = i
    · refine ⟨v, by rw [valV_pos (by rw [q])], ?_⟩
      have : lkM (e :: s) i = some e.2 := by simp [lkM, List.find?_cons, q]
      rw [this] at h
      cases h
      exact h2
    · have : lkM (e :: s) i = lkM s i := by simp [lkM, List.find?_cons, q]
      rw [this] at h
      obtain ⟨v', e1, e2⟩ := MkKvs.lk t h
      exact ⟨v', by rw [valV_neg (fun z => q (Sum.inl.inj z))]; exact e1, e2⟩
theorem MkKvs.some {K : PySem.W.Frag} {A : Hp} {i : Int} : ∀ {kvs : List (Key × V)} {l : List (Int × Mk)}, MkKvs K A kvs l → (valV kvs (.inl i)).isSome = (lkM l i).isSome
  | _, _, .nil => rfl
  | _, _, .cons (a := kv) (b := e) (l₁ := r) (l₂ := s) hh t => by
    obtain ⟨k, v⟩ := kv
    obtain ⟨h1, h2⟩ := hh
    dsimp only at h1 h2
    subst h1
    by_cases q : e.1 = i
    · rw [valV_pos (by rw [q])]
      simp [lkM, List.find?_cons, q]
    · rw [valV_neg (fun z => q (Sum.inl.inj z)), MkKvs.some t]
      simp [lkM, List.find?_cons, q]
theorem MkKvs.any {K : PySem.W.Frag} {A : Hp} {i : Int} : ∀ {kvs : List (Key × V)} {l : List (Int × Mk)}, MkKvs K A kvs l → (kvs.any fun kv => decide (kv.1 = Sum.inl i)) = (l.any fun e => decide (e.1 = i))
  | _, _, .nil => rfl
  | _, _, .cons hh t => by
    rw [List.any_cons, List.any_cons, MkKvs.any t, hh.1]
    congr 1
    exact decide_eq_decide.mpr ⟨fun z => Sum.inl.inj z, fun z => by rw [z]⟩
theorem MkKvs.len {K : PySem.W.Frag} {A : Hp} {kvs : List (Key × V)} {l : List (Int × Mk)} (h : MkKvs K A kvs l) : kvs.length = l.length := Paired.length h
theorem lk_put (i : Int) (m : Mk) : ∀ l : List (Int × Mk), lkM (putM l i m) i = some m := by
  intro l
  unfold putM
  by_cases q : (l.any fun e => decide (e.1 = i)) = true
  · rw [if_pos q]
    induction l with
    | nil => cases q
    | cons e r ih =>
      rw [List.map_cons]
      by_cases z : e.1 = i
      · simp [lkM, z]
      · rw [List.any_cons, decide_eq_false z, Bool.false_or] at q
        have := ih q
        simp only [lkM, if_neg z, List.find?_cons, decide_eq_false z] at this ⊢
        exact this
  · rw [if_neg q]
    have hn : l.find? (fun e => decide (e.1 = i)) = none := by
      rw [List.find?_eq_none]
      intro x hx h
      exact q (List.any_eq_true.mpr ⟨x, hx, h⟩)
    simp [lkM, List.find?_append, hn]
theorem paired_snoc {α β : Type} {R : α → β → Prop} {x : α} {y : β} (hr : R x y) : ∀ {xs : List α} {ys : List β}, Paired R xs ys → Paired R (xs ++ [x]) (ys ++ [y])
  | _, _, .nil => .cons hr .nil
  | _, _, .cons h t => .cons h (paired_snoc hr t)
theorem MkKvs.put {K : PySem.W.Frag} {A : Hp} {i : Int} {v : V} {m : Mk} {kvs : List (Key × V)} {l : List (Int × Mk)} (h : MkKvs K A kvs l) (hv : Dp K A v (mkD m)) : MkKvs K A (putK kvs (.inl i) v) (putM l i m) := by
  unfold putK putM
  rw [h.any]
  by_cases q : (l.any fun e => decide (e.1 = i)) = true
  · rw [if_pos q, if_pos q]
    clear q
    induction h with
    | nil => exact .nil
    | @cons kv e r s hh t ih =>
      refine .cons ?_ ih
      show (if kv.1 = Sum.inl i then (kv.1, v) else kv).1 = Sum.inl (if e.1 = i then (e.1, m) else e).1 ∧ Dp K A (if kv.1 = Sum.inl i then (kv.1, v) else kv).2 (mkD (if e.1 = i then (e.1, m) else e).2)
      by_cases z : e.1 = i
      · rw [if_pos (by rw [hh.1, z]), if_pos z]
        exact ⟨hh.1, hv⟩
      · rw [if_neg (by rw [hh.1]; exact fun y => z (Sum.inl.inj y)), if_neg z]
        exact hh
  · rw [if_neg q, if_neg q]
    exact paired_snoc ⟨rfl, hv⟩ h
theorem MkKvs.drop {K : PySem.W.Frag} {A : Hp} {i : Int} {kvs : List (Key × V)} {l : List (Int × Mk)} (h : MkKvs K A kvs l) : MkKvs K A (dropK kvs (.inl i)) (dropM l i) := by
  unfold dropK dropM
  induction h with
  | nil => exact .nil
  | @cons kv e r s hh t ih =>
    by_cases z : e.1 = i
    · rw [List.filter_cons_of_neg (by rw [hh.1, z]; simp), List.filter_cons_of_neg (by simp [z])]
      exact ih
    · rw [List.filter_cons_of_pos (by rw [hh.1]; simpa using z), List.filter_cons_of_pos (by simpa using z)]
      exact .cons hh ih
theorem MkKvs.keys {K : PySem.W.Frag} {A : Hp} : ∀ {kvs : List (Key × V)} {l : List (Int × Mk)}, MkKvs K A kvs l → (kvs.map fun kv => kV kv.1) = (l.map (·.1)).map V.int
  | _, _, .nil => rfl
  | _, _, .cons hh t => by
    rw [List.map_cons, List.map_cons, List.map_cons, MkKvs.keys t, hh.1]
    rfl
section
variable {K : PySem.W.Frag} {C : Addr} {A B A' B' : Hp} {p : DP} {s : DS} {F : Addr → Prop}
theorem DeskAt.mono (D : DeskAt K C A B p s) (P : PrM F A B A' B') (h : ∀ x ∈ p.foot, ¬ F x) : DeskAt K C A' B' p s := by
  have f1 : p.a ∈ p.foot := by simp [DP.foot]
  have f2 : p.k ∈ p.foot := by simp [DP.foot]
  have f3 : p.m ∈ p.foot := by simp [DP.foot]
  have f4 : p.d ∈ p.foot := by simp [DP.foot]
  have f5 : p.r ∈ p.foot := by simp [DP.foot]
  obtain ⟨kvs, e3, hk⟩ := D.im
  refine ⟨P.b _ _ (h _ f1) D.ia, P.b _ _ (h _ f2) D.ik, ⟨kvs, P.b _ _ (h _ f3) e3, hk.mono P.a⟩, P.b _ _ (h _ f4) D.id, P.b _ _ (h _ f5) D.ir, D.nd, fun x hx => P.n x (D.na x hx) ?_⟩
  simp only [DP.foot, List.mem_cons, List.not_mem_nil, or_false] at hx
  rcases hx with rfl | rfl | rfl | rfl | rfl
  · rw [D.ia]; simp
  · rw [D.ik]; simp
  · rw [e3]; simp
  · rw [D.id]; simp
  · rw [D.ir]; simp
theorem DeskAt.pr (D : DeskAt K C A B p s) (P : Pr A B A' B') : DeskAt K C A' B' p s := D.mono (F := fun _ => False) P.m fun _ _ z => z
theorem DeskAt.up (D : DeskAt K C A B p s) (e : Ex A B) (h : Ex B B') : DeskAt K C A B' p s := D.pr (Pr.up e h)
theorem DeskAt.ne (D : DeskAt K C A B p s) : p.a ≠ p.k ∧ p.a ≠ p.m ∧ p.a ≠ p.d ∧ p.a ≠ p.r ∧ p.k ≠ p.m ∧ p.k ≠ p.d ∧ p.k ≠ p.r ∧ p.m ≠ p.d ∧ p.m ≠ p.r ∧ p.d ≠ p.r := by
  have h := D.nd
  simp only [DP.foot, List.nodup_cons, List.mem_cons, List.not_mem_nil, or_false, not_or, not_false_eq_true, List.nodup_nil, and_true] at h
  obtain ⟨⟨h1, h2, h3, h4⟩, ⟨h5, h6, h7⟩, ⟨h8, h9⟩, h10⟩ := h
  exact ⟨h1, h2, h3, h4, h5, h6, h7, h8, h9, h10⟩
end

end K8

namespace K8
open PySem L2 Evl Ob

local macro_rules | `(tactic| tm_at "sh") => `(tactic| first | exact sh_mk | exact sh_mks | exact sh_b3)

section
variable {P : Program} {w : World} {K : PySem.W.Frag} {mg : Str → Option Value} {base : Heap} {c : Cs}
/-! a new desk -/
def sp_mkDesk (K : PySem.W.Frag) (C : Addr) : Sp := fun vs H Q _ => ∃ A a dx h, vs = [.ref a, .int h] ∧ Ex A H ∧ H a = some (.ins C dx []) ∧ A a = none ∧
  ∀ p H', p.a = a → PrM (fun x => x = a) A H A H' → (∀ x ∈ p.foot, x = a ∨ H x = none) → DeskAt K C A H' p ⟨h, 0, [], [], [], []⟩ → Q .non H'
theorem ok_Desk_init (T : Tx K mg c) : MkOk P w K mg base (L2N.CX P w) 1 c.Desk ["self", "hand"] (sp_mkDesk K c.Desk) := by
  obtain ⟨f, fd, mk, F, b⟩ := T.k_Desk
  refine ⟨f, fd, mk, b, okN F sc_Desk___init__ (fun vs H Q E h => ?_) fun cdv A outer s H vs Q E hr h => ?_⟩
  · obtain ⟨_, _, _, _, e, _⟩ := h
    rw [e]
    rfl
  obtain ⟨A0, a, dx, hh, rfl, s0, hB, nA, k⟩ := h
  have nd := sc_Desk___init__.nd
  refine ⟨_, (pss_cons (ps_fld (pv 0) (pv 1) rfl)
      (pss_cons (ps_fld (pv 0) pe_int rfl)
      (pss_cons (ps_fld (pv 0) pe_dnewK rfl)
      (pss_cons (ps_fld (pv 0) pe_dnewK rfl)
      (pss_cons (ps_fld (pv 0) pe_dnewK rfl)
      (pss_one (ps_fld (pv 0) (pe_lst pa_nil) rfl))))))), ?_⟩
  try dsimp only [cx_K2]
  have P0 : PrM (fun x => x = a) A0 H A0 H := PrM.refl s0
  refine q_do (s_fldV K (ev_var rfl) (ev_var rfl) hB T.c_Desk T.na_Desk_hand (by decide) fun B1 e1 => go_nx ?_)
  have P1 := (P0.up e1).put (l := a) (o := .ins c.Desk dx (putF "hand" (.int hh) [])) (.inl rfl) nA
  generalize hH1 : upd B1 a (.ins c.Desk dx (putF "hand" (.int hh) [])) = H1 at P1 ⊢
  have g1 : H1 a = some (.ins c.Desk dx (putF "hand" (.int hh) [])) := by rw [← hH1]; exact upd_same
  refine q_do (s_fldV K ev_c (ev_var rfl) g1 T.c_Desk T.na_Desk_time (by show 1 < 1000; decide) fun B2 e2 => go_nx ?_)
  have P2 := (P1.up e2).put (l := a) (o := .ins c.Desk dx (putF "time" (.int 0) (putF "hand" (.int hh) []))) (.inl rfl) nA
  generalize hH2 : upd B2 a (.ins c.Desk dx (putF "time" (.int 0) (putF "hand" (.int hh) []))) = H2 at P2 ⊢
  have g2 : H2 a = some (.ins c.Desk dx (putF "time" (.int 0) (putF "hand" (.int hh) []))) := by rw [← hH2]; exact upd_same
  refine q_do (s_fldD K (ev_var rfl) g2 T.c_Desk T.na_Desk_known (by show 2 < 1000; decide) fun p3 B3 hp3 e3 => go_nx ?_)
  have n3 : p3 ≠ a := fun z => by rw [z, g2] at hp3; cases hp3
  have P3 := ((P2.new (o := .dK []) hp3).up e3).put (l := a) (o := .ins c.Desk dx (putF "known" (.ref p3) (putF "time" (.int 0) (putF "hand" (.int hh) [])))) (.inl rfl) nA
  have f3 : (upd B3 a (.ins c.Desk dx (putF "known" (.ref p3) (putF "time" (.int 0) (putF "hand" (.int hh) []))))) p3 = some (.dK []) := by rw [upd_ne n3]; exact e3 _ _ upd_same
  generalize hH3 : upd B3 a (.ins c.Desk dx (putF "known" (.ref p3) (putF "time" (.int 0) (putF "hand" (.int hh) [])))) = H3 at P3 f3 ⊢
  have g3 : H3 a = some (.ins c.Desk dx (putF "known" (.ref p3) (putF "time" (.int 0) (putF "hand" (.int hh) [])))) := by rw [← hH3]; exact upd_same
  refine q_do (s_fldD K (ev_var rfl) g3 T.c_Desk T.na_Desk_marked (by show 3 < 1000; decide) fun p4 B4 hp4 e4 => go_nx ?_)
  have n4 : p4 ≠ a := fun z => by rw [z, g3] at hp4; cases hp4
  have n43 : p4 ≠ p3 := fun z => by rw [z, f3] at hp4; cases hp4
  have P4 := ((P3.new (o := .dK []) hp4).up e4).put (l := a) (o := .ins c.Desk dx (putF "marked" (.ref p4) (putF "known" (.ref p3) (putF "time" (.int 0) (putF "hand" (.int hh) []))))) (.inl rfl) nA
  have f4 : (upd B4 a (.ins c.Desk dx (putF "marked" (.ref p4) (putF "known" (.ref p3) (putF "time" (.int 0) (putF "hand" (.int hh) [])))))) p4 = some (.dK []) := by rw [upd_ne n4]; exact e4 _ _ upd_same
  have f43 : (upd B4 a (.ins c.Desk dx (putF "marked" (.ref p4) (putF "known" (.ref p3) (putF "time" (.int 0) (putF "hand" (.int hh) [])))))) p3 = some (.dK []) := by rw [upd_ne n3]; exact e4 _ _ (by rw [upd_ne (Ne.symm n43)]; exact f3)
  generalize hH4 : upd B4 a (.ins c.Desk dx (putF "marked" (.ref p4) (putF "known" (.ref p3) (putF "time" (.int 0) (putF "hand" (.int hh) []))))) = H4 at P4 f4 f43 ⊢
  have g4 : H4 a = some (.ins c.Desk dx (putF "marked" (.ref p4) (putF "known" (.ref p3) (putF "time" (.int 0) (putF "hand" (.int hh) []))))) := by rw [← hH4]; exact upd_same
  refine q_do (s_fldD K (ev_var rfl) g4 T.c_Desk T.na_Desk_done (by show 4 < 1000; decide) fun p5 B5 hp5 e5 => go_nx ?_)
  have n5 : p5 ≠ a := fun z => by rw [z, g4] at hp5; cases hp5
  have n53 : p5 ≠ p3 := fun z => by rw [z, f43] at hp5; cases hp5
  have n54 : p5 ≠ p4 := fun z => by rw [z, f4] at hp5; cases hp5
  have P5 := ((P4.new (o := .dK []) hp5).up e5).put (l := a) (o := .ins c.Desk dx (putF "done" (.ref p5) (putF "marked" (.ref p4) (putF "known" (.ref p3) (putF "time" (.int 0) (putF "hand" (.int hh) [])))))) (.inl rfl) nA
  have up5 : ∀ x u, x ≠ a → x ≠ p5 → H4 x = some u → (upd B5 a (.ins c.Desk dx (putF "done" (.ref p5) (putF "marked" (.ref p4) (putF "known" (.ref p3) (putF "time" (.int 0) (putF "hand" (.int hh) []))))))) x = some u := fun x u na np e => by
    rw [upd_ne na]; exact e5 _ _ (by rw [upd_ne np]; exact e)
  have f5 : (upd B5 a (.ins c.Desk dx (putF "done" (.ref p5) (putF "marked" (.ref p4) (putF "known" (.ref p3) (putF "time" (.int 0) (putF "hand" (.int hh) []))))))) p5 = some (.dK []) := by rw [upd_ne n5]; exact e5 _ _ upd_same
  have f53 := up5 p3 _ n3 (Ne.symm n53) f43
  have f54 := up5 p4 _ n4 (Ne.symm n54) f4
  generalize hH5 : upd B5 a (.ins c.Desk dx (putF "done" (.ref p5) (putF "marked" (.ref p4) (putF "known" (.ref p3) (putF "time" (.int 0) (putF "hand" (.int hh) [])))))) = H5 at P5 f5 f53 f54 ⊢
  have g5 : H5 a = some (.ins c.Desk dx (putF "done" (.ref p5) (putF "marked" (.ref p4) (putF "known" (.ref p3) (putF "time" (.int 0) (putF "hand" (.int hh) [])))))) := by rw [← hH5]; exact upd_same
  refine s_fldL K (ev_var rfl) g5 T.c_Desk T.na_Desk_row (by show 5 < 1000; decide) fun p6 B6 hp6 e6 => ?_
  have n6 : p6 ≠ a := fun z => by rw [z, g5] at hp6; cases hp6
  have n63 : p6 ≠ p3 := fun z => by rw [z, f53] at hp6; cases hp6
  have n64 : p6 ≠ p4 := fun z => by rw [z, f54] at hp6; cases hp6
  have n65 : p6 ≠ p5 := fun z => by rw [z, f5] at hp6; cases hp6
  have P6 := ((P5.new (o := .lst []) hp6).up e6).put (l := a) (o := .ins c.Desk dx (putF "row" (.ref p6) (putF "done" (.ref p5) (putF "marked" (.ref p4) (putF "known" (.ref p3) (putF "time" (.int 0) (putF "hand" (.int hh) []))))))) (.inl rfl) nA
  have up6 : ∀ x u, x ≠ a → x ≠ p6 → H5 x = some u → (upd B6 a (.ins c.Desk dx (putF "row" (.ref p6) (putF "done" (.ref p5) (putF "marked" (.ref p4) (putF "known" (.ref p3) (putF "time" (.int 0) (putF "hand" (.int hh) [])))))))) x = some u := fun x u na np e => by
    rw [upd_ne na]; exact e6 _ _ (by rw [upd_ne np]; exact e)
  have fr3 := P2.fresh hp3
  have fr4 := P3.fresh hp4
  have fr5 := P4.fresh hp5
  have fr6 := P5.fresh hp6
  refine k ⟨a, dx, p3, p4, p5, p6⟩ _ rfl P6 (fun x hx => ?_) ⟨upd_same, up6 p3 _ n3 (Ne.symm n63) f53, ⟨[], up6 p4 _ n4 (Ne.symm n64) f54, .nil⟩, up6 p5 _ n5 (Ne.symm n65) f5, ?_, ?_, fun x hx => ?_⟩
  · simp only [DP.foot, List.mem_cons, List.not_mem_nil, or_false] at hx
    rcases hx with rfl | rfl | rfl | rfl | rfl
    · exact .inl rfl
    · exact .inr fr3
    · exact .inr fr4
    · exact .inr fr5
    · exact .inr fr6
  · show (upd B6 a _) p6 = _
    rw [upd_ne n6]
    exact e6 _ _ upd_same
  · simp only [DP.foot, List.nodup_cons, List.mem_cons, List.not_mem_nil, or_false, not_or, not_false_eq_true, List.nodup_nil, and_true]
    exact ⟨⟨Ne.symm n3, Ne.symm n4, Ne.symm n5, Ne.symm n6⟩, ⟨Ne.symm n43, Ne.symm n53, Ne.symm n63⟩, ⟨Ne.symm n54, Ne.symm n64⟩, Ne.symm n65⟩
  · have nH : ∀ y, H y = none → A0 y = none := fun y e => fresh_back s0 e
    simp only [DP.foot, List.mem_cons, List.not_mem_nil, or_false] at hx
    rcases hx with rfl | rfl | rfl | rfl | rfl
    · exact nA
    · exact nH _ fr3
    · exact nH _ fr4
    · exact nH _ fr5
    · exact nH _ fr6
/-! its clock, its row -/
def sp_clock (K : PySem.W.Frag) (C : Addr) : Sp := fun vs H Q _ => ∃ A p s, vs = [.ref p.a] ∧ DeskAt K C A H p s ∧ ∀ H', Ex H H' → Q (.int s.time) H'
theorem ok_clock (T : Tx K mg c) : MethOk P w K mg base (L2N.CX P w) 1 c.Desk "clock" ["self"] (sp_clock K c.Desk) := by
  obtain ⟨f, fd, d⟩ := T.m_Desk_clock
  refine d.ok (okN d.F sc_Desk_clock (fun vs H Q E h => ?_) fun cdv A outer s H vs Q E hr h => ?_)
  · obtain ⟨_, _, _, e, _⟩ := h
    rw [e]
    rfl
  obtain ⟨A0, p, st, rfl, hD, k⟩ := h
  have nd := sc_Desk_clock.nd
  refine ⟨_, (pss_one (ps_ret (pe_fld (pv 0) rfl))), ?_⟩
  try dsimp only [cx_K2]
  exact s_retV (ev_fld (ev_var rfl) hD.ia T.c_Desk T.na_Desk_time rfl) k
def sp_row (K : PySem.W.Frag) (C : Addr) : Sp := fun vs H Q _ => ∃ A p s, vs = [.ref p.a] ∧ DeskAt K C A H p s ∧ ∀ q H', H q = none → Ex H H' → H' q = some (.lst (s.row.map V.int)) → Q (.ref q) H'
theorem ok_row (T : Tx K mg c) : MethOk P w K mg base (L2N.CX P w) 1 c.Desk "handed" ["self"] (sp_row K c.Desk) := by
  obtain ⟨f, fd, d⟩ := T.m_Desk_handed
  refine d.ok (okN d.F sc_Desk_handed (fun vs H Q E h => ?_) fun cdv A outer s H vs Q E hr h => ?_)
  · obtain ⟨_, _, _, e, _⟩ := h
    rw [e]
    rfl
  obtain ⟨A0, p, st, rfl, hD, k⟩ := h
  have nd := sc_Desk_handed.nd
  refine ⟨_, (pss_one (ps_ret (pe_callTy (c_list (K := K) rfl) rfl T.mn_list (by decide +kernel) (pa_cons (pe_fld (pv 0) rfl) pa_nil)))), ?_⟩
  try dsimp only [cx_K2]
  have e : Ev (tFld K (tVar 0) "row") (L2.start ["self"] [V.ref p.a]) H (.ref p.r) := ev_fld (ev_var rfl) hD.ia T.c_Desk T.na_Desk_row rfl
  exact e H (Ex.refl _) _ fun B1 e1 => ⟨p.r, _, rfl, .inl (sq_of (e1 _ _ hD.ir)), fun q hq => k q _ (fresh_back e1 hq) (e1.trans (Ex.new hq)) upd_same⟩
/-! a letter is met -/
def DS.prop (s : DS) (l : Int) : DS := ⟨s.hand, s.time + 1, s.known ++ [l], putM s.marked l (s.time + 1, s.hand), s.done, s.row⟩
def sp_propose (K : PySem.W.Frag) (C Tw : Addr) : Sp := fun vs H Q E => ∃ A p s l, vs = [.ref p.a, .int l] ∧ Ex A H ∧ DeskAt K C A H p s ∧ s.known.length < 90000 ∧ s.marked.length < 90000 ∧
  (l ∉ s.known → ∀ v A' H', PrM (fun x => x ∈ p.foot) A H A' H' → DeskAt K C A' H' p (s.prop l) → Dp K A' v (mkD (s.time + 1, s.hand)) → Q v H') ∧ (l ∈ s.known → ∀ H', Ex H H' → E (.ref Tw) none H')
theorem ok_propose (T : Tx K mg c) : MethOk P w K mg base (L2N.CX P w) 1 c.Desk "propose" ["self", "letter"] (sp_propose K c.Desk c.Twice) := by
  obtain ⟨f, fd, d⟩ := T.m_Desk_propose
  refine d.ok (okN d.F sc_Desk_propose (fun vs H Q E h => ?_) fun cdv A outer s H vs Q E hr h => ?_)
  · obtain ⟨_, _, _, _, e, _⟩ := h
    rw [e]
    rfl
  obtain ⟨A0, p, st, l, rfl, s0, hD, hl1, hl2, k, kx⟩ := h
  have nd := sc_Desk_propose.nd
  refine ⟨_, (pss_cons (ps_if (pt_cmp (pc_din (hu_of hr) (pv 1) (pe_fld (pv 0) rfl))) (pss_one (ps_rs rfl (L2N.takes_of rfl rfl rfl rfl) T.x_Twice rfl)) pss_nil)
      (pss_cons (ps_dput (hu_of hr) (pe_fld (pv 0) rfl) (pv 1) pe_bl rfl)
      (pss_cons (ps_fld (pv 0) (pe_op op_add (pe_fld (pv 0) rfl) pe_int) rfl)
      (pss_cons (ps_dput (hu_of hr) (pe_fld (pv 0) rfl) (pv 1) (pe_tup (pa_cons (pe_fld (pv 0) rfl) (pa_cons (pe_fld (pv 0) rfl) pa_nil))) rfl)
      (pss_one (ps_ret (pe_dget (hu_of hr) (pe_fld (pv 0) rfl) (pv 1) (fun _ _ => rfl)))))))), ?_⟩
  try dsimp only [cx_K2]
  obtain ⟨ne1, ne2, ne3, ne4, ne5, ne6, ne7, ne8, ne9, ne10⟩ := hD.ne
  have f1 : p.a ∈ p.foot := by simp [DP.foot]
  have f2 : p.k ∈ p.foot := by simp [DP.foot]
  have f3 : p.m ∈ p.foot := by simp [DP.foot]
  have hself : ∀ B fs, B p.a = some (.ins c.Desk p.dx fs) → ∀ (f : Str) (v : V), NoAttr K c.Desk f → fs.lookup f = some v → Ev (tFld K (tVar 0) f) (L2.start ["self", "letter"] [V.ref p.a, V.int l]) B v := fun B fs hB f v na hv => ev_fld (ev_var rfl) hB T.c_Desk na hv
  refine q_ifM K (b := decide (l ∈ st.known)) (eb_DB (ed_din (ed_var rfl (.int l)) (hself H _ hD.ia "known" _ T.na_Desk_known rfl) (.inl hD.ik))) (flags_val _ _) (fun hb B1 e1 => ?_) (fun hb B1 e1 => q_next ?_)
  · exact kx (of_decide_eq_true hb) B1 e1
  have hk := of_decide_eq_false hb
  have P1 : PrM (fun x => x ∈ p.foot) A0 H A0 B1 := (PrM.refl s0).up e1
  have D1 := hD.up s0 e1
  refine q_do (s_dput K P1.s (ep_ed ed_bl) (hself B1 _ D1.ia "known" _ T.na_Desk_known rfl) (ed_var rfl (.int l)) D1.ik (by rw [flags, List.length_map]; omega) fun v2 A2 B2 Q2 hv2 => go_nx ?_)
  cases hv2
  rw [flags_put hk]
  have P2 := (P1.pr Q2).put (l := p.k) (o := .dK (flags (st.known ++ [l]))) (.inl f2) ((D1.pr Q2).na _ f2)
  have D2 := D1.pr Q2
  generalize hH2 : upd B2 p.k (.dK (flags (st.known ++ [l]))) = H2 at P2 ⊢
  have i2 : H2 p.a = some (.ins c.Desk p.dx (deskFs p st)) := by rw [← hH2, upd_ne ne1]; exact D2.ia
  have k2 : H2 p.k = some (.dK (flags (st.known ++ [l]))) := by rw [← hH2]; exact upd_same
  obtain ⟨kvs, m2', hm2⟩ := D2.im
  have m2 : H2 p.m = some (.dK kvs) := by rw [← hH2, upd_ne (Ne.symm ne5)]; exact m2'
  have d2 : H2 p.d = some (.dK (flags st.done)) := by rw [← hH2, upd_ne (Ne.symm ne6)]; exact D2.id
  have r2 : H2 p.r = some (.lst (st.row.map V.int)) := by rw [← hH2, upd_ne (Ne.symm ne7)]; exact D2.ir
  refine q_do (s_fldV K (v := .int (st.time + 1)) (v_int (K := K) (ed_Ii (ed_ev (hself H2 _ i2 "time" _ T.na_Desk_time rfl) (.int _)) ed_int)) (ev_var rfl) i2 T.c_Desk T.na_Desk_time (by show 6 < 1000; decide) fun B3 e3 => go_nx ?_)
  have P3 := (P2.up e3).put (l := p.a) (o := .ins c.Desk p.dx (deskFs p { st with time := st.time + 1 })) (.inl f1) (D2.na _ f1)
  have hpf : putF "time" (V.int (st.time + 1)) (deskFs p st) = deskFs p { st with time := st.time + 1 } := rfl
  rw [hpf]
  generalize hH3 : upd B3 p.a (.ins c.Desk p.dx (deskFs p { st with time := st.time + 1 })) = H3 at P3 ⊢
  have i3 : H3 p.a = some (.ins c.Desk p.dx (deskFs p { st with time := st.time + 1 })) := by rw [← hH3]; exact upd_same
  have up3 : ∀ x u, x ≠ p.a → H2 x = some u → H3 x = some u := fun x u n e => by rw [← hH3, upd_ne n]; exact e3 _ _ e
  have k3 := up3 _ _ (Ne.symm ne1) k2
  have m3 := up3 _ _ (Ne.symm ne2) m2
  have d3 := up3 _ _ (Ne.symm ne3) d2
  have r3 := up3 _ _ (Ne.symm ne4) r2
  refine q_do (s_dput K P3.s (ep_tup (epa_cons (ep_i (ed_ev (hself H3 _ i3 "time" _ T.na_Desk_time rfl) (.int _))) (epa_cons (ep_i (ed_ev (hself H3 _ i3 "hand" _ T.na_Desk_hand rfl) (.int _))) epa_nil)) (by show 2 ≤ 100000; decide)) (hself H3 _ i3 "marked" _ T.na_Desk_marked rfl) (ed_var rfl (.int l)) m3 (by rw [hm2.len]; omega) fun v4 A4 B4 Q4 hv4 => go_nx ?_)
  have nm : A4 p.m = none := Q4.n _ (D2.na _ f3) (by rw [m3]; simp)
  have P4 := (P3.pr Q4).put (l := p.m) (o := .dK (putK kvs (.inl l) v4)) (.inl f3) nm
  have hm4 := (hm2.mono Q4.a).put (i := l) (m := (st.time + 1, st.hand)) hv4
  generalize hH4 : upd B4 p.m (.dK (putK kvs (.inl l) v4)) = H4 at P4 ⊢
  have m4 : H4 p.m = some (.dK (putK kvs (.inl l) v4)) := by rw [← hH4]; exact upd_same
  have up4 : ∀ x u, x ≠ p.m → H3 x = some u → H4 x = some u := fun x u n e => by rw [← hH4, upd_ne n]; exact Q4.b _ _ e
  have i4 := up4 _ _ ne2 i3
  have D4 : DeskAt K c.Desk A4 H4 p (st.prop l) := ⟨i4, up4 _ _ ne5 k3, ⟨_, m4, hm4⟩, up4 _ _ (Ne.symm ne8) d3, up4 _ _ (Ne.symm ne9) r3, hD.nd, fun x hx => Q4.n x (D2.na x hx) (P3.f x (by
    simp only [DP.foot, List.mem_cons, List.not_mem_nil, or_false] at hx
    obtain ⟨kv0, e0, _⟩ := hD.im
    rcases hx with rfl | rfl | rfl | rfl | rfl
    · rw [hD.ia]; simp
    · rw [hD.ik]; simp
    · rw [e0]; simp
    · rw [hD.id]; simp
    · rw [hD.ir]; simp))⟩
  have hlk : lkM (putM st.marked l (st.time + 1, st.hand)) l = some (st.time + 1, st.hand) := lk_put _ _ _
  obtain ⟨v5, hv5, hd5⟩ := hm4.lk hlk
  refine s_retV (ev_dget (K := K) (hself H4 _ i4 "marked" _ T.na_Desk_marked rfl) (.inl m4) (ed_var rfl (.int l)) hv5) fun B5 e5 => ?_
  exact k hk v5 A4 B5 (P4.up e5) (D4.up P4.s e5) hd5
end

end K8

namespace K8
open PySem L2 Evl Ob

local macro_rules | `(tactic| tm_at "sh") => `(tactic| first | exact sh_mk | exact sh_mks | exact sh_b3)

/-! ## those that wait, the least mark first -/
/-- the least of some letters by their marks, the first of like ones -/
def bestF (mk : Int → Mk) : Int → List Int → Int
  | b, [] => b
  | b, x :: r => bestF mk (if mless (mk x) (mk b) = true then x else b) r
def bestL (mk : Int → Mk) (l : List Int) : Int := bestF mk (l.headD 0) l
theorem bestF_mem (mk : Int → Mk) : ∀ (l : List Int) (b : Int), bestF mk b l = b ∨ bestF mk b l ∈ l
  | [], _ => .inl rfl
  | x :: r, b => by
    unfold bestF
    by_cases h : mless (mk x) (mk b) = true
    · rw [if_pos h]
      rcases bestF_mem mk r x with e | e
      · rw [e]; exact .inr (by simp)
      · exact .inr (List.mem_cons_of_mem _ e)
    · rw [if_neg h]
      rcases bestF_mem mk r b with e | e
      · exact .inl e
      · exact .inr (List.mem_cons_of_mem _ e)
theorem bestL_mem {mk : Int → Mk} {l : List Int} (h : l ≠ []) : bestL mk l ∈ l := by
  cases l with
  | nil => exact absurd rfl h
  | cons x r =>
    rcases bestF_mem mk (x :: r) x with e | e
    · unfold bestL
      show bestF mk x (x :: r) ∈ _
      rw [e]
      simp
    · exact e
theorem bestF_take (mk : Int → Mk) : ∀ (l : List Int) (b : Int) (i : Nat) (x : Int), l[i]? = some x → bestF mk b (l.take (i + 1)) = (if mless (mk x) (mk (bestF mk b (l.take i))) = true then x else bestF mk b (l.take i))
  | [], _, _, _, h => by simp at h
  | y :: r, b, 0, x, h => by
    simp at h
    subst h
    rfl
  | y :: r, b, i + 1, x, h => bestF_take mk r _ i x (by simpa using h)
/-- the letters by their marks; n: at most so many -/
def orderL (mk : Int → Mk) : Nat → List Int → List Int
  | 0, _ => []
  | n + 1, l => if l = [] then [] else bestL mk l :: orderL mk n (l.erase (bestL mk l))
theorem orderL_succ (mk : Int → Mk) (n : Nat) (l : List Int) : orderL mk (n + 1) l = if l = [] then [] else bestL mk l :: orderL mk n (l.erase (bestL mk l)) := rfl
def mkOf (s : DS) (i : Int) : Mk := (lkM s.marked i).getD (0, 0)
def DS.keys (s : DS) : List Int := s.marked.map (·.1)
def waitD (s : DS) (i : Int) : D := .tuple [mkD (mkOf s i), .int i, .bool (decide (i ∈ s.done))]
def DS.wait (s : DS) : List D := (orderL (mkOf s) s.marked.length s.keys).map (waitD s)
theorem lk_mem {i : Int} : ∀ {l : List (Int × Mk)}, i ∈ l.map (·.1) → ∃ m, lkM l i = some m
  | [], h => by simp at h
  | e :: r, h => by
    by_cases z : e.1 = i
    · exact ⟨e.2, by simp [lkM, List.find?_cons, z]⟩
    · have : i ∈ r.map (·.1) := by
        rw [List.map_cons, List.mem_cons] at h
        exact h.elim (fun q => absurd q.symm z) id
      obtain ⟨m, hm⟩ := lk_mem this
      exact ⟨m, by simpa [lkM, List.find?_cons, z] using hm⟩
theorem first_ix {α : Type} [DecidableEq α] : ∀ {l : List α} {x : α}, x ∈ l → ∃ j, l[j]? = some x ∧ (∀ m, m < j → l[m]? ≠ some x) ∧ l.eraseIdx j = l.erase x
  | [], _, h => by simp at h
  | y :: r, x, h => by
    by_cases e : y = x
    · subst e
      exact ⟨0, rfl, fun m hm => absurd hm (Nat.not_lt_zero m), by simp⟩
    · have hr : x ∈ r := (List.mem_cons.mp h).elim (fun q => absurd q.symm e) id
      obtain ⟨j, h1, h2, h3⟩ := first_ix hr
      refine ⟨j + 1, by simpa using h1, fun m hm => ?_, ?_⟩
      · cases m with
        | zero => simpa using e
        | succ m => simpa using h2 m (by omega)
      · rw [List.eraseIdx_cons_succ, h3, List.erase_cons_tail (by simpa using e)]

/-! ## the first of those that wait -/
def firstF (mk : Int → Mk) : Option Int → List Int → Option Int
  | b, [] => b
  | none, x :: r => firstF mk (some x) r
  | some b, x :: r => firstF mk (some (if mless (mk x) (mk b) = true then x else b)) r
def DS.first (s : DS) : Option Int := firstF (mkOf s) none s.keys
def optV : Option Int → V
  | none => .non
  | some i => .int i
def optD : Option Int → D
  | none => .none
  | some i => .int i
theorem dp_opt {K : PySem.W.Frag} {A : Hp} (o : Option Int) : Dp K A (optV o) (optD o) := by
  cases o with
  | none => exact .non
  | some i => exact .int i
theorem firstF_mem (mk : Int → Mk) : ∀ (l : List Int) (b : Option Int) (x : Int), firstF mk b l = some x → b = some x ∨ x ∈ l
  | [], b, x, h => .inl h
  | y :: r, none, x, h => by
    rcases firstF_mem mk r (some y) x h with e | e
    · cases e; exact .inr (by simp)
    · exact .inr (List.mem_cons_of_mem _ e)
  | y :: r, some b, x, h => by
    rcases firstF_mem mk r _ x h with e | e
    · cases e
      split
      · exact .inr (by simp)
      · exact .inl rfl
    · exact .inr (List.mem_cons_of_mem _ e)
theorem firstF_take (mk : Int → Mk) : ∀ (l : List Int) (b : Option Int) (i : Nat) (x : Int), l[i]? = some x → firstF mk b (l.take (i + 1)) = some (match firstF mk b (l.take i) with
    | none => x
    | some c => if mless (mk x) (mk c) = true then x else c)
  | [], _, _, _, h => by simp at h
  | y :: r, b, 0, x, h => by
    simp at h
    subst h
    cases b <;> rfl
  | y :: r, none, i + 1, x, h => firstF_take mk r (some y) i x (by simpa using h)
  | y :: r, some b, i + 1, x, h => firstF_take mk r _ i x (by simpa using h)
section
variable {P : Program} {w : World} {K : PySem.W.Frag} {mg : Str → Option Value} {base : Heap} {c : Cs}
def sp_first (K : PySem.W.Frag) (C : Addr) : Sp := fun vs H Q _ => ∃ A p s, vs = [.ref p.a] ∧ Ex A H ∧ DeskAt K C A H p s ∧ ∀ H', Ex H H' → Q (optV s.first) H'
theorem ok_first (T : Tx K mg c) : MethOk P w K mg base (L2N.CX P w) 2 c.Desk "first" ["self"] (sp_first K c.Desk) := by
  obtain ⟨f, fd, d⟩ := T.m_Desk_first
  refine d.ok (okN d.F sc_Desk_first (fun vs H Q E h => ?_) fun cdv A outer s H vs Q E hr h => ?_)
  · obtain ⟨_, _, _, e, _⟩ := h
    rw [e]
    rfl
  obtain ⟨A0, p, st, rfl, s0, hD, k⟩ := h
  have nd := sc_Desk_first.nd
  have G_less := ok_less (P := P) (w := w) (base := base) T
  refine ⟨_, (pss_cons (ps_set (i := 1) nd rfl (Or.inl rfl) pe_non)
      (pss_cons (ps_lock (ps_for (passes_of rfl) rfl (pi_keys (pe_fld (pv 0) rfl)) (pg_name (i := 2) nd rfl (Or.inl rfl)) (pss_one (ps_if (PW.pt (pw_or (pt_cmpR op_isN1 (pv 1) pe_non (nomark _)) (pw_or1 (pt_val (pe_cd G_less (hr.mono (by decide)) rfl pass0 (pa_cons (pe_dget (hu_of hr) (pe_fld (pv 0) rfl) (pv 2) (fun _ _ => rfl)) (pa_cons (pe_dget (hu_of hr) (pe_fld (pv 0) rfl) (pv 1) (fun _ _ => rfl)) pa_nil))))))) (pss_one (ps_set (i := 1) nd rfl (Or.inl rfl) (pv 2))) pss_nil))))
      (pss_one (ps_ret (pv 1))))), ?_⟩
  try dsimp only [cx_K2]
  obtain ⟨ne1, ne2, ne3, ne4, ne5, ne6, ne7, ne8, ne9, ne10⟩ := hD.ne
  obtain ⟨kvs, hm, hmk⟩ := hD.im
  have hkl : kvs.length = st.keys.length := by unfold DS.keys; rw [List.length_map]; exact hmk.len
  have hkey : ∀ (i : Nat) kv, kvs[i]? = some kv → ∃ x, kV kv.1 = .int x ∧ st.keys[i]? = some x := fun i kv e => by
    have h2 : (kvs.map fun kv => kV kv.1)[i]? = some (kV kv.1) := by rw [List.getElem?_map, e]; rfl
    rw [hmk.keys, List.getElem?_map] at h2
    obtain ⟨x, h3, h4⟩ := Option.map_eq_some_iff.mp h2
    exact ⟨x, h4.symm, h3⟩
  refine q_asgV ev_c fun B1 e1 => ?_
  have hm1 := e1 _ _ hm
  have ha1 := e1 _ _ hD.ia
  refine q_do (s_forK (fun H' up => ev_fld (ev_var rfl) (up _ _ ne2 ha1) T.c_Desk T.na_Desk_marked rfl) hm1 (fun i σ' => ∃ w2, σ' = [some (.ref p.a), some (optV (firstF (mkOf st) none (st.keys.take i))), w2]) ⟨none, rfl⟩ ?_ ?_)
  · rintro i kv σ' B2 hkv rd up ⟨w2, rfl⟩ N hN Dn hDn
    obtain ⟨x, hx, hxi⟩ := hkey i kv hkv
    rw [hx]
    have step := firstF_take (mkOf st) st.keys none i x hxi
    have ha2 := up _ _ ne2 ha1
    have sA : ∀ y u, A0 y = some u → B2 y = some u := fun y u e => up y u (fun z => by rw [z, hD.na p.m (by simp [DP.foot])] at e; cases e) (e1 _ _ (s0 _ _ e))
    have mark : ∀ (σ : L2.St) (ti : TE) (j : Int), σ[0]? = some (some (.ref p.a)) → EvD K ti σ B2 (.int j) → j ∈ st.keys → EvD K (tDGet (tFld K (tVar 0) "marked") ti) σ B2 (mkD (mkOf st j)) := fun σ ti j hσ hj hin => by
      obtain ⟨m, hm'⟩ := lk_mem hin
      obtain ⟨v, g1, g2⟩ := hmk.lk hm'
      refine ed_v (ev_dget (K := K) (ev_fld (ev_var hσ) ha2 T.c_Desk T.na_Desk_marked rfl) rd hj g1) (dp_ex sA ?_)
      unfold mkOf
      rw [hm']
      exact g2
    have hxin : x ∈ st.keys := List.mem_of_getElem? hxi
    cases hf : firstF (mkOf st) none (st.keys.take i) with
    | none =>
      rw [hf] at step
      refine s_ifM K (b := true) (eb_or (a := true) (b := true) (eb_is (eb_D (ed_isN (ed_var rfl .non))) rfl) fun z => by cases z) rfl (fun _ B3 e3 => ?_) (fun z => by cases z)
      refine s_asgV (ev_var rfl) fun B4 e4 => ?_
      rw [hDn]
      exact hN _ _ (e3.trans e4) ⟨some (.int x), by rw [step]; rfl⟩
    | some y =>
      rw [hf] at step
      have hyin : y ∈ st.keys := (firstF_mem (mkOf st) _ none y hf).elim (fun z => by cases z) fun z => List.mem_of_mem_take z
      refine s_ifM K (b := mless (mkOf st x) (mkOf st y)) (eb_or (a := false) (b := mless (mkOf st x) (mkOf st y)) (eb_is (eb_D (ed_isN (ed_var rfl (.int y)))) rfl) fun _ => eb_DB (ed_call (ea_consD (mark _ _ x rfl (ed_var rfl (.int x)) hxin) (ea_consD (mark _ _ y rfl (ed_var rfl (.int y)) hyin) ea_nilD)) (at_less _ _))) (by simp) (fun hb B3 e3 => ?_) (fun hb B3 e3 => ?_)
      · refine s_asgV (ev_var rfl) fun B4 e4 => ?_
        rw [hDn]
        refine hN _ _ (e3.trans e4) ⟨some (.int x), ?_⟩
        rw [step]
        simp only [hb, if_true]
        rfl
      · show Dn.nx _ _
        rw [hDn]
        refine hN _ _ e3 ⟨some (.int x), ?_⟩
        rw [step]
        simp only [hb, Bool.false_eq_true, if_false]
        rfl
  · rintro σ' B2 e2 ⟨w2, rfl⟩
    rw [hkl, List.take_length]
    exact go_nx (s_retV (ev_var rfl) fun B3 e3 => k B3 (e1.trans (e2.trans e3)))
end

/-! ## handing over -/
theorem firstF_nil {mk : Int → Mk} : firstF mk none [] = none := rfl
theorem DeskAt.alive {K : PySem.W.Frag} {C : Addr} {A B : Hp} {p : DP} {s : DS} (D : DeskAt K C A B p s) : ∀ x ∈ p.foot, B x ≠ none := fun x hx => by
  simp only [DP.foot, List.mem_cons, List.not_mem_nil, or_false] at hx
  obtain ⟨kv0, e0, _⟩ := D.im
  rcases hx with rfl | rfl | rfl | rfl | rfl
  · rw [D.ia]; simp
  · rw [D.ik]; simp
  · rw [e0]; simp
  · rw [D.id]; simp
  · rw [D.ir]; simp
def DS.hand1 (s : DS) (l : Int) : DS := ⟨s.hand, s.time, s.known, dropM s.marked l, s.done, s.row ++ [l]⟩
def DS.over : Nat → DS → DS × List Int
  | 0, s => (s, [])
  | n + 1, s => match s.first with
    | none => (s, [])
    | some l => if l ∈ s.done then ((DS.over n (s.hand1 l)).1, l :: (DS.over n (s.hand1 l)).2) else (s, [])
def DS.run (s : DS) : DS × List Int := DS.over s.marked.length s
theorem DS.first_mem {s : DS} {l : Int} (h : s.first = some l) : l ∈ s.keys := (firstF_mem _ _ _ _ h).elim (fun z => by cases z) id
theorem drop_lt {m : List (Int × Mk)} {l : Int} (h : l ∈ m.map (·.1)) : (dropM m l).length < m.length := by
  unfold dropM
  rw [List.length_filter_lt_length_iff_exists]
  obtain ⟨e, he, hl⟩ := List.mem_map.mp h
  exact ⟨e, he, by simp [hl]⟩
theorem DS.first_none {s : DS} (h : s.marked.length = 0) : s.first = none := by
  unfold DS.first DS.keys
  rw [List.length_eq_zero_iff.mp h]
  rfl
theorem DS.over_fuel : ∀ (n m : Nat) (s : DS), s.marked.length ≤ n → s.marked.length ≤ m → DS.over n s = DS.over m s
  | 0, 0, _, _, _ => rfl
  | 0, m + 1, s, h, _ => by
    unfold DS.over
    rw [DS.first_none (by omega)]
  | n + 1, 0, s, _, h => by
    unfold DS.over
    rw [DS.first_none (by omega)]
  | n + 1, m + 1, s, h1, h2 => by
    unfold DS.over
    cases e : s.first with
    | none => rfl
    | some l =>
      have hl : (s.hand1 l).marked.length < s.marked.length := drop_lt (DS.first_mem e)
      dsimp only
      rw [DS.over_fuel n m (s.hand1 l) (by omega) (by omega)]
theorem DS.run_none {s : DS} (h : s.first = none) : s.run = (s, []) := by
  unfold DS.run
  cases e : s.marked.length with
  | zero => rfl
  | succ n => unfold DS.over; rw [h]
theorem DS.run_stop {s : DS} {l : Int} (h : s.first = some l) (hd : l ∉ s.done) : s.run = (s, []) := by
  unfold DS.run
  cases e : s.marked.length with
  | zero => rfl
  | succ n =>
    unfold DS.over
    rw [h]
    dsimp only
    rw [if_neg hd]
theorem DS.run_go {s : DS} {l : Int} (h : s.first = some l) (hd : l ∈ s.done) : s.run = ((s.hand1 l).run.1, l :: (s.hand1 l).run.2) := by
  have hl : (s.hand1 l).marked.length < s.marked.length := drop_lt (DS.first_mem h)
  unfold DS.run
  cases e : s.marked.length with
  | zero => omega
  | succ n =>
    rw [show DS.over (n + 1) s = (match s.first with
      | none => (s, [])
      | some l => if l ∈ s.done then ((DS.over n (s.hand1 l)).1, l :: (DS.over n (s.hand1 l)).2) else (s, [])) from rfl, h]
    dsimp only
    rw [if_pos hd, DS.over_fuel n (s.hand1 l).marked.length _ (by omega) (Nat.le_refl _)]
section
variable {P : Program} {w : World} {K : PySem.W.Frag} {mg : Str → Option Value} {base : Heap} {c : Cs}
def sp_over (K : PySem.W.Frag) (C : Addr) : Sp := fun vs H Q _ => ∃ A p s, vs = [.ref p.a] ∧ Ex A H ∧ DeskAt K C A H p s ∧ s.row.length + s.marked.length < 90000 ∧
  ∀ q A' H', H q = none → PrM (fun x => x ∈ p.foot) A H A' H' → DeskAt K C A' H' p s.run.1 → A' q = none → H' q = some (.lst (s.run.2.map V.int)) → Q (.ref q) H'
theorem ok_over (T : Tx K mg c) : MethOk P w K mg base (L2N.CX P w) 3 c.Desk "hand_over" ["self"] (sp_over K c.Desk) := by
  obtain ⟨f, fd, d⟩ := T.m_Desk_hand_over
  refine d.ok (okN d.F sc_Desk_hand_over (fun vs H Q E h => ?_) fun cdv A outer s H vs Q E hr h => ?_)
  · obtain ⟨_, _, _, e, _⟩ := h
    rw [e]
    rfl
  obtain ⟨A0, p, st, rfl, s0, hD, hl, k⟩ := h
  have nd := sc_Desk_hand_over.nd
  have MT_Desk_first := ok_first (P := P) (w := w) (base := base) T
  refine ⟨_, (pss_cons (ps_set (i := 1) nd rfl (Or.inl rfl) (pe_lst pa_nil))
      (pss_cons (ps_set (i := 2) nd rfl (Or.inl rfl) (pe_md0 (pv 0) T.c_Desk MT_Desk_first (hr.mono (by decide)) passN))
      (pss_cons (ps_while (passes_of rfl) (PW.pt (pw_and (pt_cmpR op_notN1 (pv 2) pe_non (nomark _)) (pw_and1 (pt_cmp (pc_din (hu_of hr) (pv 2) (pe_fld (pv 0) rfl)))))) (pss_cons (ps_expr (pe_dpop1 (pe_fld (pv 0) rfl) (pv 2) ⟨rfl, rfl, rfl, rfl⟩))
        (pss_cons (ps_expr (pe_bm PySem.F.plainAttrs_list PySem.F.slot_list_append PySem.F.type_list_append mt_append (pe_fld (pv 0) rfl) (pa_cons (pv 2) pa_nil)))
        (pss_cons (ps_expr (pe_bm PySem.F.plainAttrs_list PySem.F.slot_list_append PySem.F.type_list_append mt_append (pv 1) (pa_cons (pv 2) pa_nil)))
        (pss_one (ps_set (i := 2) nd rfl (Or.inl rfl) (pe_md0 (pv 0) T.c_Desk MT_Desk_first (hr.mono (by decide)) passN)))))))
      (pss_one (ps_ret (pv 1)))))), ?_⟩
  try dsimp only [cx_K2]
  obtain ⟨ne1, ne2, ne3, ne4, ne5, ne6, ne7, ne8, ne9, ne10⟩ := hD.ne
  have f3 : p.m ∈ p.foot := by simp [DP.foot]
  have f5 : p.r ∈ p.foot := by simp [DP.foot]
  refine q_asgL fun q1 hq1 => ?_
  have nq : ∀ x ∈ p.foot, x ≠ q1 := fun x hx z => hD.alive x hx (z ▸ hq1)
  have P1 : PrM (fun x => x ∈ p.foot) A0 H A0 (upd H q1 (.lst [])) := (PrM.refl s0).new hq1
  have D1 : DeskAt K c.Desk A0 (upd H q1 (.lst [])) p st := hD.up s0 (Ex.new hq1)
  refine q_do (m_call (K := K) (A := A0) (ds := []) P1.s (ev_var rfl) D1.ia rfl epa_nil fun vs A2 B2 P2 hv => ?_)
  cases hv
  refine ⟨A2, p, st, rfl, P2.s, D1.pr P2, fun B3 e3 => go_nx ?_⟩
  let J : Nat → L2.St → Hp → Prop := fun n σ B => ∃ (st' : DS) (gone : List Int) (A' : Hp), σ = [some (.ref p.a), some (.ref q1), some (optV st'.first)] ∧ st'.marked.length = n ∧ st.run = (st'.run.1, gone ++ st'.run.2) ∧ st'.row.length + n < 90000 ∧ gone.length + n ≤ st.marked.length ∧
    PrM (fun x => x ∈ p.foot) A0 H A' B ∧ DeskAt K c.Desk A' B p st' ∧ A' q1 = none ∧ B q1 = some (.lst (gone.map V.int))
  have hq12 : A2 q1 = none := P2.n _ (fresh_back s0 hq1) (by rw [upd_same]; simp)
  refine ⟨J, ⟨st.marked.length, st, [], A2, rfl, rfl, ?_, by omega, by simp, (P1.pr P2).up e3, (D1.pr P2).up P2.s e3, hq12, e3 _ _ (P2.b _ _ upd_same)⟩, ?_⟩
  · rw [List.nil_append]
  rintro n σ B ⟨st', gone, A', rfl, hn, hrun, hr1, hg, PB, DB, nq1, b1⟩
  have hself : ∀ B' (σ : L2.St), Ex B B' → σ[0]? = some (some (.ref p.a)) → ∀ (f : Str) (v : V), NoAttr K c.Desk f → (deskFs p st').lookup f = some v → Ev (tFld K (tVar 0) f) σ B' v := fun B' σ e hσ f v na hv => ev_fld (ev_var hσ) (e _ _ DB.ia) T.c_Desk na hv
  cases hf : st'.first with
  | none =>
    refine (eb_is (eb_and (a := false) (b := false) (eb_is (eb_D (ed_notN (ed_var rfl .non))) rfl) fun z => by cases z) rfl : EvB K _ _ B false) B (Ex.refl _) _ fun B3 e3 => iteF ?_
    refine s_retV (ev_var rfl) fun B4 e4 => ?_
    rw [DS.run_none hf, List.append_nil] at hrun
    exact k q1 A' B4 hq1 (PB.up (e3.trans e4)) (by rw [hrun]; exact DB.up PB.s (e3.trans e4)) nq1 (by rw [hrun]; exact (e3.trans e4) _ _ b1)
  | some l =>
    refine (eb_is (eb_and (a := true) (b := decide (l ∈ st'.done)) (eb_is (eb_D (ed_notN (ed_var rfl (.int l)))) rfl) fun _ => eb_is (eb_DB (ed_din (ed_var rfl (.int l)) (hself B _ (Ex.refl _) rfl "done" _ T.na_Desk_done rfl) (.inl DB.id))) (flags_val _ _)) rfl : EvB K _ _ B (decide (l ∈ st'.done))) B (Ex.refl _) _ fun B3 e3 => ?_
    by_cases hd : l ∈ st'.done
    · rw [decide_eq_true hd]
      refine iteT ⟨fun σ' B' => ∃ m', m' < n ∧ J m' σ' B', fun σ' B' h => h, ?_⟩
      have hlt : (st'.hand1 l).marked.length < st'.marked.length := drop_lt (DS.first_mem hf)
      have PB3 := PB.up e3
      have D3 := DB.up PB.s e3
      obtain ⟨kvs, hm, hmk⟩ := D3.im
      obtain ⟨mk, hmk'⟩ := lk_mem (DS.first_mem hf)
      obtain ⟨v, hv1, hv2⟩ := hmk.lk hmk'
      refine q_do (s_dpop K (hself B3 _ e3 rfl "marked" _ T.na_Desk_marked rfl) (ed_var rfl (.int l)) hm hv1 fun B4 e4 => go_nx ?_)
      have P4 := (PB3.up e4).put (l := p.m) (o := .dK (dropK kvs (.inl l))) (.inl f3) (D3.na _ f3)
      have nm : ∀ x, x ≠ p.m → ∀ u, B3 x = some u → (upd B4 p.m (.dK (dropK kvs (.inl l)))) x = some u := fun x n u e => by rw [upd_ne n]; exact e4 _ _ e
      have m4 : (upd B4 p.m (.dK (dropK kvs (.inl l)))) p.m = some (.dK (dropK kvs (.inl l))) := upd_same
      generalize upd B4 p.m (.dK (dropK kvs (.inl l))) = C4 at P4 nm m4 ⊢
      have a4 := nm _ ne2 _ D3.ia
      have k4 := nm _ ne5 _ D3.ik
      have d4 := nm _ (Ne.symm ne8) _ D3.id
      have r4 := nm _ (Ne.symm ne9) _ D3.ir
      have q4 := nm _ (Ne.symm (nq _ f3)) _ (e3 _ _ b1)
      refine q_do (s_app K (d := .int l) P4.s (ev_fld (ev_var rfl) a4 T.c_Desk T.na_Desk_row rfl) (ep_v (ev_var rfl) (.int l)) r4 (by rw [List.length_map]; omega) fun v5 A5 B5 P5 hv5 => go_nx ?_)
      cases hv5
      have hrr : st'.row.map V.int ++ [V.int l] = (st'.hand1 l).row.map V.int := by
        show _ = (st'.row ++ [l]).map V.int
        rw [List.map_append]; rfl
      rw [hrr]
      have P6 := (P4.pr P5).put (l := p.r) (o := .lst ((st'.hand1 l).row.map V.int)) (.inl f5) (P5.n _ (D3.na _ f5) (by rw [r4]; simp))
      have nr : ∀ x, x ≠ p.r → ∀ u, C4 x = some u → (upd B5 p.r (.lst ((st'.hand1 l).row.map V.int))) x = some u := fun x n u e => by rw [upd_ne n]; exact P5.b _ _ e
      have r6 : (upd B5 p.r (.lst ((st'.hand1 l).row.map V.int))) p.r = some (.lst ((st'.hand1 l).row.map V.int)) := upd_same
      generalize upd B5 p.r (.lst ((st'.hand1 l).row.map V.int)) = C6 at P6 nr r6 ⊢
      have D6 : DeskAt K c.Desk A5 C6 p (st'.hand1 l) := ⟨nr _ ne4 _ a4, nr _ ne7 _ k4, ⟨_, nr _ ne9 _ m4, (hmk.mono P5.a).drop⟩, nr _ ne10 _ d4, r6, hD.nd, fun x hx => P6.n x (hD.na x hx) (hD.alive x hx)⟩
      have q6 := nr _ (Ne.symm (nq _ f5)) _ q4
      refine q_do (s_app K (d := .int l) P6.s (ev_var rfl) (ep_v (ev_var rfl) (.int l)) q6 (by rw [List.length_map]; omega) fun v7 A7 B7 P7 hv7 => go_nx ?_)
      cases hv7
      have hgg : gone.map V.int ++ [V.int l] = (gone ++ [l]).map V.int := by rw [List.map_append]; rfl
      rw [hgg]
      have nq7 : A7 q1 = none := P7.n _ (P5.n _ nq1 (by rw [q4]; simp)) (by rw [q6]; simp)
      have PQ := ((PrM.refl (F := fun x => x = q1) P6.s).pr P7).put (l := q1) (o := .lst ((gone ++ [l]).map V.int)) (.inl rfl) nq7
      have P8 := (P6.pr P7).put (l := q1) (o := .lst ((gone ++ [l]).map V.int)) (.inr hq1) nq7
      have D8 := D6.mono PQ fun x hx z => nq x hx z
      have q8 : (upd B7 q1 (.lst ((gone ++ [l]).map V.int))) q1 = some (.lst ((gone ++ [l]).map V.int)) := upd_same
      generalize upd B7 q1 (.lst ((gone ++ [l]).map V.int)) = C8 at P8 PQ D8 q8 ⊢
      refine m_call (K := K) (A := A7) (ds := []) P8.s (ev_var rfl) D8.ia rfl epa_nil fun vs A9 B9 P9 hv => ?_
      cases hv
      refine ⟨A9, p, st'.hand1 l, rfl, P9.s, D8.pr P9, fun B10 e10 => ⟨(st'.hand1 l).marked.length, by omega, st'.hand1 l, gone ++ [l], A9, rfl, rfl, ?_, ?_, ?_, (P8.pr P9).up e10, (D8.pr P9).up P9.s e10, P9.n _ nq7 (by rw [q8]; simp), e10 _ _ (P9.b _ _ q8)⟩⟩
      · rw [hrun, DS.run_go hf hd]
        simp
      · show (st'.row ++ [l]).length + _ < 90000
        rw [List.length_append, List.length_singleton]
        omega
      · rw [List.length_append, List.length_singleton]
        omega
    · rw [decide_eq_false hd]
      refine iteF (s_retV (ev_var rfl) fun B4 e4 => ?_)
      rw [DS.run_stop hf hd, List.append_nil] at hrun
      exact k q1 A' B4 hq1 (PB.up (e3.trans e4)) (by rw [hrun]; exact DB.up PB.s (e3.trans e4)) nq1 (by rw [hrun]; exact (e3.trans e4) _ _ b1)
end

/-! ## settling -/
def DS.set1 (s : DS) (l : Int) (m : Mk) : DS := ⟨s.hand, if m.1 > s.time then m.1 else s.time, s.known, putM s.marked l m, s.done ++ [l], s.row⟩
theorem lk_some (l : List (Int × Mk)) (i : Int) : (lkM l i).isSome = decide (i ∈ l.map (·.1)) := by
  by_cases h : i ∈ l.map (·.1)
  · obtain ⟨m, e⟩ := lk_mem h
    rw [e, decide_eq_true h]
    rfl
  · rw [decide_eq_false h]
    cases e : l.find? fun e => decide (e.1 = i) with
    | none => simp [lkM, e]
    | some x => exact absurd (List.mem_map.mpr ⟨x, List.mem_of_find?_eq_some e, of_decide_eq_true (List.find?_some (p := fun e : Int × Mk => decide (e.1 = i)) e)⟩) h
theorem put_in {l : List (Int × Mk)} {i : Int} {m : Mk} (h : i ∈ l.map (·.1)) : putM l i m = l.map fun e => if e.1 = i then (e.1, m) else e := by
  unfold putM
  rw [if_pos]
  obtain ⟨e, he, hi⟩ := List.mem_map.mp h
  exact List.any_eq_true.mpr ⟨e, he, decide_eq_true hi⟩
theorem put_len {l : List (Int × Mk)} {i : Int} {m : Mk} (h : i ∈ l.map (·.1)) : (putM l i m).length = l.length := by rw [put_in h, List.length_map]
section
variable {P : Program} {w : World} {K : PySem.W.Frag} {mg : Str → Option Value} {base : Heap} {c : Cs}
def sp_settle (K : PySem.W.Frag) (C No Bd : Addr) : Sp := fun vs H Q E => ∃ A p s l vm m, vs = [.ref p.a, .int l, vm] ∧ Ex A H ∧ Dp K A vm (mkD m) ∧ DeskAt K C A H p s ∧ s.row.length + s.marked.length < 90000 ∧ s.done.length < 90000 ∧
  (l ∉ s.keys ∨ l ∈ s.done → ∀ H', Ex H H' → E (.ref No) none H') ∧ (l ∈ s.keys → l ∉ s.done → mless m (mkOf s l) = true → ∀ H', Ex H H' → E (.ref Bd) none H') ∧
  (l ∈ s.keys → l ∉ s.done → mless m (mkOf s l) = false → ∀ q A' H', H q = none → PrM (fun x => x ∈ p.foot) A H A' H' → DeskAt K C A' H' p (s.set1 l m).run.1 → A' q = none → H' q = some (.lst ((s.set1 l m).run.2.map V.int)) → Q (.ref q) H')
theorem ok_settle (T : Tx K mg c) : MethOk P w K mg base (L2N.CX P w) 4 c.Desk "settle" ["self", "letter", "mark"] (sp_settle K c.Desk c.NotOpen c.BadMark) := by
  obtain ⟨f, fd, d⟩ := T.m_Desk_settle
  refine d.ok (okN d.F sc_Desk_settle (fun vs H Q E h => ?_) fun cdv A outer s H vs Q E hr h => ?_)
  · obtain ⟨_, _, _, _, _, _, e, _⟩ := h
    rw [e]
    rfl
  obtain ⟨A0, p, st, l, vm, m, rfl, s0, hvm, hD, hl1, hl2, kn, kb, k⟩ := h
  have nd := sc_Desk_settle.nd
  have G_less := ok_less (P := P) (w := w) (base := base) T
  have MT_Desk_hand_over := ok_over (P := P) (w := w) (base := base) T
  refine ⟨_, (pss_cons (ps_if (PW.pt (pw_or (pt_cmp (pc_dnotin (hu_of hr) (pv 1) (pe_fld (pv 0) rfl))) (pw_or1 (pt_cmp (pc_din (hu_of hr) (pv 1) (pe_fld (pv 0) rfl)))))) (pss_one (ps_rs rfl (L2N.takes_of rfl rfl rfl rfl) T.x_NotOpen rfl)) pss_nil)
      (pss_cons (ps_if (pt_val (pe_cd G_less (hr.mono (by decide)) rfl pass0 (pa_cons (pv 2) (pa_cons (pe_dget (hu_of hr) (pe_fld (pv 0) rfl) (pv 1) (fun _ _ => rfl)) pa_nil)))) (pss_one (ps_rs rfl (L2N.takes_of rfl rfl rfl rfl) T.x_BadMark rfl)) pss_nil)
      (pss_cons (ps_dput (hu_of hr) (pe_fld (pv 0) rfl) (pv 1) (pe_tup (pa_cons (pe_ix (ixT (K := K) rfl) (pv 2) pe_int (fun _ _ => rfl)) (pa_cons (pe_ix (ixT (K := K) rfl) (pv 2) pe_int (fun _ _ => rfl)) pa_nil))) rfl)
      (pss_cons (ps_dput (hu_of hr) (pe_fld (pv 0) rfl) (pv 1) pe_bl rfl)
      (pss_cons (ps_fld (pv 0) (pe_callB (c_max2 rfl) rfl T.mn_max (by decide +kernel) (pa_cons (pe_fld (pv 0) rfl) (pa_cons (pe_ix (ixT (K := K) rfl) (pv 2) pe_int (fun _ _ => rfl)) pa_nil))) rfl)
      (pss_one (ps_ret (pe_md0 (pv 0) T.c_Desk MT_Desk_hand_over (hr.mono (by decide)) passN)))))))), ?_⟩
  try dsimp only [cx_K2]
  obtain ⟨ne1, ne2, ne3, ne4, ne5, ne6, ne7, ne8, ne9, ne10⟩ := hD.ne
  have f1 : p.a ∈ p.foot := by simp [DP.foot]
  have f3 : p.m ∈ p.foot := by simp [DP.foot]
  have f4 : p.d ∈ p.foot := by simp [DP.foot]
  have hself : ∀ B fs, B p.a = some (.ins c.Desk p.dx fs) → ∀ (f : Str) (v : V), NoAttr K c.Desk f → fs.lookup f = some v → Ev (tFld K (tVar 0) f) (L2.start ["self", "letter", "mark"] [V.ref p.a, V.int l, vm]) B v := fun B fs hB f v na hv => ev_fld (ev_var rfl) hB T.c_Desk na hv
  obtain ⟨kvs0, hm0, hmk0⟩ := hD.im
  have hsome : (valV kvs0 (.inl l)).isSome = decide (l ∈ st.keys) := by rw [hmk0.some, lk_some]; rfl
  refine q_ifM K (b := !decide (l ∈ st.keys) || decide (l ∈ st.done)) (eb_or (a := !decide (l ∈ st.keys)) (b := decide (l ∈ st.done)) (eb_is (eb_DB (ed_dnin (ed_var rfl (.int l)) (hself H _ hD.ia "marked" _ T.na_Desk_marked rfl) (.inl hm0))) (by rw [hsome])) fun _ => eb_is (eb_DB (ed_din (ed_var rfl (.int l)) (hself H _ hD.ia "done" _ T.na_Desk_done rfl) (.inl hD.id))) (flags_val _ _)) rfl (fun hb B1 e1 => ?_) (fun hb B1 e1 => q_next ?_)
  · refine kn ?_ B1 e1
    rcases Bool.or_eq_true_iff.mp hb with z | z
    · exact .inl (by simpa using z)
    · exact .inr (of_decide_eq_true z)
  obtain ⟨hb1, hb2⟩ := Bool.or_eq_false_iff.mp hb
  have hin : l ∈ st.keys := by simpa using hb1
  have hnd : l ∉ st.done := of_decide_eq_false hb2
  have D1 := hD.up s0 e1
  have s1 := s0.trans e1
  obtain ⟨mk, hmk'⟩ := lk_mem hin
  obtain ⟨v0, hv1, hv2⟩ := hmk0.lk hmk'
  have hmo : mk = mkOf st l := by unfold mkOf; rw [hmk']; rfl
  rw [hmo] at hv2
  have ed1 : EvD K (tDGet (tFld K (tVar 0) "marked") (tVar 1)) (L2.start ["self", "letter", "mark"] [V.ref p.a, V.int l, vm]) B1 (mkD (mkOf st l)) := ed_v (ev_dget (K := K) (hself B1 _ D1.ia "marked" _ T.na_Desk_marked rfl) (.inl (e1 _ _ hm0)) (ed_var rfl (.int l)) hv1) (dp_ex s1 hv2)
  refine q_ifM K (b := mless m (mkOf st l)) (eb_DB (ed_call (ea_consD (ed_var rfl (dp_ex s1 hvm)) (ea_consD ed1 ea_nilD)) (at_less _ _))) rfl (fun hb B2 e2 => kb hin hnd hb B2 (e1.trans e2)) (fun hb B2 e2 => q_next ?_)
  have D2 := D1.up s1 e2
  have s2 := s1.trans e2
  have P2 : PrM (fun x => x ∈ p.foot) A0 H A0 B2 := (PrM.refl s0).up (e1.trans e2)
  have hx : Dp K B2 vm (.tuple [.int m.1, .int m.2]) := dp_ex s2 hvm
  refine q_do (s_dput K (d := mkD m) s2 (ep_tup (epa_cons (ep_i (ed_ixT (ed_var rfl hx) ed_int rfl)) (epa_cons (ep_i (ed_ixT (ed_var rfl hx) ed_int rfl)) epa_nil)) (by show 2 ≤ 100000; decide)) (hself B2 _ D2.ia "marked" _ T.na_Desk_marked rfl) (ed_var rfl (.int l)) ((e1.trans e2) _ _ hm0) (by rw [hmk0.len]; omega) fun v3 A3 B3 P3 hv3 => go_nx ?_)
  have D3 := D2.pr P3
  have n3 := D3.na
  have P4 := (P2.pr P3).put (l := p.m) (o := .dK (putK kvs0 (.inl l) v3)) (.inl f3) (n3 _ f3)
  have hm4 := (hmk0.mono P3.a).put (i := l) (m := m) hv3
  have nm : ∀ x, x ≠ p.m → ∀ u, B3 x = some u → (upd B3 p.m (.dK (putK kvs0 (.inl l) v3))) x = some u := fun x n u e => by rw [upd_ne n]; exact e
  have m4 : (upd B3 p.m (.dK (putK kvs0 (.inl l) v3))) p.m = some (.dK (putK kvs0 (.inl l) v3)) := upd_same
  generalize upd B3 p.m (.dK (putK kvs0 (.inl l) v3)) = C4 at P4 nm m4 ⊢
  have a4 := nm _ ne2 _ D3.ia
  have k4 := nm _ ne5 _ D3.ik
  have d4 := nm _ (Ne.symm ne8) _ D3.id
  have r4 := nm _ (Ne.symm ne9) _ D3.ir
  refine q_do (s_dput K (d := .bool true) P4.s (ep_ed ed_bl) (hself C4 _ a4 "done" _ T.na_Desk_done rfl) (ed_var rfl (.int l)) d4 (by rw [flags, List.length_map]; omega) fun v5 A5 B5 P5 hv5 => go_nx ?_)
  cases hv5
  rw [flags_put hnd]
  have P6 := (P4.pr P5).put (l := p.d) (o := .dK (flags (st.done ++ [l]))) (.inl f4) (P5.n _ (n3 _ f4) (by rw [d4]; simp))
  have nD : ∀ x, x ≠ p.d → ∀ u, C4 x = some u → (upd B5 p.d (.dK (flags (st.done ++ [l])))) x = some u := fun x n u e => by rw [upd_ne n]; exact P5.b _ _ e
  have d6 : (upd B5 p.d (.dK (flags (st.done ++ [l])))) p.d = some (.dK (flags (st.done ++ [l]))) := upd_same
  generalize upd B5 p.d (.dK (flags (st.done ++ [l]))) = C6 at P6 nD d6 ⊢
  have a6 := nD _ ne3 _ a4
  have k6 := nD _ ne6 _ k4
  have m6 := nD _ ne8 _ m4
  have r6 := nD _ (Ne.symm ne10) _ r4
  have hx6 : Dp K C6 vm (.tuple [.int m.1, .int m.2]) := dp_ex P6.s (dp_ex P6.a hvm)
  refine q_do (s_fldV K (v := .int (if m.1 > st.time then m.1 else st.time)) (v_int (K := K) (ed_max2 (ed_ev (hself C6 _ a6 "time" _ T.na_Desk_time rfl) (.int _)) (ed_ixT (ed_var rfl hx6) ed_int rfl))) (ev_var rfl) a6 T.c_Desk T.na_Desk_time (by show 6 < 1000; decide) fun B7 e7 => go_nx ?_)
  have hpf : putF "time" (V.int (if m.1 > st.time then m.1 else st.time)) (deskFs p st) = deskFs p (st.set1 l m) := rfl
  rw [hpf]
  have P8 := (P6.up e7).put (l := p.a) (o := .ins c.Desk p.dx (deskFs p (st.set1 l m))) (.inl f1) (P6.n _ (hD.na _ f1) (hD.alive _ f1))
  have na : ∀ x, x ≠ p.a → ∀ u, C6 x = some u → (upd B7 p.a (.ins c.Desk p.dx (deskFs p (st.set1 l m)))) x = some u := fun x n u e => by rw [upd_ne n]; exact e7 _ _ e
  have a8 : (upd B7 p.a (.ins c.Desk p.dx (deskFs p (st.set1 l m)))) p.a = some (.ins c.Desk p.dx (deskFs p (st.set1 l m))) := upd_same
  generalize upd B7 p.a (.ins c.Desk p.dx (deskFs p (st.set1 l m))) = C8 at P8 na a8 ⊢
  have D8 : DeskAt K c.Desk A5 C8 p (st.set1 l m) := ⟨a8, na _ (Ne.symm ne1) _ k6, ⟨_, na _ (Ne.symm ne2) _ m6, hm4.mono P5.a⟩, na _ (Ne.symm ne3) _ d6, na _ (Ne.symm ne4) _ r6, hD.nd, fun x hx => P8.n x (hD.na x hx) (hD.alive x hx)⟩
  refine m_call (K := K) (A := A5) (ds := []) P8.s (ev_var rfl) D8.ia rfl epa_nil fun vs A9 B9 P9 hv => ?_
  cases hv
  refine ⟨A9, p, st.set1 l m, rfl, P9.s, D8.pr P9, ?_, fun q A10 H10 hq P10 D10 nq bq => k hin hnd hb q A10 H10 ((P8.pr P9).fresh hq) ((P8.pr P9).trans P10) D10 nq bq⟩
  show st.row.length + (putM st.marked l m).length < 90000
  rw [put_len hin]
  exact hl1
end

/-! ## the desk's letters, in plain lists -/
def mkM (ms : List (Int × Mk)) (i : Int) : Mk := (lkM ms i).getD (0, 0)
structure Good (s : DS) : Prop where
  nd : s.known.Nodup
  kf : s.known.filter (fun i => decide (i ∈ s.keys)) = s.keys
theorem Good.sub {s : DS} (g : Good s) {l : Int} (h : l ∈ s.keys) : l ∈ s.known := by
  rw [← g.kf] at h
  exact (List.mem_filter.mp h).1
theorem Good.kn {s : DS} (g : Good s) : s.keys.Nodup := by rw [← g.kf]; exact g.nd.filter _
theorem put_keys {l : List (Int × Mk)} {i : Int} {m : Mk} (h : i ∈ l.map (·.1)) : (putM l i m).map (·.1) = l.map (·.1) := by
  rw [put_in h, List.map_map]
  refine List.map_congr_left fun e _ => ?_
  show (if e.1 = i then (e.1, m) else e).1 = e.1
  split <;> rfl
theorem put_new {l : List (Int × Mk)} {i : Int} {m : Mk} (h : i ∉ l.map (·.1)) : putM l i m = l ++ [(i, m)] := by
  unfold putM
  rw [if_neg]
  intro z
  obtain ⟨e, he, hi⟩ := List.any_eq_true.mp z
  exact h (List.mem_map.mpr ⟨e, he, of_decide_eq_true hi⟩)
theorem drop_keys (l : List (Int × Mk)) (i : Int) : (dropM l i).map (·.1) = (l.map (·.1)).filter fun j => decide (j ≠ i) := by
  unfold dropM
  rw [List.filter_map]
  rfl
theorem Good.new (h : Int) : Good ⟨h, 0, [], [], [], []⟩ := ⟨List.nodup_nil, rfl⟩
theorem Good.prop {s : DS} (g : Good s) {l : Int} (h : l ∉ s.known) : Good (s.prop l) := by
  have hk : l ∉ s.marked.map (·.1) := fun z => h (g.sub z)
  have ek : (s.prop l).keys = s.keys ++ [l] := by
    show (putM s.marked l _).map (·.1) = _
    rw [put_new hk, List.map_append]
    rfl
  refine ⟨List.nodup_append.mpr ⟨g.nd, by simp, fun a ha b hb z => h (by rw [List.mem_singleton.mp hb] at z; exact z ▸ ha)⟩, ?_⟩
  rw [ek]
  show (s.known ++ [l]).filter _ = _
  rw [List.filter_append]
  congr 1
  · rw [← g.kf]
    refine List.filter_congr fun x hx => ?_
    have : x ≠ l := fun z => h (z ▸ hx)
    rw [g.kf]
    simp [this]
  · simp
theorem Good.set1 {s : DS} (g : Good s) {l : Int} {m : Mk} (h : l ∈ s.keys) : Good (s.set1 l m) := by
  have ek : (s.set1 l m).keys = s.keys := put_keys h
  exact ⟨g.nd, by rw [ek]; exact g.kf⟩
theorem Good.drop {s : DS} (g : Good s) (l : Int) : Good (s.hand1 l) := by
  have ek : (s.hand1 l).keys = s.keys.filter fun j => decide (j ≠ l) := drop_keys _ _
  refine ⟨g.nd, ?_⟩
  rw [ek]
  show s.known.filter _ = _
  conv => rhs; rw [← g.kf, List.filter_filter]
  refine List.filter_congr fun x _ => ?_
  simp [List.mem_filter, and_comm, Bool.and_comm]
theorem Good.over : ∀ (n : Nat) (s : DS), Good s → Good (DS.over n s).1
  | 0, _, g => g
  | n + 1, s, g => by
    unfold DS.over
    cases s.first with
    | none => exact g
    | some l =>
      dsimp only
      split
      · exact Good.over n _ (g.drop l)
      · exact g
theorem Good.run {s : DS} (g : Good s) : Good s.run.1 := Good.over _ _ g
theorem DS.over_len : ∀ (n : Nat) (s : DS), (DS.over n s).1.row.length + (DS.over n s).1.marked.length ≤ s.row.length + s.marked.length ∧ (DS.over n s).1.done = s.done ∧ (DS.over n s).1.known = s.known
  | 0, _ => ⟨Nat.le_refl _, rfl, rfl⟩
  | n + 1, s => by
    unfold DS.over
    cases e : s.first with
    | none => exact ⟨Nat.le_refl _, rfl, rfl⟩
    | some l =>
      dsimp only
      split
      · obtain ⟨h1, h2, h3⟩ := DS.over_len n (s.hand1 l)
        refine ⟨Nat.le_trans h1 ?_, h2, h3⟩
        have : (dropM s.marked l).length < s.marked.length := drop_lt (DS.first_mem e)
        show (s.row ++ [l]).length + (dropM s.marked l).length ≤ _
        rw [List.length_append, List.length_singleton]
        omega
      · exact ⟨Nat.le_refl _, rfl, rfl⟩
def lfirst (ms : List (Int × Mk)) (met : List Int) : Option Int := firstF (mkM ms) none (met.filter fun i => decide (i ∈ ms.map (·.1)))
theorem lfirst_eq {s : DS} (g : Good s) : lfirst s.marked s.known = s.first := by
  unfold lfirst
  rw [show (s.known.filter fun i => decide (i ∈ s.marked.map (·.1))) = s.keys from g.kf]
  rfl
theorem firstF_app (mk : Int → Mk) (x : Int) : ∀ (l : List Int) (b : Option Int), firstF mk b (l ++ [x]) = some (match firstF mk b l with
    | none => x
    | some c => if mless (mk x) (mk c) = true then x else c)
  | [], none => rfl
  | [], some b => rfl
  | y :: r, none => firstF_app mk x r (some y)
  | y :: r, some b => firstF_app mk x r _
theorem firstF_some (mk : Int → Mk) : ∀ (l : List Int) (b : Int), firstF mk (some b) l = some (bestF mk b l)
  | [], _ => rfl
  | x :: r, b => firstF_some mk r _
theorem bestF_congr {mk mk' : Int → Mk} : ∀ (l : List Int) (b : Int), (∀ i ∈ l, mk i = mk' i) → mk b = mk' b → bestF mk b l = bestF mk' b l
  | [], _, _, _ => rfl
  | x :: r, b, h, hb => by
    unfold bestF
    have hx := h x (by simp)
    rw [hx, hb]
    refine bestF_congr r _ (fun i hi => h i (List.mem_cons_of_mem _ hi)) ?_
    split
    · exact hx
    · exact hb
theorem firstF_best {mk mk' : Int → Mk} {l : List Int} (h : ∀ i ∈ l, mk i = mk' i) (hn : l ≠ []) : firstF mk none l = some (bestL mk' l) := by
  cases l with
  | nil => exact absurd rfl hn
  | cons x r =>
    show firstF mk (some x) r = _
    rw [firstF_some]
    unfold bestL
    show _ = some (bestF mk' x (x :: r))
    have : bestF mk' x (x :: r) = bestF mk' x r := by
      show bestF mk' (if mless (mk' x) (mk' x) = true then x else x) r = _
      split <;> rfl
    rw [this, bestF_congr r x (fun i hi => h i (List.mem_cons_of_mem _ hi)) (h x (by simp))]
theorem lk_drop {l : List (Int × Mk)} {i j : Int} (h : j ≠ i) : lkM (dropM l i) j = lkM l j := by
  induction l with
  | nil => rfl
  | cons e r ih =>
    by_cases z : e.1 = i
    · have h1 : dropM (e :: r) i = dropM r i := by unfold dropM; rw [List.filter_cons_of_neg (by simp [z])]
      have h2 : e.1 ≠ j := fun y => h (y ▸ z)
      rw [h1, ih]
      simp [lkM, List.find?_cons, h2]
    · have h1 : dropM (e :: r) i = e :: dropM r i := by unfold dropM; rw [List.filter_cons_of_pos (by simpa using z)]
      rw [h1]
      unfold lkM at ih ⊢
      rw [List.find?_cons, List.find?_cons]
      split
      · rfl
      · exact ih
/-- what comes of a letter that is told -/
inductive Out
  | mk (m : Mk)
  | lst (l : List Int)
  | str (x : Str)
def DS.told (s : DS) (l : Int) : Option Mk → DS × Out
  | none => if l ∈ s.known then (s, .str "Twice") else (s.prop l, .mk (s.time + 1, s.hand))
  | some m => if l ∉ s.keys ∨ l ∈ s.done then (s, .str "NotOpen") else if mless m (mkOf s l) = true then (s, .str "BadMark") else ((s.set1 l m).run.1, .lst (s.set1 l m).run.2)
theorem DS.told_n (s : DS) (l : Int) : s.told l none = if l ∈ s.known then (s, .str "Twice") else (s.prop l, .mk (s.time + 1, s.hand)) := rfl
theorem DS.told_m (s : DS) (l : Int) (m : Mk) : s.told l (some m) = if l ∉ s.keys ∨ l ∈ s.done then (s, .str "NotOpen") else if mless m (mkOf s l) = true then (s, .str "BadMark") else ((s.set1 l m).run.1, .lst (s.set1 l m).run.2) := rfl
theorem Good.told {s : DS} (g : Good s) (l : Int) (o : Option Mk) : Good (s.told l o).1 := by
  cases o with
  | none =>
    rw [DS.told_n]
    by_cases h : l ∈ s.known
    · rw [if_pos h]; exact g
    · rw [if_neg h]; exact g.prop h
  | some m =>
    rw [DS.told_m]
    by_cases h : l ∉ s.keys ∨ l ∈ s.done
    · rw [if_pos h]; exact g
    · rw [if_neg h]
      by_cases h2 : mless m (mkOf s l) = true
      · rw [if_pos h2]; exact g
      · rw [if_neg h2]
        have : l ∈ s.keys := by
          rw [not_or, Classical.not_not] at h
          exact h.1
        exact (g.set1 this).run
/-- how much it holds -/
def DS.size (s : DS) : Nat := s.known.length + s.row.length + s.marked.length + s.done.length
theorem DS.told_size (s : DS) (l : Int) (o : Option Mk) : (s.told l o).1.size ≤ s.size + 2 := by
  cases o with
  | none =>
    rw [DS.told_n]
    by_cases h : l ∈ s.known
    · rw [if_pos h]; show s.size ≤ _; omega
    · rw [if_neg h]
      show (s.known ++ [l]).length + s.row.length + (putM s.marked l _).length + s.done.length ≤ _
      have hp : (putM s.marked l (s.time + 1, s.hand)).length ≤ s.marked.length + 1 := by
        by_cases hk : l ∈ s.marked.map (·.1)
        · rw [put_len hk]; omega
        · rw [put_new hk, List.length_append]; simp
      rw [List.length_append, List.length_singleton]
      unfold DS.size
      omega
  | some m =>
    rw [DS.told_m]
    by_cases h : l ∉ s.keys ∨ l ∈ s.done
    · rw [if_pos h]; show s.size ≤ _; omega
    · rw [if_neg h]
      by_cases h2 : mless m (mkOf s l) = true
      · rw [if_pos h2]; show s.size ≤ _; omega
      · rw [if_neg h2]
        have hin : l ∈ s.marked.map (·.1) := by
          rw [not_or, Classical.not_not] at h
          exact h.1
        obtain ⟨q1, q2, q3⟩ := DS.over_len (s.set1 l m).marked.length (s.set1 l m)
        show (s.set1 l m).run.1.size ≤ _
        unfold DS.size DS.run
        rw [q2, q3]
        have hp : (s.set1 l m).marked.length = s.marked.length := put_len hin
        have hd : (s.set1 l m).done.length = s.done.length + 1 := by
          show (s.done ++ [l]).length = _
          rw [List.length_append]; rfl
        have hr : (s.set1 l m).row = s.row := rfl
        have hk : (s.set1 l m).known = s.known := rfl
        rw [hp, hr] at q1
        rw [hk, hd]
        rw [hp]
        omega

end K8

namespace K8
open PySem L2 Evl Ob

local macro_rules | `(tactic| tm_at "sh") => `(tactic| first | exact sh_mk | exact sh_mks | exact sh_b3)

/-! ## a house -/
inductive MW
  | letter
  | number
  | mark
deriving DecidableEq
def MW.str : MW → Str
  | .letter => "letter"
  | .number => "number"
  | .mark => "mark"
structure LS where
  writer : Nat
  words : Str
  numbers : List Mk
  final : Option Mk
structure QP where
  a : Addr
  dx : Addr
  n : Addr
def QP.foot (q : QP) : List Addr := [q.a, q.n]
def mkO : Option Mk → D
  | none => .none
  | some m => mkD m
structure LetAt (K : PySem.W.Frag) (C : Addr) (A B : Hp) (q : QP) (s : LS) : Prop where
  ia : ∃ vf, B q.a = some (.ins C q.dx [("writer", .int s.writer), ("words", .str s.words), ("numbers", .ref q.n), ("final", vf)]) ∧ Dp K A vf (mkO s.final)
  im : ∃ xs, B q.n = some (.lst xs) ∧ DpAll K A xs (s.numbers.map mkD)
  ne : q.a ≠ q.n
  na : ∀ x ∈ q.foot, A x = none
structure Mail where
  word : MW
  letter : Nat
  src : Nat
  dst : Nat
  mark : Option Mk
def mailD (m : Mail) : D := .tuple [.str m.word.str, .int m.letter, .int m.src, .int m.dst, mkO m.mark]
structure HS where
  desks : List DS
  sent : List LS
  post : List Mail
structure HP where
  a : Addr
  dx : Addr
  dl : Addr
  sl : Addr
  pl : Addr
  ds : List DP
  qs : List QP
def HP.base (P : HP) : List Addr := [P.a, P.dl, P.sl, P.pl]
def HP.inF (P : HP) (x : Addr) : Prop := x ∈ P.base ∨ (∃ p ∈ P.ds, x ∈ p.foot) ∨ ∃ q ∈ P.qs, x ∈ q.foot
def houseFs (P : HP) : List (Str × V) := [("desks", .ref P.dl), ("sent", .ref P.sl), ("post", .ref P.pl)]
structure HouseAt (K : PySem.W.Frag) (CH CD CL : Addr) (A B : Hp) (P : HP) (s : HS) : Prop where
  ia : B P.a = some (.ins CH P.dx (houseFs P))
  idl : B P.dl = some (.lst (P.ds.map fun p => .ref p.a))
  isl : B P.sl = some (.lst (P.qs.map fun q => .ref q.a))
  ipl : ∃ xs, B P.pl = some (.lst xs) ∧ DpAll K A xs (s.post.map mailD)
  hdl : P.ds.length = s.desks.length
  hd : ∀ (i : Nat) p d, P.ds[i]? = some p → s.desks[i]? = some d → DeskAt K CD A B p d
  hql : P.qs.length = s.sent.length
  hq : ∀ (j : Nat) q l, P.qs[j]? = some q → s.sent[j]? = some l → LetAt K CL A B q l
  ow : ∃ own : Addr → Nat, (∀ x ∈ P.base, own x = 0) ∧ (∀ (i : Nat) p, P.ds[i]? = some p → ∀ x ∈ p.foot, own x = 2 * i + 1) ∧ ∀ (j : Nat) q, P.qs[j]? = some q → ∀ x ∈ q.foot, own x = 2 * j + 2
  nd : P.base.Nodup
  na : ∀ x ∈ P.base, A x = none
section
variable {K : PySem.W.Frag} {C CH CD CL : Addr} {A B A' B' : Hp} {P : HP} {s : HS} {F : Addr → Prop} {q : QP} {l : LS}
theorem LetAt.alive (D : LetAt K C A B q l) : ∀ x ∈ q.foot, B x ≠ none := fun x hx => by
  simp only [QP.foot, List.mem_cons, List.not_mem_nil, or_false] at hx
  obtain ⟨vf, e0, _⟩ := D.ia
  obtain ⟨xs, e1, _⟩ := D.im
  rcases hx with rfl | rfl
  · rw [e0]; simp
  · rw [e1]; simp
theorem LetAt.mono (D : LetAt K C A B q l) (P : PrM F A B A' B') (h : ∀ x ∈ q.foot, ¬ F x) : LetAt K C A' B' q l := by
  obtain ⟨vf, e0, h0⟩ := D.ia
  obtain ⟨xs, e1, h1⟩ := D.im
  exact ⟨⟨vf, P.b _ _ (h _ (by simp [QP.foot])) e0, dp_ex P.a h0⟩, ⟨xs, P.b _ _ (h _ (by simp [QP.foot])) e1, dpa_ex P.a h1⟩, D.ne, fun x hx => P.n x (D.na x hx) (D.alive x hx)⟩
theorem HP.in_a : P.a ∈ P.base := by simp [HP.base]
theorem HP.in_dl : P.dl ∈ P.base := by simp [HP.base]
theorem HP.in_sl : P.sl ∈ P.base := by simp [HP.base]
theorem HP.in_pl : P.pl ∈ P.base := by simp [HP.base]
theorem HP.inB {x : Addr} (h : x ∈ P.base) : P.inF x := .inl h
theorem HP.inD {x : Addr} {i : Nat} {p : DP} (hp : P.ds[i]? = some p) (h : x ∈ p.foot) : P.inF x := .inr (.inl ⟨p, List.mem_of_getElem? hp, h⟩)
theorem HP.inQ {x : Addr} {j : Nat} {q : QP} (hp : P.qs[j]? = some q) (h : x ∈ q.foot) : P.inF x := .inr (.inr ⟨q, List.mem_of_getElem? hp, h⟩)
theorem HouseAt.ne (O : HouseAt K CH CD CL A B P s) : P.a ≠ P.dl ∧ P.a ≠ P.sl ∧ P.a ≠ P.pl ∧ P.dl ≠ P.sl ∧ P.dl ≠ P.pl ∧ P.sl ≠ P.pl := by
  have h := O.nd
  simp only [HP.base, List.nodup_cons, List.mem_cons, List.not_mem_nil, or_false, not_or, not_false_eq_true, List.nodup_nil, and_true] at h
  exact ⟨h.1.1, h.1.2.1, h.1.2.2, h.2.1.1, h.2.1.2, h.2.2⟩
theorem HouseAt.gd (O : HouseAt K CH CD CL A B P s) {i : Nat} {d : DS} (h : s.desks[i]? = some d) : ∃ p, P.ds[i]? = some p ∧ DeskAt K CD A B p d := by
  have hl : i < P.ds.length := by rw [O.hdl]; exact (List.getElem?_eq_some_iff.mp h).1
  exact ⟨P.ds[i], List.getElem?_eq_getElem hl, O.hd i _ _ (List.getElem?_eq_getElem hl) h⟩
theorem HouseAt.gq (O : HouseAt K CH CD CL A B P s) {j : Nat} {l : LS} (h : s.sent[j]? = some l) : ∃ q, P.qs[j]? = some q ∧ LetAt K CL A B q l := by
  have hl : j < P.qs.length := by rw [O.hql]; exact (List.getElem?_eq_some_iff.mp h).1
  exact ⟨P.qs[j], List.getElem?_eq_getElem hl, O.hq j _ _ (List.getElem?_eq_getElem hl) h⟩
theorem HouseAt.ad (O : HouseAt K CH CD CL A B P s) {p : DP} (h : p ∈ P.ds) : ∃ (i : Nat) (d : DS), P.ds[i]? = some p ∧ DeskAt K CD A B p d := by
  obtain ⟨i, hi⟩ := List.mem_iff_getElem?.mp h
  have hl : i < s.desks.length := by rw [← O.hdl]; exact (List.getElem?_eq_some_iff.mp hi).1
  exact ⟨i, s.desks[i], hi, O.hd i _ _ hi (List.getElem?_eq_getElem hl)⟩
theorem HouseAt.aq (O : HouseAt K CH CD CL A B P s) {q : QP} (h : q ∈ P.qs) : ∃ (j : Nat) (l : LS), P.qs[j]? = some q ∧ LetAt K CL A B q l := by
  obtain ⟨i, hi⟩ := List.mem_iff_getElem?.mp h
  have hl : i < s.sent.length := by rw [← O.hql]; exact (List.getElem?_eq_some_iff.mp hi).1
  exact ⟨i, s.sent[i], hi, O.hq i _ _ hi (List.getElem?_eq_getElem hl)⟩
theorem HouseAt.alive (O : HouseAt K CH CD CL A B P s) {x : Addr} (h : P.inF x) : B x ≠ none := by
  rcases h with h | ⟨p, hp, h⟩ | ⟨q, hq, h⟩
  · simp only [HP.base, List.mem_cons, List.not_mem_nil, or_false] at h
    obtain ⟨xs, e, _⟩ := O.ipl
    rcases h with rfl | rfl | rfl | rfl
    · rw [O.ia]; simp
    · rw [O.idl]; simp
    · rw [O.isl]; simp
    · rw [e]; simp
  · obtain ⟨_, _, _, D⟩ := O.ad hp
    exact D.alive x h
  · obtain ⟨_, _, _, D⟩ := O.aq hq
    exact D.alive x h
theorem HouseAt.mono (O : HouseAt K CH CD CL A B P s) (R : PrM F A B A' B') (h : ∀ x, P.inF x → ¬ F x) : HouseAt K CH CD CL A' B' P s := by
  obtain ⟨xs, e, hx⟩ := O.ipl
  exact ⟨R.b _ _ (h _ (.inl HP.in_a)) O.ia, R.b _ _ (h _ (.inl HP.in_dl)) O.idl, R.b _ _ (h _ (.inl HP.in_sl)) O.isl, ⟨xs, R.b _ _ (h _ (.inl HP.in_pl)) e, dpa_ex R.a hx⟩, O.hdl,
    fun i p d h1 h2 => (O.hd i p d h1 h2).mono R fun x hx => h x (HP.inD h1 hx), O.hql, fun j q l h1 h2 => (O.hq j q l h1 h2).mono R fun x hx => h x (HP.inQ h1 hx), O.ow, O.nd, fun x hx => R.n x (O.na x hx) (O.alive (.inl hx))⟩
theorem HouseAt.pr (O : HouseAt K CH CD CL A B P s) (R : Pr A B A' B') : HouseAt K CH CD CL A' B' P s := O.mono (F := fun _ => False) R.m fun _ _ z => z
theorem HouseAt.up (O : HouseAt K CH CD CL A B P s) (e : Ex A B) (h : Ex B B') : HouseAt K CH CD CL A B' P s := O.pr (Pr.up e h)
/-- a desk has changed -/
theorem HouseAt.desk (O : HouseAt K CH CD CL A B P s) {i : Nat} {p : DP} {d' : DS} (hp : P.ds[i]? = some p) (R : PrM (fun x => x ∈ p.foot) A B A' B') (D : DeskAt K CD A' B' p d') : HouseAt K CH CD CL A' B' P ⟨s.desks.set i d', s.sent, s.post⟩ := by
  obtain ⟨own, o1, o2, o3⟩ := O.ow
  have nb : ∀ x ∈ P.base, x ∉ p.foot := fun x hx z => by have h1 := o1 x hx; have h2 := o2 i p hp x z; omega
  obtain ⟨xs, e, hx⟩ := O.ipl
  refine ⟨R.b _ _ (nb _ HP.in_a) O.ia, R.b _ _ (nb _ HP.in_dl) O.idl, R.b _ _ (nb _ HP.in_sl) O.isl, ⟨xs, R.b _ _ (nb _ HP.in_pl) e, dpa_ex R.a hx⟩, by rw [List.length_set]; exact O.hdl, fun j p2 d2 h1 h2 => ?_, O.hql,
    fun j q l h1 h2 => (O.hq j q l h1 h2).mono R fun x hx z => by have h3 := o3 j q h1 x hx; have h4 := o2 i p hp x z; omega, ⟨own, o1, o2, o3⟩, O.nd, fun x hx => R.n x (O.na x hx) (O.alive (.inl hx))⟩
  rw [List.getElem?_set] at h2
  by_cases e : i = j
  · subst e
    have hl := (List.getElem?_eq_some_iff.mp hp).1
    rw [O.hdl] at hl
    rw [if_pos rfl, if_pos hl] at h2
    cases h2
    rw [hp] at h1
    cases h1
    exact D
  · rw [if_neg e] at h2
    exact (O.hd j p2 d2 h1 h2).mono R fun x hx z => by have h3 := o2 j p2 h1 x hx; have h4 := o2 i p hp x z; omega
/-- a letter has changed -/
theorem HouseAt.letter (O : HouseAt K CH CD CL A B P s) {j : Nat} {q : QP} {l' : LS} (hp : P.qs[j]? = some q) (R : PrM (fun x => x ∈ q.foot) A B A' B') (D : LetAt K CL A' B' q l') : HouseAt K CH CD CL A' B' P ⟨s.desks, s.sent.set j l', s.post⟩ := by
  obtain ⟨own, o1, o2, o3⟩ := O.ow
  have nb : ∀ x ∈ P.base, x ∉ q.foot := fun x hx z => by have h1 := o1 x hx; have h2 := o3 j q hp x z; omega
  obtain ⟨xs, e, hx⟩ := O.ipl
  refine ⟨R.b _ _ (nb _ HP.in_a) O.ia, R.b _ _ (nb _ HP.in_dl) O.idl, R.b _ _ (nb _ HP.in_sl) O.isl, ⟨xs, R.b _ _ (nb _ HP.in_pl) e, dpa_ex R.a hx⟩, O.hdl, fun i p d h1 h2 => (O.hd i p d h1 h2).mono R fun x hx z => by have h3 := o2 i p h1 x hx; have h4 := o3 j q hp x z; omega, by rw [List.length_set]; exact O.hql,
    fun i q2 l2 h1 h2 => ?_, ⟨own, o1, o2, o3⟩, O.nd, fun x hx => R.n x (O.na x hx) (O.alive (.inl hx))⟩
  rw [List.getElem?_set] at h2
  by_cases e : j = i
  · subst e
    have hl := (List.getElem?_eq_some_iff.mp hp).1
    rw [O.hql] at hl
    rw [if_pos rfl, if_pos hl] at h2
    cases h2
    rw [hp] at h1
    cases h1
    exact D
  · rw [if_neg e] at h2
    exact (O.hq i q2 l2 h1 h2).mono R fun x hx z => by have h3 := o3 i q2 h1 x hx; have h4 := o3 j q hp x z; omega
/-- the post has changed -/
theorem HouseAt.post_ (O : HouseAt K CH CD CL A B P s) {ms : List Mail} {xs : List V} (R : PrM (fun x => x = P.pl) A B A' B') (e : B' P.pl = some (.lst xs)) (hx : DpAll K A' xs (ms.map mailD)) : HouseAt K CH CD CL A' B' P ⟨s.desks, s.sent, ms⟩ := by
  obtain ⟨own, o1, o2, o3⟩ := O.ow
  obtain ⟨n1, n2, n3, n4, n5, n6⟩ := O.ne
  exact ⟨R.b _ _ n3 O.ia, R.b _ _ n5 O.idl, R.b _ _ n6 O.isl, ⟨xs, e, hx⟩, O.hdl, fun i p d h1 h2 => (O.hd i p d h1 h2).mono R fun x hx z => by have h3 := o2 i p h1 x hx; have h4 := o1 _ HP.in_pl; rw [z] at h3; omega, O.hql,
    fun j q l h1 h2 => (O.hq j q l h1 h2).mono R fun x hx z => by have h3 := o3 j q h1 x hx; have h4 := o1 _ HP.in_pl; rw [z] at h3; omega, ⟨own, o1, o2, o3⟩, O.nd, fun x hx => R.n x (O.na x hx) (O.alive (.inl hx))⟩
/-- a letter is new -/
theorem HouseAt.add (O : HouseAt K CH CD CL A B P s) {q : QP} {l : LS} (D : LetAt K CL A' B' q l) (nq : ∀ x ∈ q.foot, B x = none) (R : PrM (fun x => x = P.sl) A B A' B') (e : B' P.sl = some (.lst ((P.qs ++ [q]).map fun q => .ref q.a))) :
    HouseAt K CH CD CL A' B' ⟨P.a, P.dx, P.dl, P.sl, P.pl, P.ds, P.qs ++ [q]⟩ ⟨s.desks, s.sent ++ [l], s.post⟩ := by
  obtain ⟨own, o1, o2, o3⟩ := O.ow
  obtain ⟨n1, n2, n3, n4, n5, n6⟩ := O.ne
  obtain ⟨xs, ep, hx⟩ := O.ipl
  have notq : ∀ x, P.inF x → x ∉ q.foot := fun x h z => O.alive h (nq x z)
  have keep : ∀ (j : Nat) q2, (P.qs ++ [q])[j]? = some q2 → (P.qs[j]? = some q2 ∧ j < P.qs.length) ∨ (q2 = q ∧ j = P.qs.length) := fun j q2 h => by
    by_cases hl : j < P.qs.length
    · rw [List.getElem?_append_left hl] at h
      exact .inl ⟨h, hl⟩
    · rw [List.getElem?_append_right (by omega)] at h
      have hj : j - P.qs.length = 0 := by
        have := (List.getElem?_eq_some_iff.mp h).1
        rw [List.length_singleton] at this
        omega
      rw [hj] at h
      exact .inr ⟨(Option.some.inj h).symm, by omega⟩
  refine ⟨R.b _ _ n2 O.ia, R.b _ _ n4 O.idl, e, ⟨xs, R.b _ _ (Ne.symm n6) ep, dpa_ex R.a hx⟩, O.hdl, fun i p d h1 h2 => (O.hd i p d h1 h2).mono R fun x hx z => by have h3 := o2 i p h1 x hx; have h4 := o1 _ HP.in_sl; rw [z] at h3; omega, ?_, ?_, ?_, O.nd, fun x hx => R.n x (O.na x hx) (O.alive (.inl hx))⟩
  · show (P.qs ++ [q]).length = (s.sent ++ [l]).length
    rw [List.length_append, List.length_append, O.hql]; rfl
  · intro j q2 l2 h1 h2
    have h1 : (P.qs ++ [q])[j]? = some q2 := h1
    have h2 : (s.sent ++ [l])[j]? = some l2 := h2
    rcases keep j q2 h1 with ⟨h3, h4⟩ | ⟨rfl, rfl⟩
    · rw [List.getElem?_append_left (by rw [← O.hql]; exact h4)] at h2
      exact (O.hq j q2 l2 h3 h2).mono R fun x hx z => by have h5 := o3 j q2 h3 x hx; have h6 := o1 _ HP.in_sl; rw [z] at h5; omega
    · rw [O.hql, List.getElem?_append_right (Nat.le_refl _), Nat.sub_self] at h2
      cases h2
      exact D
  · refine ⟨fun x => if x ∈ q.foot then 2 * P.qs.length + 2 else own x, fun x hx => ?_, fun i p hp x hx => ?_, fun j q2 hq2 x hx => ?_⟩
    · show (if x ∈ q.foot then _ else _) = 0
      rw [if_neg (notq x (.inl hx))]
      exact o1 x hx
    · show (if x ∈ q.foot then _ else _) = _
      rw [if_neg (notq x (HP.inD hp hx))]
      exact o2 i p hp x hx
    · show (if x ∈ q.foot then _ else _) = _
      have hq2 : (P.qs ++ [q])[j]? = some q2 := hq2
      rcases keep j q2 hq2 with ⟨h3, h4⟩ | ⟨rfl, rfl⟩
      · rw [if_neg (notq x (HP.inQ h3 hx))]
        exact o3 j q2 h3 x hx
      · rw [if_pos hx]
theorem HouseAt.look (O : HouseAt K CH CD CL A B P s) {σ : L2.St} {ta : TE} (ha : Ev ta σ B (.ref P.a)) (c : Cls K CH) {f : Str} {v : V} (n : NoAttr K CH f) (hv : (houseFs P).lookup f = some v) : Ev (tFld K ta f) σ B v := ev_fld ha O.ia c n hv
end

/-! ## small things: a letter, a place, a new house -/
def mkDS (i : Nat) : DS := ⟨(i : Int), 0, [], [], [], []⟩
def newHS (n : Nat) : HS := ⟨(List.range n).map mkDS, [], []⟩
def isPl : Option Int → Int → Bool
  | none, _ => false
  | some i, n => decide (0 ≤ i) && decide (i < n)
section
variable {P : Program} {w : World} {K : PySem.W.Frag} {mg : Str → Option Value} {base : Heap} {c : Cs}
def sp_place (K : PySem.W.Frag) : Sp := fun vs H Q _ => ∃ v o n, vs = [v, .int n] ∧ Thing K H v o ∧ ∀ H', Ex H H' → Q (.bl (isPl o n)) H'
theorem ok_place (T : Tx K mg c) : DefOk P w K mg base CX0 1 "is_place" ["thing", "many"] (sp_place K) := by
  obtain ⟨f, fd, d⟩ := T.d_is_place
  refine d.ok (d.F.ok sc_is_place (fun vs H Q E h => ?_) fun cdv A outer s H vs Q E hr h => ?_)
  · obtain ⟨_, _, _, e, _⟩ := h
    rw [e]
    rfl
  obtain ⟨v, o, n, rfl, hv, k⟩ := h
  have nd := sc_is_place.nd
  refine ⟨_, (pss_one (ps_ret (pe_and (pe_callB (c_isi (K := K) rfl) rfl T.mn_isinstance (by decide +kernel) (pa_cons (pv 0) (pa_cons (pe_ty (T := "int") rfl T.mn_int (by decide +kernel)) pa_nil))) (pe_and (pe_not (pe_callB (c_isi (K := K) rfl) rfl T.mn_isinstance (by decide +kernel) (pa_cons (pv 0) (pa_cons (pe_ty (T := "bool") rfl T.mn_bool (by decide +kernel)) pa_nil)))) (pe_one (pe_chain op_le op_lt pe_int (pv 0) (pv 1))))))), ?_⟩
  try dsimp only [cx_K]
  cases o with
  | some i =>
    cases hv
    have hi : ∀ m b, kitB "int" m = some b → EvD K (tCB (rIsi K) (tCons (tVar 0) (tCons (tC (.ty m)) tNil))) [some (.int i), some (.int n)] H (.bool b) := fun m b hk => ed_isi (ed_var rfl (.int i)) hk
    exact s_retV (v_bl (K := K) (i := isPl (some i) n) (ed_is (ed_and (a := true) (hi "int" true ki_ii) fun _ => ed_and (a := true) (ed_is (ed_not (hi "bool" false ki_ib)) rfl) fun _ => ed_chain ed_int (ed_var rfl (.int i)) (ed_var rfl (.int n))) rfl)) k
  | none =>
    obtain ⟨nm, ht, hk⟩ := hv
    rcases hk with hk | ⟨hk1, hk2⟩
    · exact s_retV (v_bl (K := K) (i := false) (ed_is (ed_and (a := false) (b := false) (ed_isiX (ev_var rfl) ht hk) fun z => by cases z) rfl)) k
    · exact s_retV (v_bl (K := K) (i := false) (ed_is (ed_and (a := true) (b := false) (ed_isiX (ev_var rfl) ht hk1) fun _ => ed_is (ed_and (a := false) (b := false) (ed_is (ed_not (ed_isiX (ev_var rfl) ht hk2)) rfl) fun z => by cases z) rfl) rfl)) k
theorem ed_place {σ : L2.St} {B : Hp} {ta tb : TE} {E : XK} {v : V} {o : Option Int} {n : Int} (ha : Ev ta σ B v) (hv : Thing K B v o) (hb : EvD K tb σ B (.int n)) : EvD K (tCall (sp_place K) [] E (tCons ta (tCons tb tNil))) σ B (.bool (isPl o n)) :=
  ed_v (v := .bl (isPl o n)) (fun H1 e Q q => c_callV (ea_cons (ha.mono e) (ea_cons ((v_int hb).mono e) ea_nil)) fun H2 e2 => ⟨v, o, n, rfl, hv.up (e.trans e2), fun H3 e3 => q H3 (e2.trans e3)⟩) (.bl _)
/-! a letter -/
def sp_mkLet (K : PySem.W.Frag) (C : Addr) : Sp := fun vs H Q _ => ∃ (A : Hp) (a dx : Addr) (w : Nat) (t : Str), vs = [.ref a, .int w, .str t] ∧ Ex A H ∧ H a = some (.ins C dx []) ∧ A a = none ∧
  ∀ q H', q.a = a → PrM (fun x => x = a) A H A H' → (∀ x ∈ q.foot, x = a ∨ H x = none) → LetAt K C A H' q ⟨w, t, [], none⟩ → Q .non H'
theorem ok_Letter_init (T : Tx K mg c) : MkOk P w K mg base (L2N.CX P w) 1 c.Letter ["self", "writer", "words"] (sp_mkLet K c.Letter) := by
  obtain ⟨f, fd, mk, F, b⟩ := T.k_Letter
  refine ⟨f, fd, mk, b, okN F sc_Letter___init__ (fun vs H Q E h => ?_) fun cdv A outer s H vs Q E hr h => ?_⟩
  · obtain ⟨_, _, _, _, _, e, _⟩ := h
    rw [e]
    rfl
  obtain ⟨A0, a, dx, wr, t, rfl, s0, hB, nA, k⟩ := h
  have nd := sc_Letter___init__.nd
  refine ⟨_, (pss_cons (ps_fld (pv 0) (pv 1) rfl)
      (pss_cons (ps_fld (pv 0) (pv 2) rfl)
      (pss_cons (ps_fld (pv 0) (pe_lst pa_nil) rfl)
      (pss_one (ps_fld (pv 0) pe_non rfl))))), ?_⟩
  try dsimp only [cx_K2]
  have P0 : PrM (fun x => x = a) A0 H A0 H := PrM.refl s0
  refine q_do (s_fldV K (ev_var rfl) (ev_var rfl) hB T.c_Letter T.na_Letter_writer (by decide) fun B1 e1 => go_nx ?_)
  have P1 := (P0.up e1).put (l := a) (o := .ins c.Letter dx (putF "writer" (.int wr) [])) (.inl rfl) nA
  have g1 : (upd B1 a (.ins c.Letter dx (putF "writer" (.int wr) []))) a = some (.ins c.Letter dx (putF "writer" (.int wr) [])) := upd_same
  generalize upd B1 a (.ins c.Letter dx (putF "writer" (.int wr) [])) = H1 at P1 g1 ⊢
  refine q_do (s_fldV K (ev_var rfl) (ev_var rfl) g1 T.c_Letter T.na_Letter_words (by show 1 < 1000; decide) fun B2 e2 => go_nx ?_)
  have P2 := (P1.up e2).put (l := a) (o := .ins c.Letter dx (putF "words" (.str t) (putF "writer" (.int wr) []))) (.inl rfl) nA
  have g2 : (upd B2 a (.ins c.Letter dx (putF "words" (.str t) (putF "writer" (.int wr) [])))) a = some (.ins c.Letter dx (putF "words" (.str t) (putF "writer" (.int wr) []))) := upd_same
  generalize upd B2 a (.ins c.Letter dx (putF "words" (.str t) (putF "writer" (.int wr) []))) = H2 at P2 g2 ⊢
  refine q_do (s_fldL K (ev_var rfl) g2 T.c_Letter T.na_Letter_numbers (by show 2 < 1000; decide) fun p3 B3 hp3 e3 => go_nx ?_)
  have n3 : p3 ≠ a := fun z => by rw [z, g2] at hp3; cases hp3
  have fr3 := P2.fresh hp3
  have P3 := ((P2.new (o := .lst []) hp3).up e3).put (l := a) (o := .ins c.Letter dx (putF "numbers" (.ref p3) (putF "words" (.str t) (putF "writer" (.int wr) [])))) (.inl rfl) nA
  have f3 : (upd B3 a (.ins c.Letter dx (putF "numbers" (.ref p3) (putF "words" (.str t) (putF "writer" (.int wr) []))))) p3 = some (.lst []) := by rw [upd_ne n3]; exact e3 _ _ upd_same
  have g3 : (upd B3 a (.ins c.Letter dx (putF "numbers" (.ref p3) (putF "words" (.str t) (putF "writer" (.int wr) []))))) a = some (.ins c.Letter dx (putF "numbers" (.ref p3) (putF "words" (.str t) (putF "writer" (.int wr) [])))) := upd_same
  generalize upd B3 a (.ins c.Letter dx (putF "numbers" (.ref p3) (putF "words" (.str t) (putF "writer" (.int wr) [])))) = H3 at P3 f3 g3 ⊢
  refine s_fldV K ev_c (ev_var rfl) g3 T.c_Letter T.na_Letter_final (by show 3 < 1000; decide) fun B4 e4 => ?_
  have P4 := (P3.up e4).put (l := a) (o := .ins c.Letter dx (putF "final" .non (putF "numbers" (.ref p3) (putF "words" (.str t) (putF "writer" (.int wr) []))))) (.inl rfl) nA
  refine k ⟨a, dx, p3⟩ _ rfl P4 (fun x hx => ?_) ⟨⟨.non, upd_same, .non⟩, ⟨[], ?_, .nil⟩, Ne.symm n3, fun x hx => ?_⟩
  · simp only [QP.foot, List.mem_cons, List.not_mem_nil, or_false] at hx
    rcases hx with rfl | rfl
    · exact .inl rfl
    · exact .inr fr3
  · show (upd B4 a _) p3 = _
    rw [upd_ne n3]
    exact e4 _ _ f3
  · simp only [QP.foot, List.mem_cons, List.not_mem_nil, or_false] at hx
    rcases hx with rfl | rfl
    · exact nA
    · exact fresh_back s0 fr3
end
section
variable {K : PySem.W.Frag} {C : Addr} {A H : Hp} {σ : L2.St} {te tf : TE} {E : XK} {Q : VK}
theorem mk_desk {hh : Int} (s : Ex A H) (h : EvD K te σ H (.int hh)) (k : ∀ p H', PrM (fun _ => False) A H A H' → (∀ x ∈ p.foot, H x = none) → DeskAt K C A H' p ⟨hh, 0, [], [], [], []⟩ → Q (.ref p.a) H') : tMake C (sp_mkDesk K C) [] E (tCons te tNil) σ H Q :=
  v_int h H (Ex.refl _) _ fun H1 e1 x dx hx hdx ne => by
    have P0 : PrM (fun _ => False) A H A (upd (upd H1 dx (.own x)) x (.ins C dx [])) := ((((PrM.refl s).up e1).new (o := .own x) hdx)).new (by rw [upd_ne (Ne.symm ne)]; exact hx)
    have hxH : H x = none := fresh_back e1 hx
    refine ⟨A, x, dx, hh, rfl, P0.s, upd_same, fresh_back s hxH, fun p H' pa PM foot D => ⟨rfl, ?_⟩⟩
    rw [← pa]
    refine k p H' (P0.then PM fun y hy => .inr (by rw [hy]; exact hxH)) (fun y hy => ?_) D
    rcases foot y hy with z | z
    · rw [z]; exact hxH
    · exact P0.fresh z
theorem mk_letter {wr : Nat} {t : Str} (s : Ex A H) (h1 : Ev te σ H (.int wr)) (h2 : Ev tf σ H (.str t)) (k : ∀ q H', PrM (fun _ => False) A H A H' → (∀ x ∈ q.foot, H x = none) → LetAt K C A H' q ⟨wr, t, [], none⟩ → Q (.ref q.a) H') : tMake C (sp_mkLet K C) [] E (tCons te (tCons tf tNil)) σ H Q :=
  h1 H (Ex.refl _) _ fun H0 e0 => h2 H0 e0 _ fun H1 e1' x dx hx hdx ne => by
    have e1 := e0.trans e1'
    have P0 : PrM (fun _ => False) A H A (upd (upd H1 dx (.own x)) x (.ins C dx [])) := ((((PrM.refl s).up e1).new (o := .own x) hdx)).new (by rw [upd_ne (Ne.symm ne)]; exact hx)
    have hxH : H x = none := fresh_back e1 hx
    refine ⟨A, x, dx, wr, t, rfl, P0.s, upd_same, fresh_back s hxH, fun p H' pa PM foot D => ⟨rfl, ?_⟩⟩
    rw [← pa]
    refine k p H' (P0.then PM fun y hy => .inr (by rw [hy]; exact hxH)) (fun y hy => ?_) D
    rcases foot y hy with z | z
    · rw [z]; exact hxH
    · exact P0.fresh z
end
theorem t_yes {te : TE} {σ : L2.St} {H : Hp} {Q : VK} {R : Hp → Prop} (h : te σ H Q) : tYes σ H (fun b H3 => if b = true then te σ H3 Q else R H3) := h
section
variable {P : Program} {w : World} {K : PySem.W.Frag} {mg : Str → Option Value} {base : Heap} {c : Cs}
/-! a new house -/
structure NewD (K : PySem.W.Frag) (C : Addr) (A B0 B : Hp) (L : Addr) (i : Nat) (ps : List DP) : Prop where
  len : ps.length = i
  pr : PrM (fun _ => False) A B0 A B
  lst : B L = some (.lst (ps.map fun p => .ref p.a))
  ds : ∀ (j : Nat) p, ps[j]? = some p → DeskAt K C A B p (mkDS j)
  ow : ∃ own : Addr → Nat, ∀ (j : Nat) p, ps[j]? = some p → ∀ x ∈ p.foot, own x = 2 * j + 1
  fr : ∀ p ∈ ps, ∀ x ∈ p.foot, B0 x = none ∧ x ≠ L
theorem snoc_get {α : Type} {l : List α} {x y : α} {j : Nat} (h : (l ++ [x])[j]? = some y) : (l[j]? = some y ∧ j < l.length) ∨ (y = x ∧ j = l.length) := by
  by_cases hl : j < l.length
  · rw [List.getElem?_append_left hl] at h
    exact .inl ⟨h, hl⟩
  · rw [List.getElem?_append_right (by omega)] at h
    have hj : j - l.length = 0 := by
      have := (List.getElem?_eq_some_iff.mp h).1
      rw [List.length_singleton] at this
      omega
    rw [hj] at h
    exact .inr ⟨(Option.some.inj h).symm, by omega⟩
def sp_mkHouse (K : PySem.W.Frag) (CH CD CL Bc : Addr) : Sp := fun vs H Q E => ∃ A a dx v o, vs = [.ref a, v] ∧ Ex A H ∧ H a = some (.ins CH dx []) ∧ A a = none ∧ Thing K H v o ∧
  (isPl o 41 = false ∨ o = some 0 → ∀ H', Ex H H' → E (.ref Bc) none H') ∧
  ∀ n : Nat, o = some (n : Int) → 0 < n → n ≤ 40 → ∀ P H', P.a = a → PrM (fun x => x = a) A H A H' → (∀ x, P.inF x → x = a ∨ H x = none) → HouseAt K CH CD CL A H' P (newHS n) → Q .non H'
theorem ok_House_init (T : Tx K mg c) : MkOk P w K mg base (L2N.CX P w) 3 c.House ["self", "many"] (sp_mkHouse K c.House c.Desk c.Letter c.BadCount) := by
  obtain ⟨f, fd, mk, F, b⟩ := T.k_House
  refine ⟨f, fd, mk, b, okN F sc_House___init__ (fun vs H Q E h => ?_) fun cdv A outer s H vs Q E hr h => ?_⟩
  · obtain ⟨_, _, _, _, _, e, _⟩ := h
    rw [e]
    rfl
  obtain ⟨A0, a, dx, v, o, rfl, s0, hB, nA, hv, kx, k⟩ := h
  have nd := sc_House___init__.nd
  have G_is_place := ok_place (P := P) (w := w) (base := base) T
  have MK_Desk := ok_Desk_init (P := P) (w := w) (base := base) T
  refine ⟨_, (pss_cons (ps_if (PW.pt (pw_or (pt_not (pt_val (pe_cd G_is_place (hr.mono (by decide)) rfl pass0 (pa_cons (pv 1) (pa_cons (pe_op op_add (pe_gi rfl T.mg_MOST_HANDS) pe_int) pa_nil))))) (pw_or1 (pt_cmpR op_eq (pv 1) pe_int (nomark _))))) (pss_one (ps_rs rfl (L2N.takes_of rfl rfl rfl rfl) T.x_BadCount rfl)) pss_nil)
      (pss_cons (ps_fld (pv 0) (pe_lc (own := [("hand", 2)]) (g := gName 2) rfl nd (pi_range1 rfl T.mn_range (pa_cons (pv 1) pa_nil)) (blkOk_by (own := [("hand", 2)]) (N := ["self", "many", "hand"]) (sc := defScope s_House___init__) (by decide +kernel)) (fun _ _ _ _ _ => pg_name (i := 2) nd rfl (Or.inl rfl)) (fun _ _ _ _ _ => pts_nil) (fun _ _ _ _ _ => (pe_mk rfl T.g_Desk MK_Desk (hr.mono (by decide)) passN (pa_cons (pv 2) pa_nil)))) rfl)
      (pss_cons (ps_fld (pv 0) (pe_lst pa_nil) rfl)
      (pss_one (ps_fld (pv 0) (pe_lst pa_nil) rfl))))), ?_⟩
  try dsimp only [cx_K2]
  have hpl : ∀ B, Ex H B → EvD K (tCall (sp_place K) [] E0 (tCons (tVar 1) (tCons (tOp (rI0 fun i j => .int (i + j)) (tC (.int 40)) (tC (.int 1))) tNil))) [some (.ref a), some v, none] B (.bool (isPl o (40 + 1))) := fun B e => ed_place (ev_var rfl) (hv.up e) (ed_Ii ed_int ed_int)
  by_cases hbad : isPl o 41 = false ∨ o = some 0
  · refine q_ifM K (b := true) ?_ rfl (fun _ B1 e1 => kx hbad B1 e1) (fun z => by cases z)
    rcases hbad with hb | rfl
    · exact eb_or (a := true) (b := true) (eb_is (eb_not (eb_DB (hpl H (Ex.refl _)))) (by rw [show (40 + 1 : Int) = 41 from rfl, hb]; rfl)) fun z => by cases z
    · cases hv
      exact eb_or (a := false) (b := true) (eb_is (eb_not (eb_DB (hpl H (Ex.refl _)))) rfl) fun _ => eb_is (eb_D (ed_eqi (ed_var rfl (.int 0)) ed_int)) rfl
  have hgood : ∃ n : Nat, o = some (n : Int) ∧ 0 < n ∧ n ≤ 40 := by
    rw [not_or] at hbad
    cases o with
    | none => exact absurd rfl hbad.1
    | some i =>
      have h1 : isPl (some i) 41 = true := by
        cases e : isPl (some i) 41 with
        | true => rfl
        | false => exact absurd e hbad.1
      unfold isPl at h1
      rw [Bool.and_eq_true, decide_eq_true_eq, decide_eq_true_eq] at h1
      have h2 : i ≠ 0 := fun z => hbad.2 (by rw [z])
      exact ⟨i.toNat, by congr 1; omega, by omega, by omega⟩
  obtain ⟨n, rfl, hn1, hn2⟩ := hgood
  cases hv
  have hpt : isPl (some (n : Int)) (40 + 1) = true := by
    show (decide ((0 : Int) ≤ (n : Int)) && decide ((n : Int) < 40 + 1)) = true
    rw [decide_eq_true (by omega), decide_eq_true (by omega)]
    rfl
  refine q_ifM K (b := false) (eb_or (a := false) (b := false) (eb_is (eb_not (eb_DB (hpl H (Ex.refl _)))) (by rw [hpt]; rfl)) fun _ => eb_is (eb_D (ed_eqi (ed_var rfl (.int n)) ed_int)) (beq_false_of_ne (by omega))) rfl (fun z => by cases z) (fun _ B1 e1 => q_next ?_)
  have P1 : PrM (fun x => x = a) A0 H A0 B1 := (PrM.refl s0).up e1
  have hB1 := e1 _ _ hB
  -- the desks
  refine q_do ⟨_, rfl, (n : Int), rfl, by omega, by omega, fun L hL => lc_range (lo := 0) (n := ((n : Int)).toNat) (fun i H' => ∃ ps, NewD K c.Desk A0 B1 H' L i ps) ?_ ?_ ?_⟩
  · exact ⟨[], rfl, (PrM.refl P1.s).new hL, upd_same, fun j p h => by simp at h, ⟨fun _ => 0, fun j p h => by simp at h⟩, fun p h => by simp at h⟩
  · rintro i H' hi ⟨ps, N⟩
    have e0 : (0 : Int) + (i : Int) = (i : Int) := Int.zero_add _
    rw [e0]
    refine ⟨rfl, ?_⟩
    refine t_yes ?_
    refine mk_desk (A := A0) N.pr.s (ed_var rfl (.int (i : Int))) fun q H5 P5 f5 D5 => ?_
    have hLalive : H' L ≠ none := by rw [N.lst]; simp
    have nAL : A0 L = none := fresh_back P1.s hL
    have g5 : H5 L = some (.lst (ps.map fun p => .ref p.a)) := P5.b _ _ (fun z => z) N.lst
    have PQ := (PrM.refl (F := fun x => x = L) P5.s).put (l := L) (o := .lst ((ps.map fun p => V.ref p.a) ++ [.ref q.a])) (.inl rfl) nAL
    have fL : ∀ x ∈ q.foot, x ≠ L := fun x hx z => hLalive (z ▸ f5 x hx)
    refine ⟨_, g5, sz_lt (by rw [List.length_map, N.len]; omega), ps ++ [q], by rw [List.length_append, N.len]; rfl, (N.pr.trans P5).put (.inr hL) nAL, by rw [upd_same, List.map_append]; rfl, fun j p h => ?_, ?_, fun p hp x hx => ?_⟩
    · rcases snoc_get h with ⟨h1, h2⟩ | ⟨rfl, rfl⟩
      · exact ((N.ds j p h1).mono P5 fun _ _ z => z).mono PQ fun x hx z => (N.fr p (List.mem_of_getElem? h1) x hx).2 z
      · rw [N.len]
        exact D5.mono PQ fun x hx z => fL x hx z
    · obtain ⟨own, ho⟩ := N.ow
      refine ⟨fun x => if x ∈ q.foot then 2 * i + 1 else own x, fun j p h x hx => ?_⟩
      show (if x ∈ q.foot then _ else _) = _
      rcases snoc_get h with ⟨h1, h2⟩ | ⟨rfl, rfl⟩
      · rw [if_neg (fun z => (N.ds j p h1).alive x hx (f5 x z))]
        exact ho j p h1 x hx
      · rw [if_pos hx, N.len]
    · rcases List.mem_append.mp hp with z | z
      · exact N.fr p z x hx
      · rw [List.mem_singleton.mp z] at hx
        exact ⟨N.pr.fresh (f5 x hx), fL x hx⟩
  · rintro H' ⟨ps, N⟩
    have hlen : ps.length = n := by rw [N.len]; omega
    have P2 : PrM (fun x => x = a) A0 H A0 H' := P1.trans (N.pr.mono fun _ z => z.elim)
    have hLH : H L = none := fresh_back e1 hL
    have na : a ≠ L := fun z => by rw [z, hLH] at hB; cases hB
    have frH : ∀ p ∈ ps, ∀ x ∈ p.foot, H x = none := fun p hp x hx => fresh_back e1 (N.fr p hp x hx).1
    have nap : ∀ p ∈ ps, ∀ x ∈ p.foot, x ≠ a := fun p hp x hx z => by have := frH p hp x hx; rw [z, hB] at this; cases this
    refine ⟨_, rfl, a, c.House, dx, [], rfl, N.pr.b _ _ (fun z => z) hB1, T.c_House, T.na_House_desks, by decide, go_nx ?_⟩
    have P3 := P2.put (l := a) (o := .ins c.House dx (putF "desks" (.ref L) [])) (.inl rfl) nA
    have PR3 := (PrM.refl (F := fun x => x = a) N.pr.s).put (l := a) (o := .ins c.House dx (putF "desks" (.ref L) [])) (.inl rfl) nA
    have g3 : (upd H' a (.ins c.House dx (putF "desks" (.ref L) []))) a = some (.ins c.House dx (putF "desks" (.ref L) [])) := upd_same
    generalize upd H' a (.ins c.House dx (putF "desks" (.ref L) [])) = H3 at P3 PR3 g3 ⊢
    refine q_do (s_fldL K (ev_var rfl) g3 T.c_House T.na_House_sent (by show 1 < 1000; decide) fun p4 B4 hp4 e4 => go_nx ?_)
    have n4 : p4 ≠ a := fun z => by rw [z, g3] at hp4; cases hp4
    have P4 := ((P3.new (o := .lst []) hp4).up e4).put (l := a) (o := .ins c.House dx (putF "sent" (.ref p4) (putF "desks" (.ref L) []))) (.inl rfl) nA
    have PR4 := ((PR3.new (o := .lst []) hp4).up e4).put (l := a) (o := .ins c.House dx (putF "sent" (.ref p4) (putF "desks" (.ref L) []))) (.inl rfl) nA
    have g4 : (upd B4 a (.ins c.House dx (putF "sent" (.ref p4) (putF "desks" (.ref L) [])))) a = some (.ins c.House dx (putF "sent" (.ref p4) (putF "desks" (.ref L) []))) := upd_same
    have s4 : (upd B4 a (.ins c.House dx (putF "sent" (.ref p4) (putF "desks" (.ref L) [])))) p4 = some (.lst []) := by rw [upd_ne n4]; exact e4 _ _ upd_same
    generalize upd B4 a (.ins c.House dx (putF "sent" (.ref p4) (putF "desks" (.ref L) []))) = H4 at P4 PR4 g4 s4 ⊢
    refine s_fldL K (ev_var rfl) g4 T.c_House T.na_House_post (by show 2 < 1000; decide) fun p5 B5 hp5 e5 => ?_
    have n5 : p5 ≠ a := fun z => by rw [z, g4] at hp5; cases hp5
    have n54 : p5 ≠ p4 := fun z => by rw [z, s4] at hp5; cases hp5
    have P5 := ((P4.new (o := .lst []) hp5).up e5).put (l := a) (o := .ins c.House dx (putF "post" (.ref p5) (putF "sent" (.ref p4) (putF "desks" (.ref L) [])))) (.inl rfl) nA
    have PR5 := ((PR4.new (o := .lst []) hp5).up e5).put (l := a) (o := .ins c.House dx (putF "post" (.ref p5) (putF "sent" (.ref p4) (putF "desks" (.ref L) [])))) (.inl rfl) nA
    have g5 : (upd B5 a (.ins c.House dx (putF "post" (.ref p5) (putF "sent" (.ref p4) (putF "desks" (.ref L) []))))) a = some (.ins c.House dx (putF "post" (.ref p5) (putF "sent" (.ref p4) (putF "desks" (.ref L) [])))) := upd_same
    have s5 : (upd B5 a (.ins c.House dx (putF "post" (.ref p5) (putF "sent" (.ref p4) (putF "desks" (.ref L) []))))) p4 = some (.lst []) := by rw [upd_ne n4]; exact e5 _ _ (by rw [upd_ne (Ne.symm n54)]; exact s4)
    have l5 : (upd B5 a (.ins c.House dx (putF "post" (.ref p5) (putF "sent" (.ref p4) (putF "desks" (.ref L) []))))) p5 = some (.lst []) := by rw [upd_ne n5]; exact e5 _ _ upd_same
    have f4 := P3.fresh hp4
    have f5 := P4.fresh hp5
    have f4' : H' p4 = none := PR3.fresh hp4
    have f5' : H' p5 = none := PR4.fresh hp5
    have nL4 : L ≠ p4 := fun z => by have := N.lst; rw [z, f4'] at this; cases this
    have nL5 : L ≠ p5 := fun z => by have := N.lst; rw [z, f5'] at this; cases this
    have base : ∀ x ∈ [a, L, p4, p5], x = a ∨ H x = none := fun x hx => by
      simp only [List.mem_cons, List.not_mem_nil, or_false] at hx
      rcases hx with rfl | rfl | rfl | rfl
      · exact .inl rfl
      · exact .inr hLH
      · exact .inr f4
      · exact .inr f5
    refine k n rfl hn1 hn2 ⟨a, dx, L, p4, p5, ps, []⟩ _ rfl P5 (fun x hx => ?_) ⟨g5, PR5.b _ _ (Ne.symm na) N.lst, s5, ⟨[], l5, .nil⟩, ?_, fun i p d h1 h2 => ?_, rfl, fun j q l h => by simp at h, ?_, ?_, fun x hx => ?_⟩
    · rcases hx with h | ⟨p, hp, h⟩ | ⟨q, hq, h⟩
      · exact base x h
      · exact .inr (frH p hp x h)
      · simp at hq
    · show ps.length = ((List.range n).map mkDS).length
      rw [List.length_map, List.length_range, hlen]
    · have h2 : ((List.range n).map mkDS)[i]? = some d := h2
      rw [List.getElem?_map] at h2
      obtain ⟨y, hy, rfl⟩ := Option.map_eq_some_iff.mp h2
      have hyi : y = i := by
        obtain ⟨h3, h4⟩ := List.getElem?_eq_some_iff.mp hy
        rw [List.getElem_range] at h4
        exact h4.symm
      subst hyi
      exact (N.ds _ p h1).mono PR5 fun x hx z => nap p (List.mem_of_getElem? h1) x hx z
    · obtain ⟨own, ho⟩ := N.ow
      have notb : ∀ p ∈ ps, ∀ x ∈ p.foot, x ∉ [a, L, p4, p5] := fun p hp x hx z => by
        obtain ⟨j, hj⟩ := List.mem_iff_getElem?.mp hp
        have al := (N.ds j p hj).alive x hx
        simp only [List.mem_cons, List.not_mem_nil, or_false] at z
        rcases z with z | z | z | z
        · exact nap p hp x hx z
        · exact (N.fr p hp x hx).2 z
        · exact al (z ▸ f4')
        · exact al (z ▸ f5')
      refine ⟨fun x => if x ∈ [a, L, p4, p5] then 0 else own x, fun x hx => if_pos hx, fun i p hp x hx => ?_, fun j q h => by simp at h⟩
      show (if x ∈ [a, L, p4, p5] then 0 else own x) = _
      rw [if_neg (notb p (List.mem_of_getElem? hp) x hx)]
      exact ho i p hp x hx
    · show [a, L, p4, p5].Nodup
      simp only [List.nodup_cons, List.mem_cons, List.not_mem_nil, or_false, not_or, not_false_eq_true, List.nodup_nil, and_true]
      exact ⟨⟨na, Ne.symm n4, Ne.symm n5⟩, ⟨nL4, nL5⟩, Ne.symm n54⟩
    · rcases base x hx with z | z
      · rw [z]; exact nA
      · exact fresh_back s0 z
end

end K8

namespace K8
open PySem L2 Evl Ob

local macro_rules | `(tactic| tm_at "sh") => `(tactic| first | exact sh_mk | exact sh_mks | exact sh_b3)

/-! ## what a house does, in plain lists -/
def mgreat (ms : List Mk) (a : Mk) : Mk := ms.foldl (fun f m => if mless f m then m else f) a
def great (ms : List Mk) : Mk := mgreat ms (ms.headD (0, 0))
def others (n w : Nat) : List Nat := (List.range n).filter fun h => decide (h ≠ w)
def mailsTo (n : Nat) (k : MW) (l w : Nat) (m : Option Mk) : List Mail := (others n w).map fun h => ⟨k, l, w, h, m⟩
def DS.settle? (d : DS) (l : Int) (m : Mk) : Option DS := if l ∈ d.keys ∧ l ∉ d.done ∧ mless m (mkOf d l) = false then some (d.set1 l m).run.1 else none
def HS.look (s : HS) (l : Nat) : Option HS := (s.sent[l]?).bind fun x =>
  if x.numbers.length = s.desks.length then (s.desks[x.writer]?).bind fun d => (d.settle? l (great x.numbers)).map fun d' =>
    ⟨s.desks.set x.writer d', s.sent.set l ⟨x.writer, x.words, x.numbers, some (great x.numbers)⟩, s.post ++ mailsTo s.desks.length .mark l x.writer (some (great x.numbers))⟩
  else some s
def HS.send1 (s : HS) (h : Nat) (d : DS) (t : Str) : HS := ⟨s.desks.set h (d.prop s.sent.length), s.sent ++ [⟨h, t, [(d.time + 1, d.hand)], none⟩], s.post ++ mailsTo s.desks.length .letter s.sent.length h none⟩
def HS.send (s : HS) (h : Nat) (t : Str) : Option HS := (s.desks[h]?).bind fun d => if (s.sent.length : Int) ∈ d.known then none else (s.send1 h d t).look s.sent.length
def HS.bring (s : HS) (i : Nat) : Option HS := (s.post[i]?).bind fun m => match m.word with
  | .letter => (s.desks[m.dst]?).bind fun d => if (m.letter : Int) ∈ d.known then none else some ⟨s.desks.set m.dst (d.prop m.letter), s.sent, s.post.eraseIdx i ++ [⟨.number, m.letter, m.dst, m.src, some (d.time + 1, d.hand)⟩]⟩
  | .number => (s.sent[m.letter]?).bind fun x => m.mark.bind fun k => HS.look ⟨s.desks, s.sent.set m.letter ⟨x.writer, x.words, x.numbers ++ [k], x.final⟩, s.post.eraseIdx i⟩ m.letter
  | .mark => (s.desks[m.dst]?).bind fun d => m.mark.bind fun k => (d.settle? m.letter k).map fun d' => ⟨s.desks.set m.dst d', s.sent, s.post.eraseIdx i⟩
/-- small enough -/
structure Sm (b : Nat) (s : HS) : Prop where
  n : s.desks.length ≤ 40
  p : s.post.length < b
  d : ∀ d ∈ s.desks, d.size < b
  l : s.sent.length < b
  x : ∀ x ∈ s.sent, x.numbers.length < b
theorem at_mapG {α β : Type} (f : α → β) {xs : List α} {i : Nat} {x : α} (h : xs[i]? = some x) : atI (xs.map f) (i : Int) = some (f x) := by
  have hl := (List.getElem?_eq_some_iff.mp h).1
  unfold atI
  rw [show ixN (xs.map f).length (i : Int) = some i from ixN_nat (by rw [List.length_map]; exact hl)]
  show (xs.map f)[i]? = _
  rw [List.getElem?_map, h]
  rfl
section
variable {K : PySem.W.Frag} {CH CD CL : Addr} {A B : Hp} {P : HP} {s : HS} {σ : L2.St} {te ta : TE} {l : Addr} {xs : List V}
theorem ed_lenL (h : Ev ta σ B (.ref l)) (hl : SqL K B l xs) : EvD K (tCB (rLenS K) (tCons ta tNil)) σ B (.int (xs.length : Int)) :=
  ed_v (v := .int (xs.length : Int)) (fun H1 e Q q => h H1 e _ fun H2 e2 => ⟨l, xs, rfl, .inl (ex_l (e.trans e2) hl), q H2 e2⟩) (.int _)
theorem HouseAt.ev_let (O : HouseAt K CH CD CL A B P s) (ha : Ev ta σ B (.ref P.a)) (c : Cls K CH) (n : NoAttr K CH "sent") {j : Nat} {q : QP} (hq : P.qs[j]? = some q) (he : EvD K te σ B (.int (j : Int))) : Ev (tOp (rIxL K) (tFld K ta "sent") te) σ B (.ref q.a) :=
  ev_ixL (O.look ha c n rfl) (sq_of O.isl) he (at_mapG (fun q : QP => V.ref q.a) hq)
theorem HouseAt.ev_desk (O : HouseAt K CH CD CL A B P s) (ha : Ev ta σ B (.ref P.a)) (c : Cls K CH) (n : NoAttr K CH "desks") {j : Nat} {p : DP} (hq : P.ds[j]? = some p) (he : EvD K te σ B (.int (j : Int))) : Ev (tOp (rIxL K) (tFld K ta "desks") te) σ B (.ref p.a) :=
  ev_ixL (O.look ha c n rfl) (sq_of O.idl) he (at_mapG (fun p : DP => V.ref p.a) hq)
theorem HouseAt.ev_n (O : HouseAt K CH CD CL A B P s) (ha : Ev ta σ B (.ref P.a)) (c : Cls K CH) (n : NoAttr K CH "desks") : EvD K (tCB (rLenS K) (tCons (tFld K ta "desks") tNil)) σ B (.int (s.desks.length : Int)) := by
  have h := ed_lenL (O.look ha c n rfl) (sq_of (K := K) O.idl)
  rw [List.length_map, O.hdl] at h
  exact h
theorem HouseAt.ev_l (O : HouseAt K CH CD CL A B P s) (ha : Ev ta σ B (.ref P.a)) (c : Cls K CH) (n : NoAttr K CH "sent") : EvD K (tCB (rLenS K) (tCons (tFld K ta "sent") tNil)) σ B (.int (s.sent.length : Int)) := by
  have h := ed_lenL (O.look ha c n rfl) (sq_of (K := K) O.isl)
  rw [List.length_map, O.hql] at h
  exact h
theorem HouseAt.ev_p (O : HouseAt K CH CD CL A B P s) (ha : Ev ta σ B (.ref P.a)) (c : Cls K CH) (n : NoAttr K CH "post") : EvD K (tCB (rLenS K) (tCons (tFld K ta "post") tNil)) σ B (.int (s.post.length : Int)) := by
  obtain ⟨xs, e, hx⟩ := O.ipl
  have h := ed_lenL (O.look ha c n rfl) (sq_of (K := K) e)
  rw [dpa_len hx, List.length_map] at h
  exact h
end
section
variable {P : Program} {w : World} {K : PySem.W.Frag} {mg : Str → Option Value} {base : Heap} {c : Cs}
/-! the greatest of some marks, the thing itself -/
def sp_great (K : PySem.W.Frag) : Sp := fun vs H Q _ => ∃ (l : Addr) (xs : List V) (ms : List Mk), vs = [.ref l] ∧ SqL K H l xs ∧ DpAll K H xs (ms.map mkD) ∧ ms ≠ [] ∧ ∀ (v : V) (j : Nat) (H' : Hp), xs[j]? = some v → ms[j]? = some (great ms) → Ex H H' → Q v H'
theorem ok_great (T : Tx K mg c) : DefOk P w K mg base CX0 2 "greatest" ["marks"] (sp_great K) := by
  obtain ⟨f, fd, d⟩ := T.d_greatest
  refine d.ok (d.F.ok sc_greatest (fun vs H Q E h => ?_) fun cdv A outer s H vs Q E hr h => ?_)
  · obtain ⟨_, _, _, e, _⟩ := h
    rw [e]
    rfl
  obtain ⟨l, xs, ms, rfl, hl, hx, hne, k⟩ := h
  have nd := sc_greatest.nd
  have G_less := ok_less (P := P) (w := w) (base := base) T
  refine ⟨_, (pss_cons (ps_set (i := 1) nd rfl (Or.inl rfl) (pe_ix (ixL (K := K) rfl) (pv 0) pe_int (fun _ _ => rfl)))
      (pss_cons (ps_for PassesOwn.never rfl (pi_list (pv 0)) (pg_name (i := 2) nd rfl (Or.inl rfl)) (pss_one (ps_if (pt_val (pe_cd G_less (hr.mono (by decide)) rfl pass0 (pa_cons (pv 1) (pa_cons (pv 2) pa_nil)))) (pss_one (ps_set (i := 1) nd rfl (Or.inl rfl) (pv 2))) pss_nil)))
      (pss_one (ps_ret (pv 1))))), ?_⟩
  try dsimp only [cx_K]
  have hh : ms[0]? = some (ms.headD (0, 0)) := by cases ms with | nil => exact absurd rfl hne | cons a r => rfl
  obtain ⟨v0, hv0, _⟩ := dpa_get (d := mkD (ms.headD (0, 0))) hx (by rw [List.getElem?_map, hh]; rfl)
  have h0 : atI xs 0 = some v0 := by
    have := at_mapG (id : V → V) (i := 0) hv0
    rw [List.map_id] at this
    exact this
  refine q_asgV (ev_ixL (K := K) (ev_var rfl) hl ed_int h0) fun B1 e1 => ?_
  have dp : ∀ (j : Nat) v m B, xs[j]? = some v → ms[j]? = some m → Ex H B → Dp K B v (mkD m) := fun j v m B h1 h2 e => by
    obtain ⟨v', h3, h4⟩ := dpa_get (d := mkD m) hx (by rw [List.getElem?_map, h2]; rfl)
    rw [h1] at h3
    cases h3
    exact dp_ex e h4
  refine q_do (s_forL K (ev_var rfl) (ex_l e1 hl) (fun i σ' => ∃ (v : V) (w : Option V) (j : Nat), σ' = [some (.ref l), some v, w] ∧ xs[j]? = some v ∧ ms[j]? = some (mgreat (ms.take i) (ms.headD (0, 0)))) ⟨v0, none, 0, rfl, hv0, hh⟩ ?_ ?_)
  · rintro i x σ' B2 hxi e2 ⟨v, w2, j, rfl, hj, hm⟩
    have e12 := e1.trans e2
    have hi : i < ms.length := by
      have := (List.getElem?_eq_some_iff.mp hxi).1
      rw [dpa_len hx, List.length_map] at this
      exact this
    have hmi : ms[i]? = some ms[i] := List.getElem?_eq_getElem hi
    have tk : mgreat (ms.take (i + 1)) (ms.headD (0, 0)) = if mless (mgreat (ms.take i) (ms.headD (0, 0))) ms[i] then ms[i] else mgreat (ms.take i) (ms.headD (0, 0)) := by
      rw [List.take_succ, hmi]; unfold mgreat; rw [List.foldl_append]; rfl
    refine s_ifM K (b := mless (mgreat (ms.take i) (ms.headD (0, 0))) ms[i]) (eb_DB (ed_call (ea_consD (ed_var rfl (dp j v _ B2 hj hm e12)) (ea_consD (ed_var rfl (dp i x _ B2 hxi hmi e12)) ea_nilD)) (at_less _ _))) rfl (fun hb B3 e3 => ?_) (fun hb B3 e3 => ?_)
    · exact s_asgV (ev_var rfl) fun B4 e4 => ⟨e2.trans (e3.trans e4), x, some x, i, rfl, hxi, by rw [tk, if_pos hb]; exact hmi⟩
    · exact ⟨e2.trans e3, v, some x, j, rfl, hj, by rw [tk, if_neg (by rw [hb]; decide)]; exact hm⟩
  · rintro σ' B2 e2 ⟨v, w2, j, rfl, hj, hm⟩
    rw [dpa_len hx, List.length_map, List.take_length] at hm
    exact go_nx (s_retV (ev_var rfl) fun B3 e3 => k v j B3 hj hm (e1.trans (e2.trans e3)))
/-! what is no hand, no letter -/
def sp_nhand (K : PySem.W.Frag) (CH CD CL No : Addr) : Sp := fun vs H Q E => ∃ A P s v o, vs = [.ref P.a, v] ∧ HouseAt K CH CD CL A H P s ∧ Thing K H v o ∧
  (isPl o s.desks.length = true → ∀ H', Ex H H' → Q .non H') ∧ (isPl o s.desks.length = false → ∀ H', Ex H H' → E (.ref No) none H')
theorem ok_nhand (T : Tx K mg c) : MethOk P w K mg base (L2N.CX P w) 2 c.House "need_hand" ["self", "hand"] (sp_nhand K c.House c.Desk c.Letter c.NoHand) := by
  obtain ⟨f, fd, d⟩ := T.m_House_need_hand
  refine d.ok (okN d.F sc_House_need_hand (fun vs H Q E h => ?_) fun cdv A outer s H vs Q E hr h => ?_)
  · obtain ⟨_, _, _, _, _, e, _⟩ := h
    rw [e]
    rfl
  obtain ⟨A0, P0, st, v, o, rfl, O, hv, k, kx⟩ := h
  have nd := sc_House_need_hand.nd
  have G_is_place := ok_place (P := P) (w := w) (base := base) T
  refine ⟨_, (pss_one (ps_if (pt_not (pt_val (pe_cd G_is_place (hr.mono (by decide)) rfl pass0 (pa_cons (pv 1) (pa_cons (pe_callB (c_len (K := K) rfl) rfl T.mn_len (by decide +kernel) (pa_cons (pe_fld (pv 0) rfl) pa_nil)) pa_nil))))) (pss_one (ps_rs rfl (L2N.takes_of rfl rfl rfl rfl) T.x_NoHand rfl)) pss_nil)), ?_⟩
  try dsimp only [cx_K2]
  refine s_ifM K (b := !isPl o st.desks.length) (eb_not (eb_DB (ed_place (ev_var rfl) hv (O.ev_n (ev_var rfl) T.c_House T.na_House_desks)))) rfl (fun hb B1 e1 => kx (by simpa using hb) B1 e1) (fun hb B1 e1 => k (by simpa using hb) B1 e1)
def sp_nlet (K : PySem.W.Frag) (CH CD CL No : Addr) : Sp := fun vs H Q E => ∃ A P s v o, vs = [.ref P.a, v] ∧ HouseAt K CH CD CL A H P s ∧ Thing K H v o ∧
  (∀ (j : Nat) q, o = some (j : Int) → P.qs[j]? = some q → ∀ H', Ex H H' → Q (.ref q.a) H') ∧ (isPl o s.sent.length = false → ∀ H', Ex H H' → E (.ref No) none H')
theorem isPl_nat {o : Option Int} {n : Nat} (h : isPl o n = true) : ∃ j : Nat, o = some (j : Int) ∧ j < n := by
  cases o with
  | none => cases h
  | some i =>
    unfold isPl at h
    rw [Bool.and_eq_true, decide_eq_true_eq, decide_eq_true_eq] at h
    exact ⟨i.toNat, by congr 1; omega, by omega⟩
theorem isPl_of {n j : Nat} (h : j < n) : isPl (some (j : Int)) n = true := by
  show (decide ((0 : Int) ≤ (j : Int)) && decide ((j : Int) < (n : Int))) = true
  rw [decide_eq_true (by omega), decide_eq_true (by omega)]
  rfl
theorem ok_nlet (T : Tx K mg c) : MethOk P w K mg base (L2N.CX P w) 2 c.House "need_letter" ["self", "letter"] (sp_nlet K c.House c.Desk c.Letter c.NoLetter) := by
  obtain ⟨f, fd, d⟩ := T.m_House_need_letter
  refine d.ok (okN d.F sc_House_need_letter (fun vs H Q E h => ?_) fun cdv A outer s H vs Q E hr h => ?_)
  · obtain ⟨_, _, _, _, _, e, _⟩ := h
    rw [e]
    rfl
  obtain ⟨A0, P0, st, v, o, rfl, O, hv, k, kx⟩ := h
  have nd := sc_House_need_letter.nd
  have G_is_place := ok_place (P := P) (w := w) (base := base) T
  refine ⟨_, (pss_cons (ps_if (pt_not (pt_val (pe_cd G_is_place (hr.mono (by decide)) rfl pass0 (pa_cons (pv 1) (pa_cons (pe_callB (c_len (K := K) rfl) rfl T.mn_len (by decide +kernel) (pa_cons (pe_fld (pv 0) rfl) pa_nil)) pa_nil))))) (pss_one (ps_rs rfl (L2N.takes_of rfl rfl rfl rfl) T.x_NoLetter rfl)) pss_nil)
      (pss_one (ps_ret (pe_ix (ixL (K := K) rfl) (pe_fld (pv 0) rfl) (pv 1) (fun _ _ => rfl))))), ?_⟩
  try dsimp only [cx_K2]
  refine q_ifM K (b := !isPl o st.sent.length) (eb_not (eb_DB (ed_place (ev_var rfl) hv (O.ev_l (ev_var rfl) T.c_House T.na_House_sent)))) rfl (fun hb B1 e1 => kx (by simpa using hb) B1 e1) (fun hb B1 e1 => q_next ?_)
  obtain ⟨j, rfl, hj⟩ := isPl_nat (o := o) (n := st.sent.length) (by simpa using hb)
  cases hv
  rw [← O.hql] at hj
  have hq := List.getElem?_eq_getElem hj
  exact s_retV ((O.ev_let (te := tVar 1) (ta := tVar 0) (σ := [some (V.ref P0.a), some (V.int (j : Int))]) (ev_var rfl) T.c_House T.na_House_sent hq (ed_var rfl (.int (j : Int)))).mono e1) fun B2 e2 => k j _ rfl hq B2 (e1.trans e2)
/-! a mail to each other hand -/
theorem mailsTo_succ (i : Nat) (kw : MW) (l w : Nat) (m : Option Mk) : mailsTo (i + 1) kw l w m = mailsTo i kw l w m ++ if i ≠ w then [⟨kw, l, w, i, m⟩] else [] := by
  unfold mailsTo others
  rw [List.range_succ, List.filter_append, List.map_append]
  congr 1
  by_cases h : i = w
  · rw [List.filter_cons_of_neg (by simp [h]), if_neg (by simp [h])]; rfl
  · rw [List.filter_cons_of_pos (by simp [h]), if_pos h]; rfl
theorem mailsTo_len (n : Nat) (kw : MW) (l w : Nat) (m : Option Mk) : (mailsTo n kw l w m).length ≤ n := by
  unfold mailsTo others
  rw [List.length_map]
  exact Nat.le_trans (List.length_filter_le _ _) (by rw [List.length_range]; exact Nat.le_refl _)
def sp_toO (K : PySem.W.Frag) (CH CD CL : Addr) : Sp := fun vs H Q _ => ∃ A P s kw l x vm m, vs = [.ref P.a, .str (MW.str kw), .int (l : Nat), vm] ∧ Ex A H ∧ HouseAt K CH CD CL A H P s ∧ s.sent[l]? = some x ∧ Dp K A vm (mkO m) ∧ s.desks.length ≤ 40 ∧ s.post.length < 90000 ∧
  ∀ A' H', PrM (fun x => x = P.pl) A H A' H' → HouseAt K CH CD CL A' H' P ⟨s.desks, s.sent, s.post ++ mailsTo s.desks.length kw l x.writer m⟩ → Q .non H'
theorem ok_toO (T : Tx K mg c) : MethOk P w K mg base (L2N.CX P w) 1 c.House "to_others" ["self", "word", "letter", "mark"] (sp_toO K c.House c.Desk c.Letter) := by
  obtain ⟨f, fd, d⟩ := T.m_House_to_others
  refine d.ok (okN d.F sc_House_to_others (fun vs H Q E h => ?_) fun cdv A outer s H vs Q E hr h => ?_)
  · obtain ⟨_, _, _, _, _, _, _, _, e, _⟩ := h
    rw [e]
    rfl
  obtain ⟨A0, P0, st, kw, l, x, vm, m, rfl, s0, O, hx, hvm, hn, hp, k⟩ := h
  have nd := sc_House_to_others.nd
  refine ⟨_, (pss_cons (ps_set (i := 4) nd rfl (Or.inl rfl) (pe_fld (pe_ix (ixL (K := K) rfl) (pe_fld (pv 0) rfl) (pv 2) (fun _ _ => rfl)) rfl))
      (pss_one (ps_for (passes_of rfl) rfl (pi_range1 rfl T.mn_range (pa_cons (pe_callB (c_len (K := K) rfl) rfl T.mn_len (by decide +kernel) (pa_cons (pe_fld (pv 0) rfl) pa_nil)) pa_nil)) (pg_name (i := 5) nd rfl (Or.inl rfl)) (pss_one (ps_if (pt_cmpR op_ne (pv 5) (pv 4) (nomark _)) (pss_one (ps_expr (pe_bm PySem.F.plainAttrs_list PySem.F.slot_list_append PySem.F.type_list_append mt_append (pe_fld (pv 0) rfl) (pa_cons (pe_tup (pa_cons (pv 1) (pa_cons (pv 2) (pa_cons (pv 4) (pa_cons (pv 5) (pa_cons (pv 3) pa_nil)))))) pa_nil)))) pss_nil))))), ?_⟩
  try dsimp only [cx_K2]
  obtain ⟨n1, n2, n3, n4, n5, n6⟩ := O.ne
  obtain ⟨q, hq, L⟩ := O.gq hx
  obtain ⟨vf, hia, _⟩ := L.ia
  refine q_asgV (v := .int (x.writer : Nat)) (ev_fld (O.ev_let (ev_var rfl) T.c_House T.na_House_sent hq (ed_var rfl (.int (l : Int)))) hia T.c_Letter T.na_Letter_writer rfl) fun B1 e1 => ?_
  obtain ⟨xs0, hpl, hxs0⟩ := O.ipl
  let J : Nat → L2.St → Hp → Prop := fun i σ B => ∃ A' w5 xs, σ = [some (.ref P0.a), some (.str kw.str), some (.int (l : Nat)), some vm, some (.int (x.writer : Nat)), w5] ∧ PrM (fun x => x = P0.pl) A0 H A' B ∧ B P0.pl = some (.lst xs) ∧ DpAll K A' xs ((st.post ++ mailsTo i kw l x.writer m).map mailD)
  have O1 := O.up s0 e1
  refine s_forRM K (n := (st.desks.length : Int)) (O1.ev_n (ev_var rfl) T.c_House T.na_House_desks) (by omega) J (fun B' e => ⟨A0, none, xs0, rfl, (PrM.refl s0).up (e1.trans e), (e1.trans e) _ _ hpl, by rw [show mailsTo 0 kw l x.writer m = [] from rfl, List.append_nil]; exact hxs0⟩) ?_ ?_
  · rintro i σ B hi ⟨A', w5, xs, rfl, PB, hB, hxs⟩
    have hia' : B P0.a = some (.ins c.House P0.dx (houseFs P0)) := PB.b _ _ (fun z => n3 z) O.ia
    have hl := dpa_len hxs
    rw [List.length_map, List.length_append] at hl
    have hml := mailsTo_len i kw l x.writer m
    refine s_ifM K (b := decide (i ≠ x.writer)) (eb_D (ed_nei (ed_var rfl (.int (i : Int))) (ed_var rfl (.int (x.writer : Int))))) (by
      by_cases h : i = x.writer
      · rw [h]; simp
      · rw [decide_eq_true h, beq_false_of_ne (by omega)]; rfl) (fun hb B2 e2 => ?_) (fun hb B2 e2 => ?_)
    · have hne := of_decide_eq_true hb
      have PB2 := PB.up e2
      refine s_app K (d := mailD ⟨kw, l, x.writer, i, m⟩) PB2.s (ev_fld (ev_var rfl) (e2 _ _ hia') T.c_House T.na_House_post rfl) (ep_tup (epa_cons (ep_v (ev_var rfl) (.str _)) (epa_cons (ep_v (ev_var rfl) (.int _)) (epa_cons (ep_v (ev_var rfl) (.int _)) (epa_cons (ep_v (ev_var rfl) (.int _)) (epa_cons (ep_v (ev_var rfl) (dp_ex PB.a hvm)) epa_nil))))) (by show 5 ≤ 100000; decide)) (e2 _ _ hB) (by omega) fun v3 A3 B3 P3 hv3 => ?_
      refine ⟨A3, _, xs ++ [v3], rfl, (PB2.pr P3).put (.inl rfl) ((PB2.pr P3).n _ (O.na _ HP.in_pl) (O.alive (.inl HP.in_pl))), upd_same, ?_⟩
      rw [mailsTo_succ, if_pos hne, ← List.append_assoc, List.map_append]
      exact dpa_app (dpa_ex P3.a hxs) (.cons hv3 .nil)
    · have hne := of_decide_eq_false hb
      refine ⟨A', _, xs, rfl, PB.up e2, e2 _ _ hB, ?_⟩
      rw [mailsTo_succ, if_neg hne, List.append_nil]
      exact hxs
  · rintro σ B ⟨A', w5, xs, rfl, PB, hB, hxs⟩
    refine k A' B PB (O.post_ PB hB ?_)
    rw [show ((st.desks.length : Nat) : Int).toNat = st.desks.length from rfl] at hxs
    exact hxs
end

end K8

namespace K8
open PySem L2 Evl Ob

local macro_rules | `(tactic| tm_at "sh") => `(tactic| first | exact sh_mk | exact sh_mks | exact sh_b3)

section
variable {K : PySem.W.Frag} {H : Hp} {σ : L2.St} {C a dx : Addr} {m : Str} {fs : List (Str × V)} {sp : Sp} {E : XK} {EX : L2.St → XK} {ta : TE} {t : TA} {Q : VK} {vs : List V}
theorem m_callV (ha : Ev ta σ H (.ref a)) (hB : H a = some (.ins C dx fs)) (hl : fs.lookup m = none) (h : EvA t σ H vs) (k : ∀ B1, Ex H B1 → sp (.ref a :: vs) B1 Q E) : tMeth C m sp [] E ta t σ H Q :=
  ha H (Ex.refl _) _ fun B1 e1 => ⟨a, dx, fs, rfl, e1 _ _ hB, hl, h B1 e1 _ fun B2 e2 => by rw [List.append_nil]; exact k B2 (e1.trans e2)⟩
theorem m_callXV (ha : Ev ta σ H (.ref a)) (hB : H a = some (.ins C dx fs)) (hl : fs.lookup m = none) (h : EvA t σ H vs) (k : ∀ B1, Ex H B1 → sp (.ref a :: vs) B1 Q (EX σ)) : tMethX C m sp EX ta t σ H Q :=
  ha H (Ex.refl _) _ fun B1 e1 => ⟨a, dx, fs, rfl, e1 _ _ hB, hl, h B1 e1 _ fun B2 e2 => k B2 (e1.trans e2)⟩
end
section
variable {F : Addr → Prop} {P : HP} {A B A' B' : Hp}
theorem prP (R : PrM (fun x => x = P.pl) A B A' B') : PrM P.inF A B A' B' := R.mono fun x h => .inl (h ▸ HP.in_pl)
theorem prD {i : Nat} {p : DP} (h : P.ds[i]? = some p) (R : PrM (fun x => x ∈ p.foot) A B A' B') : PrM P.inF A B A' B' := R.mono fun x hx => HP.inD h hx
theorem prL {j : Nat} {q : QP} (h : P.qs[j]? = some q) (R : PrM (fun x => x ∈ q.foot) A B A' B') : PrM P.inF A B A' B' := R.mono fun x hx => HP.inQ h hx
end
theorem prop_size (d : DS) {l : Int} (h : l ∉ d.known) : (d.prop l).size ≤ d.size + 2 := by
  have := DS.told_size d l none
  rw [DS.told_n, if_neg h] at this
  exact this
theorem settle_some {d d' : DS} {l : Int} {m : Mk} (h : d.settle? l m = some d') : l ∈ d.keys ∧ l ∉ d.done ∧ mless m (mkOf d l) = false ∧ d' = (d.set1 l m).run.1 := by
  unfold DS.settle? at h
  split at h
  · rename_i hc
    exact ⟨hc.1, hc.2.1, hc.2.2, (Option.some.inj h).symm⟩
  · cases h
theorem lt_of_get {α : Type} {l : List α} {i : Nat} {x : α} (h : l[i]? = some x) : i < l.length := (List.getElem?_eq_some_iff.mp h).1
section
variable {P : Program} {w : World} {K : PySem.W.Frag} {mg : Str → Option Value} {base : Heap} {c : Cs}
def sp_look (K : PySem.W.Frag) (CH CD CL : Addr) : Sp := fun vs H Q _ => ∃ (A : Hp) (P : HP) (s : HS) (l : Nat) (s' : HS), vs = [.ref P.a, .int (l : Nat)] ∧ Ex A H ∧ HouseAt K CH CD CL A H P s ∧ s.look l = some s' ∧ Sm 80000 s ∧
  ∀ A' H', PrM P.inF A H A' H' → HouseAt K CH CD CL A' H' P s' → Q .non H'
theorem ok_look (T : Tx K mg c) : MethOk P w K mg base (L2N.CX P w) 5 c.House "look" ["self", "letter"] (sp_look K c.House c.Desk c.Letter) := by
  obtain ⟨f, fd, d⟩ := T.m_House_look
  refine d.ok (okN d.F sc_House_look (fun vs H Q E h => ?_) fun cdv A outer s H vs Q E hr h => ?_)
  · obtain ⟨_, _, _, _, _, e, _⟩ := h
    rw [e]
    rfl
  obtain ⟨A0, P0, st, l, s', rfl, s0, O, hs, hm, k⟩ := h
  have nd := sc_House_look.nd
  have G_greatest := ok_great (P := P) (w := w) (base := base) T
  have MT_Desk_settle := ok_settle (P := P) (w := w) (base := base) T
  have MT_House_to_others := ok_toO (P := P) (w := w) (base := base) T
  refine ⟨_, (pss_cons (ps_set (i := 2) nd rfl (Or.inl rfl) (pe_ix (ixL (K := K) rfl) (pe_fld (pv 0) rfl) (pv 1) (fun _ _ => rfl)))
      (pss_one (ps_if (pt_cmpR op_eq (pe_callB (c_len (K := K) rfl) rfl T.mn_len (by decide +kernel) (pa_cons (pe_fld (pv 2) rfl) pa_nil)) (pe_callB (c_len (K := K) rfl) rfl T.mn_len (by decide +kernel) (pa_cons (pe_fld (pv 0) rfl) pa_nil)) (nomark _)) (pss_cons (ps_fld (pv 2) (pe_cd G_greatest (hr.mono (by decide)) rfl pass0 (pa_cons (pe_fld (pv 2) rfl) pa_nil)) rfl)
        (pss_cons (ps_expr (pe_md (pe_ix (ixL (K := K) rfl) (pe_fld (pv 0) rfl) (pe_fld (pv 2) rfl) (fun _ _ => rfl)) T.c_Desk MT_Desk_settle (hr.mono (by decide)) passN (pa_cons (pv 1) (pa_cons (pe_fld (pv 2) rfl) pa_nil))))
        (pss_one (ps_expr (pe_md (pv 0) T.c_House MT_House_to_others (hr.mono (by decide)) passN (pa_cons pe_str (pa_cons (pv 1) (pa_cons (pe_fld (pv 2) rfl) pa_nil)))))))) pss_nil))), ?_⟩
  try dsimp only [cx_K2]
  unfold HS.look at hs
  obtain ⟨x, hx, hs⟩ := Option.bind_eq_some_iff.mp hs
  obtain ⟨q, hq, L⟩ := O.gq hx
  refine q_asgV (O.ev_let (ev_var rfl) T.c_House T.na_House_sent hq (ed_var rfl (.int (l : Int)))) fun B1 e1 => ?_
  have O1 := O.up s0 e1
  have s1 := s0.trans e1
  have L1 := O1.hq l q x hq hx
  obtain ⟨vf, hia, hvf⟩ := L1.ia
  obtain ⟨xs, him, hxs⟩ := L1.im
  have hxl : xs.length = x.numbers.length := by rw [dpa_len hxs, List.length_map]
  refine s_ifM K (b := decide (x.numbers.length = st.desks.length)) (eb_D (ed_eqi (ed_lenL (ev_fld (ev_var rfl) hia T.c_Letter T.na_Letter_numbers rfl) (sq_of him)) (O1.ev_n (ev_var rfl) T.c_House T.na_House_desks))) (by
    rw [hxl]
    by_cases h : x.numbers.length = st.desks.length
    · rw [decide_eq_true h, h, beq_self_eq_true]
    · rw [decide_eq_false h, beq_false_of_ne (by omega)]) (fun hb B2 e2 => ?_) (fun hb B2 e2 => ?_)
  · have hb := of_decide_eq_true hb
    rw [if_pos hb] at hs
    obtain ⟨dk, hdk, hs⟩ := Option.bind_eq_some_iff.mp hs
    obtain ⟨d', hset, rfl⟩ := Option.map_eq_some_iff.mp hs
    obtain ⟨hin, hnd, hml, rfl⟩ := settle_some hset
    have hne : x.numbers ≠ [] := fun z => by
      have := lt_of_get hdk
      rw [← hb, z] at this
      simp at this
    have s2 := s1.trans e2
    refine q_do (c_callV (ea_cons (ev_fld (ev_var rfl) (e2 _ _ hia) T.c_Letter T.na_Letter_numbers rfl) ea_nil) fun B3 e3 => ⟨q.n, xs, x.numbers, rfl, sq_of ((e2.trans e3) _ _ him), dpa_ex (s1.trans (e2.trans e3)) hxs, hne, fun v j B4 h1 h2 e4 => ?_⟩)
    have e24 := e2.trans (e3.trans e4)
    have hv : Dp K A0 v (mkD (great x.numbers)) := by
      obtain ⟨v', h3, h4⟩ := dpa_get (d := mkD (great x.numbers)) hxs (by rw [List.getElem?_map, h2]; rfl)
      rw [h1] at h3
      cases h3
      exact h4
    refine ⟨_, rfl, q.a, c.Letter, q.dx, _, rfl, e24 _ _ hia, T.c_Letter, T.na_Letter_final, by show 4 < 1000; decide, go_nx ?_⟩
    have qa : q.a ∈ q.foot := by simp [QP.foot]
    have R5 := ((PrM.refl (F := fun x => x ∈ q.foot) s1).up e24).put (l := q.a) (o := .ins c.Letter q.dx [("writer", .int (x.writer : Nat)), ("words", .str x.words), ("numbers", .ref q.n), ("final", v)]) (.inl qa) (L1.na _ qa)
    have L5 : LetAt K c.Letter A0 (upd B4 q.a (.ins c.Letter q.dx [("writer", .int (x.writer : Nat)), ("words", .str x.words), ("numbers", .ref q.n), ("final", v)])) q ⟨x.writer, x.words, x.numbers, some (great x.numbers)⟩ :=
      ⟨⟨v, upd_same, hv⟩, ⟨xs, by rw [upd_ne (Ne.symm L1.ne)]; exact e24 _ _ him, hxs⟩, L1.ne, L1.na⟩
    have O5 := O1.letter hq R5 L5
    have hpf : putF "final" v [("writer", .int (x.writer : Nat)), ("words", .str x.words), ("numbers", .ref q.n), ("final", vf)] = ([("writer", .int (x.writer : Nat)), ("words", .str x.words), ("numbers", .ref q.n), ("final", v)] : List (Str × V)) := rfl
    rw [hpf]
    generalize upd B4 q.a (.ins c.Letter q.dx [("writer", .int (x.writer : Nat)), ("words", .str x.words), ("numbers", .ref q.n), ("final", v)]) = C5 at R5 L5 O5 ⊢
    obtain ⟨p, hp, D5⟩ := O5.gd hdk
    obtain ⟨vf5, hia5, hvf5⟩ := L5.ia
    have hsz := hm.d dk (List.mem_of_getElem? hdk)
    unfold DS.size at hsz
    refine q_do (m_call (K := K) (A := A0) R5.s (O5.ev_desk (ev_var rfl) T.c_House T.na_House_desks hp (ed_ev (ev_fld (ev_var rfl) hia5 T.c_Letter T.na_Letter_writer rfl) (.int _))) D5.ia rfl (epa_cons (ep_v (ev_var rfl) (.int (l : Int))) (epa_cons (ep_v (ev_fld (ev_var rfl) hia5 T.c_Letter T.na_Letter_final rfl) hvf5) epa_nil)) fun vs A6 B6 P6 hv6 => ?_)
    obtain ⟨v1, v2, rfl, hv1, hv2⟩ := dpa2 hv6
    cases hv1
    refine ⟨A6, p, dk, l, v2, great x.numbers, rfl, P6.s, hv2, D5.pr P6, by omega, by omega, fun hc => ?_, fun _ _ hc => ?_, fun _ _ _ q7 A7 B7 hq7 P7 D7 _ _ => go_nx ?_⟩
    · rcases hc with hc | hc
      · exact absurd hin hc
      · exact absurd hc hnd
    · rw [hml] at hc; cases hc
    have O7 := (O5.pr P6).desk hp P7 D7
    have hx7 : (st.sent.set l ⟨x.writer, x.words, x.numbers, some (great x.numbers)⟩)[l]? = some ⟨x.writer, x.words, x.numbers, some (great x.numbers)⟩ := by
      rw [List.getElem?_set, if_pos rfl, if_pos (lt_of_get hx)]
    obtain ⟨q', hq', L7⟩ := O7.gq hx7
    have hqq : q' = q := by rw [hq] at hq'; exact (Option.some.inj hq').symm
    subst hqq
    obtain ⟨vf7, hia7, hvf7⟩ := L7.ia
    refine m_call (K := K) (A := A7) P7.s (ev_var rfl) O7.ia rfl (epa_cons (ep_v ev_c (.str _)) (epa_cons (ep_v (ev_var rfl) (.int (l : Int))) (epa_cons (ep_v (ev_fld (ev_var rfl) hia7 T.c_Letter T.na_Letter_final rfl) hvf7) epa_nil))) fun vs A8 B8 P8 hv8 => ?_
    obtain ⟨w1, w2, w3, rfl, hw1, hw2, hw3⟩ := dpa3 hv8
    cases hw1; cases hw2
    refine ⟨A8, P0, _, .mark, l, _, w3, some (great x.numbers), rfl, P8.s, O7.pr P8, hx7, hw3, by show (st.desks.set _ _).length ≤ 40; rw [List.length_set]; exact hm.n, by show st.post.length < 90000; have := hm.p; omega, fun A9 H9 P9 O9 => ?_⟩
    refine k A9 H9 ((((((PrM.refl s0).up e1).trans (prL hq R5)).pr P6).trans (prD hp P7)).pr P8 |>.trans (prP P9)) ?_
    have e9 : (st.desks.set x.writer (dk.set1 (l : Int) (great x.numbers)).run.1).length = st.desks.length := List.length_set
    rw [show (HS.mk (st.desks.set x.writer (dk.set1 (l : Int) (great x.numbers)).run.1) (st.sent.set l ⟨x.writer, x.words, x.numbers, some (great x.numbers)⟩) st.post).desks.length = st.desks.length from e9] at O9
    exact O9
  · rw [if_neg (of_decide_eq_false hb)] at hs
    cases hs
    exact k A0 B2 ((PrM.refl s0).up (e1.trans e2)) (O.up s0 (e1.trans e2))
end

end K8

namespace K8
open PySem L2 Evl Ob

local macro_rules | `(tactic| tm_at "sh") => `(tactic| first | exact sh_mk | exact sh_mks | exact sh_b3)

section
variable (K : PySem.W.Frag) {H : Hp} {σ : L2.St} {to te : TE} {l : Addr} {xs : List V} {Dd : Ends}
theorem s_appM (ho : Ev to σ H (.ref l)) (hl : H l = some (.lst xs)) (k : ∀ B1, Ex H B1 → te σ B1 fun v H2 => rAppend (.ref l) [v] H2 fun _ H3 => Dd.nx σ H3) : tDrop (tBM K "list" rAppend to (tCons te tNil)) Dd σ H :=
  ho H (Ex.refl _) _ fun B1 e1 => ⟨.inl ⟨rfl, xs, sq_of (e1 _ _ hl)⟩, k B1 e1⟩
end
section
variable {P : Program} {w : World} {K : PySem.W.Frag} {mg : Str → Option Value} {base : Heap} {c : Cs}
/-! a letter is sent -/
def sp_send (K : PySem.W.Frag) (CH CD CL No : Addr) : Sp := fun vs H Q E => ∃ (A : Hp) (P : HP) (s : HS) (v : V) (o : Option Int) (t : Str), vs = [.ref P.a, v, .str t] ∧ Ex A H ∧ HouseAt K CH CD CL A H P s ∧ Thing K H v o ∧
  (isPl o s.desks.length = false → ∀ H', Ex H H' → E (.ref No) none H') ∧
  ∀ h : Nat, o = some (h : Int) → h < s.desks.length → ∃ s', s.send h t = some s' ∧ Sm 70000 s ∧ ∀ A' H' P', P'.a = P.a → PrM P.inF A H A' H' → (∀ x, P'.inF x → P.inF x ∨ H x = none) → HouseAt K CH CD CL A' H' P' s' → Q (.int (s.sent.length : Nat)) H'
theorem ok_send (T : Tx K mg c) : MethOk P w K mg base (L2N.CX P w) 6 c.House "send" ["self", "hand", "text"] (sp_send K c.House c.Desk c.Letter c.NoHand) := by
  obtain ⟨f, fd, d⟩ := T.m_House_send
  refine d.ok (okN d.F sc_House_send (fun vs H Q E h => ?_) fun cdv A outer s H vs Q E hr h => ?_)
  · obtain ⟨_, _, _, _, _, _, e, _⟩ := h
    rw [e]
    rfl
  obtain ⟨A0, P0, st, v, o, t, rfl, s0, O, hv, kx, k⟩ := h
  have nd := sc_House_send.nd
  have MT_House_need_hand := ok_nhand (P := P) (w := w) (base := base) T
  have MK_Letter := ok_Letter_init (P := P) (w := w) (base := base) T
  have MT_Desk_propose := ok_propose (P := P) (w := w) (base := base) T
  have MT_House_to_others := ok_toO (P := P) (w := w) (base := base) T
  have MT_House_look := ok_look (P := P) (w := w) (base := base) T
  refine ⟨_, (pss_cons (ps_expr (pe_mdX (pv 0) T.c_House MT_House_need_hand (hr.mono (by decide)) (fun σ => L2N.passAt (L2N.takes_of rfl rfl rfl rfl) σ) (pa_cons (pv 1) pa_nil)))
      (pss_cons (ps_set (i := 3) nd rfl (Or.inl rfl) (pe_callB (c_len (K := K) rfl) rfl T.mn_len (by decide +kernel) (pa_cons (pe_fld (pv 0) rfl) pa_nil)))
      (pss_cons (ps_set (i := 4) nd rfl (Or.inl rfl) (pe_mk rfl T.g_Letter MK_Letter (hr.mono (by decide)) passN (pa_cons (pv 1) (pa_cons (pv 2) pa_nil))))
      (pss_cons (ps_expr (pe_bm PySem.F.plainAttrs_list PySem.F.slot_list_append PySem.F.type_list_append mt_append (pe_fld (pv 0) rfl) (pa_cons (pv 4) pa_nil)))
      (pss_cons (ps_expr (pe_bm PySem.F.plainAttrs_list PySem.F.slot_list_append PySem.F.type_list_append mt_append (pe_fld (pv 4) rfl) (pa_cons (pe_md (pe_ix (ixL (K := K) rfl) (pe_fld (pv 0) rfl) (pv 1) (fun _ _ => rfl)) T.c_Desk MT_Desk_propose (hr.mono (by decide)) passN (pa_cons (pv 3) pa_nil)) pa_nil)))
      (pss_cons (ps_expr (pe_md (pv 0) T.c_House MT_House_to_others (hr.mono (by decide)) passN (pa_cons pe_str (pa_cons (pv 3) (pa_cons pe_non pa_nil)))))
      (pss_cons (ps_expr (pe_md (pv 0) T.c_House MT_House_look (hr.mono (by decide)) passN (pa_cons (pv 3) pa_nil)))
      (pss_one (ps_ret (pv 3)))))))))), ?_⟩
  try dsimp only [cx_K2]
  refine q_do (m_callXV (ev_var rfl) O.ia rfl (ea_cons (ev_var rfl) ea_nil) fun B1 e1 => ⟨A0, P0, st, v, o, rfl, O.up s0 e1, hv.up e1, fun hpl B2 e2 => go_nx ?_, fun hpl B2 e2 => kx hpl B2 (e1.trans e2)⟩)
  obtain ⟨h, rfl, hh⟩ := isPl_nat hpl
  cases hv
  obtain ⟨s', hsend, hm, k⟩ := k h rfl hh
  unfold HS.send at hsend
  obtain ⟨dk, hdk, hsend⟩ := Option.bind_eq_some_iff.mp hsend
  by_cases hkn : (st.sent.length : Int) ∈ dk.known
  · rw [if_pos hkn] at hsend; cases hsend
  rw [if_neg hkn] at hsend
  have e12 := e1.trans e2
  have O2 := O.up s0 e12
  have s2 := s0.trans e12
  refine q_asgV (v_int (K := K) (O2.ev_l (ev_var rfl) T.c_House T.na_House_sent)) fun B3 e3 => ?_
  have O3 := O2.up s2 e3
  have s3 := s2.trans e3
  refine q_do (mk_letter s3 (ev_var rfl) (ev_var rfl) fun q B4 P4 f4 L4 => go_nx ?_)
  have O4 := O3.mono P4 fun _ _ z => z
  refine q_do (s_appV K (O4.look (ev_var rfl) T.c_House T.na_House_sent rfl) (ev_var rfl) O4.isl (by rw [List.length_map, O4.hql]; have := hm.l; omega) fun B5 e5 => go_nx ?_)
  have hmap : (P0.qs.map fun q => V.ref q.a) ++ [V.ref q.a] = (P0.qs ++ [q]).map fun q => V.ref q.a := by rw [List.map_append]; rfl
  rw [hmap]
  have al : ∀ x, P0.inF x → x ∉ q.foot := fun x hx z => O3.alive hx (f4 x z)
  have R5 := ((P4.mono (G := fun x => x = P0.sl) fun _ z => z.elim).up e5).put (l := P0.sl) (o := .lst ((P0.qs ++ [q]).map fun q => V.ref q.a)) (.inl rfl) (O.na _ HP.in_sl)
  have PQ := ((PrM.refl (F := fun x => x = P0.sl) P4.s).up e5).put (l := P0.sl) (o := .lst ((P0.qs ++ [q]).map fun q => V.ref q.a)) (.inl rfl) (O.na _ HP.in_sl)
  have L5 := L4.mono PQ fun x hx z => al _ (.inl HP.in_sl) (z ▸ hx)
  have O5 := O3.add L5 f4 R5 upd_same
  generalize upd B5 P0.sl (.lst ((P0.qs ++ [q]).map fun q => V.ref q.a)) = C5 at R5 PQ L5 O5 ⊢
  let P1 : HP := ⟨P0.a, P0.dx, P0.dl, P0.sl, P0.pl, P0.ds, P0.qs ++ [q]⟩
  have O5 : HouseAt K c.House c.Desk c.Letter A0 C5 P1 ⟨st.desks, st.sent ++ [⟨h, t, [], none⟩], st.post⟩ := O5
  have hql : P0.qs.length = st.sent.length := O.hql
  have hq1 : P1.qs[st.sent.length]? = some q := by
    show (P0.qs ++ [q])[st.sent.length]? = some q
    rw [← hql, List.getElem?_append_right (Nat.le_refl _), Nat.sub_self]; rfl
  obtain ⟨vf, hia, hvf⟩ := L5.ia
  obtain ⟨xs, him, hxs⟩ := L5.im
  have hxs0 : xs = [] := by cases hxs; rfl
  subst hxs0
  obtain ⟨p, hp, D5⟩ := O5.gd hdk
  have hsz := hm.d dk (List.mem_of_getElem? hdk)
  have hsz' := hsz
  unfold DS.size at hsz
  refine q_do (s_appM K (ev_fld (ev_var rfl) hia T.c_Letter T.na_Letter_numbers rfl) him fun B6 e6 => ?_)
  have O6 := O5.up PQ.s e6
  refine m_call (K := K) (A := A0) (PQ.s.trans e6) (O6.ev_desk (ev_var rfl) T.c_House T.na_House_desks hp (ed_var rfl (.int (h : Int)))) (D5.up PQ.s e6).ia rfl (epa_cons (ep_v (ev_var rfl) (.int (st.sent.length : Int))) epa_nil) fun vs A7 B7 P7 hv7 => ?_
  obtain ⟨v1, rfl, hv1⟩ := dpa1 hv7
  cases hv1
  refine ⟨A7, p, dk, (st.sent.length : Int), rfl, P7.s, (D5.up PQ.s e6).pr P7, by omega, by omega, fun _ v8 A8 B8 P8 D8 hv8 => ?_, fun hk => absurd hk hkn⟩
  have O8 := (O6.pr P7).desk hp P8 D8
  have hx8 : (st.sent ++ [(⟨h, t, [], none⟩ : LS)])[st.sent.length]? = some ⟨h, t, [], none⟩ := by
    rw [List.getElem?_append_right (Nat.le_refl _), Nat.sub_self]; rfl
  have L8 := O8.hq _ q _ hq1 hx8
  obtain ⟨vf8, hia8, hvf8⟩ := L8.ia
  obtain ⟨xs8, him8, hxs8⟩ := L8.im
  have hxs80 : xs8 = [] := by cases hxs8; rfl
  subst hxs80
  refine ⟨q.n, [], v8, rfl, rfl, him8, sz_lt (by decide), go_nx ?_⟩
  have qn : q.n ∈ q.foot := by simp [QP.foot]
  have R9 := (PrM.refl (F := fun x => x ∈ q.foot) P8.s).put (l := q.n) (o := .lst ([] ++ [v8])) (.inl qn) (L8.na _ qn)
  have L9 : LetAt K c.Letter A8 (upd B8 q.n (.lst ([] ++ [v8]))) q ⟨h, t, [(dk.time + 1, dk.hand)], none⟩ := ⟨⟨vf8, by rw [upd_ne L8.ne]; exact hia8, hvf8⟩, ⟨_, upd_same, .cons hv8 .nil⟩, L8.ne, L8.na⟩
  have O9 := O8.letter hq1 R9 L9
  have hset : (st.sent ++ [(⟨h, t, [], none⟩ : LS)]).set st.sent.length ⟨h, t, [(dk.time + 1, dk.hand)], none⟩ = st.sent ++ [⟨h, t, [(dk.time + 1, dk.hand)], none⟩] := by
    rw [List.set_append_right _ _ (Nat.le_refl _), Nat.sub_self]; rfl
  rw [show (HS.mk (st.desks.set h (dk.prop (st.sent.length : Int))) (st.sent ++ [(⟨h, t, [], none⟩ : LS)]) st.post).sent = st.sent ++ [(⟨h, t, [], none⟩ : LS)] from rfl, hset] at O9
  generalize upd B8 q.n (.lst ([] ++ [v8])) = C9 at R9 O9 ⊢
  -- the mails
  have hx9 : (st.sent ++ [(⟨h, t, [(dk.time + 1, dk.hand)], none⟩ : LS)])[st.sent.length]? = some ⟨h, t, [(dk.time + 1, dk.hand)], none⟩ := by
    rw [List.getElem?_append_right (Nat.le_refl _), Nat.sub_self]; rfl
  have hdl : (st.desks.set h (dk.prop (st.sent.length : Int))).length = st.desks.length := List.length_set
  refine q_do (m_call (K := K) (A := A8) R9.s (ev_var rfl) O9.ia rfl (epa_cons (ep_v ev_c (.str _)) (epa_cons (ep_v (ev_var rfl) (.int (st.sent.length : Int))) (epa_cons (ep_v ev_c .non) epa_nil))) fun vs A10 B10 P10 hv10 => ?_)
  obtain ⟨w1, w2, w3, rfl, hw1, hw2, hw3⟩ := dpa3 hv10
  cases hw1; cases hw2; cases hw3
  refine ⟨A10, P1, _, .letter, st.sent.length, _, .non, none, rfl, P10.s, O9.pr P10, hx9, .non, by rw [hdl]; exact hm.n, by show st.post.length < 90000; have := hm.p; omega, fun A11 B11 P11 O11 => go_nx ?_⟩
  have hO11 : HouseAt K c.House c.Desk c.Letter A11 B11 P1 (st.send1 h dk t) := by
    have := O11
    rw [show (HS.mk (st.desks.set h (dk.prop (st.sent.length : Int))) (st.sent ++ [⟨h, t, [(dk.time + 1, dk.hand)], none⟩]) st.post).desks.length = st.desks.length from hdl] at this
    exact this
  have hml := mailsTo_len st.desks.length .letter st.sent.length h none
  have hm1 : Sm 80000 (st.send1 h dk t) := by
    refine ⟨by show (st.desks.set _ _).length ≤ 40; rw [hdl]; exact hm.n, ?_, fun d hd => ?_, ?_, fun x hx => ?_⟩
    · show (st.post ++ mailsTo _ _ _ _ _).length < _
      rw [List.length_append]
      have := hm.p
      have := hm.n
      omega
    · have hd : d ∈ st.desks.set h (dk.prop (st.sent.length : Int)) := hd
      rcases List.mem_or_eq_of_mem_set hd with z | z
      · have := hm.d d z; omega
      · rw [z]
        have := prop_size dk hkn
        omega
    · show (st.sent ++ [_]).length < _
      rw [List.length_append, List.length_singleton]
      have := hm.l
      omega
    · have hx : x ∈ st.sent ++ [(⟨h, t, [(dk.time + 1, dk.hand)], none⟩ : LS)] := hx
      rcases List.mem_append.mp hx with z | z
      · have := hm.x x z; omega
      · rw [List.mem_singleton.mp z]; show 1 < _; decide
  refine q_do (m_call (K := K) (A := A11) P11.s (ev_var rfl) hO11.ia rfl (epa_cons (ep_v (ev_var rfl) (.int (st.sent.length : Int))) epa_nil) fun vs A12 B12 P12 hv12 => ?_)
  obtain ⟨w1, rfl, hw1⟩ := dpa1 hv12
  cases hw1
  refine ⟨A12, P1, _, st.sent.length, s', rfl, P12.s, hO11.pr P12, hsend, hm1, fun A13 B13 P13 O13 => go_nx ?_⟩
  refine s_retV (ev_var rfl) fun B14 e14 => ?_
  have inP : ∀ x, P1.inF x → P0.inF x ∨ B3 x = none := fun x hx => by
    rcases hx with z | z | ⟨q2, hq2, z⟩
    · exact .inl (.inl z)
    · exact .inl (.inr (.inl z))
    · rcases List.mem_append.mp hq2 with y | y
      · exact .inl (.inr (.inr ⟨q2, y, z⟩))
      · rw [List.mem_singleton.mp y] at z
        exact .inr (f4 x z)
  have e03 : Ex H B3 := e12.trans e3
  have RA : PrM P0.inF A0 H A0 C5 := ((PrM.refl s0).up e03).trans (R5.mono fun x hx => .inl (hx ▸ HP.in_sl))
  have RB : PrM P1.inF A0 C5 A13 B14 := ((((((((PrM.refl PQ.s).up e6).pr P7).trans (prD (P := P1) hp P8)).trans (prL hq1 R9)).pr P10).trans (prP (P := P1) P11)).pr P12 |>.trans P13).up e14
  refine k A13 B14 P1 rfl (RA.then RB fun x hx => (inP x hx).imp id fun z => ?_) (fun x hx => (inP x hx).imp id fun z => fresh_back e03 z) (O13.up P13.s e14)
  exact fresh_back e03 z
/-! what is asked of it -/
def sp_mails (K : PySem.W.Frag) (CH CD CL : Addr) : Sp := fun vs H Q _ => ∃ A P s, vs = [.ref P.a] ∧ HouseAt K CH CD CL A H P s ∧ ∀ q xs H', H q = none → Ex H H' → H' q = some (.lst xs) → DpAll K A xs (s.post.map mailD) → Q (.ref q) H'
theorem ok_mails (T : Tx K mg c) : MethOk P w K mg base (L2N.CX P w) 1 c.House "mails" ["self"] (sp_mails K c.House c.Desk c.Letter) := by
  obtain ⟨f, fd, d⟩ := T.m_House_mails
  refine d.ok (okN d.F sc_House_mails (fun vs H Q E h => ?_) fun cdv A outer s H vs Q E hr h => ?_)
  · obtain ⟨_, _, _, e, _⟩ := h
    rw [e]
    rfl
  obtain ⟨A0, P0, st, rfl, O, k⟩ := h
  have nd := sc_House_mails.nd
  refine ⟨_, (pss_one (ps_ret (pe_callTy (c_list (K := K) rfl) rfl T.mn_list (by decide +kernel) (pa_cons (pe_fld (pv 0) rfl) pa_nil)))), ?_⟩
  try dsimp only [cx_K2]
  obtain ⟨xs, hx, hxs⟩ := O.ipl
  have e : Ev (tFld K (tVar 0) "post") (L2.start ["self"] [V.ref P0.a]) H (.ref P0.pl) := O.look (ev_var rfl) T.c_House T.na_House_post rfl
  exact e H (Ex.refl _) _ fun B1 e1 => ⟨P0.pl, _, rfl, .inl (sq_of (e1 _ _ hx)), fun q hq => k q xs _ (fresh_back e1 hq) (e1.trans (Ex.new hq)) upd_same hxs⟩
def sp_letters (K : PySem.W.Frag) (CH CD CL : Addr) : Sp := fun vs H Q _ => ∃ A P s, vs = [.ref P.a] ∧ HouseAt K CH CD CL A H P s ∧ ∀ H', Ex H H' → Q (.int (s.sent.length : Nat)) H'
theorem ok_letters (T : Tx K mg c) : MethOk P w K mg base (L2N.CX P w) 1 c.House "letters" ["self"] (sp_letters K c.House c.Desk c.Letter) := by
  obtain ⟨f, fd, d⟩ := T.m_House_letters
  refine d.ok (okN d.F sc_House_letters (fun vs H Q E h => ?_) fun cdv A outer s H vs Q E hr h => ?_)
  · obtain ⟨_, _, _, e, _⟩ := h
    rw [e]
    rfl
  obtain ⟨A0, P0, st, rfl, O, k⟩ := h
  have nd := sc_House_letters.nd
  refine ⟨_, (pss_one (ps_ret (pe_callB (c_len (K := K) rfl) rfl T.mn_len (by decide +kernel) (pa_cons (pe_fld (pv 0) rfl) pa_nil)))), ?_⟩
  try dsimp only [cx_K2]
  exact s_retV (v_int (K := K) (O.ev_l (ev_var rfl) T.c_House T.na_House_sent)) k
/-- a field of a letter -/
def sp_ofLet (K : PySem.W.Frag) (CH CD CL No : Addr) (g : Hp → LS → V → Prop) : Sp := fun vs H Q E => ∃ A P s v o, vs = [.ref P.a, v] ∧ HouseAt K CH CD CL A H P s ∧ Ex A H ∧ Thing K H v o ∧
  (isPl o s.sent.length = false → ∀ H', Ex H H' → E (.ref No) none H') ∧ ∀ (j : Nat) x, o = some (j : Int) → s.sent[j]? = some x → ∀ u H', g A x u → Ex H H' → Q u H'
theorem ok_sender (T : Tx K mg c) : MethOk P w K mg base (L2N.CX P w) 3 c.House "sender" ["self", "letter"] (sp_ofLet K c.House c.Desk c.Letter c.NoLetter fun _ x u => u = .int (x.writer : Nat)) := by
  obtain ⟨f, fd, d⟩ := T.m_House_sender
  refine d.ok (okN d.F sc_House_sender (fun vs H Q E h => ?_) fun cdv A outer s H vs Q E hr h => ?_)
  · obtain ⟨_, _, _, _, _, e, _⟩ := h
    rw [e]
    rfl
  obtain ⟨A0, P0, st, v, o, rfl, O, s0, hv, kx, k⟩ := h
  have nd := sc_House_sender.nd
  have MT_House_need_letter := ok_nlet (P := P) (w := w) (base := base) T
  refine ⟨_, (pss_one (ps_ret (pe_fld (pe_mdX (pv 0) T.c_House MT_House_need_letter (hr.mono (by decide)) (fun σ => L2N.passAt (L2N.takes_of rfl rfl rfl rfl) σ) (pa_cons (pv 1) pa_nil)) rfl))), ?_⟩
  try dsimp only [cx_K2]
  refine m_callXV (ev_var rfl) O.ia rfl (ea_cons (ev_var rfl) ea_nil) fun B1 e1 => ⟨A0, P0, st, v, o, rfl, O.up s0 e1, hv.up e1, fun j q ho hq B2 e2 => ?_, fun hp B2 e2 => kx hp B2 (e1.trans e2)⟩
  have hl : j < st.sent.length := by rw [← O.hql]; exact lt_of_get hq
  have hx := List.getElem?_eq_getElem hl
  obtain ⟨vf, hia, hvf⟩ := (O.hq j q _ hq hx).ia
  exact ⟨q.a, c.Letter, q.dx, _, _, rfl, (e1.trans e2) _ _ hia, T.c_Letter, T.na_Letter_writer, rfl, k j _ ho hx _ B2 rfl (e1.trans e2)⟩
theorem ok_text (T : Tx K mg c) : MethOk P w K mg base (L2N.CX P w) 3 c.House "text" ["self", "letter"] (sp_ofLet K c.House c.Desk c.Letter c.NoLetter fun _ x u => u = .str x.words) := by
  obtain ⟨f, fd, d⟩ := T.m_House_text
  refine d.ok (okN d.F sc_House_text (fun vs H Q E h => ?_) fun cdv A outer s H vs Q E hr h => ?_)
  · obtain ⟨_, _, _, _, _, e, _⟩ := h
    rw [e]
    rfl
  obtain ⟨A0, P0, st, v, o, rfl, O, s0, hv, kx, k⟩ := h
  have nd := sc_House_text.nd
  have MT_House_need_letter := ok_nlet (P := P) (w := w) (base := base) T
  refine ⟨_, (pss_one (ps_ret (pe_fld (pe_mdX (pv 0) T.c_House MT_House_need_letter (hr.mono (by decide)) (fun σ => L2N.passAt (L2N.takes_of rfl rfl rfl rfl) σ) (pa_cons (pv 1) pa_nil)) rfl))), ?_⟩
  try dsimp only [cx_K2]
  refine m_callXV (ev_var rfl) O.ia rfl (ea_cons (ev_var rfl) ea_nil) fun B1 e1 => ⟨A0, P0, st, v, o, rfl, O.up s0 e1, hv.up e1, fun j q ho hq B2 e2 => ?_, fun hp B2 e2 => kx hp B2 (e1.trans e2)⟩
  have hl : j < st.sent.length := by rw [← O.hql]; exact lt_of_get hq
  have hx := List.getElem?_eq_getElem hl
  obtain ⟨vf, hia, hvf⟩ := (O.hq j q _ hq hx).ia
  exact ⟨q.a, c.Letter, q.dx, _, _, rfl, (e1.trans e2) _ _ hia, T.c_Letter, T.na_Letter_words, rfl, k j _ ho hx _ B2 rfl (e1.trans e2)⟩
theorem ok_hmark (T : Tx K mg c) : MethOk P w K mg base (L2N.CX P w) 3 c.House "mark" ["self", "letter"] (sp_ofLet K c.House c.Desk c.Letter c.NoLetter fun A x u => Dp K A u (mkO x.final)) := by
  obtain ⟨f, fd, d⟩ := T.m_House_mark
  refine d.ok (okN d.F sc_House_mark (fun vs H Q E h => ?_) fun cdv A outer s H vs Q E hr h => ?_)
  · obtain ⟨_, _, _, _, _, e, _⟩ := h
    rw [e]
    rfl
  obtain ⟨A0, P0, st, v, o, rfl, O, s0, hv, kx, k⟩ := h
  have nd := sc_House_mark.nd
  have MT_House_need_letter := ok_nlet (P := P) (w := w) (base := base) T
  refine ⟨_, (pss_one (ps_ret (pe_fld (pe_mdX (pv 0) T.c_House MT_House_need_letter (hr.mono (by decide)) (fun σ => L2N.passAt (L2N.takes_of rfl rfl rfl rfl) σ) (pa_cons (pv 1) pa_nil)) rfl))), ?_⟩
  try dsimp only [cx_K2]
  refine m_callXV (ev_var rfl) O.ia rfl (ea_cons (ev_var rfl) ea_nil) fun B1 e1 => ⟨A0, P0, st, v, o, rfl, O.up s0 e1, hv.up e1, fun j q ho hq B2 e2 => ?_, fun hp B2 e2 => kx hp B2 (e1.trans e2)⟩
  have hl : j < st.sent.length := by rw [← O.hql]; exact lt_of_get hq
  have hx := List.getElem?_eq_getElem hl
  obtain ⟨vf, hia, hvf⟩ := (O.hq j q _ hq hx).ia
  exact ⟨q.a, c.Letter, q.dx, _, _, rfl, (e1.trans e2) _ _ hia, T.c_Letter, T.na_Letter_final, rfl, k j _ ho hx _ B2 hvf (e1.trans e2)⟩
/-! a hand's row, its clock -/
def sp_handed (K : PySem.W.Frag) (CH CD CL No : Addr) : Sp := fun vs H Q E => ∃ A P s v o, vs = [.ref P.a, v] ∧ HouseAt K CH CD CL A H P s ∧ Ex A H ∧ Thing K H v o ∧
  (isPl o s.desks.length = false → ∀ H', Ex H H' → E (.ref No) none H') ∧ ∀ (i : Nat) d, o = some (i : Int) → s.desks[i]? = some d → ∀ q H', H q = none → Ex H H' → H' q = some (.lst (d.row.map V.int)) → Q (.ref q) H'
theorem ok_handed (T : Tx K mg c) : MethOk P w K mg base (L2N.CX P w) 3 c.House "handed" ["self", "hand"] (sp_handed K c.House c.Desk c.Letter c.NoHand) := by
  obtain ⟨f, fd, d⟩ := T.m_House_handed
  refine d.ok (okN d.F sc_House_handed (fun vs H Q E h => ?_) fun cdv A outer s H vs Q E hr h => ?_)
  · obtain ⟨_, _, _, _, _, e, _⟩ := h
    rw [e]
    rfl
  obtain ⟨A0, P0, st, v, o, rfl, O, s0, hv, kx, k⟩ := h
  have nd := sc_House_handed.nd
  have MT_House_need_hand := ok_nhand (P := P) (w := w) (base := base) T
  have MT_Desk_handed := ok_row (P := P) (w := w) (base := base) T
  refine ⟨_, (pss_cons (ps_expr (pe_mdX (pv 0) T.c_House MT_House_need_hand (hr.mono (by decide)) (fun σ => L2N.passAt (L2N.takes_of rfl rfl rfl rfl) σ) (pa_cons (pv 1) pa_nil)))
      (pss_one (ps_ret (pe_md0 (pe_ix (ixL (K := K) rfl) (pe_fld (pv 0) rfl) (pv 1) (fun _ _ => rfl)) T.c_Desk MT_Desk_handed (hr.mono (by decide)) passN)))), ?_⟩
  try dsimp only [cx_K2]
  refine q_do (m_callXV (ev_var rfl) O.ia rfl (ea_cons (ev_var rfl) ea_nil) fun B1 e1 => ⟨A0, P0, st, v, o, rfl, O.up s0 e1, hv.up e1, fun hpl B2 e2 => go_nx ?_, fun hpl B2 e2 => kx hpl B2 (e1.trans e2)⟩)
  obtain ⟨i, rfl, hi⟩ := isPl_nat hpl
  cases hv
  have e12 := e1.trans e2
  have O2 := O.up s0 e12
  have hd := List.getElem?_eq_getElem hi
  obtain ⟨p, hp, D2⟩ := O2.gd hd
  refine m_call (K := K) (A := A0) (ds := []) (s0.trans e12) (O2.ev_desk (ev_var rfl) T.c_House T.na_House_desks hp (ed_var rfl (.int (i : Int)))) D2.ia rfl epa_nil fun vs A3 B3 P3 hv3 => ?_
  cases hv3
  exact ⟨A3, p, _, rfl, D2.pr P3, fun q H' hq e hx => k i _ rfl hd q H' (fresh_back (e12.trans P3.b) hq) ((e12.trans P3.b).trans e) hx⟩
def sp_hclock (K : PySem.W.Frag) (CH CD CL No : Addr) : Sp := fun vs H Q E => ∃ A P s v o, vs = [.ref P.a, v] ∧ HouseAt K CH CD CL A H P s ∧ Ex A H ∧ Thing K H v o ∧
  (isPl o s.desks.length = false → ∀ H', Ex H H' → E (.ref No) none H') ∧ ∀ (i : Nat) d, o = some (i : Int) → s.desks[i]? = some d → ∀ H', Ex H H' → Q (.int d.time) H'
theorem ok_hclock (T : Tx K mg c) : MethOk P w K mg base (L2N.CX P w) 3 c.House "clock" ["self", "hand"] (sp_hclock K c.House c.Desk c.Letter c.NoHand) := by
  obtain ⟨f, fd, d⟩ := T.m_House_clock
  refine d.ok (okN d.F sc_House_clock (fun vs H Q E h => ?_) fun cdv A outer s H vs Q E hr h => ?_)
  · obtain ⟨_, _, _, _, _, e, _⟩ := h
    rw [e]
    rfl
  obtain ⟨A0, P0, st, v, o, rfl, O, s0, hv, kx, k⟩ := h
  have nd := sc_House_clock.nd
  have MT_House_need_hand := ok_nhand (P := P) (w := w) (base := base) T
  have MT_Desk_clock := ok_clock (P := P) (w := w) (base := base) T
  refine ⟨_, (pss_cons (ps_expr (pe_mdX (pv 0) T.c_House MT_House_need_hand (hr.mono (by decide)) (fun σ => L2N.passAt (L2N.takes_of rfl rfl rfl rfl) σ) (pa_cons (pv 1) pa_nil)))
      (pss_one (ps_ret (pe_md0 (pe_ix (ixL (K := K) rfl) (pe_fld (pv 0) rfl) (pv 1) (fun _ _ => rfl)) T.c_Desk MT_Desk_clock (hr.mono (by decide)) passN)))), ?_⟩
  try dsimp only [cx_K2]
  refine q_do (m_callXV (ev_var rfl) O.ia rfl (ea_cons (ev_var rfl) ea_nil) fun B1 e1 => ⟨A0, P0, st, v, o, rfl, O.up s0 e1, hv.up e1, fun hpl B2 e2 => go_nx ?_, fun hpl B2 e2 => kx hpl B2 (e1.trans e2)⟩)
  obtain ⟨i, rfl, hi⟩ := isPl_nat hpl
  cases hv
  have e12 := e1.trans e2
  have O2 := O.up s0 e12
  have hd := List.getElem?_eq_getElem hi
  obtain ⟨p, hp, D2⟩ := O2.gd hd
  refine m_call (K := K) (A := A0) (ds := []) (s0.trans e12) (O2.ev_desk (ev_var rfl) T.c_House T.na_House_desks hp (ed_var rfl (.int (i : Int)))) D2.ia rfl epa_nil fun vs A3 B3 P3 hv3 => ?_
  cases hv3
  exact ⟨A3, p, _, rfl, D2.pr P3, fun H' e => k i _ rfl hd H' ((e12.trans P3.b).trans e)⟩
end

end K8

namespace K8
open PySem L2 Evl Ob

local macro_rules | `(tactic| tm_at "sh") => `(tactic| first | exact sh_mk | exact sh_mks | exact sh_b3)

section
variable {K : PySem.W.Frag} {H : Hp} {σ : L2.St} {to ti : TE} {l : Addr} {xs : List V} {y : V} {j : Nat} {Q : VK}
theorem e_popAt (ho : Ev to σ H (.ref l)) (hi : Ev ti σ H (.int (j : Int))) (hl : H l = some (.lst xs)) (hy : xs[j]? = some y) (hj : j < 1000000) (k : ∀ B1, Ex H B1 → Q y (upd B1 l (.lst (xs.eraseIdx j)))) : tBM K "list" rPopAt to (tCons ti tNil) σ H Q :=
  ho H (Ex.refl _) _ fun B1 e1 => ⟨.inl ⟨rfl, xs, sq_of (e1 _ _ hl)⟩, hi B1 e1 _ fun B2 e2 => ⟨l, xs, (j : Int), j, y, rfl, rfl, (e1.trans e2) _ _ hl, by omega, by omega, (ixN_seq (ixN_nat (lt_of_get hy))).1, hy, k B2 (e1.trans e2)⟩⟩
theorem dpa_erase {A : Hp} {ds : List D} : ∀ {xs : List V} {ds : List D}, DpAll K A xs ds → ∀ j, DpAll K A (xs.eraseIdx j) (ds.eraseIdx j)
  | _, _, .nil, _ => .nil
  | _, _, .cons h t, 0 => t
  | _, _, .cons h t, j + 1 => .cons h (dpa_erase (ds := ds) t j)
end
theorem map_erase {α β : Type} (f : α → β) : ∀ (l : List α) (j : Nat), (l.eraseIdx j).map f = (l.map f).eraseIdx j
  | [], _ => rfl
  | _ :: _, 0 => rfl
  | x :: r, j + 1 => by
    show f x :: (r.eraseIdx j).map f = f x :: (r.map f).eraseIdx j
    rw [map_erase f r j]
section
variable {P : Program} {w : World} {K : PySem.W.Frag} {mg : Str → Option Value} {base : Heap} {c : Cs}
def sp_bring (K : PySem.W.Frag) (CH CD CL No : Addr) : Sp := fun vs H Q E => ∃ (A : Hp) (P : HP) (s : HS) (v : V) (o : Option Int), vs = [.ref P.a, v] ∧ Ex A H ∧ HouseAt K CH CD CL A H P s ∧ Thing K H v o ∧
  (isPl o s.post.length = false → ∀ H', Ex H H' → E (.ref No) none H') ∧
  ∀ i : Nat, o = some (i : Int) → i < s.post.length → ∃ s' m, s.bring i = some s' ∧ s.post[i]? = some m ∧ Sm 70000 s ∧ ∀ v A' H', PrM P.inF A H A' H' → HouseAt K CH CD CL A' H' P s' → Dp K A' v (mailD m) → Q v H'
theorem ok_bring (T : Tx K mg c) : MethOk P w K mg base (L2N.CX P w) 6 c.House "bring" ["self", "place"] (sp_bring K c.House c.Desk c.Letter c.NoMail) := by
  obtain ⟨f, fd, d⟩ := T.m_House_bring
  refine d.ok (okN d.F sc_House_bring (fun vs H Q E h => ?_) fun cdv A outer s H vs Q E hr h => ?_)
  · obtain ⟨_, _, _, _, _, e, _⟩ := h
    rw [e]
    rfl
  obtain ⟨A0, P0, st, v, o, rfl, s0, O, hv, kx, k⟩ := h
  have nd := sc_House_bring.nd
  have G_is_place := ok_place (P := P) (w := w) (base := base) T
  have MT_Desk_propose := ok_propose (P := P) (w := w) (base := base) T
  have MT_Desk_settle := ok_settle (P := P) (w := w) (base := base) T
  have MT_House_look := ok_look (P := P) (w := w) (base := base) T
  refine ⟨_, (pss_cons (ps_if (pt_not (pt_val (pe_cd G_is_place (hr.mono (by decide)) rfl pass0 (pa_cons (pv 1) (pa_cons (pe_callB (c_len (K := K) rfl) rfl T.mn_len (by decide +kernel) (pa_cons (pe_fld (pv 0) rfl) pa_nil)) pa_nil))))) (pss_one (ps_rs rfl (L2N.takes_of rfl rfl rfl rfl) T.x_NoMail rfl)) pss_nil)
      (pss_cons (ps_set (i := 2) nd rfl (Or.inl rfl) (pe_bm PySem.F.plainAttrs_list PySem.F.slot_list_pop PySem.F.type_list_pop mt_popAt (pe_fld (pv 0) rfl) (pa_cons (pv 1) pa_nil)))
      (pss_cons (ps_set (i := 3) nd rfl (Or.inl rfl) (pe_ix (ixT (K := K) rfl) (pv 2) pe_int (fun _ _ => rfl)))
      (pss_cons (ps_if (pt_cmpR op_eq (pe_ix (ixT (K := K) rfl) (pv 2) pe_int (fun _ _ => rfl)) pe_str (nomark _)) (pss_cons (ps_set (i := 4) nd rfl (Or.inl rfl) (pe_md (pe_ix (ixL (K := K) rfl) (pe_fld (pv 0) rfl) (pe_ix (ixT (K := K) rfl) (pv 2) pe_int (fun _ _ => rfl)) (fun _ _ => rfl)) T.c_Desk MT_Desk_propose (hr.mono (by decide)) passN (pa_cons (pv 3) pa_nil)))
        (pss_one (ps_expr (pe_bm PySem.F.plainAttrs_list PySem.F.slot_list_append PySem.F.type_list_append mt_append (pe_fld (pv 0) rfl) (pa_cons (pe_tup (pa_cons pe_str (pa_cons (pv 3) (pa_cons (pe_ix (ixT (K := K) rfl) (pv 2) pe_int (fun _ _ => rfl)) (pa_cons (pe_ix (ixT (K := K) rfl) (pv 2) pe_int (fun _ _ => rfl)) (pa_cons (pv 4) pa_nil)))))) pa_nil))))) (pss_one (ps_if (pt_cmpR op_eq (pe_ix (ixT (K := K) rfl) (pv 2) pe_int (fun _ _ => rfl)) pe_str (nomark _)) (pss_cons (ps_expr (pe_bm PySem.F.plainAttrs_list PySem.F.slot_list_append PySem.F.type_list_append mt_append (pe_fld (pe_ix (ixL (K := K) rfl) (pe_fld (pv 0) rfl) (pv 3) (fun _ _ => rfl)) rfl) (pa_cons (pe_ix (ixT (K := K) rfl) (pv 2) pe_int (fun _ _ => rfl)) pa_nil)))
          (pss_one (ps_expr (pe_md (pv 0) T.c_House MT_House_look (hr.mono (by decide)) passN (pa_cons (pv 3) pa_nil))))) (pss_one (ps_expr (pe_md (pe_ix (ixL (K := K) rfl) (pe_fld (pv 0) rfl) (pe_ix (ixT (K := K) rfl) (pv 2) pe_int (fun _ _ => rfl)) (fun _ _ => rfl)) T.c_Desk MT_Desk_settle (hr.mono (by decide)) passN (pa_cons (pv 3) (pa_cons (pe_ix (ixT (K := K) rfl) (pv 2) pe_int (fun _ _ => rfl)) pa_nil))))))))
      (pss_one (ps_ret (pv 2))))))), ?_⟩
  try dsimp only [cx_K2]
  refine q_ifM K (b := !isPl o st.post.length) (eb_not (eb_DB (ed_place (ev_var rfl) hv (O.ev_p (ev_var rfl) T.c_House T.na_House_post)))) rfl (fun hb B1 e1 => kx (by simpa using hb) B1 e1) (fun hb B1 e1 => q_next ?_)
  obtain ⟨i, rfl, hi⟩ := isPl_nat (o := o) (n := st.post.length) (by simpa using hb)
  cases hv
  obtain ⟨s', m, hbr, hm, hsm, k⟩ := k i rfl hi
  have O1 := O.up s0 e1
  have s1 := s0.trans e1
  obtain ⟨xs, hxl, hxs⟩ := O1.ipl
  obtain ⟨y, hy, hyD⟩ := dpa_get (d := mailD m) hxs (by rw [List.getElem?_map, hm]; rfl)
  have hp0 := hsm.p
  refine q_do (e_popAt (O1.look (ev_var rfl) T.c_House T.na_House_post rfl) (ev_var rfl) hxl hy (by omega) fun B2 e2 => go_nx ?_)
  have R2 := ((PrM.refl (F := fun x => x = P0.pl) s1).up e2).put (l := P0.pl) (o := .lst (xs.eraseIdx i)) (.inl rfl) (O.na _ HP.in_pl)
  have O2 : HouseAt K c.House c.Desk c.Letter A0 (upd B2 P0.pl (.lst (xs.eraseIdx i))) P0 ⟨st.desks, st.sent, st.post.eraseIdx i⟩ := O1.post_ R2 upd_same (by rw [map_erase]; exact dpa_erase (ds := []) hxs i)
  generalize upd B2 P0.pl (.lst (xs.eraseIdx i)) = C2 at R2 O2 ⊢
  have hpe : (st.post.eraseIdx i).length < 70000 := by
    rw [List.length_eraseIdx]
    split <;> omega
  unfold HS.bring at hbr
  rw [hm] at hbr
  have hbr : (match m.word with
    | .letter => _
    | .number => _
    | .mark => _) = some s' := hbr
  obtain ⟨kw, l, sr, dt, mk⟩ := m
  have hyB : ∀ B, Ex C2 B → Dp K B y (.tuple [.str kw.str, .int (l : Nat), .int (sr : Nat), .int (dt : Nat), mkO mk]) := fun B e => dp_ex (R2.s.trans e) hyD
  have hyB2 := hyB C2 (Ex.refl _)
  refine q_asgV (v_int (K := K) (i := (l : Nat)) (ed_ixT (ed_var rfl hyB2) ed_int rfl)) fun B3 e3 => ?_
  have O3 := O2.up R2.s e3
  have s3 := R2.s.trans e3
  have hyB3 := hyB B3 e3
  have RR3 : PrM P0.inF A0 H A0 B3 := (((PrM.refl s0).up e1).trans (prP R2)).up e3
  let J : L2.St → Hp → Prop := fun σ B => ∃ w4 A', σ = [some (.ref P0.a), some (.int (i : Nat)), some y, some (.int (l : Nat)), w4] ∧ PrM P0.inF A0 H A' B ∧ HouseAt K c.House c.Desk c.Letter A' B P0 s' ∧ Dp K A' y (mailD ⟨kw, l, sr, dt, mk⟩)
  have fin : ∀ (Dd : Ends), Dd.rt = Q → ∀ σ B, J σ B → tRet (tVar 2) Dd σ B := by
    rintro Dd hDd σ B ⟨w4, A', rfl, R, O', hd⟩
    refine s_retV (ev_var rfl) fun B' e' => ?_
    rw [hDd]
    exact k y A' B' (R.up e') (O'.up R.s e') hd
  cases kw with
  | letter =>
    have hbr : ((st.desks[dt]?).bind fun d => if ((l : Nat) : Int) ∈ d.known then none else some ⟨st.desks.set dt (d.prop l), st.sent, st.post.eraseIdx i ++ [⟨.number, l, dt, sr, some (d.time + 1, d.hand)⟩]⟩) = some s' := hbr
    obtain ⟨dk, hdk, hbr⟩ := Option.bind_eq_some_iff.mp hbr
    by_cases hkn : ((l : Nat) : Int) ∈ dk.known
    · rw [if_pos hkn] at hbr; cases hbr
    rw [if_neg hkn] at hbr
    cases hbr
    obtain ⟨p, hp, D3⟩ := O3.gd hdk
    have hsz := hsm.d dk (List.mem_of_getElem? hdk)
    unfold DS.size at hsz
    refine q_ifJ K J (b := true) (eb_D (ed_eqs (ed_ixT (ed_var rfl hyB3) ed_int rfl) ed_str)) (by decide) (fun σ B h => fin _ rfl σ B h) (fun r hb B4 e4 => ?_) (fun r hb => by cases hb)
    have O4 := O3.up s3 e4
    refine q_do (m_call (K := K) (A := A0) (s3.trans e4) (O4.ev_desk (ev_var rfl) T.c_House T.na_House_desks hp (ed_ixT (ed_var rfl (hyB B4 (e3.trans e4))) ed_int rfl)) (D3.up s3 e4).ia rfl (epa_cons (ep_v (ev_var rfl) (.int (l : Nat))) epa_nil) fun vs A5 B5 P5 hv5 => ?_)
    obtain ⟨v1, rfl, hv1⟩ := dpa1 hv5
    cases hv1
    refine ⟨A5, p, dk, (l : Nat), rfl, P5.s, (D3.up s3 e4).pr P5, by omega, by omega, fun _ v6 A6 B6 P6 D6 hv6 => go_nx ?_, fun hk => absurd hk hkn⟩
    have O6 := (O4.pr P5).desk hp P6 D6
    obtain ⟨xs6, hx6, hxs6⟩ := O6.ipl
    have R6 : PrM P0.inF A0 H A6 B6 := ((RR3.up e4).pr P5).trans (prD hp P6)
    have hy6 : Dp K A6 y (.tuple [.str (MW.str .letter), .int (l : Nat), .int (sr : Nat), .int (dt : Nat), mkO mk]) := dp_ex (P5.a.trans P6.a) hyD
    have hl6 : xs6.length < 70000 := by
      rw [dpa_len hxs6, List.length_map]
      exact hpe
    refine s_app K (d := mailD ⟨.number, l, dt, sr, some (dk.time + 1, dk.hand)⟩) P6.s (O6.look (ev_var rfl) T.c_House T.na_House_post rfl) (ep_tup (epa_cons (ep_v ev_c (.str _)) (epa_cons (ep_v (ev_var rfl) (.int _)) (epa_cons (ep_ed (ed_ixT (ed_var rfl hy6) ed_int rfl)) (epa_cons (ep_ed (ed_ixT (ed_var rfl hy6) ed_int rfl)) (epa_cons (ep_v (ev_var rfl) hv6) epa_nil))))) (by show 5 ≤ 100000; decide)) hx6 (by omega) fun v7 A7 B7 P7 hv7 => ?_
    have R7 := ((PrM.refl (F := fun x => x = P0.pl) P6.s).pr P7).put (l := P0.pl) (o := .lst (xs6 ++ [v7])) (.inl rfl) ((O6.pr P7).na _ HP.in_pl)
    have O7 := O6.post_ (ms := st.post.eraseIdx i ++ [⟨.number, l, dt, sr, some (dk.time + 1, dk.hand)⟩]) R7 upd_same (by rw [List.map_append]; exact dpa_app (dpa_ex P7.a hxs6) (.cons hv7 .nil))
    exact r _ _ ⟨_, A7, rfl, R6.trans (prP R7), O7, dp_ex P7.a hy6⟩
  | number =>
    have hbr : ((st.sent[l]?).bind fun x => mk.bind fun k => HS.look ⟨st.desks, st.sent.set l ⟨x.writer, x.words, x.numbers ++ [k], x.final⟩, st.post.eraseIdx i⟩ l) = some s' := hbr
    obtain ⟨x, hx, hbr⟩ := Option.bind_eq_some_iff.mp hbr
    obtain ⟨kk, rfl, hbr⟩ := Option.bind_eq_some_iff.mp hbr
    obtain ⟨q, hq, L3⟩ := O3.gq hx
    obtain ⟨vf, hia, hvf⟩ := L3.ia
    obtain ⟨ys, him, hys⟩ := L3.im
    refine q_ifJ K J (b := false) (eb_D (ed_eqs (ed_ixT (ed_var rfl hyB3) ed_int rfl) ed_str)) (by decide) (fun σ B h => fin _ rfl σ B h) (fun r hb => by cases hb) (fun r hb B4 e4 => ?_)
    refine s_ifM K (b := true) (eb_D (ed_eqs (ed_ixT (ed_var rfl (hyB B4 (e3.trans e4))) ed_int rfl) ed_str)) (by decide) (fun hb B5 e5 => ?_) (fun hb => by cases hb)
    have e45 := e4.trans e5
    have O5 := O3.up s3 e45
    have hyl : ys.length < 70000 := by
      rw [dpa_len hys, List.length_map]
      exact hsm.x x (List.mem_of_getElem? hx)
    refine q_do (s_app K (d := mkD kk) (s3.trans e45) (ev_fld (O5.ev_let (ev_var rfl) T.c_House T.na_House_sent hq (ed_var rfl (.int (l : Nat)))) (e45 _ _ hia) T.c_Letter T.na_Letter_numbers rfl) (ep_ed (ed_ixT (ed_var rfl hyD) ed_int rfl)) (e45 _ _ him) (by omega) fun v6 A6 B6 P6 hv6 => go_nx ?_)
    have O6 := O5.pr P6
    have L6 := O6.hq l q x hq hx
    have qn : q.n ∈ q.foot := by simp [QP.foot]
    have R7 := (PrM.refl (F := fun x => x ∈ q.foot) P6.s).put (l := q.n) (o := .lst (ys ++ [v6])) (.inl qn) (L6.na _ qn)
    obtain ⟨vf6, hia6, hvf6⟩ := L6.ia
    have L7 : LetAt K c.Letter A6 (upd B6 q.n (.lst (ys ++ [v6]))) q ⟨x.writer, x.words, x.numbers ++ [kk], x.final⟩ := ⟨⟨vf6, by rw [upd_ne L6.ne]; exact hia6, hvf6⟩, ⟨_, upd_same, by rw [List.map_append]; exact dpa_app (dpa_ex P6.a hys) (.cons hv6 .nil)⟩, L6.ne, L6.na⟩
    have O7 := O6.letter hq R7 L7
    have R7' : PrM P0.inF A0 H A6 (upd B6 q.n (.lst (ys ++ [v6]))) := ((RR3.up e45).pr P6).trans (prL hq R7)
    generalize upd B6 q.n (.lst (ys ++ [v6])) = C7 at R7 R7' O7 ⊢
    have hm7 : Sm 80000 ⟨st.desks, st.sent.set l ⟨x.writer, x.words, x.numbers ++ [kk], x.final⟩, st.post.eraseIdx i⟩ := by
      refine ⟨hsm.n, by show (st.post.eraseIdx i).length < _; omega, fun d hd => by have := hsm.d d hd; omega, by show (st.sent.set _ _).length < _; rw [List.length_set]; have := hsm.l; omega, fun z hz => ?_⟩
      have hz : z ∈ st.sent.set l ⟨x.writer, x.words, x.numbers ++ [kk], x.final⟩ := hz
      rcases List.mem_or_eq_of_mem_set hz with y | y
      · have := hsm.x z y; omega
      · rw [y]
        show (x.numbers ++ [kk]).length < _
        rw [List.length_append, List.length_singleton]
        have := hsm.x x (List.mem_of_getElem? hx)
        omega
    refine m_call (K := K) (A := A6) R7.s (ev_var rfl) O7.ia rfl (epa_cons (ep_v (ev_var rfl) (.int (l : Nat))) epa_nil) fun vs A8 B8 P8 hv8 => ?_
    obtain ⟨v1, rfl, hv1⟩ := dpa1 hv8
    cases hv1
    exact ⟨A8, P0, _, l, s', rfl, P8.s, O7.pr P8, hbr, hm7, fun A9 B9 P9 O9 => r _ _ ⟨_, A9, rfl, (R7'.pr P8).trans P9, O9, dp_ex (P6.a.trans (P8.a.trans P9.a)) hyD⟩⟩
  | mark =>
    have hbr : ((st.desks[dt]?).bind fun d => mk.bind fun k => (d.settle? l k).map fun d' => ⟨st.desks.set dt d', st.sent, st.post.eraseIdx i⟩) = some s' := hbr
    obtain ⟨dk, hdk, hbr⟩ := Option.bind_eq_some_iff.mp hbr
    obtain ⟨kk, rfl, hbr⟩ := Option.bind_eq_some_iff.mp hbr
    obtain ⟨d', hset, rfl⟩ := Option.map_eq_some_iff.mp hbr
    obtain ⟨hin, hnd, hml, rfl⟩ := settle_some hset
    obtain ⟨p, hp, D3⟩ := O3.gd hdk
    have hsz := hsm.d dk (List.mem_of_getElem? hdk)
    unfold DS.size at hsz
    refine q_ifJ K J (b := false) (eb_D (ed_eqs (ed_ixT (ed_var rfl hyB3) ed_int rfl) ed_str)) (by decide) (fun σ B h => fin _ rfl σ B h) (fun r hb => by cases hb) (fun r hb B4 e4 => ?_)
    refine s_ifM K (b := false) (eb_D (ed_eqs (ed_ixT (ed_var rfl (hyB B4 (e3.trans e4))) ed_int rfl) ed_str)) (by decide) (fun hb => by cases hb) (fun hb B5 e5 => ?_)
    have e45 := e4.trans e5
    have O5 := O3.up s3 e45
    refine m_call (K := K) (A := A0) (s3.trans e45) (O5.ev_desk (ev_var rfl) T.c_House T.na_House_desks hp (ed_ixT (ed_var rfl (hyB B5 (e3.trans e45))) ed_int rfl)) (D3.up s3 e45).ia rfl (epa_cons (ep_v (ev_var rfl) (.int (l : Nat))) (epa_cons (ep_ed (ed_ixT (ed_var rfl hyD) ed_int rfl)) epa_nil)) fun vs A6 B6 P6 hv6 => ?_
    obtain ⟨v1, v2, rfl, hv1, hv2⟩ := dpa2 hv6
    cases hv1
    refine ⟨A6, p, dk, (l : Nat), v2, kk, rfl, P6.s, hv2, (D3.up s3 e45).pr P6, by omega, by omega, fun hc => ?_, fun _ _ hc => ?_, fun _ _ _ q7 A7 B7 hq7 P7 D7 _ _ => ?_⟩
    · rcases hc with hc | hc
      · exact absurd hin hc
      · exact absurd hc hnd
    · rw [hml] at hc; cases hc
    · exact r _ _ ⟨_, A7, rfl, ((RR3.up e45).pr P6).trans (prD hp P7), (O5.pr P6).desk hp P7 D7, dp_ex (P6.a.trans P7.a) hyD⟩
end

end K8

namespace K8
open PySem L2 Evl Ob

/-! ## the order of marks -/
theorem mless_iff (a b : Mk) : mless a b = true ↔ a.1 < b.1 ∨ (a.1 = b.1 ∧ a.2 < b.2) := by
  unfold mless
  rw [Bool.or_eq_true, Bool.and_eq_true, decide_eq_true_eq, decide_eq_true_eq, beq_iff_eq]
theorem mless_not (a b : Mk) : mless a b = false ↔ ¬ (a.1 < b.1 ∨ (a.1 = b.1 ∧ a.2 < b.2)) := by
  rw [← mless_iff]
  cases mless a b <;> simp
theorem mless_irr (a : Mk) : mless a a = false := by rw [mless_not]; omega
theorem mless_tr {a b c : Mk} (h : mless a b = true) (k : mless b c = true) : mless a c = true := by
  rw [mless_iff] at *
  omega
theorem mless_ge {a b c : Mk} (h : mless a b = true) (k : mless c b = false) : mless a c = true := by
  rw [mless_not] at k
  rw [mless_iff] at *
  omega
theorem mless_eq {a b : Mk} (h : mless a b = false) (k : mless b a = false) : a = b := by
  rw [mless_not] at *
  exact Prod.ext (by omega) (by omega)
theorem mless_as {a b : Mk} (h : mless a b = true) : mless b a = false := by
  rw [mless_not]
  rw [mless_iff] at h
  omega
theorem mless_lt {a b : Mk} (h : a.1 < b.1) : mless a b = true := by rw [mless_iff]; exact .inl h
theorem mless_le {a b c : Mk} (h : mless b a = false) (k : mless c b = false) : mless c a = false := by
  rw [mless_not] at *
  omega
/-- the greatest is one of them, and no less than any -/
theorem mgreat_spec : ∀ (ms : List Mk) (a : Mk), (mgreat ms a = a ∨ mgreat ms a ∈ ms) ∧ mless (mgreat ms a) a = false ∧ ∀ m ∈ ms, mless (mgreat ms a) m = false
  | [], a => ⟨.inl rfl, mless_irr a, fun m h => by simp at h⟩
  | x :: r, a => by
    obtain ⟨h1, h2, h3⟩ := mgreat_spec r (if mless a x then x else a)
    show (mgreat r (if mless a x then x else a) = a ∨ _) ∧ mless (mgreat r (if mless a x then x else a)) a = false ∧ _
    have ha : mless (if mless a x then x else a) a = false := by
      split
      · rename_i z; exact mless_as z
      · exact mless_irr a
    have hx : mless (if mless a x then x else a) x = false := by
      split
      · exact mless_irr x
      · rename_i z; simpa using z
    refine ⟨?_, mless_le ha h2, fun m hm => ?_⟩
    · rcases h1 with z | z
      · show mgreat r (if mless a x then x else a) = a ∨ mgreat r (if mless a x then x else a) ∈ x :: r
        rw [z]
        split
        · exact .inr (by simp)
        · exact .inl rfl
      · exact .inr (List.mem_cons_of_mem _ z)
    · rcases List.mem_cons.mp hm with rfl | hm
      · exact mless_le hx h2
      · exact h3 m hm
theorem great_mem {ms : List Mk} (h : ms ≠ []) : great ms ∈ ms := by
  unfold great
  rcases (mgreat_spec ms (ms.headD (0, 0))).1 with z | z
  · rw [z]
    cases ms with
    | nil => exact absurd rfl h
    | cons x r => simp
  · exact z
theorem great_ge {ms : List Mk} {m : Mk} (h : m ∈ ms) : mless (great ms) m = false := (mgreat_spec ms _).2.2 m h
/-! ## a desk keeps order -/
theorem bestF_min {mk : Int → Mk} : ∀ (l : List Int) (b : Int), mless (mk b) (mk (bestF mk b l)) = false ∧ ∀ x ∈ l, mless (mk x) (mk (bestF mk b l)) = false
  | [], b => ⟨mless_irr _, fun x h => by simp at h⟩
  | y :: r, b => by
    obtain ⟨h1, h2⟩ := bestF_min (mk := mk) r (if mless (mk y) (mk b) = true then y else b)
    have hb : mless (mk b) (mk (if mless (mk y) (mk b) = true then y else b)) = false := by
      split
      · rename_i z; exact mless_as z
      · exact mless_irr _
    have hy : mless (mk y) (mk (if mless (mk y) (mk b) = true then y else b)) = false := by
      split
      · exact mless_irr _
      · rename_i z; simpa using z
    refine ⟨mless_le h1 hb, fun x hx => ?_⟩
    rcases List.mem_cons.mp hx with rfl | hx
    · exact mless_le h1 hy
    · exact h2 x hx
theorem first_min {d : DS} {l : Int} (h : d.first = some l) : ∀ b ∈ d.keys, mless (mkOf d b) (mkOf d l) = false := by
  unfold DS.first at h
  intro b hb
  cases hk : d.keys with
  | nil => rw [hk] at hb; simp at hb
  | cons x r =>
    rw [hk] at h hb
    have h : firstF (mkOf d) (some x) r = some l := h
    rw [firstF_some] at h
    have h := Option.some.inj h
    obtain ⟨h1, h2⟩ := bestF_min (mk := mkOf d) r x
    rw [h] at h1 h2
    rcases List.mem_cons.mp hb with rfl | hb
    · exact h1
    · exact h2 b hb
theorem first_some {d : DS} (h : d.keys ≠ []) : ∃ l, d.first = some l := by
  unfold DS.first
  cases hk : d.keys with
  | nil => exact absurd hk h
  | cons x r => exact ⟨_, firstF_some (mkOf d) r x⟩
theorem over_ind {P : DS → Prop} (step : ∀ d l, P d → d.first = some l → l ∈ d.done → P (d.hand1 l)) : ∀ (n : Nat) (d : DS), P d → P (DS.over n d).1
  | 0, _, h => h
  | n + 1, d, h => by
    unfold DS.over
    cases e : d.first with
    | none => exact h
    | some l =>
      dsimp only
      split
      · rename_i hl
        exact over_ind step n _ (step d l h e hl)
      · exact h
theorem over_stop : ∀ (n : Nat) (d : DS), d.marked.length ≤ n → ∀ l, (DS.over n d).1.first = some l → l ∉ (DS.over n d).1.done
  | 0, d, h, l, e => by
    have : d.first = none := DS.first_none (by omega)
    have e : d.first = some l := e
    rw [this] at e
    cases e
  | n + 1, d, h, l, e => by
    unfold DS.over at e ⊢
    cases f : d.first with
    | none =>
      rw [f] at e
      have e : d.first = some l := e
      rw [f] at e
      cases e
    | some x =>
      rw [f] at e
      dsimp only at e ⊢
      by_cases hx : x ∈ d.done
      · rw [if_pos hx] at e ⊢
        have hl : (d.hand1 x).marked.length < d.marked.length := drop_lt (DS.first_mem f)
        exact over_stop n _ (by omega) l e
      · rw [if_neg hx] at e ⊢
        have e : d.first = some l := e
        rw [f] at e
        cases e
        exact hx
structure DI (mk : Int → Mk) (d : DS) : Prop where
  g : Good d
  sp : ∀ x, x ∈ d.known ↔ (x ∈ d.keys ∨ x ∈ d.row)
  dj : ∀ x ∈ d.row, x ∉ d.keys
  rn : d.row.Nodup
  rd : ∀ x ∈ d.row, x ∈ d.done
  kd : ∀ x ∈ d.done, x ∈ d.known
  dn : d.done.Nodup
  mo : ∀ x ∈ d.keys, mkOf d x = mk x
  tm : ∀ x ∈ d.known, (mk x).1 ≤ d.time
  inj : ∀ x ∈ d.known, ∀ y ∈ d.known, mk x = mk y → x = y
  rs : d.row.Pairwise fun a b => mless (mk a) (mk b) = true
  lo : ∀ a ∈ d.row, ∀ b ∈ d.keys, mless (mk a) (mk b) = true
/-- what waits settled waits behind something open -/
def Qt (mk : Int → Mk) (d : DS) : Prop := ∀ y ∈ d.keys, y ∈ d.done → ∃ x ∈ d.keys, x ∉ d.done ∧ mless (mk x) (mk y) = true
theorem hand1_keys (d : DS) (l : Int) : (d.hand1 l).keys = d.keys.filter fun j => decide (j ≠ l) := drop_keys _ _
theorem DI.hand {mk : Int → Mk} {d : DS} (I : DI mk d) {l : Int} (hf : d.first = some l) (hd : l ∈ d.done) : DI mk (d.hand1 l) := by
  have hin : l ∈ d.keys := DS.first_mem hf
  have hk := hand1_keys d l
  have mem : ∀ x, x ∈ (d.hand1 l).keys ↔ x ∈ d.keys ∧ x ≠ l := fun x => by rw [hk, List.mem_filter, decide_eq_true_eq]
  have hrow : (d.hand1 l).row = d.row ++ [l] := rfl
  have hlr : l ∉ d.row := fun z => I.dj l z hin
  refine ⟨I.g.drop l, fun x => ?_, fun x hx hx2 => ?_, ?_, fun x hx => ?_, I.kd, I.dn, fun x hx => ?_, I.tm, I.inj, ?_, fun a ha b hb => ?_⟩
  · rw [mem, hrow, List.mem_append, List.mem_singleton]
    show x ∈ d.known ↔ _
    rw [I.sp x]
    by_cases z : x = l
    · subst z; simp [hin]
    · simp [z]
  · rw [hrow, List.mem_append, List.mem_singleton] at hx
    obtain ⟨h1, h2⟩ := (mem x).mp hx2
    rcases hx with z | z
    · exact I.dj x z h1
    · exact h2 z
  · rw [hrow]
    exact List.nodup_append.mpr ⟨I.rn, by simp, fun a ha b hb z => hlr (by rw [List.mem_singleton.mp hb] at z; exact z ▸ ha)⟩
  · rw [hrow, List.mem_append, List.mem_singleton] at hx
    rcases hx with z | z
    · exact I.rd x z
    · rw [z]; exact hd
  · obtain ⟨h1, h2⟩ := (mem x).mp hx
    rw [← I.mo x h1]
    unfold mkOf
    show ((lkM (dropM d.marked l) x).getD (0, 0)) = _
    rw [lk_drop h2]
  · rw [hrow, List.pairwise_append]
    refine ⟨I.rs, by simp, fun a ha b hb => ?_⟩
    rw [List.mem_singleton.mp hb]
    exact I.lo a ha l hin
  · obtain ⟨h1, h2⟩ := (mem b).mp hb
    rw [hrow, List.mem_append, List.mem_singleton] at ha
    rcases ha with z | z
    · exact I.lo a z b h1
    · rw [z]
      have hm := first_min hf b h1
      rw [I.mo b h1, I.mo l hin] at hm
      cases e : mless (mk l) (mk b) with
      | true => rfl
      | false => exact absurd (I.inj b ((I.sp b).mpr (.inl h1)) l ((I.sp l).mpr (.inl hin)) (mless_eq hm e)) h2
theorem DI.run {mk : Int → Mk} {d : DS} (I : DI mk d) : DI mk d.run.1 ∧ Qt mk d.run.1 := by
  have h1 : DI mk d.run.1 := over_ind (P := DI mk) (fun d l I hf hd => I.hand hf hd) _ d I
  refine ⟨h1, fun y hy hyd => ?_⟩
  obtain ⟨x, hx⟩ := first_some (fun z => by rw [z] at hy; simp at hy : d.run.1.keys ≠ [])
  have hxk := DS.first_mem hx
  have hxd := over_stop d.marked.length d (Nat.le_refl _) x hx
  refine ⟨x, hxk, hxd, ?_⟩
  have hm := first_min hx y hy
  rw [h1.mo y hy, h1.mo x hxk] at hm
  cases e : mless (mk x) (mk y) with
  | true => rfl
  | false => exact absurd (h1.inj y ((h1.sp y).mpr (.inl hy)) x ((h1.sp x).mpr (.inl hxk)) (mless_eq hm e)) (fun z => hxd (z ▸ hyd))
def upM (mk : Int → Mk) (l : Int) (m : Mk) : Int → Mk := fun x => if x = l then m else mk x
theorem lk_map_ne {l x : Int} {m : Mk} (h : x ≠ l) : ∀ ms : List (Int × Mk), lkM (ms.map fun e => if e.1 = l then (e.1, m) else e) x = lkM ms x
  | [] => rfl
  | e :: r => by
    have ih := lk_map_ne (m := m) h r
    rw [List.map_cons]
    unfold lkM at ih ⊢
    rw [List.find?_cons, List.find?_cons]
    by_cases z : e.1 = l
    · rw [if_pos z]
      have : decide (e.1 = x) = false := decide_eq_false (fun y => h (y ▸ z))
      simp only [this]
      exact ih
    · rw [if_neg z]
      cases decide (e.1 = x) with
      | true => rfl
      | false => exact ih
theorem lk_put_ne {ms : List (Int × Mk)} {l x : Int} {m : Mk} (h : x ≠ l) : lkM (putM ms l m) x = lkM ms x := by
  unfold putM
  split
  · exact lk_map_ne h ms
  · have : ¬ l = x := fun z => h z.symm
    simp [lkM, List.find?_append, this]
theorem prop_keys {d : DS} (g : Good d) {l : Int} (h : l ∉ d.known) : (d.prop l).keys = d.keys ++ [l] := by
  show (putM d.marked l _).map (·.1) = _
  rw [put_new (fun z => h (g.sub z)), List.map_append]
  rfl
theorem DI.prop {mk : Int → Mk} {d : DS} (I : DI mk d) {l : Int} (h : l ∉ d.known) : DI (upM mk l (d.time + 1, d.hand)) (d.prop l) := by
  have hk := prop_keys I.g h
  have hlk : l ∉ d.keys := fun z => h ((I.sp l).mpr (.inl z))
  have hlr : l ∉ d.row := fun z => h ((I.sp l).mpr (.inr z))
  have ne : ∀ x ∈ d.known, x ≠ l := fun x hx z => h (z ▸ hx)
  have up : ∀ x ∈ d.known, upM mk l (d.time + 1, d.hand) x = mk x := fun x hx => if_neg (ne x hx)
  have upl : upM mk l (d.time + 1, d.hand) l = (d.time + 1, d.hand) := if_pos rfl
  have kmem : ∀ x, x ∈ (d.prop l).known ↔ x ∈ d.known ∨ x = l := fun x => by
    show x ∈ d.known ++ [l] ↔ _
    rw [List.mem_append, List.mem_singleton]
  have rk : ∀ x ∈ d.row, x ∈ d.known := fun x hx => (I.sp x).mpr (.inr hx)
  refine ⟨I.g.prop h, fun x => ?_, fun x hx hx2 => ?_, I.rn, I.rd, fun x hx => (kmem x).mpr (.inl (I.kd x hx)), I.dn, fun x hx => ?_, fun x hx => ?_, fun x hx y hy e => ?_, ?_, fun a ha b hb => ?_⟩
  · rw [kmem, hk, List.mem_append, List.mem_singleton, I.sp x]
    show _ ↔ (_ ∨ _) ∨ x ∈ d.row
    constructor
    · rintro ((z | z) | z)
      · exact .inl (.inl z)
      · exact .inr z
      · exact .inl (.inr z)
    · rintro ((z | z) | z)
      · exact .inl (.inl z)
      · exact .inr z
      · exact .inl (.inr z)
  · rw [hk, List.mem_append, List.mem_singleton] at hx2
    rcases hx2 with z | z
    · exact I.dj x hx z
    · exact hlr (z ▸ hx)
  · rw [hk, List.mem_append, List.mem_singleton] at hx
    rcases hx with z | z
    · have hxk : x ∈ d.known := (I.sp x).mpr (.inl z)
      rw [up x hxk, ← I.mo x z]
      unfold mkOf
      show (lkM (putM d.marked l _) x).getD (0, 0) = _
      rw [lk_put_ne (ne x hxk)]
    · rw [z, upl]
      unfold mkOf
      show (lkM (putM d.marked l _) l).getD (0, 0) = _
      rw [lk_put]
      rfl
  · show _ ≤ d.time + 1
    rcases (kmem x).mp hx with z | z
    · rw [up x z]
      have := I.tm x z
      omega
    · rw [z, upl]; exact Int.le_refl _
  · rcases (kmem x).mp hx with z | z <;> rcases (kmem y).mp hy with z2 | z2
    · rw [up x z, up y z2] at e
      exact I.inj x z y z2 e
    · rw [up x z, z2, upl] at e
      have := I.tm x z
      rw [e] at this
      exfalso
      have : d.time + 1 ≤ d.time := this
      omega
    · rw [up y z2, z, upl] at e
      have := I.tm y z2
      rw [← e] at this
      exfalso
      have : d.time + 1 ≤ d.time := this
      omega
    · rw [z, z2]
  · refine I.rs.imp_of_mem fun {a b} ha hb hab => ?_
    rw [up a (rk a ha), up b (rk b hb)]
    exact hab
  · rw [hk, List.mem_append, List.mem_singleton] at hb
    rw [up a (rk a ha)]
    rcases hb with z | z
    · rw [up b ((I.sp b).mpr (.inl z))]
      exact I.lo a ha b z
    · rw [z, upl]
      refine mless_lt ?_
      have := I.tm a (rk a ha)
      show (mk a).1 < d.time + 1
      omega
theorem Qt.prop {mk : Int → Mk} {d : DS} (I : DI mk d) (q : Qt mk d) {l : Int} (h : l ∉ d.known) : Qt (upM mk l (d.time + 1, d.hand)) (d.prop l) := by
  intro y hy hyd
  have hyd : y ∈ d.done := hyd
  have hyk := I.kd y hyd
  have hyl : y ≠ l := fun z => h (z ▸ hyk)
  rw [prop_keys I.g h, List.mem_append, List.mem_singleton] at hy
  obtain ⟨x, h1, h2, h3⟩ := q y (hy.resolve_right hyl) hyd
  have hxl : x ≠ l := fun z => h (z ▸ (I.sp x).mpr (.inl h1))
  refine ⟨x, by rw [prop_keys I.g h, List.mem_append]; exact .inl h1, h2, ?_⟩
  unfold upM
  rw [if_neg hxl, if_neg hyl]
  exact h3
theorem DI.set {mk : Int → Mk} {d : DS} (I : DI mk d) {l : Int} {m : Mk} (hin : l ∈ d.keys) (hnd : l ∉ d.done) (hm : mless m (mk l) = false) (hu : ∀ x ∈ d.known, x ≠ l → mk x ≠ m) : DI (upM mk l m) (d.set1 l m) := by
  have hk : (d.set1 l m).keys = d.keys := put_keys hin
  have hlk : l ∈ d.known := (I.sp l).mpr (.inl hin)
  have up : ∀ x, x ≠ l → upM mk l m x = mk x := fun x hx => if_neg hx
  have upl : upM mk l m l = m := if_pos rfl
  have hlr : l ∉ d.row := fun z => I.dj l z hin
  have rne : ∀ x ∈ d.row, x ≠ l := fun x hx z => hlr (z ▸ hx)
  refine ⟨I.g.set1 hin, fun x => by rw [hk]; exact I.sp x, fun x hx => by rw [hk]; exact I.dj x hx, I.rn, fun x hx => List.mem_append_left _ (I.rd x hx), fun x hx => ?_, ?_, fun x hx => ?_, fun x hx => ?_, fun x hx y hy e => ?_, ?_, fun a ha b hb => ?_⟩
  · have hx : x ∈ d.done ++ [l] := hx
    rcases List.mem_append.mp hx with z | z
    · exact I.kd x z
    · rw [List.mem_singleton.mp z]; exact hlk
  · exact List.nodup_append.mpr ⟨I.dn, by simp, fun a ha b hb z => hnd (by rw [List.mem_singleton.mp hb] at z; exact z ▸ ha)⟩
  · rw [hk] at hx
    by_cases z : x = l
    · rw [z, upl]
      unfold mkOf
      show (lkM (putM d.marked l m) l).getD (0, 0) = _
      rw [lk_put]
      rfl
    · rw [up x z, ← I.mo x hx]
      unfold mkOf
      show (lkM (putM d.marked l m) x).getD (0, 0) = _
      rw [lk_put_ne z]
  · show _ ≤ if m.1 > d.time then m.1 else d.time
    by_cases z : x = l
    · rw [z, upl]; split <;> omega
    · rw [up x z]
      have := I.tm x hx
      split <;> omega
  · have hx : x ∈ d.known := hx
    have hy : y ∈ d.known := hy
    by_cases z : x = l <;> by_cases z2 : y = l
    · rw [z, z2]
    · rw [z, upl, up y z2] at e
      exact absurd e.symm (hu y hy z2)
    · rw [z2, upl, up x z] at e
      exact absurd e (hu x hx z)
    · rw [up x z, up y z2] at e
      exact I.inj x hx y hy e
  · refine I.rs.imp_of_mem fun {a b} ha hb hab => ?_
    rw [up a (rne a ha), up b (rne b hb)]
    exact hab
  · rw [hk] at hb
    rw [up a (rne a ha)]
    by_cases z : b = l
    · rw [z, upl]
      exact mless_ge (I.lo a ha l hin) hm
    · rw [up b z]
      exact I.lo a ha b hb
theorem DI.congr {mk mk' : Int → Mk} {d : DS} (I : DI mk d) (h : ∀ x ∈ d.known, mk x = mk' x) : DI mk' d := by
  have kk : ∀ x ∈ d.keys, x ∈ d.known := fun x hx => (I.sp x).mpr (.inl hx)
  have rk : ∀ x ∈ d.row, x ∈ d.known := fun x hx => (I.sp x).mpr (.inr hx)
  refine ⟨I.g, I.sp, I.dj, I.rn, I.rd, I.kd, I.dn, fun x hx => by rw [← h x (kk x hx)]; exact I.mo x hx, fun x hx => by rw [← h x hx]; exact I.tm x hx, fun x hx y hy e => I.inj x hx y hy (by rw [h x hx, h y hy]; exact e), ?_, fun a ha b hb => by rw [← h a (rk a ha), ← h b (kk b hb)]; exact I.lo a ha b hb⟩
  exact I.rs.imp_of_mem fun {a b} ha hb hab => by rw [← h a (rk a ha), ← h b (rk b hb)]; exact hab
theorem Qt.congr {mk mk' : Int → Mk} {d : DS} (I : DI mk d) (q : Qt mk d) (h : ∀ x ∈ d.known, mk x = mk' x) : Qt mk' d := fun y hy hyd => by
  obtain ⟨x, h1, h2, h3⟩ := q y hy hyd
  exact ⟨x, h1, h2, by rw [← h x ((I.sp x).mpr (.inl h1)), ← h y ((I.sp y).mpr (.inl hy))]; exact h3⟩

end K8

namespace K8
open PySem L2 Evl Ob

/-! ## how far letters are, and what is kept -/
structure Ab where
  w : Nat → Nat
  g : Nat → Nat → Mk
  st : Nat → Nat → Nat
def mkS (a : Ab) (F : Nat → Mk) (h : Nat) (x : Int) : Mk := if a.st x.toNat h = 4 then F x.toNat else a.g h x.toNat
structure DInv (L : Nat) (a : Ab) (F : Nat → Mk) (h : Nat) (d : DS) : Prop where
  hand : d.hand = (h : Int)
  di : DI (mkS a F h) d
  qt : Qt (mkS a F h) d
  kn : ∀ x, x ∈ d.known ↔ ∃ l : Nat, l < L ∧ 1 ≤ a.st l h ∧ x = (l : Int)
  dn : ∀ l : Nat, l < L → ((l : Int) ∈ d.done ↔ a.st l h = 4)
  gh : ∀ l : Nat, l < L → 1 ≤ a.st l h → (a.g h l).2 = (h : Int) ∧ (a.g h l).1 ≤ d.time
  gi : ∀ l l' : Nat, l < L → l' < L → 1 ≤ a.st l h → 1 ≤ a.st l' h → (a.g h l).1 = (a.g h l').1 → l = l'
section
variable {L L' : Nat} {a a' : Ab} {F F' : Nat → Mk} {h : Nat} {d : DS}
theorem DInv.kl (D : DInv L a F h d) {l : Nat} (hl : l < L) : (l : Int) ∈ d.known ↔ 1 ≤ a.st l h := by
  rw [D.kn]
  constructor
  · rintro ⟨l', _, h2, h3⟩
    have : l = l' := by omega
    rw [this]; exact h2
  · intro z
    exact ⟨l, hl, z, rfl⟩
theorem mkS_nat (l : Nat) : mkS a F h (l : Int) = if a.st l h = 4 then F l else a.g h l := rfl
theorem DInv.same (D : DInv L a F h d) (hL : L ≤ L') (h1 : ∀ l, l < L → (1 ≤ a'.st l h ↔ 1 ≤ a.st l h)) (h4 : ∀ l, l < L → (a'.st l h = 4 ↔ a.st l h = 4)) (hg : ∀ l, l < L → 1 ≤ a.st l h → a'.g h l = a.g h l) (hF : ∀ l, l < L → a.st l h = 4 → F' l = F l)
    (hn : ∀ l, L ≤ l → l < L' → a'.st l h = 0) : DInv L' a' F' h d := by
  have low : ∀ l : Nat, l < L' → 1 ≤ a'.st l h → l < L := fun l hl z => by
    rcases Nat.lt_or_ge l L with y | y
    · exact y
    · have := hn l y hl; omega
  have cg : ∀ x ∈ d.known, mkS a F h x = mkS a' F' h x := fun x hx => by
    obtain ⟨l, hl, h2, rfl⟩ := (D.kn x).mp hx
    rw [mkS_nat, mkS_nat]
    by_cases z : a.st l h = 4
    · rw [if_pos z, if_pos ((h4 l hl).mpr z), hF l hl z]
    · rw [if_neg z, if_neg (fun y => z ((h4 l hl).mp y)), hg l hl h2]
  refine ⟨D.hand, D.di.congr cg, D.qt.congr D.di cg, fun x => ?_, fun l hl => ?_, fun l hl z => ?_, fun l l' hl hl' z z' e => ?_⟩
  · rw [D.kn]
    constructor
    · rintro ⟨l, hl, z, rfl⟩
      exact ⟨l, Nat.lt_of_lt_of_le hl hL, (h1 l hl).mpr z, rfl⟩
    · rintro ⟨l, hl, z, rfl⟩
      have := low l hl z
      exact ⟨l, this, (h1 l this).mp z, rfl⟩
  · rcases Nat.lt_or_ge l L with y | y
    · rw [D.dn l y, h4 l y]
    · have h0 := hn l y hl
      constructor
      · intro z
        have := D.di.kd _ z
        obtain ⟨l', h3, _, h5⟩ := (D.kn _).mp this
        omega
      · intro z; omega
  · have y := low l hl z
    rw [hg l y ((h1 l y).mp z)]
    exact D.gh l y ((h1 l y).mp z)
  · have y := low l hl z
    have y' := low l' hl' z'
    rw [hg l y ((h1 l y).mp z), hg l' y' ((h1 l' y').mp z')] at e
    exact D.gi l l' y y' ((h1 l y).mp z) ((h1 l' y').mp z') e
theorem DInv.prop (D : DInv L a F h d) (hL : L ≤ L') {l : Nat} (hl : l < L') (h0 : l < L → a.st l h = 0) (hs : 1 ≤ a'.st l h ∧ a'.st l h ≤ 3) (hgl : a'.g h l = (d.time + 1, (h : Int)))
    (h1 : ∀ k, k < L → k ≠ l → a'.st k h = a.st k h) (hg : ∀ k, k < L → k ≠ l → a'.g h k = a.g h k) (hF : ∀ k, k < L → a.st k h = 4 → F' k = F k) (hn : ∀ k, L ≤ k → k < L' → k ≠ l → a'.st k h = 0) : (l : Int) ∉ d.known ∧ DInv L' a' F' h (d.prop l) := by
  have hnk : (l : Int) ∉ d.known := fun z => by
    obtain ⟨k, hk, h2, h3⟩ := (D.kn _).mp z
    have : l = k := by omega
    subst this
    have := h0 hk
    omega
  have low : ∀ k : Nat, k < L' → k ≠ l → 1 ≤ a'.st k h → k < L := fun k hk ne z => by
    rcases Nat.lt_or_ge k L with y | y
    · exact y
    · have := hn k y hk ne; omega
  have kmem : ∀ x, x ∈ (d.prop (l : Int)).known ↔ x ∈ d.known ∨ x = (l : Int) := fun x => by
    show x ∈ d.known ++ [(l : Int)] ↔ _
    rw [List.mem_append, List.mem_singleton]
  have DI1 := D.di.prop hnk
  have QT1 := D.qt.prop D.di hnk
  have cg : ∀ x ∈ (d.prop (l : Int)).known, upM (mkS a F h) (l : Int) (d.time + 1, d.hand) x = mkS a' F' h x := fun x hx => by
    unfold upM
    by_cases z : x = (l : Int)
    · rw [if_pos z, z, mkS_nat, if_neg (by omega), hgl, D.hand]
    · rw [if_neg z]
      obtain ⟨k, hk, h2, rfl⟩ := (D.kn x).mp (((kmem x).mp hx).resolve_right z)
      have ne : k ≠ l := fun y => z (by rw [y])
      rw [mkS_nat, mkS_nat, h1 k hk ne]
      by_cases y : a.st k h = 4
      · rw [if_pos y, if_pos y, hF k hk y]
      · rw [if_neg y, if_neg y, hg k hk ne]
  refine ⟨hnk, D.hand, DI1.congr cg, QT1.congr DI1 cg, fun x => ?_, fun k hk => ?_, fun k hk z => ?_, fun k k' hk hk' z z' e => ?_⟩
  · rw [kmem, D.kn]
    constructor
    · rintro (⟨k, hk, z, rfl⟩ | rfl)
      · have ne : k ≠ l := fun y => by rw [y] at z hk; have := h0 hk; omega
        exact ⟨k, Nat.lt_of_lt_of_le hk hL, by rw [h1 k hk ne]; exact z, rfl⟩
      · exact ⟨l, hl, hs.1, rfl⟩
    · rintro ⟨k, hk, z, rfl⟩
      by_cases ne : k = l
      · exact .inr (by rw [ne])
      · have y := low k hk ne z
        exact .inl ⟨k, y, by rw [← h1 k y ne]; exact z, rfl⟩
  · show (k : Int) ∈ d.done ↔ _
    by_cases ne : k = l
    · subst ne
      constructor
      · intro z; exact absurd (D.di.kd _ z) hnk
      · intro z; omega
    · rcases Nat.lt_or_ge k L with y | y
      · rw [D.dn k y, h1 k y ne]
      · have h0 := hn k y hk ne
        constructor
        · intro z
          obtain ⟨l', h3, _, h5⟩ := (D.kn _).mp (D.di.kd _ z)
          omega
        · intro z; omega
  · show _ ∧ _ ≤ d.time + 1
    by_cases ne : k = l
    · subst ne
      rw [hgl]
      exact ⟨rfl, Int.le_refl _⟩
    · have y := low k hk ne z
      rw [h1 k y ne] at z
      rw [hg k y ne]
      obtain ⟨q1, q2⟩ := D.gh k y z
      exact ⟨q1, by omega⟩
  · by_cases ne : k = l <;> by_cases ne' : k' = l
    · rw [ne, ne']
    · subst ne
      have y := low k' hk' ne' z'
      rw [h1 k' y ne'] at z'
      rw [hgl, hg k' y ne'] at e
      have := (D.gh k' y z').2
      have e : d.time + 1 = _ := e
      omega
    · subst ne'
      have y := low k hk ne z
      rw [h1 k y ne] at z
      rw [hgl, hg k y ne] at e
      have := (D.gh k y z).2
      have e : _ = d.time + 1 := e
      omega
    · have y := low k hk ne z
      have y' := low k' hk' ne' z'
      rw [h1 k y ne] at z
      rw [h1 k' y' ne'] at z'
      rw [hg k y ne, hg k' y' ne'] at e
      exact D.gi k k' y y' z z' e
theorem over_known : ∀ (n : Nat) (d : DS), (DS.over n d).1.known = d.known ∧ (DS.over n d).1.done = d.done ∧ (DS.over n d).1.time = d.time ∧ (DS.over n d).1.hand = d.hand
  | 0, _ => ⟨rfl, rfl, rfl, rfl⟩
  | n + 1, d => by
    unfold DS.over
    cases d.first with
    | none => exact ⟨rfl, rfl, rfl, rfl⟩
    | some l =>
      dsimp only
      split
      · exact over_known n (d.hand1 l)
      · exact ⟨rfl, rfl, rfl, rfl⟩
theorem DInv.settle (D : DInv L a F h d) {l : Nat} {m : Mk} (hl : l < L) (hs : 1 ≤ a.st l h ∧ a.st l h ≤ 3) (hs' : a'.st l h = 4) (h1 : ∀ k, k < L → k ≠ l → (1 ≤ a'.st k h ↔ 1 ≤ a.st k h) ∧ (a'.st k h = 4 ↔ a.st k h = 4)) (hg : ∀ k, k < L → 1 ≤ a.st k h → a'.g h k = a.g h k)
    (hF : ∀ k, k < L → k ≠ l → a.st k h = 4 → F' k = F k) (hFl : F' l = m) (hm : mless m (a.g h l) = false) (hu : ∀ k, k < L → k ≠ l → 1 ≤ a.st k h → mkS a F h (k : Int) ≠ m) :
    d.settle? (l : Int) m = some (d.set1 (l : Int) m).run.1 ∧ DInv L a' F' h (d.set1 (l : Int) m).run.1 := by
  have hk : (l : Int) ∈ d.known := (D.kl hl).mpr hs.1
  have hnd : (l : Int) ∉ d.done := fun z => by have := (D.dn l hl).mp z; omega
  have hin : (l : Int) ∈ d.keys := by
    rcases (D.di.sp _).mp hk with z | z
    · exact z
    · exact absurd (D.di.rd _ z) hnd
  have hml : mkS a F h (l : Int) = a.g h l := by rw [mkS_nat, if_neg (by omega)]
  have hmo : mkOf d (l : Int) = a.g h l := by rw [D.di.mo _ hin, hml]
  have DI1 := D.di.set hin hnd (by rw [hml]; exact hm) fun x hx ne => by
    obtain ⟨k, hk2, h2, rfl⟩ := (D.kn x).mp hx
    exact hu k hk2 (fun y => ne (by rw [y])) h2
  obtain ⟨DI2, QT2⟩ := DI1.run
  obtain ⟨r1, r2, r3, r4⟩ := over_known (d.set1 (l : Int) m).marked.length (d.set1 (l : Int) m)
  have cg : ∀ x ∈ (d.set1 (l : Int) m).run.1.known, upM (mkS a F h) (l : Int) m x = mkS a' F' h x := fun x hx => by
    have hx : x ∈ (DS.over (d.set1 (l : Int) m).marked.length (d.set1 (l : Int) m)).1.known := hx
    rw [r1] at hx
    have hx : x ∈ d.known := hx
    unfold upM
    by_cases z : x = (l : Int)
    · rw [if_pos z, z, mkS_nat, if_pos hs', hFl]
    · rw [if_neg z]
      obtain ⟨k, hk2, h2, rfl⟩ := (D.kn x).mp hx
      have ne : k ≠ l := fun y => z (by rw [y])
      rw [mkS_nat, mkS_nat]
      by_cases y : a.st k h = 4
      · rw [if_pos y, if_pos ((h1 k hk2 ne).2.mpr y), hF k hk2 ne y]
      · rw [if_neg y, if_neg (fun q => y ((h1 k hk2 ne).2.mp q)), hg k hk2 h2]
  have tmm : d.time ≤ (d.set1 (l : Int) m).time := by
    show _ ≤ if m.1 > d.time then m.1 else d.time
    split <;> omega
  have st1 : ∀ k, k < L → (1 ≤ a'.st k h ↔ 1 ≤ a.st k h) := fun k hk2 => by
    by_cases ne : k = l
    · subst ne; omega
    · exact (h1 k hk2 ne).1
  refine ⟨?_, ?_, DI2.congr cg, QT2.congr DI2 cg, fun x => ?_, fun k hk2 => ?_, fun k hk2 z => ?_, fun k k' hk2 hk2' z z' e => ?_⟩
  · unfold DS.settle?
    rw [if_pos ⟨hin, hnd, by rw [hmo]; exact hm⟩]
  · exact r4.trans D.hand
  · show x ∈ (DS.over _ _).1.known ↔ _
    rw [r1]
    show x ∈ d.known ↔ _
    rw [D.kn]
    constructor
    · rintro ⟨k, hk2, z, rfl⟩
      exact ⟨k, hk2, (st1 k hk2).mpr z, rfl⟩
    · rintro ⟨k, hk2, z, rfl⟩
      exact ⟨k, hk2, (st1 k hk2).mp z, rfl⟩
  · show (k : Int) ∈ (DS.over _ _).1.done ↔ _
    rw [r2]
    show (k : Int) ∈ d.done ++ [(l : Int)] ↔ _
    rw [List.mem_append, List.mem_singleton, D.dn k hk2]
    by_cases ne : k = l
    · subst ne; simp [hs']
    · rw [(h1 k hk2 ne).2]
      constructor
      · rintro (z | z)
        · exact z
        · omega
      · exact .inl
  · show _ ∧ _ ≤ (DS.over _ _).1.time
    rw [r3, hg k hk2 ((st1 k hk2).mp z)]
    obtain ⟨q1, q2⟩ := D.gh k hk2 ((st1 k hk2).mp z)
    exact ⟨q1, by omega⟩
  · rw [hg k hk2 ((st1 k hk2).mp z), hg k' hk2' ((st1 k' hk2').mp z')] at e
    exact D.gi k k' hk2 hk2' ((st1 k hk2).mp z) ((st1 k' hk2').mp z') e
end

end K8

namespace K8
open PySem L2 Evl Ob

/-! ## the whole house -/
def finO (s : HS) (l : Nat) : Option Mk := (s.sent[l]?).bind (·.final)
def finM (s : HS) (l : Nat) : Mk := (finO s l).getD (0, 0)
def kLH (m : Mail) : Nat × Nat := (m.letter, if m.word = .number then m.src else m.dst)
def mailOf (a : Ab) (s : HS) (l h : Nat) : Option Mail :=
  if a.st l h = 0 then some ⟨.letter, l, a.w l, h, none⟩ else if a.st l h = 1 then some ⟨.number, l, h, a.w l, some (a.g h l)⟩ else if a.st l h = 3 then some ⟨.mark, l, a.w l, h, finO s l⟩ else none
theorem mailOf_key {a : Ab} {s : HS} {l h : Nat} {m : Mail} (e : mailOf a s l h = some m) : kLH m = (l, h) := by
  unfold mailOf at e
  split at e
  · cases e; rfl
  · split at e
    · cases e; rfl
    · split at e
      · cases e; rfl
      · cases e
structure SInv (n : Nat) (a : Ab) (pe : Nat → Prop) (l : Nat) (x : LS) : Prop where
  wr : x.writer = a.w l
  wn : a.w l < n
  nm : x.numbers.Perm (((List.range n).filter fun h => decide (2 ≤ a.st l h)).map fun h => a.g h l)
  fi : (x.final = none ∧ (∀ h, h < n → a.st l h ≤ 2) ∧ ∃ h, h < n ∧ a.st l h < 2) ∨ (x.final = some (great x.numbers) ∧ ∀ h, h < n → 3 ≤ a.st l h) ∨ (pe l ∧ x.final = none ∧ ∀ h, h < n → a.st l h = 2)
  sw : a.st l (a.w l) = 2 ∨ a.st l (a.w l) = 4
  s4 : ∀ h, h < n → a.st l h ≤ 4
structure Inv (n : Nat) (a : Ab) (pe : Nat → Prop) (s : HS) : Prop where
  n0 : 0 < n
  hn : s.desks.length = n
  dk : ∀ (h : Nat) d, s.desks[h]? = some d → DInv s.sent.length a (finM s) h d
  sn : ∀ (l : Nat) x, s.sent[l]? = some x → SInv n a pe l x
  p1 : ∀ m ∈ s.post, m.letter < s.sent.length ∧ (kLH m).2 < n ∧ mailOf a s m.letter (kLH m).2 = some m
  p2 : ∀ l h m, l < s.sent.length → h < n → mailOf a s l h = some m → m ∈ s.post
  p3 : (s.post.map kLH).Nodup
def Own (n : Nat) (a : Ab) (l : Nat) (m : Mk) : Prop := ∃ h, h < n ∧ 1 ≤ a.st l h ∧ m = a.g h l
section
variable {n : Nat} {a a' : Ab} {pe : Nat → Prop} {s s' : HS}
theorem SInv.mem {l : Nat} {x : LS} (S : SInv n a pe l x) (m : Mk) : m ∈ x.numbers ↔ ∃ h, h < n ∧ 2 ≤ a.st l h ∧ m = a.g h l := by
  rw [S.nm.mem_iff, List.mem_map]
  constructor
  · rintro ⟨h, hh, rfl⟩
    obtain ⟨h1, h2⟩ := List.mem_filter.mp hh
    exact ⟨h, List.mem_range.mp h1, of_decide_eq_true h2, rfl⟩
  · rintro ⟨h, h1, h2, rfl⟩
    exact ⟨h, List.mem_filter.mpr ⟨List.mem_range.mpr h1, decide_eq_true h2⟩, rfl⟩
theorem SInv.len {l : Nat} {x : LS} (S : SInv n a pe l x) : x.numbers.length = ((List.range n).filter fun h => decide (2 ≤ a.st l h)).length := by
  rw [S.nm.length_eq, List.length_map]
theorem SInv.all {l : Nat} {x : LS} (S : SInv n a pe l x) : x.numbers.length = n ↔ ∀ h, h < n → 2 ≤ a.st l h := by
  rw [S.len]
  constructor
  · intro e h hh
    have : ((List.range n).filter fun h => decide (2 ≤ a.st l h)) = List.range n := List.filter_eq_self.mpr (List.length_filter_eq_length_iff.mp (by rw [e, List.length_range]))
    have h1 : h ∈ ((List.range n).filter fun h => decide (2 ≤ a.st l h)) := by rw [this]; exact List.mem_range.mpr hh
    exact of_decide_eq_true (List.mem_filter.mp h1).2
  · intro e
    rw [List.filter_eq_self.mpr fun h hh => decide_eq_true (e h (List.mem_range.mp hh)), List.length_range]
theorem Inv.gd (I : Inv n a pe s) {h : Nat} (hh : h < n) : ∃ d, s.desks[h]? = some d ∧ DInv s.sent.length a (finM s) h d := by
  have hl : h < s.desks.length := by rw [I.hn]; exact hh
  exact ⟨_, List.getElem?_eq_getElem hl, I.dk h _ (List.getElem?_eq_getElem hl)⟩
theorem Inv.gs (I : Inv n a pe s) {l : Nat} (hl : l < s.sent.length) : ∃ x, s.sent[l]? = some x ∧ SInv n a pe l x := ⟨_, List.getElem?_eq_getElem hl, I.sn l _ (List.getElem?_eq_getElem hl)⟩
theorem Inv.own_inj (I : Inv n a pe s) {l k : Nat} {m : Mk} (hl : l < s.sent.length) (hk : k < s.sent.length) (o1 : Own n a l m) (o2 : Own n a k m) : l = k := by
  obtain ⟨h1, q1, r1, e1⟩ := o1
  obtain ⟨h2, q2, r2, e2⟩ := o2
  obtain ⟨d1, g1, D1⟩ := I.gd q1
  obtain ⟨d2, g2, D2⟩ := I.gd q2
  have z1 := (D1.gh l hl r1).1
  have z2 := (D2.gh k hk r2).1
  have hh : h1 = h2 := by
    rw [← e1] at z1
    rw [← e2] at z2
    omega
  subst hh
  exact D1.gi l k hl hk r1 r2 (by rw [← e1, ← e2])
theorem Inv.fin_own (I : Inv n a pe s) {l : Nat} {f : Mk} (hl : l < s.sent.length) (hf : finO s l = some f) : Own n a l f ∧ ∀ h, h < n → 3 ≤ a.st l h := by
  obtain ⟨x, hx, S⟩ := I.gs hl
  unfold finO at hf
  rw [hx] at hf
  have hf : x.final = some f := hf
  rcases S.fi with ⟨z, _⟩ | ⟨z, z2⟩ | ⟨_, z, _⟩
  · rw [z] at hf; cases hf
  · rw [z] at hf
    cases hf
    have hne : x.numbers ≠ [] := fun y => by
      have := S.all.mpr fun h hh => by have := z2 h hh; omega
      rw [y] at this
      have := I.n0
      simp at *
      omega
    obtain ⟨h, h1, h2, h3⟩ := (S.mem _).mp (great_mem hne)
    exact ⟨⟨h, h1, by omega, h3⟩, z2⟩
  · rw [z] at hf; cases hf
theorem Inv.st4 (I : Inv n a pe s) {l h : Nat} (hl : l < s.sent.length) (hh : h < n) (z : a.st l h = 4) : ∃ f, finO s l = some f := by
  obtain ⟨x, hx, S⟩ := I.gs hl
  rcases S.fi with ⟨_, y, _⟩ | ⟨y, _⟩ | ⟨_, _, y⟩
  · have := y h hh; omega
  · exact ⟨_, by unfold finO; rw [hx]; exact y⟩
  · have := y h hh; omega
theorem Inv.mk_own (I : Inv n a pe s) {l h : Nat} (hl : l < s.sent.length) (hh : h < n) (z : 1 ≤ a.st l h) : Own n a l (mkS a (finM s) h (l : Int)) := by
  rw [mkS_nat]
  by_cases y : a.st l h = 4
  · rw [if_pos y]
    obtain ⟨f, hf⟩ := I.st4 hl hh y
    unfold finM
    rw [hf]
    exact (I.fin_own hl hf).1
  · rw [if_neg y]
    exact ⟨h, hh, z, rfl⟩
theorem finO_set {l k : Nat} {x : LS} (hl : l < s.sent.length) {ds : List DS} {ps : List Mail} : finO ⟨ds, s.sent.set l x, ps⟩ k = if k = l then x.final else finO s k := by
  unfold finO
  show ((s.sent.set l x)[k]?).bind _ = _
  rw [List.getElem?_set]
  by_cases z : l = k
  · subst z
    rw [if_pos rfl, if_pos hl, if_pos rfl]; rfl
  · rw [if_neg z, if_neg (fun y => z y.symm)]
/-- all numbers of a letter have come, or not -/
theorem Inv.look {l : Nat} {x : LS} (I : Inv n a (fun k => k = l) s) (hx : s.sent[l]? = some x) (hf : x.final = none) : ∃ s', s.look l = some s' ∧ ∃ a', Inv n a' (fun _ => False) s' ∧ a'.w = a.w ∧ a'.g = a.g ∧ (∀ k h, k ≠ l → a'.st k h = a.st k h) ∧ (∀ h, h < n → a.st l h ≤ a'.st l h) := by
  have S := I.sn l x hx
  have hl := lt_of_get hx
  by_cases hall : x.numbers.length = n
  · -- the mark is told
    have h2 := S.all.mp hall
    have hst : ∀ h, h < n → a.st l h = 2 := by
      rcases S.fi with ⟨_, _, h, h3, h4⟩ | ⟨z, _⟩ | ⟨_, _, z⟩
      · have := h2 h h3; omega
      · rw [hf] at z; cases z
      · exact z
    have hne : x.numbers ≠ [] := fun y => by
      rw [y] at hall
      have := I.n0
      simp at hall
      omega
    have hw := S.wn
    obtain ⟨d, hd, D⟩ := I.gd hw
    have hgw : a.g (a.w l) l ∈ x.numbers := (S.mem _).mpr ⟨a.w l, hw, by rw [hst _ hw]; omega, rfl⟩
    obtain ⟨h0, h01, h02, h03⟩ := (S.mem _).mp (great_mem hne)
    have hOwn : Own n a l (great x.numbers) := ⟨h0, h01, by omega, h03⟩
    let a' : Ab := ⟨a.w, a.g, fun k h => if k = l then (if h = a.w l then 4 else 3) else a.st k h⟩
    let s' : HS := ⟨s.desks.set (a.w l) (d.set1 (l : Int) (great x.numbers)).run.1, s.sent.set l ⟨x.writer, x.words, x.numbers, some (great x.numbers)⟩, s.post ++ mailsTo n .mark l (a.w l) (some (great x.numbers))⟩
    have hfo : ∀ k, finO s' k = if k = l then some (great x.numbers) else finO s k := fun k => finO_set hl
    have hfm : ∀ k, k ≠ l → finM s' k = finM s k := fun k hk => by unfold finM; rw [hfo, if_neg hk]
    have hfl : finM s' l = great x.numbers := by unfold finM; rw [hfo, if_pos rfl]; rfl
    have stl : ∀ k h, k ≠ l → a'.st k h = a.st k h := fun k h hk => if_neg hk
    have hL : s'.sent.length = s.sent.length := List.length_set
    obtain ⟨q1, q2⟩ := D.settle (a' := a') (F' := finM s') (m := great x.numbers) hl (by rw [hst _ hw]; omega) (by show (if l = l then (if a.w l = a.w l then 4 else 3) else _) = 4; rw [if_pos rfl, if_pos rfl]) (fun k hk hne => by rw [stl k _ hne]; exact ⟨Iff.rfl, Iff.rfl⟩) (fun k hk _ => rfl) (fun k hk hne _ => hfm k hne) hfl (great_ge hgw) fun k hk hne z e => hne (I.own_inj hk hl (I.mk_own hk hw z) (e ▸ hOwn))
    have hlook : s.look l = some s' := by
      unfold HS.look
      rw [hx]
      show (if x.numbers.length = s.desks.length then _ else _) = _
      rw [if_pos (by rw [hall, I.hn])]
      rw [S.wr, hd]
      show ((d.settle? (l : Int) (great x.numbers)).map _) = _
      rw [q1]
      show some _ = some _
      rw [I.hn]
      show some (HS.mk _ (s.sent.set l ⟨a.w l, x.words, x.numbers, some (great x.numbers)⟩) _) = some (HS.mk _ (s.sent.set l ⟨x.writer, x.words, x.numbers, some (great x.numbers)⟩) _)
      rw [S.wr]
    have noml : ∀ m ∈ s.post, m.letter ≠ l := fun m hm z => by
      obtain ⟨_, h5, h6⟩ := I.p1 m hm
      rw [z] at h6
      unfold mailOf at h6
      rw [hst _ h5] at h6
      cases h6
    have mo : ∀ k h, k ≠ l → mailOf a' s' k h = mailOf a s k h := fun k h hk => by
      unfold mailOf
      rw [stl k h hk, hfo, if_neg hk]
    have mol : ∀ h, mailOf a' s' l h = if h = a.w l then none else some ⟨.mark, l, a.w l, h, some (great x.numbers)⟩ := fun h => by
      unfold mailOf
      have : a'.st l h = if h = a.w l then 4 else 3 := if_pos rfl
      rw [this, hfo, if_pos rfl]
      by_cases z : h = a.w l
      · rw [if_pos z, if_pos z]; rfl
      · rw [if_neg z, if_neg z]; rfl
    have memO : ∀ h, h ∈ others n (a.w l) ↔ h < n ∧ h ≠ a.w l := fun h => by
      unfold others
      rw [List.mem_filter, List.mem_range, decide_eq_true_eq]
    refine ⟨s', hlook, a', ⟨I.n0, by show (s.desks.set _ _).length = n; rw [List.length_set, I.hn], fun h d' hd' => ?_, fun k y hy => ?_, fun m hm => ?_, fun k h m hk hh e => ?_, ?_⟩, rfl, rfl, stl, fun h hh => ?_⟩
    · have hd' : (s.desks.set (a.w l) (d.set1 (l : Int) (great x.numbers)).run.1)[h]? = some d' := hd'
      rw [hL]
      rw [List.getElem?_set] at hd'
      by_cases z : a.w l = h
      · subst z
        rw [if_pos rfl, if_pos (by rw [I.hn]; exact hw)] at hd'
        cases hd'
        exact q2
      · rw [if_neg z] at hd'
        have hh : h < n := by rw [← I.hn]; exact lt_of_get hd'
        refine (I.dk h d' hd').same (Nat.le_refl _) (fun k hk => ?_) (fun k hk => ?_) (fun k hk _ => rfl) (fun k hk y => ?_) (fun k h1 h2 => by omega)
        · by_cases ne : k = l
          · subst ne
            rw [hst h hh]
            show 1 ≤ (if k = k then (if h = a.w k then 4 else 3) else _) ↔ _
            rw [if_pos rfl, if_neg (fun y => z y.symm)]; omega
          · rw [stl k h ne]
        · by_cases ne : k = l
          · subst ne
            rw [hst h hh]
            show (if k = k then (if h = a.w k then 4 else 3) else _) = 4 ↔ _
            rw [if_pos rfl, if_neg (fun y => z y.symm)]; omega
          · rw [stl k h ne]
        · refine hfm k fun ne => ?_
          rw [ne, hst h hh] at y
          omega
    · have hy : (s.sent.set l ⟨x.writer, x.words, x.numbers, some (great x.numbers)⟩)[k]? = some y := hy
      rw [List.getElem?_set] at hy
      by_cases z : l = k
      · subst z
        rw [if_pos rfl, if_pos hl] at hy
        cases hy
        have a3 : ∀ h, h < n → 3 ≤ a'.st l h := fun h hh => by
          show 3 ≤ (if l = l then (if h = a.w l then 4 else 3) else _)
          rw [if_pos rfl]; split <;> omega
        refine ⟨S.wr, S.wn, ?_, .inr (.inl ⟨rfl, a3⟩), .inr (by show (if l = l then (if a.w l = a.w l then 4 else 3) else _) = 4; rw [if_pos rfl, if_pos rfl]), fun h hh => ?_⟩
        · have e1 : ((List.range n).filter fun h => decide (2 ≤ a'.st l h)) = List.range n := List.filter_eq_self.mpr fun h hh => decide_eq_true (by have := a3 h (List.mem_range.mp hh); omega)
          have e2 : ((List.range n).filter fun h => decide (2 ≤ a.st l h)) = List.range n := List.filter_eq_self.mpr fun h hh => decide_eq_true (h2 h (List.mem_range.mp hh))
          rw [e1]
          have := S.nm
          rw [e2] at this
          exact this
        · show (if l = l then (if h = a.w l then 4 else 3) else _) ≤ 4
          rw [if_pos rfl]; split <;> omega
      · rw [if_neg z] at hy
        have ne : k ≠ l := fun y => z y.symm
        have S' := I.sn k y hy
        refine ⟨S'.wr, S'.wn, ?_, ?_, by rw [stl _ _ ne]; exact S'.sw, fun h hh => by rw [stl _ _ ne]; exact S'.s4 h hh⟩
        · have : ((List.range n).filter fun h => decide (2 ≤ a'.st k h)) = ((List.range n).filter fun h => decide (2 ≤ a.st k h)) := List.filter_congr fun h _ => by rw [stl k h ne]
          rw [this]
          exact S'.nm
        · rcases S'.fi with ⟨y1, y2, h, y3, y4⟩ | ⟨y1, y2⟩ | ⟨y1, _⟩
          · exact .inl ⟨y1, fun h hh => by rw [stl _ _ ne]; exact y2 h hh, h, y3, by rw [stl _ _ ne]; exact y4⟩
          · exact .inr (.inl ⟨y1, fun h hh => by rw [stl _ _ ne]; exact y2 h hh⟩)
          · exact absurd y1 ne
    · rw [hL]
      have hm : m ∈ s.post ++ mailsTo n .mark l (a.w l) (some (great x.numbers)) := hm
      rcases List.mem_append.mp hm with z | z
      · obtain ⟨y1, y2, y3⟩ := I.p1 m z
        exact ⟨y1, y2, by rw [mo _ _ (noml m z)]; exact y3⟩
      · unfold mailsTo at z
        obtain ⟨h, hh, rfl⟩ := List.mem_map.mp z
        obtain ⟨y1, y2⟩ := (memO h).mp hh
        refine ⟨hl, y1, ?_⟩
        show mailOf a' s' l h = _
        rw [mol, if_neg y2]
    · show m ∈ s.post ++ mailsTo n .mark l (a.w l) (some (great x.numbers))
      rw [List.mem_append]
      rw [hL] at hk
      by_cases ne : k = l
      · subst ne
        rw [mol] at e
        by_cases z : h = a.w k
        · rw [if_pos z] at e; cases e
        · rw [if_neg z] at e
          cases e
          exact .inr (List.mem_map.mpr ⟨h, (memO h).mpr ⟨hh, z⟩, rfl⟩)
      · rw [mo k h ne] at e
        exact .inl (I.p2 k h m hk hh e)
    · show ((s.post ++ mailsTo n .mark l (a.w l) (some (great x.numbers))).map kLH).Nodup
      rw [List.map_append, List.nodup_append]
      refine ⟨I.p3, ?_, fun u hu v hv e => ?_⟩
      · have : (mailsTo n .mark l (a.w l) (some (great x.numbers))).map kLH = (others n (a.w l)).map fun h => (l, h) := by
          unfold mailsTo
          rw [List.map_map]; rfl
        rw [this]
        have no : (others n (a.w l)).Nodup := List.nodup_range.filter _
        exact List.pairwise_map.mpr (no.imp fun hne e => hne (Prod.mk.inj e).2)
      · obtain ⟨m, hm, rfl⟩ := List.mem_map.mp hu
        obtain ⟨m', hm', rfl⟩ := List.mem_map.mp hv
        unfold mailsTo at hm'
        obtain ⟨h, _, rfl⟩ := List.mem_map.mp hm'
        exact noml m hm (congrArg Prod.fst e)
    · rw [hst h hh]
      show 2 ≤ (if l = l then (if h = a.w l then 4 else 3) else _)
      rw [if_pos rfl]; split <;> omega
  · refine ⟨s, ?_, a, ⟨I.n0, I.hn, I.dk, fun k y hy => ?_, I.p1, I.p2, I.p3⟩, rfl, rfl, fun _ _ _ => rfl, fun _ _ => Nat.le_refl _⟩
    · unfold HS.look
      rw [hx]
      show (if x.numbers.length = s.desks.length then _ else _) = _
      rw [if_neg (by rw [I.hn]; exact hall)]
    · have S' := I.sn k y hy
      refine ⟨S'.wr, S'.wn, S'.nm, ?_, S'.sw, S'.s4⟩
      rcases S'.fi with z | z | ⟨z1, z2, z3⟩
      · exact .inl z
      · exact .inr (.inl z)
      · subst z1
        rw [hx] at hy
        cases hy
        exact absurd (S.all.mpr fun h hh => by rw [z3 h hh]; omega) hall
end

end K8

namespace K8
open PySem L2 Evl Ob

theorem map_erase' {α β : Type} (f : α → β) : ∀ (l : List α) (j : Nat), (l.eraseIdx j).map f = (l.map f).eraseIdx j
  | [], _ => rfl
  | _ :: _, 0 => rfl
  | x :: r, j + 1 => by
    show f x :: (r.eraseIdx j).map f = f x :: (r.map f).eraseIdx j
    rw [map_erase' f r j]
theorem er1 {α β : Type} (k : α → β) : ∀ {l : List α} {i : Nat} {m m' : α}, (l.map k).Nodup → l[i]? = some m → m' ∈ l.eraseIdx i → m' ∈ l ∧ k m' ≠ k m
  | [], _, _, _, _, h, _ => by simp at h
  | x :: r, 0, m, m', nd, h, hm => by
    simp at h
    subst h
    have hm : m' ∈ r := hm
    refine ⟨List.mem_cons_of_mem _ hm, fun e => ?_⟩
    rw [List.map_cons, List.nodup_cons] at nd
    exact nd.1 (e ▸ List.mem_map.mpr ⟨m', hm, rfl⟩)
  | x :: r, i + 1, m, m', nd, h, hm => by
    have h : r[i]? = some m := by simpa using h
    rw [List.map_cons, List.nodup_cons] at nd
    have hm : m' ∈ x :: r.eraseIdx i := hm
    rcases List.mem_cons.mp hm with rfl | hm
    · exact ⟨by simp, fun e => nd.1 (e ▸ List.mem_map.mpr ⟨m, List.mem_of_getElem? h, rfl⟩)⟩
    · obtain ⟨h1, h2⟩ := er1 k nd.2 h hm
      exact ⟨List.mem_cons_of_mem _ h1, h2⟩
theorem er2 {α : Type} : ∀ {l : List α} {i : Nat} {m m' : α}, l[i]? = some m → m' ∈ l → m' ≠ m → m' ∈ l.eraseIdx i
  | [], _, _, _, h, _, _ => by simp at h
  | x :: r, 0, m, m', h, hm, ne => by
    simp at h
    subst h
    exact (List.mem_cons.mp hm).resolve_left ne
  | x :: r, i + 1, m, m', h, hm, ne => by
    have h : r[i]? = some m := by simpa using h
    show m' ∈ x :: r.eraseIdx i
    rcases List.mem_cons.mp hm with rfl | hm
    · simp
    · exact List.mem_cons_of_mem _ (er2 h hm ne)
theorem er3 {α β : Type} (k : α → β) {l : List α} {i : Nat} (nd : (l.map k).Nodup) : ((l.eraseIdx i).map k).Nodup := by
  rw [map_erase']
  exact nd.eraseIdx i
def upF {α : Type} (f : Nat → Nat → α) (i j : Nat) (v : α) : Nat → Nat → α := fun x y => if x = i ∧ y = j then v else f x y
theorem upF_same {α : Type} {f : Nat → Nat → α} {i j : Nat} {v : α} : upF f i j v i j = v := if_pos ⟨rfl, rfl⟩
theorem upF_ne {α : Type} {f : Nat → Nat → α} {i j x y : Nat} {v : α} (h : ¬ (x = i ∧ y = j)) : upF f i j v x y = f x y := if_neg h
def Later (L n : Nat) (a a' : Ab) : Prop := (∀ l, l < L → a'.w l = a.w l) ∧ (∀ l h, l < L → h < n → 1 ≤ a.st l h → a'.g h l = a.g h l) ∧ ∀ l h, l < L → h < n → a.st l h ≤ a'.st l h
section
variable {n : Nat} {a a' : Ab} {pe : Nat → Prop} {s s' : HS}
theorem Later.trans {L n : Nat} {a a' a'' : Ab} (x : Later L n a a') (y : Later L n a' a'') : Later L n a a'' :=
  ⟨fun l hl => (y.1 l hl).trans (x.1 l hl), fun l h hl hh z => (y.2.1 l h hl hh (Nat.le_trans z (x.2.2 l h hl hh))).trans (x.2.1 l h hl hh z), fun l h hl hh => Nat.le_trans (x.2.2 l h hl hh) (y.2.2 l h hl hh)⟩
theorem mailOf_word {l h : Nat} {m : Mail} (e : mailOf a s l h = some m) : (m.word = .letter ∧ a.st l h = 0 ∧ m = ⟨.letter, l, a.w l, h, none⟩) ∨ (m.word = .number ∧ a.st l h = 1 ∧ m = ⟨.number, l, h, a.w l, some (a.g h l)⟩) ∨ (m.word = .mark ∧ a.st l h = 3 ∧ m = ⟨.mark, l, a.w l, h, finO s l⟩) := by
  unfold mailOf at e
  by_cases z0 : a.st l h = 0
  · rw [if_pos z0] at e; cases e; exact .inl ⟨rfl, z0, rfl⟩
  · rw [if_neg z0] at e
    by_cases z1 : a.st l h = 1
    · rw [if_pos z1] at e; cases e; exact .inr (.inl ⟨rfl, z1, rfl⟩)
    · rw [if_neg z1] at e
      by_cases z3 : a.st l h = 3
      · rw [if_pos z3] at e; cases e; exact .inr (.inr ⟨rfl, z3, rfl⟩)
      · rw [if_neg z3] at e; cases e
theorem mailOf_congr {k h : Nat} (h1 : a'.st k h = a.st k h) (h2 : a'.w k = a.w k) (h3 : a.st k h = 1 → a'.g h k = a.g h k) (h4 : finO s' k = finO s k) : mailOf a' s' k h = mailOf a s k h := by
  unfold mailOf
  rw [h1, h2, h4]
  by_cases z : a.st k h = 1
  · rw [h3 z]
  · rw [if_neg z, if_neg z]
theorem filt_congr {p q : Nat → Bool} {f g : Nat → Mk} {n : Nat} (h : ∀ x, x < n → p x = q x) (h2 : ∀ x, x < n → q x = true → f x = g x) : ((List.range n).filter p).map f = ((List.range n).filter q).map g := by
  rw [List.filter_congr fun x hx => h x (List.mem_range.mp hx)]
  refine List.map_congr_left fun x hx => ?_
  obtain ⟨h3, h4⟩ := List.mem_filter.mp hx
  exact h2 x (List.mem_range.mp h3) h4
theorem SInv.congr {l : Nat} {x : LS} {pe' : Nat → Prop} (S : SInv n a pe l x) (hw : a'.w l = a.w l) (hst : ∀ h, h < n → a'.st l h = a.st l h) (hg : ∀ h, h < n → 1 ≤ a.st l h → a'.g h l = a.g h l) (hp : pe l → pe' l) : SInv n a' pe' l x := by
  refine ⟨S.wr.trans hw.symm, by rw [hw]; exact S.wn, ?_, ?_, by rw [hw, hst _ S.wn]; exact S.sw, fun h hh => by rw [hst h hh]; exact S.s4 h hh⟩
  · rw [filt_congr (q := fun h => decide (2 ≤ a.st l h)) (g := fun h => a.g h l) (fun h hh => by rw [hst h hh]) fun h hh z => hg h hh (by have := of_decide_eq_true z; omega)]
    exact S.nm
  · rcases S.fi with ⟨y1, y2, h, y3, y4⟩ | ⟨y1, y2⟩ | ⟨y0, y1, y2⟩
    · exact .inl ⟨y1, fun h hh => by rw [hst h hh]; exact y2 h hh, h, y3, by rw [hst h y3]; exact y4⟩
    · exact .inr (.inl ⟨y1, fun h hh => by rw [hst h hh]; exact y2 h hh⟩)
    · exact .inr (.inr ⟨hp y0, y1, fun h hh => by rw [hst h hh]; exact y2 h hh⟩)
/-- a mail comes -/
theorem Inv.bring (I : Inv n a (fun _ => False) s) {i : Nat} {m : Mail} (hm : s.post[i]? = some m) : ∃ s', s.bring i = some s' ∧ ∃ a', Inv n a' (fun _ => False) s' ∧ Later s.sent.length n a a' := by
  obtain ⟨y1, y2, y3⟩ := I.p1 m (List.mem_of_getElem? hm)
  have hk : kLH m = (m.letter, (kLH m).2) := by unfold kLH; rfl
  generalize (kLH m).2 = t at y2 y3 hk
  generalize m.letter = l at y1 y3 hk
  have ers : ∀ m' ∈ s.post.eraseIdx i, m' ∈ s.post ∧ kLH m' ≠ (l, t) := fun m' h => by
    have := er1 kLH I.p3 hm h
    rw [hk] at this
    exact this
  have erb : ∀ m' ∈ s.post, kLH m' ≠ (l, t) → m' ∈ s.post.eraseIdx i := fun m' h ne => er2 hm h fun e => ne (by rw [e, hk])
  obtain ⟨x, hx, S⟩ := I.gs y1
  obtain ⟨d, hd, D⟩ := I.gd y2
  rcases mailOf_word y3 with ⟨_, hs, rfl⟩ | ⟨_, hs, rfl⟩ | ⟨_, hs, rfl⟩
  · -- a letter comes
    let a1 : Ab := ⟨a.w, upF a.g t l (d.time + 1, (t : Int)), upF a.st l t 1⟩
    have stn : ∀ k h, ¬ (k = l ∧ h = t) → a1.st k h = a.st k h := fun k h ne => upF_ne ne
    have gn : ∀ k h, ¬ (k = l ∧ h = t) → a1.g h k = a.g h k := fun k h ne => upF_ne fun e => ne ⟨e.2, e.1⟩
    have stl : a1.st l t = 1 := upF_same
    have gl : a1.g t l = (d.time + 1, (t : Int)) := upF_same
    have hwt : a.w l ≠ t := fun z => by have := S.sw; rw [z, hs] at this; omega
    obtain ⟨hnk, D'⟩ := D.prop (a' := a1) (F' := finM s) (Nat.le_refl _) y1 (fun _ => hs) (by rw [stl]; omega) gl (fun k hk2 ne => stn k t fun e => ne e.1) (fun k hk2 ne => gn k t fun e => ne e.1) (fun k _ _ => rfl) (fun k h1 h2 => by omega)
    have hbr : s.bring i = some ⟨s.desks.set t (d.prop (l : Int)), s.sent, s.post.eraseIdx i ++ [⟨.number, l, t, a.w l, some (d.time + 1, d.hand)⟩]⟩ := by
      unfold HS.bring
      rw [hm]
      show ((s.desks[t]?).bind fun d => if (l : Int) ∈ d.known then none else some _) = _
      rw [hd]
      show (if (l : Int) ∈ d.known then none else some _) = _
      rw [if_neg hnk]
    rw [D.hand] at hbr
    have mo : ∀ (ds : List DS) (ps : List Mail) k h, ¬ (k = l ∧ h = t) → mailOf a1 ⟨ds, s.sent, ps⟩ k h = mailOf a s k h := fun ds ps k h ne => mailOf_congr (stn k h ne) rfl (fun _ => gn k h ne) rfl
    have mol : ∀ (ds : List DS) (ps : List Mail), mailOf a1 ⟨ds, s.sent, ps⟩ l t = some ⟨.number, l, t, a.w l, some (d.time + 1, (t : Int))⟩ := fun ds ps => by
      unfold mailOf
      rw [stl, gl]; rfl
    refine ⟨_, hbr, a1, ⟨I.n0, by show (s.desks.set _ _).length = n; rw [List.length_set, I.hn], fun h d' hd' => ?_, fun k y hy => ?_, fun m' hm' => ?_, fun k h m' hk2 hh e => ?_, ?_⟩, fun _ _ => rfl, fun k h hk2 hh z => gn k h fun e => by rw [e.1, e.2, hs] at z; omega, fun k h hk2 hh => ?_⟩
    · have hd' : (s.desks.set t (d.prop (l : Int)))[h]? = some d' := hd'
      rw [List.getElem?_set] at hd'
      by_cases z : t = h
      · subst z
        rw [if_pos rfl, if_pos (by rw [I.hn]; exact y2)] at hd'
        cases hd'
        exact D'
      · rw [if_neg z] at hd'
        exact (I.dk h d' hd').same (Nat.le_refl _) (fun k _ => by rw [stn k h fun e => z e.2.symm]) (fun k _ => by rw [stn k h fun e => z e.2.symm]) (fun k _ _ => gn k h fun e => z e.2.symm) (fun k _ _ => rfl) (fun k h1 h2 => by have h2 : k < s.sent.length := h2; omega)
    · have hy : s.sent[k]? = some y := hy
      have S' := I.sn k y hy
      by_cases ne : k = l
      · subst ne
        rw [hx] at hy
        cases hy
        refine ⟨S.wr, S.wn, ?_, ?_, by rw [stn _ _ fun e => hwt e.2]; exact S.sw, fun h hh => ?_⟩
        · rw [filt_congr (q := fun h => decide (2 ≤ a.st k h)) (g := fun h => a.g h k) (fun h hh => by
            by_cases z : h = t
            · rw [z, stl, hs]; rfl
            · rw [stn _ _ fun e => z e.2]) fun h hh z => gn k h fun e => by rw [e.2, hs] at z; cases z]
          exact S.nm
        · rcases S.fi with ⟨z1, z2, h, z3, z4⟩ | ⟨z1, z2⟩ | ⟨z1, _⟩
          · refine .inl ⟨z1, fun h hh => ?_, t, y2, by rw [stl]; omega⟩
            by_cases z : h = t
            · rw [z, stl]; omega
            · rw [stn _ _ fun e => z e.2]; exact z2 h hh
          · have := z2 t y2; omega
          · exact z1.elim
        · by_cases z : h = t
          · rw [z, stl]; omega
          · rw [stn _ _ fun e => z e.2]; exact S.s4 h hh
      · exact S'.congr rfl (fun h _ => stn k h fun e => ne e.1) (fun h _ _ => gn k h fun e => ne e.1) id
    · have hm' : m' ∈ s.post.eraseIdx i ++ [_] := hm'
      rcases List.mem_append.mp hm' with z | z
      · obtain ⟨z1, z2⟩ := ers m' z
        obtain ⟨q1, q2, q3⟩ := I.p1 m' z1
        refine ⟨q1, q2, ?_⟩
        rw [mo _ _ m'.letter (kLH m').2 fun e => z2 (Prod.ext e.1 e.2)]
        exact q3
      · rw [List.mem_singleton.mp z]
        exact ⟨y1, y2, mol _ _⟩
    · show m' ∈ s.post.eraseIdx i ++ [_]
      rw [List.mem_append, List.mem_singleton]
      by_cases z : k = l ∧ h = t
      · rw [z.1, z.2, mol] at e
        exact .inr (Option.some.inj e).symm
      · rw [mo _ _ _ _ z] at e
        exact .inl (erb m' (I.p2 k h m' hk2 hh e) (by rw [mailOf_key e]; exact fun q => z ⟨(Prod.mk.inj q).1, (Prod.mk.inj q).2⟩))
    · show ((s.post.eraseIdx i ++ [_]).map kLH).Nodup
      rw [List.map_append, List.nodup_append]
      refine ⟨er3 kLH I.p3, by simp, fun u hu v hv e => ?_⟩
      obtain ⟨m1, h1, rfl⟩ := List.mem_map.mp hu
      have hv : v = (l, t) := List.mem_singleton.mp hv
      exact (ers m1 h1).2 (e.trans hv)
    · by_cases z : k = l ∧ h = t
      · rw [z.1, z.2, stl, hs]; omega
      · rw [stn _ _ z]; exact Nat.le_refl _
  · -- a number comes
    have hfin : x.final = none ∧ ∀ h, h < n → a.st l h ≤ 2 := by
      rcases S.fi with ⟨z1, z2, _⟩ | ⟨_, z2⟩ | ⟨z1, _⟩
      · exact ⟨z1, z2⟩
      · have := z2 t y2; omega
      · exact z1.elim
    let a1 : Ab := ⟨a.w, a.g, upF a.st l t 2⟩
    have stn : ∀ k h, ¬ (k = l ∧ h = t) → a1.st k h = a.st k h := fun k h ne => upF_ne ne
    have stl : a1.st l t = 2 := upF_same
    have hwt : a.w l ≠ t := fun z => by have := S.sw; rw [z, hs] at this; omega
    let s1 : HS := ⟨s.desks, s.sent.set l ⟨x.writer, x.words, x.numbers ++ [a.g t l], x.final⟩, s.post.eraseIdx i⟩
    have hfo : ∀ k, finO s1 k = finO s k := fun k => by
      rw [finO_set (s := s) y1]
      by_cases z : k = l
      · rw [if_pos z, z]; unfold finO; rw [hx]; rfl
      · rw [if_neg z]
    have hfm : ∀ k, finM s1 k = finM s k := fun k => by unfold finM; rw [hfo]
    have hL : s1.sent.length = s.sent.length := List.length_set
    have mo : ∀ k h, ¬ (k = l ∧ h = t) → mailOf a1 s1 k h = mailOf a s k h := fun k h ne => mailOf_congr (stn k h ne) rfl (fun _ => rfl) (hfo k)
    have hx1 : s1.sent[l]? = some ⟨x.writer, x.words, x.numbers ++ [a.g t l], x.final⟩ := by
      show (s.sent.set l _)[l]? = _
      rw [List.getElem?_set, if_pos rfl, if_pos y1]
    have I1 : Inv n a1 (fun k => k = l) s1 := by
      refine ⟨I.n0, I.hn, fun h d' hd' => ?_, fun k y hy => ?_, fun m' hm' => ?_, fun k h m' hk2 hh e => ?_, er3 kLH I.p3⟩
      · rw [hL]
        refine (I.dk h d' hd').same (Nat.le_refl _) (fun k _ => ?_) (fun k _ => ?_) (fun k _ _ => rfl) (fun k _ _ => hfm k) (fun k h1 h2 => by omega)
        · by_cases z : k = l ∧ h = t
          · rw [z.1, z.2, stl, hs]; omega
          · rw [stn _ _ z]
        · by_cases z : k = l ∧ h = t
          · rw [z.1, z.2, stl, hs]; omega
          · rw [stn _ _ z]
      · have hy : (s.sent.set l ⟨x.writer, x.words, x.numbers ++ [a.g t l], x.final⟩)[k]? = some y := hy
        rw [List.getElem?_set] at hy
        by_cases ne : l = k
        · subst ne
          rw [if_pos rfl, if_pos y1] at hy
          cases hy
          have le2 : ∀ h, h < n → a1.st l h ≤ 2 := fun h hh => by
            by_cases z : h = t
            · rw [z, stl]; omega
            · rw [stn _ _ fun e => z e.2]; exact hfin.2 h hh
          refine ⟨S.wr, S.wn, ?_, ?_, by rw [stn _ _ fun e => hwt e.2]; exact S.sw, fun h hh => by have := le2 h hh; omega⟩
          · have hp : ((List.range n).filter fun h => decide (2 ≤ a1.st l h)).Perm (((List.range n).filter fun h => decide (2 ≤ a.st l h)) ++ [t]) := by
              have hnt : t ∉ ((List.range n).filter fun h => decide (2 ≤ a.st l h)) := fun z => by
                have := of_decide_eq_true (List.mem_filter.mp z).2
                omega
              refine (List.perm_ext_iff_of_nodup (List.nodup_range.filter _) (List.nodup_append.mpr ⟨List.nodup_range.filter _, by simp, fun u hu v hv e => hnt (by rw [List.mem_singleton.mp hv] at e; exact e ▸ hu)⟩)).mpr fun h => ?_
              rw [List.mem_filter, List.mem_append, List.mem_filter, List.mem_singleton, List.mem_range, decide_eq_true_eq, decide_eq_true_eq]
              by_cases z : h = t
              · subst z; rw [stl]; simp [y2]
              · rw [stn _ _ fun e => z e.2]; simp [z]
            have := hp.map fun h => a.g h l
            rw [List.map_append] at this
            exact (S.nm.append_right [a.g t l]).trans this.symm
          · by_cases z : ∃ h, h < n ∧ a1.st l h < 2
            · exact .inl ⟨hfin.1, le2, z⟩
            · refine .inr (.inr ⟨rfl, hfin.1, fun h hh => ?_⟩)
              have := le2 h hh
              rcases Nat.lt_or_ge (a1.st l h) 2 with q | q
              · exact absurd ⟨h, hh, q⟩ z
              · omega
        · rw [if_neg ne] at hy
          exact (I.sn k y hy).congr rfl (fun h _ => stn k h fun e => ne e.1.symm) (fun h _ _ => rfl) (fun z => z.elim)
      · obtain ⟨z1, z2⟩ := ers m' hm'
        obtain ⟨q1, q2, q3⟩ := I.p1 m' z1
        rw [hL]
        refine ⟨q1, q2, ?_⟩
        rw [mo m'.letter (kLH m').2 fun e => z2 (Prod.ext e.1 e.2)]
        exact q3
      · rw [hL] at hk2
        by_cases z : k = l ∧ h = t
        · rw [z.1, z.2] at e
          unfold mailOf at e
          rw [stl] at e
          cases e
        · rw [mo _ _ z] at e
          exact erb m' (I.p2 k h m' hk2 hh e) (by rw [mailOf_key e]; exact fun q => z ⟨(Prod.mk.inj q).1, (Prod.mk.inj q).2⟩)
    obtain ⟨s', h1, a', I', e1, e2, e3, e4⟩ := I1.look hx1 hfin.1
    have hbr : s.bring i = some s' := by
      unfold HS.bring
      rw [hm]
      show ((s.sent[l]?).bind fun x => HS.look ⟨s.desks, s.sent.set l ⟨x.writer, x.words, x.numbers ++ [a.g t l], x.final⟩, s.post.eraseIdx i⟩ l) = _
      rw [hx]
      exact h1
    refine ⟨s', hbr, a', I', fun k _ => by rw [e1], fun k h _ _ _ => by rw [e2], fun k h _ hh => ?_⟩
    by_cases ne : k = l
    · subst ne
      refine Nat.le_trans ?_ (e4 h hh)
      by_cases z : h = t
      · rw [z, stl, hs]; omega
      · rw [stn _ _ fun e => z e.2]; exact Nat.le_refl _
    · rw [e3 k h ne, stn _ _ fun e => ne e.1]; exact Nat.le_refl _
  · -- a mark comes
    have hfin : x.final = some (great x.numbers) ∧ ∀ h, h < n → 3 ≤ a.st l h := by
      rcases S.fi with ⟨_, z2, _⟩ | z | ⟨z1, _⟩
      · have := z2 t y2; omega
      · exact z
      · exact z1.elim
    have hfO : finO s l = some (great x.numbers) := by unfold finO; rw [hx]; exact hfin.1
    have hfM : finM s l = great x.numbers := by unfold finM; rw [hfO]; rfl
    let a1 : Ab := ⟨a.w, a.g, upF a.st l t 4⟩
    have stn : ∀ k h, ¬ (k = l ∧ h = t) → a1.st k h = a.st k h := fun k h ne => upF_ne ne
    have stl : a1.st l t = 4 := upF_same
    have hwt : a.w l ≠ t := fun z => by have := S.sw; rw [z, hs] at this; omega
    have hgt : a.g t l ∈ x.numbers := (S.mem _).mpr ⟨t, y2, by omega, rfl⟩
    obtain ⟨q1, q2⟩ := D.settle (a' := a1) (F' := finM s) (m := great x.numbers) y1 (by omega) stl (fun k hk2 ne => by rw [stn k t fun e => ne e.1]; exact ⟨Iff.rfl, Iff.rfl⟩) (fun k _ _ => rfl) (fun k _ _ _ => rfl) hfM (great_ge hgt) fun k hk2 ne z e => ne (I.own_inj hk2 y1 (I.mk_own hk2 y2 z) (e ▸ (I.fin_own y1 hfO).1))
    have hbr : s.bring i = some ⟨s.desks.set t (d.set1 (l : Int) (great x.numbers)).run.1, s.sent, s.post.eraseIdx i⟩ := by
      unfold HS.bring
      rw [hm]
      show ((s.desks[t]?).bind fun d => (finO s l).bind fun k => (d.settle? (l : Int) k).map fun d' => HS.mk (s.desks.set t d') s.sent (s.post.eraseIdx i)) = _
      rw [hd, hfO]
      show ((d.settle? (l : Int) (great x.numbers)).map _) = _
      rw [q1]
      rfl
    have mo : ∀ (ds : List DS) (ps : List Mail) k h, ¬ (k = l ∧ h = t) → mailOf a1 ⟨ds, s.sent, ps⟩ k h = mailOf a s k h := fun ds ps k h ne => mailOf_congr (stn k h ne) rfl (fun _ => rfl) rfl
    refine ⟨_, hbr, a1, ⟨I.n0, by show (s.desks.set _ _).length = n; rw [List.length_set, I.hn], fun h d' hd' => ?_, fun k y hy => ?_, fun m' hm' => ?_, fun k h m' hk2 hh e => ?_, er3 kLH I.p3⟩, fun _ _ => rfl, fun _ _ _ _ _ => rfl, fun k h hk2 hh => ?_⟩
    · have hd' : (s.desks.set t (d.set1 (l : Int) (great x.numbers)).run.1)[h]? = some d' := hd'
      rw [List.getElem?_set] at hd'
      by_cases z : t = h
      · subst z
        rw [if_pos rfl, if_pos (by rw [I.hn]; exact y2)] at hd'
        cases hd'
        exact q2
      · rw [if_neg z] at hd'
        exact (I.dk h d' hd').same (Nat.le_refl _) (fun k _ => by rw [stn k h fun e => z e.2.symm]) (fun k _ => by rw [stn k h fun e => z e.2.symm]) (fun k _ _ => rfl) (fun k _ _ => rfl) (fun k h1 h2 => by have h2 : k < s.sent.length := h2; omega)
    · have hy : s.sent[k]? = some y := hy
      by_cases ne : k = l
      · subst ne
        rw [hx] at hy
        cases hy
        have a3 : ∀ h, h < n → 3 ≤ a1.st k h := fun h hh => by
          by_cases z : h = t
          · rw [z, stl]; omega
          · rw [stn _ _ fun e => z e.2]; exact hfin.2 h hh
        refine ⟨S.wr, S.wn, ?_, .inr (.inl ⟨hfin.1, a3⟩), by rw [stn _ _ fun e => hwt e.2]; exact S.sw, fun h hh => ?_⟩
        · rw [filt_congr (q := fun h => decide (2 ≤ a.st k h)) (g := fun h => a.g h k) (fun h hh => by
            rw [decide_eq_true (by have := a3 h hh; omega), decide_eq_true (by have := hfin.2 h hh; omega)]) fun h hh z => rfl]
          exact S.nm
        · by_cases z : h = t
          · rw [z, stl]; omega
          · rw [stn _ _ fun e => z e.2]; exact S.s4 h hh
      · exact (I.sn k y hy).congr rfl (fun h _ => stn k h fun e => ne e.1) (fun h _ _ => rfl) id
    · obtain ⟨z1, z2⟩ := ers m' hm'
      obtain ⟨q1, q2, q3⟩ := I.p1 m' z1
      refine ⟨q1, q2, ?_⟩
      rw [mo _ _ m'.letter (kLH m').2 fun e => z2 (Prod.ext e.1 e.2)]
      exact q3
    · by_cases z : k = l ∧ h = t
      · rw [z.1, z.2] at e
        unfold mailOf at e
        rw [stl] at e
        cases e
      · rw [mo _ _ _ _ z] at e
        exact erb m' (I.p2 k h m' hk2 hh e) (by rw [mailOf_key e]; exact fun q => z ⟨(Prod.mk.inj q).1, (Prod.mk.inj q).2⟩)
    · by_cases z : k = l ∧ h = t
      · rw [z.1, z.2, stl, hs]; omega
      · rw [stn _ _ z]; exact Nat.le_refl _
end

end K8

namespace K8
open PySem L2 Evl Ob

section
variable {n : Nat} {a a' : Ab} {pe : Nat → Prop} {s s' : HS}
theorem finO_app {k : Nat} {x : LS} {ds : List DS} {ps : List Mail} (hk : k < s.sent.length) : finO ⟨ds, s.sent ++ [x], ps⟩ k = finO s k := by
  unfold finO
  show ((s.sent ++ [x])[k]?).bind _ = _
  rw [List.getElem?_append_left hk]
/-- a letter is sent -/
theorem Inv.send (I : Inv n a (fun _ => False) s) {h : Nat} (hh : h < n) (t : Str) : ∃ s', s.send h t = some s' ∧ ∃ a', Inv n a' (fun _ => False) s' ∧ Later s.sent.length n a a' ∧ a'.w s.sent.length = h ∧ ∀ d, s.desks[h]? = some d → a'.g h s.sent.length = (d.time + 1, (h : Int)) := by
  obtain ⟨d, hd, D⟩ := I.gd hh
  generalize hL : s.sent.length = L at D
  let a1 : Ab := ⟨fun l => if l = L then h else a.w l, upF a.g h L (d.time + 1, (h : Int)), fun l k => if l = L then (if k = h then 2 else 0) else a.st l k⟩
  have stn : ∀ l k, l ≠ L → a1.st l k = a.st l k := fun l k ne => if_neg ne
  have gn : ∀ l k, l ≠ L → a1.g k l = a.g k l := fun l k ne => upF_ne fun e => ne e.2
  have wn : ∀ l, l ≠ L → a1.w l = a.w l := fun l ne => if_neg ne
  have stL : ∀ k, a1.st L k = if k = h then 2 else 0 := fun k => if_pos rfl
  have wL : a1.w L = h := if_pos rfl
  have gL : a1.g h L = (d.time + 1, (h : Int)) := upF_same
  have hsd : s.send1 h d t = ⟨s.desks.set h (d.prop (L : Int)), s.sent ++ [⟨h, t, [(d.time + 1, d.hand)], none⟩], s.post ++ mailsTo s.desks.length .letter L h none⟩ := by unfold HS.send1; rw [hL]
  obtain ⟨hnk, D'⟩ := D.prop (L' := L + 1) (l := L) (a' := a1) (F' := finM (s.send1 h d t)) (by omega) (by omega) (fun z => by omega) (by rw [stL, if_pos rfl]; omega) gL (fun k hk ne => stn k h ne) (fun k hk ne => gn k h ne) (fun k hk _ => by unfold finM; rw [hsd, finO_app (by omega)]) (fun k h1 h2 h3 => by omega)
  have hL1 : (s.send1 h d t).sent.length = L + 1 := by rw [hsd]; show (s.sent ++ [_]).length = _; rw [List.length_append, hL]; rfl
  have hfo : ∀ k, k < L → finO (s.send1 h d t) k = finO s k := fun k hk => by rw [hsd, finO_app (by omega)]
  have hx1 : (s.send1 h d t).sent[L]? = some ⟨h, t, [(d.time + 1, d.hand)], none⟩ := by
    rw [hsd]
    show (s.sent ++ [_])[L]? = _
    rw [List.getElem?_append_right (by omega), hL, Nat.sub_self]; rfl
  have mo : ∀ k i, k < L → mailOf a1 (s.send1 h d t) k i = mailOf a s k i := fun k i hk => mailOf_congr (stn k i (by omega)) (wn k (by omega)) (fun _ => gn k i (by omega)) (hfo k hk)
  have mol : ∀ i, mailOf a1 (s.send1 h d t) L i = if i = h then none else some ⟨.letter, L, h, i, none⟩ := fun i => by
    unfold mailOf
    rw [stL, wL]
    by_cases z : i = h
    · rw [if_pos z, if_pos z]; rfl
    · rw [if_neg z, if_neg z]; rfl
  have memO : ∀ i, i ∈ others n h ↔ i < n ∧ i ≠ h := fun i => by
    unfold others
    rw [List.mem_filter, List.mem_range, decide_eq_true_eq]
  have hpost : (s.send1 h d t).post = s.post ++ mailsTo n .letter L h none := by rw [hsd, I.hn]
  have old : ∀ m ∈ s.post, m.letter < L := fun m hm => by have := (I.p1 m hm).1; omega
  have I1 : Inv n a1 (fun k => k = L) (s.send1 h d t) := by
    refine ⟨I.n0, ?_, fun i d' hd' => ?_, fun k y hy => ?_, fun m hm => ?_, fun k i m hk hi e => ?_, ?_⟩
    · rw [hsd]; show (s.desks.set _ _).length = n; rw [List.length_set, I.hn]
    · rw [hL1]
      have hd' : (s.desks.set h (d.prop (L : Int)))[i]? = some d' := by rw [hsd] at hd'; exact hd'
      rw [List.getElem?_set] at hd'
      by_cases z : h = i
      · subst z
        rw [if_pos rfl, if_pos (by rw [I.hn]; exact hh)] at hd'
        cases hd'
        exact D'
      · rw [if_neg z] at hd'
        have := I.dk i d' hd'
        rw [hL] at this
        exact this.same (by omega) (fun k hk => by rw [stn k i (by omega)]) (fun k hk => by rw [stn k i (by omega)]) (fun k hk _ => gn k i (by omega)) (fun k hk _ => by unfold finM; rw [hfo k hk]) (fun k h1 h2 => by
          have : k = L := by omega
          rw [this, stL, if_neg (fun y => z y.symm)])
    · have hy : (s.sent ++ [(⟨h, t, [(d.time + 1, d.hand)], none⟩ : LS)])[k]? = some y := by rw [hsd] at hy; exact hy
      rcases snoc_get hy with ⟨z1, z2⟩ | ⟨rfl, z2⟩
      · have hk : k < L := by omega
        exact (I.sn k y z1).congr (wn k (by omega)) (fun i _ => stn k i (by omega)) (fun i _ _ => gn k i (by omega)) (fun z => z.elim)
      · have hk : k = L := by omega
        subst hk
        refine ⟨wL.symm, by rw [wL]; exact hh, ?_, ?_, .inl (by rw [wL, stL, if_pos rfl]), fun i _ => by rw [stL]; split <;> omega⟩
        · have hp : ((List.range n).filter fun i => decide (2 ≤ a1.st k i)).Perm [h] := by
            refine (List.perm_ext_iff_of_nodup (List.nodup_range.filter _) (by simp)).mpr fun i => ?_
            rw [List.mem_filter, List.mem_range, decide_eq_true_eq, stL, List.mem_singleton]
            constructor
            · rintro ⟨_, q⟩
              by_cases z : i = h
              · exact z
              · rw [if_neg z] at q; omega
            · rintro rfl
              exact ⟨hh, by rw [if_pos rfl]; omega⟩
          have := hp.map fun i => a1.g i k
          show [(d.time + 1, d.hand)].Perm _
          rw [D.hand, ← gL]
          exact this.symm
        · by_cases z : ∃ i, i < n ∧ a1.st k i < 2
          · exact .inl ⟨rfl, fun i _ => by rw [stL]; split <;> omega, z⟩
          · refine .inr (.inr ⟨rfl, rfl, fun i hi => ?_⟩)
            by_cases q : i = h
            · rw [stL, if_pos q]
            · exact absurd ⟨i, hi, by rw [stL, if_neg q]; omega⟩ z
    · rw [hL1]
      rw [hpost] at hm
      rcases List.mem_append.mp hm with z | z
      · obtain ⟨q1, q2, q3⟩ := I.p1 m z
        have := old m z
        exact ⟨by omega, q2, by rw [mo _ _ this]; exact q3⟩
      · unfold mailsTo at z
        obtain ⟨i, hi, rfl⟩ := List.mem_map.mp z
        obtain ⟨q1, q2⟩ := (memO i).mp hi
        refine ⟨by show L < L + 1; omega, q1, ?_⟩
        show mailOf a1 _ L i = _
        rw [mol, if_neg q2]
    · rw [hL1] at hk
      rw [hpost, List.mem_append]
      by_cases z : k = L
      · subst z
        rw [mol] at e
        by_cases q : i = h
        · rw [if_pos q] at e; cases e
        · rw [if_neg q] at e
          cases e
          exact .inr (List.mem_map.mpr ⟨i, (memO i).mpr ⟨hi, q⟩, rfl⟩)
      · rw [mo k i (by omega)] at e
        exact .inl (I.p2 k i m (by omega) hi e)
    · rw [hpost, List.map_append, List.nodup_append]
      refine ⟨I.p3, ?_, fun u hu v hv e => ?_⟩
      · have : (mailsTo n .letter L h none).map kLH = (others n h).map fun i => (L, i) := by
          unfold mailsTo
          rw [List.map_map]; rfl
        rw [this]
        have no : (others n h).Nodup := List.nodup_range.filter _
        exact List.pairwise_map.mpr (no.imp fun hne e => hne (Prod.mk.inj e).2)
      · obtain ⟨m, hm, rfl⟩ := List.mem_map.mp hu
        obtain ⟨m', hm', rfl⟩ := List.mem_map.mp hv
        unfold mailsTo at hm'
        obtain ⟨i, _, rfl⟩ := List.mem_map.mp hm'
        have := old m hm
        have e1 : m.letter = L := congrArg Prod.fst e
        omega
  obtain ⟨s', h1, a', I', e1, e2, e3, e4⟩ := I1.look hx1 rfl
  have hsend : s.send h t = some s' := by
    unfold HS.send
    rw [hd]
    show (if (s.sent.length : Int) ∈ d.known then none else (s.send1 h d t).look s.sent.length) = _
    rw [hL, if_neg hnk]
    exact h1
  refine ⟨s', hsend, a', I', ⟨fun k hk => by rw [e1, wn k (by omega)], fun k i hk hi _ => by rw [e2, gn k i (by omega)], fun k i hk hi => by rw [e3 k i (by omega), stn k i (by omega)]; exact Nat.le_refl _⟩, by rw [e1, wL], fun d2 hd2 => ?_⟩
  rw [hd] at hd2
  cases hd2
  rw [e2, gL]
/-- a new house -/
theorem Inv.new {n : Nat} (h : 0 < n) : Inv n ⟨fun _ => 0, fun _ _ => (0, 0), fun _ _ => 0⟩ (fun _ => False) (newHS n) := by
  refine ⟨h, by show ((List.range n).map mkDS).length = n; rw [List.length_map, List.length_range], fun i d hd => ?_, fun l x hx => ?_, fun m hm => ?_, fun k i m hk => ?_, List.nodup_nil⟩
  · have hd : ((List.range n).map mkDS)[i]? = some d := hd
    rw [List.getElem?_map] at hd
    obtain ⟨y, hy, rfl⟩ := Option.map_eq_some_iff.mp hd
    have hyi : y = i := by
      obtain ⟨h3, h4⟩ := List.getElem?_eq_some_iff.mp hy
      rw [List.getElem_range] at h4
      exact h4.symm
    subst hyi
    have no : ∀ x : Int, x ∉ (mkDS y).known := fun x => by simp [mkDS]
    have nk : ∀ x : Int, x ∉ (mkDS y).keys := fun x => by simp [mkDS, DS.keys]
    have nr : ∀ x : Int, x ∉ (mkDS y).row := fun x => by simp [mkDS]
    have nd : ∀ x : Int, x ∉ (mkDS y).done := fun x => by simp [mkDS]
    refine ⟨rfl, ⟨Good.new _, fun x => by simp [mkDS, DS.keys], fun x hx => absurd hx (nr x), List.nodup_nil, fun x hx => absurd hx (nr x), fun x hx => absurd hx (nd x), List.nodup_nil, fun x hx => absurd hx (nk x), fun x hx => absurd hx (no x), fun x hx => absurd hx (no x), List.Pairwise.nil, fun a ha => absurd ha (nr a)⟩, fun x hx => absurd hx (nk x), fun x => ⟨fun hx => absurd hx (no x), fun ⟨l, hl, _⟩ => by have hl : l < 0 := hl; omega⟩, fun l hl => by have hl : l < 0 := hl; omega, fun l hl => by have hl : l < 0 := hl; omega, fun l l' hl => by have hl : l < 0 := hl; omega⟩
  · have hx : ([] : List LS)[l]? = some x := hx
    simp at hx
  · have hm : m ∈ ([] : List Mail) := hm
    simp at hm
  · have hk : k < 0 := hk
    omega
theorem nodup_bound : ∀ (N : Nat) (l : List Nat), l.Nodup → (∀ x ∈ l, x < N) → l.length ≤ N
  | 0, l, _, h => by
    cases l with
    | nil => exact Nat.le_refl _
    | cons x r => have := h x (by simp); omega
  | N + 1, l, nd, h => by
    have h1 := nodup_bound N (l.erase N) (nd.erase N) fun x hx => by
      have h2 := h x (List.mem_of_mem_erase hx)
      have h3 : x ≠ N := fun z => by
        rw [z] at hx
        exact (List.Nodup.not_mem_erase nd) hx
      omega
    have h2 := List.length_erase_of_mem (a := N) (l := l)
    by_cases z : N ∈ l
    · have := h2 z
      omega
    · rw [List.erase_of_not_mem z] at h1
      omega
theorem int_bound {L : Nat} {l : List Int} (nd : l.Nodup) (h : ∀ x ∈ l, ∃ k : Nat, k < L ∧ x = (k : Int)) : l.length ≤ L := by
  have h1 : (l.map Int.toNat).length = l.length := List.length_map ..
  rw [← h1]
  refine nodup_bound L _ ?_ fun x hx => ?_
  · refine List.pairwise_map.mpr (nd.imp_of_mem fun {a b} ha hb hne e => ?_)
    obtain ⟨k, _, rfl⟩ := h a ha
    obtain ⟨k', _, rfl⟩ := h b hb
    have e : k = k' := e
    exact hne (by rw [e])
  · obtain ⟨y, hy, rfl⟩ := List.mem_map.mp hx
    obtain ⟨k, hk, rfl⟩ := h y hy
    exact hk
theorem Inv.sm (I : Inv n a pe s) (hn : n ≤ 40) (hl : s.sent.length < 1500) : Sm 70000 s := by
  refine ⟨by rw [I.hn]; exact hn, ?_, fun d hd => ?_, by omega, fun x hx => ?_⟩
  · have h1 : (s.post.map fun m => (kLH m).1 * 40 + (kLH m).2).length = s.post.length := List.length_map ..
    rw [← h1]
    refine Nat.lt_of_le_of_lt (nodup_bound (s.sent.length * 40) _ ?_ fun x hx => ?_) (by omega)
    · have : (s.post.map fun m => (kLH m).1 * 40 + (kLH m).2) = (s.post.map kLH).map fun p => p.1 * 40 + p.2 := by rw [List.map_map]; rfl
      rw [this]
      refine List.pairwise_map.mpr (I.p3.imp_of_mem fun {p q} hp hq hne e => hne ?_)
      obtain ⟨m, hm, rfl⟩ := List.mem_map.mp hp
      obtain ⟨m', hm', rfl⟩ := List.mem_map.mp hq
      have := (I.p1 m hm).2.1
      have := (I.p1 m' hm').2.1
      exact Prod.ext (by omega) (by omega)
    · obtain ⟨m, hm, rfl⟩ := List.mem_map.mp hx
      obtain ⟨q1, q2, _⟩ := I.p1 m hm
      show m.letter * 40 + _ < _
      have : (m.letter + 1) * 40 ≤ s.sent.length * 40 := Nat.mul_le_mul_right _ q1
      omega
  · obtain ⟨i, hi⟩ := List.mem_iff_getElem?.mp hd
    have D := I.dk i d hi
    have kk : ∀ x ∈ d.known, ∃ k : Nat, k < s.sent.length ∧ x = (k : Int) := fun x hx => by
      obtain ⟨k, h1, _, h3⟩ := (D.kn x).mp hx
      exact ⟨k, h1, h3⟩
    have b1 := int_bound D.di.g.nd kk
    have b2 := int_bound D.di.rn fun x hx => kk x ((D.di.sp x).mpr (.inr hx))
    have b3 := int_bound D.di.g.kn fun x hx => kk x ((D.di.sp x).mpr (.inl hx))
    have b4 := int_bound D.di.dn fun x hx => kk x (D.di.kd x hx)
    unfold DS.keys at b3
    rw [List.length_map] at b3
    unfold DS.size
    omega
  · obtain ⟨j, hj⟩ := List.mem_iff_getElem?.mp hx
    rw [(I.sn j x hj).len]
    have := List.length_filter_le (fun h => decide (2 ≤ a.st j h)) (List.range n)
    rw [List.length_range] at this
    omega
end

end K8

namespace K8
open PySem L2 Evl Ob

/-! ## what the law's tables keep of a house -/
def HS.W (s : HS) : List (Nat × List Mk) := s.sent.map fun x => (x.writer, x.numbers)
theorem map_set_same {α β : Type} (f : α → β) {l : List α} {i : Nat} {x y : α} (h : l[i]? = some x) (e : f y = f x) : (l.set i y).map f = l.map f := by
  rw [List.map_set]
  refine List.ext_getElem? fun j => ?_
  rw [List.getElem?_set]
  by_cases z : i = j
  · subst z
    rw [if_pos rfl, if_pos (by rw [List.length_map]; exact lt_of_get h), List.getElem?_map, h, e]; rfl
  · rw [if_neg z]
theorem HS.look_sh {s s' : HS} {l : Nat} (h : s.look l = some s') : (∃ ex, s'.post = s.post ++ ex) ∧ s'.W = s.W ∧ s'.desks.length = s.desks.length := by
  unfold HS.look at h
  obtain ⟨x, hx, h⟩ := Option.bind_eq_some_iff.mp h
  split at h
  · obtain ⟨d, hd, h⟩ := Option.bind_eq_some_iff.mp h
    obtain ⟨d', _, rfl⟩ := Option.map_eq_some_iff.mp h
    exact ⟨⟨_, rfl⟩, map_set_same _ hx rfl, List.length_set⟩
  · cases h
    exact ⟨⟨[], (List.append_nil _).symm⟩, rfl, rfl⟩
theorem HS.send_sh {s s' : HS} {h : Nat} {t : Str} (e : s.send h t = some s') : ∃ d, s.desks[h]? = some d ∧ (∃ ex, s'.post = s.post ++ ex) ∧ s'.W = s.W ++ [(h, [(d.time + 1, d.hand)])] ∧ s'.desks.length = s.desks.length := by
  unfold HS.send at e
  obtain ⟨d, hd, e⟩ := Option.bind_eq_some_iff.mp e
  split at e
  · cases e
  obtain ⟨⟨ex, h1⟩, h2, h3⟩ := HS.look_sh e
  refine ⟨d, hd, ⟨mailsTo s.desks.length .letter s.sent.length h none ++ ex, ?_⟩, ?_, ?_⟩
  · rw [h1]; exact List.append_assoc ..
  · rw [h2]; exact List.map_append
  · rw [h3]; exact List.length_set
theorem HS.bring_sh {s s' : HS} {i : Nat} {m : Mail} (hm : s.post[i]? = some m) (e : s.bring i = some s') : (∃ ex, s'.post = s.post.eraseIdx i ++ ex) ∧ s'.desks.length = s.desks.length ∧
    (m.word ≠ .number → s'.sent = s.sent) ∧ (m.word = .number → ∃ x k, s.sent[m.letter]? = some x ∧ m.mark = some k ∧ s'.W = s.W.set m.letter (x.writer, x.numbers ++ [k])) := by
  unfold HS.bring at e
  rw [hm] at e
  obtain ⟨kw, l, sr, dt, mk⟩ := m
  cases kw with
  | letter =>
    have e : ((s.desks[dt]?).bind fun d => if ((l : Nat) : Int) ∈ d.known then none else some (HS.mk (s.desks.set dt (d.prop l)) s.sent (s.post.eraseIdx i ++ [⟨.number, l, dt, sr, some (d.time + 1, d.hand)⟩]))) = some s' := e
    obtain ⟨d, hd, e⟩ := Option.bind_eq_some_iff.mp e
    split at e
    · cases e
    cases e
    exact ⟨⟨_, rfl⟩, List.length_set, fun _ => rfl, fun z => by cases z⟩
  | number =>
    have e : ((s.sent[l]?).bind fun x => mk.bind fun k => HS.look ⟨s.desks, s.sent.set l ⟨x.writer, x.words, x.numbers ++ [k], x.final⟩, s.post.eraseIdx i⟩ l) = some s' := e
    obtain ⟨x, hx, e⟩ := Option.bind_eq_some_iff.mp e
    obtain ⟨k, hk, e⟩ := Option.bind_eq_some_iff.mp e
    obtain ⟨h1, h2, h3⟩ := HS.look_sh e
    refine ⟨h1, h3, fun z => absurd rfl z, fun _ => ⟨x, k, hx, hk, ?_⟩⟩
    rw [h2]
    exact List.map_set
  | mark =>
    have e : ((s.desks[dt]?).bind fun d => mk.bind fun k => (d.settle? l k).map fun d' => HS.mk (s.desks.set dt d') s.sent (s.post.eraseIdx i)) = some s' := e
    obtain ⟨d, hd, e⟩ := Option.bind_eq_some_iff.mp e
    obtain ⟨k, hk, e⟩ := Option.bind_eq_some_iff.mp e
    obtain ⟨d', _, rfl⟩ := Option.map_eq_some_iff.mp e
    exact ⟨⟨[], (List.append_nil _).symm⟩, List.length_set, fun _ => rfl, fun z => by cases z⟩
/-- the senders, and the marks that came -/
def HS.ws (s : HS) : List Nat := s.W.map (·.1)
def HS.tl (s : HS) : List (List Mk) := s.W.map (·.2.tail)
def HeadOK (s : HS) : Prop := ∀ p ∈ s.W, ∃ (o : Mk) (t : List Mk), p.2 = o :: t ∧ o.2 = (p.1 : Int)
theorem HS.W_len (s : HS) : s.W.length = s.sent.length := List.length_map ..
theorem HS.W_at {s : HS} {l : Nat} {x : LS} (h : s.sent[l]? = some x) : s.W[l]? = some (x.writer, x.numbers) := by
  unfold HS.W
  rw [List.getElem?_map, h]; rfl
section
variable {n : Nat} {a a' : Ab} {pe : Nat → Prop} {s s' : HS}
theorem HeadOK.at (O : HeadOK s) {l : Nat} {x : LS} (h : s.sent[l]? = some x) : ∃ (o : Mk) (t : List Mk), x.numbers = o :: t ∧ o.2 = (x.writer : Int) ∧ s.tl[l]? = some t ∧ s.ws[l]? = some x.writer := by
  have hw := HS.W_at h
  obtain ⟨o, t, h1, h2⟩ := O _ (List.mem_of_getElem? hw)
  have h1 : x.numbers = o :: t := h1
  refine ⟨o, t, h1, h2, ?_, ?_⟩
  · unfold HS.tl
    rw [List.getElem?_map, hw]
    show some x.numbers.tail = some t
    rw [h1]; rfl
  · unfold HS.ws
    rw [List.getElem?_map, hw]; rfl
theorem Inv.send_tab (I : Inv n a pe s) (O : HeadOK s) {h : Nat} {t : Str} (e : s.send h t = some s') : HeadOK s' ∧ s'.ws = s.ws ++ [h] ∧ s'.tl = s.tl ++ [[]] := by
  obtain ⟨d, hd, _, hW, _⟩ := HS.send_sh e
  refine ⟨fun p hp => ?_, ?_, ?_⟩
  · rw [hW] at hp
    rcases List.mem_append.mp hp with z | z
    · exact O p z
    · rw [List.mem_singleton.mp z]
      exact ⟨_, _, rfl, (I.dk h d hd).hand⟩
  · unfold HS.ws; rw [hW]; exact List.map_append
  · unfold HS.tl; rw [hW]; exact List.map_append
theorem HeadOK.bring_tab (O : HeadOK s) {i : Nat} {m : Mail} (hm : s.post[i]? = some m) (e : s.bring i = some s') : HeadOK s' ∧ s'.ws = s.ws ∧ (m.word ≠ .number → s'.tl = s.tl) ∧
    (m.word = .number → ∃ k t, m.mark = some k ∧ s.tl[m.letter]? = some t ∧ s'.tl = s.tl.set m.letter (t ++ [k])) := by
  obtain ⟨_, _, h1, h2⟩ := HS.bring_sh hm e
  by_cases z : m.word = .number
  · obtain ⟨x, k, hx, hk, hW⟩ := h2 z
    obtain ⟨o, t, q1, q2, q3, q4⟩ := O.at hx
    have hwl := HS.W_at hx
    refine ⟨fun p hp => ?_, ?_, fun y => absurd z y, fun _ => ⟨k, t, hk, q3, ?_⟩⟩
    · rw [hW] at hp
      rcases List.mem_or_eq_of_mem_set hp with y | y
      · exact O p y
      · rw [y, q1]
        exact ⟨o, t ++ [k], rfl, q2⟩
    · unfold HS.ws
      rw [hW]
      exact map_set_same _ hwl rfl
    · unfold HS.tl
      rw [hW, List.map_set, q1]; rfl
  · have hs := h1 z
    have hW : s'.W = s.W := by unfold HS.W; rw [hs]
    refine ⟨fun p hp => O p (hW ▸ hp), by unfold HS.ws; rw [hW], fun _ => by unfold HS.tl; rw [hW], fun y => absurd y z⟩
/-- when a letter's mark is told -/
theorem Inv.final (I : Inv n a (fun _ => False) s) {l : Nat} {x : LS} (hx : s.sent[l]? = some x) : (x.numbers.length < n → x.final = none) ∧ (n ≤ x.numbers.length → x.final = some (great x.numbers)) := by
  have S := I.sn l x hx
  have hle : x.numbers.length ≤ n := by
    rw [S.len]
    have := List.length_filter_le (fun h => decide (2 ≤ a.st l h)) (List.range n)
    rw [List.length_range] at this
    exact this
  rcases S.fi with ⟨z1, z2, h, z3, z4⟩ | ⟨z1, z2⟩ | ⟨z, _⟩
  · refine ⟨fun _ => z1, fun y => ?_⟩
    have := S.all.mp (by omega) h z3
    omega
  · refine ⟨fun y => ?_, fun _ => z1⟩
    have := S.all.mpr fun h hh => by have := z2 h hh; omega
    omega
  · exact z.elim
/-- no two letters have one mark -/
theorem Inv.fin_inj (I : Inv n a pe s) {l k : Nat} {f : Mk} (h1 : finO s l = some f) (h2 : finO s k = some f) : l = k := by
  have lt : ∀ {l : Nat}, finO s l = some f → l < s.sent.length := fun {l} h => by
    unfold finO at h
    obtain ⟨x, hx, _⟩ := Option.bind_eq_some_iff.mp h
    exact lt_of_get hx
  exact I.own_inj (lt h1) (lt h2) (I.fin_own (lt h1) h1).1 (I.fin_own (lt h2) h2).1
/-- a mark that is under way is the one that is told -/
theorem Inv.mark_mail (I : Inv n a pe s) {i : Nat} {m : Mail} (hm : s.post[i]? = some m) (hw : m.word = .mark) : ∃ f, m.mark = some f ∧ finO s m.letter = some f := by
  obtain ⟨q1, q2, q3⟩ := I.p1 m (List.mem_of_getElem? hm)
  rcases mailOf_word q3 with ⟨z, _⟩ | ⟨z, _⟩ | ⟨_, z, e⟩
  · rw [hw] at z; cases z
  · rw [hw] at z; cases z
  · obtain ⟨x, hx, S⟩ := I.gs q1
    have hf : ∃ f, finO s m.letter = some f := by
      rcases S.fi with ⟨_, y, _⟩ | ⟨y, _⟩ | ⟨_, _, y⟩
      · have := y _ q2; omega
      · exact ⟨_, by unfold finO; rw [hx]; exact y⟩
      · have := y _ q2; omega
    obtain ⟨f, hf⟩ := hf
    refine ⟨f, ?_, hf⟩
    have : m.mark = finO s m.letter := congrArg Mail.mark e
    rw [this, hf]
theorem Inv.mail_lt (I : Inv n a pe s) {i : Nat} {m : Mail} (hm : s.post[i]? = some m) : m.letter < s.sent.length := (I.p1 m (List.mem_of_getElem? hm)).1
end

end K8

namespace K8
open PySem L2 Evl Ob

/-! ## the rows -/
theorem pre_or {α : Type} {R : α → α → Prop} (irr : ∀ x, ¬ R x x) (tr : ∀ x y z, R x y → R y z → R x z) : ∀ (l m : List α), l.Pairwise R → m.Pairwise R → (∀ x ∈ l, ∀ y ∈ m, R x y ∨ x = y ∨ R y x) → (∀ x ∈ l, ∀ y ∈ m, R y x → y ∈ l) → (∀ x ∈ m, ∀ y ∈ l, R y x → y ∈ m) → l <+: m ∨ m <+: l
  | [], m, _, _, _, _, _ => .inl (List.nil_prefix)
  | _ :: _, [], _, _, _, _, _ => .inr (List.nil_prefix)
  | a :: r, b :: q, h1, h2, ht, d1, d2 => by
    obtain ⟨ha, hr⟩ := List.pairwise_cons.mp h1
    obtain ⟨hb, hq⟩ := List.pairwise_cons.mp h2
    have nab : ¬ R a b := fun z => by
      rcases List.mem_cons.mp (d2 b (by simp) a (by simp) z) with e | e
      · exact irr _ (e ▸ z)
      · exact irr _ (tr _ _ _ z (hb a e))
    have nba : ¬ R b a := fun z => by
      rcases List.mem_cons.mp (d1 a (by simp) b (by simp) z) with e | e
      · exact irr _ (e ▸ z)
      · exact irr _ (tr _ _ _ z (ha b e))
    have eab : a = b := by
      rcases ht a (by simp) b (by simp) with z | z | z
      · exact absurd z nab
      · exact z
      · exact absurd z nba
    subst eab
    rcases pre_or irr tr r q hr hq (fun x hx y hy => ht x (List.mem_cons_of_mem _ hx) y (List.mem_cons_of_mem _ hy)) (fun x hx y hy z => by
        rcases List.mem_cons.mp (d1 x (List.mem_cons_of_mem _ hx) y (List.mem_cons_of_mem _ hy) z) with e | e
        · exact absurd (hb y hy) (by rw [e]; exact irr _)
        · exact e) (fun x hx y hy z => by
        rcases List.mem_cons.mp (d2 x (List.mem_cons_of_mem _ hx) y (List.mem_cons_of_mem _ hy) z) with e | e
        · exact absurd (ha y hy) (by rw [e]; exact irr _)
        · exact e) with ⟨t, e⟩ | ⟨t, e⟩
    · exact .inl ⟨t, by rw [List.cons_append, e]⟩
    · exact .inr ⟨t, by rw [List.cons_append, e]⟩
section
variable {n : Nat} {a a' : Ab} {pe : Nat → Prop} {s s' : HS}
/-- what stands in a row -/
theorem Inv.row_at (I : Inv n a pe s) {h : Nat} {d : DS} (hd : s.desks[h]? = some d) {x : Int} (hx : x ∈ d.row) : ∃ l : Nat, x = (l : Int) ∧ l < s.sent.length ∧ a.st l h = 4 ∧ finO s l = some (finM s l) ∧ mkS a (finM s) h x = finM s l := by
  have D := I.dk h d hd
  have hh : h < n := by rw [← I.hn]; exact lt_of_get hd
  obtain ⟨l, h1, _, rfl⟩ := (D.kn x).mp ((D.di.sp x).mpr (.inr hx))
  have h4 := (D.dn l h1).mp (D.di.rd _ hx)
  obtain ⟨f, hf⟩ := I.st4 h1 hh h4
  refine ⟨l, rfl, h1, h4, ?_, by rw [mkS_nat, if_pos h4]⟩
  unfold finM
  rw [hf]; rfl
/-- a letter with a mark that is less than that of one in the row stands in the row -/
theorem Inv.row_down (I : Inv n a (fun _ => False) s) {h : Nat} {d : DS} (hd : s.desks[h]? = some d) {x : Int} (hx : x ∈ d.row) {y : Nat} (hy : y < s.sent.length) {f : Mk} (hf : finO s y = some f) {e : Mk} (he : finO s x.toNat = some e) (hl : mless f e = true) : (y : Int) ∈ d.row := by
  have D := I.dk h d hd
  have hh : h < n := by rw [← I.hn]; exact lt_of_get hd
  obtain ⟨lx, rfl, hlx, _, hfx, hmx⟩ := I.row_at hd hx
  have he : finO s lx = some e := he
  rw [hfx] at he
  have he : finM s lx = e := Option.some.inj he
  obtain ⟨_, h3⟩ := I.fin_own hy hf
  have hk := (D.kl hy).mpr (by have := h3 h hh; omega)
  rcases (D.di.sp _).mp hk with z | z
  · have hlo := D.di.lo _ hx _ z
    rw [hmx, he, mkS_nat] at hlo
    have hyf : finM s y = f := by unfold finM; rw [hf]; rfl
    split at hlo
    · rw [hyf] at hlo
      have := mless_tr hl hlo
      rw [mless_irr] at this
      cases this
    · obtain ⟨xs, hxs, S⟩ := I.gs hy
      have hfi : xs.final = some f := by
        unfold finO at hf
        rw [hxs] at hf
        exact hf
      have hgr : f = great xs.numbers := by
        rcases S.fi with ⟨z1, _⟩ | ⟨z1, _⟩ | ⟨z1, _⟩
        · rw [z1] at hfi; cases hfi
        · rw [z1] at hfi; exact (Option.some.inj hfi).symm
        · exact z1.elim
      have hg : mless f (a.g h y) = false := by
        rw [hgr]
        exact great_ge ((S.mem _).mpr ⟨h, hh, by have := h3 h hh; omega, rfl⟩)
      have := mless_tr hl hlo
      rw [hg] at this
      cases this
  · exact z
theorem Inv.fin_tot (I : Inv n a pe s) {l k : Nat} {f e : Mk} (h1 : finO s l = some f) (h2 : finO s k = some e) : mless f e = true ∨ l = k ∨ mless e f = true := by
  by_cases z1 : mless f e = true
  · exact .inl z1
  · by_cases z2 : mless e f = true
    · exact .inr (.inr z2)
    · have := mless_eq (by simpa using z1) (by simpa using z2)
      subst this
      exact .inr (.inl (I.fin_inj h1 h2))
def rowR (s : HS) (x y : Int) : Prop := mless (finM s x.toNat) (finM s y.toNat) = true
theorem Inv.row_sorted (I : Inv n a pe s) {h : Nat} {d : DS} (hd : s.desks[h]? = some d) : d.row.Pairwise (rowR s) := by
  refine (I.dk h d hd).di.rs.imp_of_mem fun {x y} hx hy z => ?_
  obtain ⟨l, rfl, _, _, _, e1⟩ := I.row_at hd hx
  obtain ⟨k, rfl, _, _, _, e2⟩ := I.row_at hd hy
  rw [e1, e2] at z
  exact z
/-- one row is the beginning of the other -/
theorem Inv.rows_pre (I : Inv n a (fun _ => False) s) {h k : Nat} {d e : DS} (hd : s.desks[h]? = some d) (he : s.desks[k]? = some e) : d.row <+: e.row ∨ e.row <+: d.row := by
  refine pre_or (R := rowR s) (fun x z => by unfold rowR at z; rw [mless_irr] at z; cases z) (fun x y z p q => mless_tr p q) _ _ (I.row_sorted hd) (I.row_sorted he) (fun x hx y hy => ?_) (fun x hx y hy z => ?_) (fun x hx y hy z => ?_)
  · obtain ⟨l, rfl, _, _, e1, _⟩ := I.row_at hd hx
    obtain ⟨k, rfl, _, _, e2, _⟩ := I.row_at he hy
    rcases I.fin_tot e1 e2 with z | z | z
    · exact .inl z
    · exact .inr (.inl (by rw [z]))
    · exact .inr (.inr z)
  · obtain ⟨l, rfl, _, _, e1, _⟩ := I.row_at hd hx
    obtain ⟨k, rfl, hk, _, e2, _⟩ := I.row_at he hy
    exact I.row_down hd hx hk e2 e1 z
  · obtain ⟨l, rfl, _, _, e1, _⟩ := I.row_at he hx
    obtain ⟨k, rfl, hk, _, e2, _⟩ := I.row_at hd hy
    exact I.row_down he hx hk e2 e1 z
/-! rows only grow -/
theorem over_row : ∀ (n : Nat) (d : DS), ∃ ex, (DS.over n d).1.row = d.row ++ ex
  | 0, d => ⟨[], (List.append_nil _).symm⟩
  | n + 1, d => by
    unfold DS.over
    cases e : d.first with
    | none => exact ⟨[], (List.append_nil _).symm⟩
    | some l =>
      dsimp only
      split
      · obtain ⟨ex, h⟩ := over_row n (d.hand1 l)
        exact ⟨l :: ex, by rw [h]; show (d.row ++ [l]) ++ ex = _; rw [List.append_assoc]; rfl⟩
      · exact ⟨[], (List.append_nil _).symm⟩
def RowsUp (s s' : HS) : Prop := ∀ (h : Nat) d, s.desks[h]? = some d → ∃ d', s'.desks[h]? = some d' ∧ d.row <+: d'.row
theorem RowsUp.refl (s : HS) : RowsUp s s := fun h d hd => ⟨d, hd, List.prefix_refl _⟩
theorem RowsUp.trans {s'' : HS} (x : RowsUp s s') (y : RowsUp s' s'') : RowsUp s s'' := fun h d hd => by
  obtain ⟨d', h1, h2⟩ := x h d hd
  obtain ⟨d'', h3, h4⟩ := y h d' h1
  exact ⟨d'', h3, h2.trans h4⟩
theorem RowsUp.set {ds : List DS} {ls ls' : List LS} {ps ps' : List Mail} {i : Nat} {d e : DS} (hd : ds[i]? = some d) (h : d.row <+: e.row) : RowsUp ⟨ds, ls, ps⟩ ⟨ds.set i e, ls', ps'⟩ := fun k x hx => by
  have hx : ds[k]? = some x := hx
  show ∃ d', (ds.set i e)[k]? = some d' ∧ _
  rw [List.getElem?_set]
  by_cases z : i = k
  · subst z
    rw [if_pos rfl, if_pos (lt_of_get hd)]
    rw [hd] at hx
    cases hx
    exact ⟨e, rfl, h⟩
  · rw [if_neg z]
    exact ⟨x, hx, List.prefix_refl _⟩
theorem settle_row {d d' : DS} {l : Int} {m : Mk} (h : d.settle? l m = some d') : d.row <+: d'.row := by
  obtain ⟨_, _, _, rfl⟩ := settle_some h
  obtain ⟨ex, e⟩ := over_row (d.set1 l m).marked.length (d.set1 l m)
  exact ⟨ex, e.symm⟩
theorem HS.look_up {l : Nat} (h : s.look l = some s') : RowsUp s s' := by
  unfold HS.look at h
  obtain ⟨x, hx, h⟩ := Option.bind_eq_some_iff.mp h
  split at h
  · obtain ⟨d, hd, h⟩ := Option.bind_eq_some_iff.mp h
    obtain ⟨d', hs, rfl⟩ := Option.map_eq_some_iff.mp h
    exact RowsUp.set hd (settle_row hs)
  · cases h
    exact RowsUp.refl _
theorem HS.send_up {h : Nat} {t : Str} (e : s.send h t = some s') : RowsUp s s' := by
  unfold HS.send at e
  obtain ⟨d, hd, e⟩ := Option.bind_eq_some_iff.mp e
  split at e
  · cases e
  exact (RowsUp.set (e := d.prop s.sent.length) hd (List.prefix_refl _)).trans (HS.look_up e)
theorem HS.bring_up {i : Nat} (e : s.bring i = some s') : RowsUp s s' := by
  unfold HS.bring at e
  obtain ⟨⟨kw, l, sr, dt, mk⟩, hm, e⟩ := Option.bind_eq_some_iff.mp e
  cases kw with
  | letter =>
    have e : ((s.desks[dt]?).bind fun d => if ((l : Nat) : Int) ∈ d.known then none else some (HS.mk (s.desks.set dt (d.prop l)) s.sent (s.post.eraseIdx i ++ [⟨.number, l, dt, sr, some (d.time + 1, d.hand)⟩]))) = some s' := e
    obtain ⟨d, hd, e⟩ := Option.bind_eq_some_iff.mp e
    split at e
    · cases e
    cases e
    exact RowsUp.set hd (List.prefix_refl _)
  | number =>
    have e : ((s.sent[l]?).bind fun x => mk.bind fun k => HS.look ⟨s.desks, s.sent.set l ⟨x.writer, x.words, x.numbers ++ [k], x.final⟩, s.post.eraseIdx i⟩ l) = some s' := e
    obtain ⟨x, hx, e⟩ := Option.bind_eq_some_iff.mp e
    obtain ⟨k, hk, e⟩ := Option.bind_eq_some_iff.mp e
    exact HS.look_up (s := ⟨s.desks, s.sent.set l ⟨x.writer, x.words, x.numbers ++ [k], x.final⟩, s.post.eraseIdx i⟩) e
  | mark =>
    have e : ((s.desks[dt]?).bind fun d => mk.bind fun k => (d.settle? l k).map fun d' => HS.mk (s.desks.set dt d') s.sent (s.post.eraseIdx i)) = some s' := e
    obtain ⟨d, hd, e⟩ := Option.bind_eq_some_iff.mp e
    obtain ⟨k, hk, e⟩ := Option.bind_eq_some_iff.mp e
    obtain ⟨d', hs, rfl⟩ := Option.map_eq_some_iff.mp e
    exact RowsUp.set hd (settle_row hs)
/-- a row is no longer than there are letters -/
theorem Inv.row_len (I : Inv n a pe s) {h : Nat} {d : DS} (hd : s.desks[h]? = some d) : d.row.length ≤ s.sent.length :=
  int_bound (I.dk h d hd).di.rn fun x hx => by
    obtain ⟨l, rfl, hl, _⟩ := I.row_at hd hx
    exact ⟨l, hl, rfl⟩
theorem Inv.row_nd (I : Inv n a pe s) {h : Nat} {d : DS} (hd : s.desks[h]? = some d) : d.row.Nodup := (I.dk h d hd).di.rn
theorem HS.bring_len {i : Nat} {m : Mail} (hm : s.post[i]? = some m) (e : s.bring i = some s') : s'.sent.length = s.sent.length := by
  obtain ⟨_, _, h1, h2⟩ := HS.bring_sh hm e
  by_cases z : m.word = .number
  · obtain ⟨x, k, _, _, hW⟩ := h2 z
    rw [← HS.W_len, ← HS.W_len, hW, List.length_set]
  · rw [h1 z]
theorem HS.send_len {h : Nat} {t : Str} (e : s.send h t = some s') : s'.sent.length = s.sent.length + 1 := by
  obtain ⟨d, _, _, hW, _⟩ := HS.send_sh e
  rw [← HS.W_len, hW, List.length_append, HS.W_len]; rfl
end

end K8

namespace K8
open PySem L2 Evl Ob

/-! ## how many mails are still to come -/
def wtM (m : Mail) : Nat := match m.word with
  | .letter => 3
  | .number => 2
  | .mark => 1
def wtL (x : LS) : Nat := match x.final with
  | none => x.numbers.length - 1
  | some _ => 0
def HS.pot (s : HS) : Nat := (s.post.map wtM).sum + (s.sent.map wtL).sum
theorem sum_set {α : Type} (f : α → Nat) : ∀ {l : List α} {i : Nat} {x y : α}, l[i]? = some x → ((l.set i y).map f).sum + f x = (l.map f).sum + f y
  | [], _, _, _, h => by simp at h
  | z :: r, 0, x, y, h => by
    have h : z = x := Option.some.inj h
    subst h
    show f y + (r.map f).sum + f z = f z + (r.map f).sum + f y
    omega
  | z :: r, i + 1, x, y, h => by
    have h : r[i]? = some x := h
    have := sum_set f (y := y) h
    show f z + ((r.set i y).map f).sum + f x = f z + (r.map f).sum + f y
    omega
theorem sum_erase {α : Type} (f : α → Nat) : ∀ {l : List α} {i : Nat} {x : α}, l[i]? = some x → ((l.eraseIdx i).map f).sum + f x = (l.map f).sum
  | [], _, _, h => by simp at h
  | z :: r, 0, x, h => by
    have h : z = x := Option.some.inj h
    subst h
    show (r.map f).sum + f z = f z + (r.map f).sum
    omega
  | z :: r, i + 1, x, h => by
    have h : r[i]? = some x := h
    have := sum_erase f h
    show f z + ((r.eraseIdx i).map f).sum + f x = f z + (r.map f).sum
    omega
theorem sum_zero : ∀ {l : List Nat}, (∀ x ∈ l, x = 0) → l.sum = 0
  | [], _ => rfl
  | x :: r, h => by
    rw [List.sum_cons, sum_zero fun y hy => h y (List.mem_cons_of_mem _ hy), h x (by simp)]
theorem oth_sum (w : Nat) : ∀ n : Nat, (others n w).length + (if w < n then 1 else 0) = n
  | 0 => by simp [others]
  | n + 1 => by
    have ih := oth_sum w n
    unfold others at ih ⊢
    rw [List.range_succ, List.filter_append, List.length_append]
    by_cases e : n = w
    · rw [List.filter_cons_of_neg (by simp [e])]
      subst e
      rw [if_neg (Nat.lt_irrefl _)] at ih
      rw [if_pos (Nat.lt_succ_self _)]
      simp only [List.filter_nil, List.length_nil]
      omega
    · rw [List.filter_cons_of_pos (by simp [e])]
      simp only [List.filter_nil, List.length_cons, List.length_nil]
      by_cases z : w < n
      · rw [if_pos z] at ih; rw [if_pos (by omega)]; omega
      · rw [if_neg z] at ih; rw [if_neg (by omega)]; omega
theorem mails_sum {n w l : Nat} {k : MW} {m : Option Mk} (h : w < n) : ((mailsTo n k l w m).map wtM).sum = (n - 1) * wtM ⟨k, l, w, 0, m⟩ := by
  have hl : (others n w).length = n - 1 := by
    have := oth_sum w n
    rw [if_pos h] at this
    omega
  rw [← hl]
  unfold mailsTo
  generalize others n w = os
  induction os with
  | nil => simp
  | cons x r ih =>
    rw [List.map_cons, List.map_cons, List.sum_cons, ih, List.length_cons, Nat.succ_mul]
    exact Nat.add_comm _ _
section
variable {n : Nat} {a a' : Ab} {pe : Nat → Prop} {s s' : HS}
theorem HS.look_pot {l : Nat} {x : LS} (hx : s.sent[l]? = some x) (hf : x.final = none) (hw : x.writer < s.desks.length) (h : s.look l = some s') : s'.pot = s.pot := by
  unfold HS.look at h
  rw [hx] at h
  have h : (if x.numbers.length = s.desks.length then (s.desks[x.writer]?).bind fun d => (d.settle? l (great x.numbers)).map fun d' => HS.mk (s.desks.set x.writer d') (s.sent.set l ⟨x.writer, x.words, x.numbers, some (great x.numbers)⟩) (s.post ++ mailsTo s.desks.length .mark l x.writer (some (great x.numbers))) else some s) = some s' := h
  split at h
  · rename_i hc
    obtain ⟨d, hd, h⟩ := Option.bind_eq_some_iff.mp h
    obtain ⟨d', _, rfl⟩ := Option.map_eq_some_iff.mp h
    unfold HS.pot
    show ((s.post ++ mailsTo s.desks.length .mark l x.writer (some (great x.numbers))).map wtM).sum + ((s.sent.set l ⟨x.writer, x.words, x.numbers, some (great x.numbers)⟩).map wtL).sum = _
    have h1 := sum_set wtL (y := ⟨x.writer, x.words, x.numbers, some (great x.numbers)⟩) hx
    rw [List.map_append, List.sum_append, mails_sum hw]
    have e1 : wtL x = x.numbers.length - 1 := by unfold wtL; rw [hf]
    have e2 : wtL ⟨x.writer, x.words, x.numbers, some (great x.numbers)⟩ = 0 := rfl
    have e3 : wtM ⟨.mark, l, x.writer, 0, some (great x.numbers)⟩ = 1 := rfl
    rw [e1, e2] at h1
    rw [e3]
    omega
  · cases h
    rfl
theorem Inv.send_pot (I : Inv n a pe s) {h : Nat} (hh : h < n) {t : Str} (e : s.send h t = some s') : s'.pot = s.pot + 3 * (n - 1) := by
  unfold HS.send at e
  obtain ⟨d, hd, e⟩ := Option.bind_eq_some_iff.mp e
  split at e
  · cases e
  have hL : (s.send1 h d t).desks.length = n := by
    show (s.desks.set h _).length = n
    rw [List.length_set, I.hn]
  have h1 := HS.look_pot (s := s.send1 h d t) (l := s.sent.length) (x := ⟨h, t, [(d.time + 1, d.hand)], none⟩) (by
    show (s.sent ++ [_])[s.sent.length]? = _
    rw [List.getElem?_append_right (Nat.le_refl _), Nat.sub_self]; rfl) rfl (by rw [hL]; exact hh) e
  rw [h1]
  unfold HS.pot
  show ((s.post ++ mailsTo s.desks.length .letter s.sent.length h none).map wtM).sum + ((s.sent ++ [(⟨h, t, [(d.time + 1, d.hand)], none⟩ : LS)]).map wtL).sum = _
  rw [List.map_append, List.sum_append, List.map_append, List.sum_append, I.hn, mails_sum hh]
  have e3 : wtM ⟨.letter, s.sent.length, h, 0, none⟩ = 3 := rfl
  have e4 : ([(⟨h, t, [(d.time + 1, d.hand)], none⟩ : LS)].map wtL).sum = 0 := rfl
  rw [e3, e4]
  omega
theorem Inv.num_open (I : Inv n a (fun _ => False) s) {i : Nat} {m : Mail} (hm : s.post[i]? = some m) (hw : m.word = .number) {x : LS} (hx : s.sent[m.letter]? = some x) : x.final = none ∧ 0 < x.numbers.length := by
  obtain ⟨q1, q2, q3⟩ := I.p1 m (List.mem_of_getElem? hm)
  have S := I.sn _ x hx
  rcases mailOf_word q3 with ⟨z, _⟩ | ⟨_, z, _⟩ | ⟨z, _⟩
  · rw [hw] at z; cases z
  · refine ⟨?_, ?_⟩
    · rcases S.fi with ⟨y, _⟩ | ⟨_, y⟩ | ⟨y, _⟩
      · exact y
      · have := y _ q2; omega
      · exact y.elim
    · have : a.g (a.w m.letter) m.letter ∈ x.numbers := (S.mem _).mpr ⟨a.w m.letter, S.wn, by rcases S.sw with y | y <;> omega, rfl⟩
      exact List.length_pos_of_mem this
  · rw [hw] at z; cases z
theorem Inv.bring_pot (I : Inv n a (fun _ => False) s) {i : Nat} {m : Mail} (hm : s.post[i]? = some m) (e : s.bring i = some s') : s'.pot + 1 = s.pot := by
  have hop := I.num_open hm
  have he := sum_erase wtM hm
  have hml := I.mail_lt hm
  unfold HS.bring at e
  rw [hm] at e
  obtain ⟨kw, l, sr, dt, mk⟩ := m
  cases kw with
  | letter =>
    have e : ((s.desks[dt]?).bind fun d => if ((l : Nat) : Int) ∈ d.known then none else some (HS.mk (s.desks.set dt (d.prop l)) s.sent (s.post.eraseIdx i ++ [⟨.number, l, dt, sr, some (d.time + 1, d.hand)⟩]))) = some s' := e
    obtain ⟨d, hd, e⟩ := Option.bind_eq_some_iff.mp e
    split at e
    · cases e
    cases e
    unfold HS.pot
    show ((s.post.eraseIdx i ++ [(⟨.number, l, dt, sr, some (d.time + 1, d.hand)⟩ : Mail)]).map wtM).sum + (s.sent.map wtL).sum + 1 = _
    rw [List.map_append, List.sum_append]
    have e1 : ([(⟨.number, l, dt, sr, some (d.time + 1, d.hand)⟩ : Mail)].map wtM).sum = 2 := rfl
    have e2 : wtM ⟨.letter, l, sr, dt, mk⟩ = 3 := rfl
    rw [e1]
    rw [e2] at he
    omega
  | number =>
    have e : ((s.sent[l]?).bind fun x => mk.bind fun k => HS.look ⟨s.desks, s.sent.set l ⟨x.writer, x.words, x.numbers ++ [k], x.final⟩, s.post.eraseIdx i⟩ l) = some s' := e
    obtain ⟨x, hx, e⟩ := Option.bind_eq_some_iff.mp e
    obtain ⟨k, hk, e⟩ := Option.bind_eq_some_iff.mp e
    obtain ⟨hf, hp⟩ := hop rfl hx
    have S := I.sn l x hx
    have h1 := HS.look_pot (s := ⟨s.desks, s.sent.set l ⟨x.writer, x.words, x.numbers ++ [k], x.final⟩, s.post.eraseIdx i⟩) (l := l) (x := ⟨x.writer, x.words, x.numbers ++ [k], x.final⟩) (by
      show (s.sent.set l _)[l]? = _
      rw [List.getElem?_set, if_pos rfl, if_pos (lt_of_get hx)]) hf (by show x.writer < s.desks.length; rw [I.hn, S.wr]; exact S.wn) e
    rw [h1]
    unfold HS.pot
    show ((s.post.eraseIdx i).map wtM).sum + ((s.sent.set l ⟨x.writer, x.words, x.numbers ++ [k], x.final⟩).map wtL).sum + 1 = _
    have h2 := sum_set wtL (y := ⟨x.writer, x.words, x.numbers ++ [k], x.final⟩) hx
    have e1 : wtL x = x.numbers.length - 1 := by unfold wtL; rw [hf]
    have e2 : wtL ⟨x.writer, x.words, x.numbers ++ [k], x.final⟩ = x.numbers.length := by
      unfold wtL
      show (match x.final with | none => (x.numbers ++ [k]).length - 1 | some _ => 0) = _
      rw [hf, List.length_append]; rfl
    have e3 : wtM ⟨.number, l, sr, dt, mk⟩ = 2 := rfl
    rw [e1, e2] at h2
    rw [e3] at he
    omega
  | mark =>
    have e : ((s.desks[dt]?).bind fun d => mk.bind fun k => (d.settle? l k).map fun d' => HS.mk (s.desks.set dt d') s.sent (s.post.eraseIdx i)) = some s' := e
    obtain ⟨d, hd, e⟩ := Option.bind_eq_some_iff.mp e
    obtain ⟨k, hk, e⟩ := Option.bind_eq_some_iff.mp e
    obtain ⟨d', hs, rfl⟩ := Option.map_eq_some_iff.mp e
    unfold HS.pot
    show ((s.post.eraseIdx i).map wtM).sum + (s.sent.map wtL).sum + 1 = _
    have e2 : wtM ⟨.mark, l, sr, dt, mk⟩ = 1 := rfl
    rw [e2] at he
    omega
/-- when none is left all is done -/
theorem Inv.end_st (I : Inv n a (fun _ => False) s) (hp : s.post = []) {l h : Nat} (hl : l < s.sent.length) (hh : h < n) : a.st l h = 4 := by
  have no : ∀ h, h < n → a.st l h ≠ 0 ∧ a.st l h ≠ 1 ∧ a.st l h ≠ 3 := fun h hh => by
    have hm : mailOf a s l h = none := by
      cases e : mailOf a s l h with
      | none => rfl
      | some m =>
        have := I.p2 l h m hl hh e
        rw [hp] at this
        cases this
    unfold mailOf at hm
    refine ⟨fun z => ?_, fun z => ?_, fun z => ?_⟩ <;> rw [z] at hm <;> cases hm
  obtain ⟨x, hx, S⟩ := I.gs hl
  have h4 := S.s4 h hh
  have := no h hh
  rcases S.fi with ⟨_, y1, k, y2, y3⟩ | ⟨_, y⟩ | ⟨y, _⟩
  · have := no k y2; omega
  · have := y h hh; omega
  · exact y.elim
theorem Inv.end_pot (I : Inv n a (fun _ => False) s) (hp : s.post = []) : s.pot = 0 := by
  unfold HS.pot
  rw [hp]
  have : ∀ x ∈ s.sent.map wtL, x = 0 := fun y hy => by
    obtain ⟨x, hx, rfl⟩ := List.mem_map.mp hy
    obtain ⟨l, hl⟩ := List.mem_iff_getElem?.mp hx
    have S := I.sn l x hl
    have h4 := I.end_st hp (lt_of_get hl) I.n0
    rcases S.fi with ⟨_, y1, _⟩ | ⟨y, _⟩ | ⟨y, _⟩
    · have := y1 0 I.n0; omega
    · unfold wtL; rw [y]
    · exact y.elim
  show 0 + _ = 0
  rw [Nat.zero_add]
  exact sum_zero this
theorem Inv.end_row (I : Inv n a (fun _ => False) s) (hp : s.post = []) {h : Nat} {d : DS} (hd : s.desks[h]? = some d) (x : Int) : x ∈ d.row ↔ ∃ l : Nat, l < s.sent.length ∧ x = (l : Int) := by
  have D := I.dk h d hd
  have hh : h < n := by rw [← I.hn]; exact lt_of_get hd
  constructor
  · intro hx
    obtain ⟨l, rfl, hl, _⟩ := I.row_at hd hx
    exact ⟨l, hl, rfl⟩
  · rintro ⟨l, hl, rfl⟩
    have done : ∀ k, k < s.sent.length → (k : Int) ∈ d.done := fun k hk => (D.dn k hk).mpr (I.end_st hp hk hh)
    have hk := (D.kl hl).mpr (by rw [I.end_st hp hl hh]; omega)
    rcases (D.di.sp _).mp hk with z | z
    · obtain ⟨y, hy, hyd, _⟩ := D.qt _ z (done l hl)
      obtain ⟨k, hk1, _, rfl⟩ := (D.kn y).mp ((D.di.sp y).mpr (.inl hy))
      exact absurd (done k hk1) hyd
    · exact z
/-- a mark that was told stays -/
theorem Inv.fin_keep (I : Inv n a (fun _ => False) s) (I' : Inv n a' (fun _ => False) s') (L : Later s.sent.length n a a') (hs : s.sent.length ≤ s'.sent.length) {l : Nat} {f : Mk} (hf : finO s l = some f) : finO s' l = some f := by
  have hl : l < s.sent.length := by
    unfold finO at hf
    obtain ⟨x, hx, _⟩ := Option.bind_eq_some_iff.mp hf
    exact lt_of_get hx
  obtain ⟨_, h3⟩ := I.fin_own hl hf
  obtain ⟨x, hx, S⟩ := I.gs hl
  obtain ⟨x', hx', S'⟩ := I'.gs (l := l) (by omega)
  have hfx : x.final = some f := by unfold finO at hf; rw [hx] at hf; exact hf
  have e1 : f = great x.numbers := by
    rcases S.fi with ⟨z, _⟩ | ⟨z, _⟩ | ⟨z, _⟩
    · rw [z] at hfx; cases hfx
    · rw [z] at hfx; exact (Option.some.inj hfx).symm
    · exact z.elim
  have st' : ∀ h, h < n → 3 ≤ a'.st l h := fun h hh => Nat.le_trans (h3 h hh) (L.2.2 l h hl hh)
  have e2 : x'.final = some (great x'.numbers) := by
    rcases S'.fi with ⟨_, z, _⟩ | ⟨z, _⟩ | ⟨z, _⟩
    · have := z 0 I.n0
      have := st' 0 I.n0
      omega
    · exact z
    · exact z.elim
  have hmem : ∀ m, m ∈ x.numbers ↔ m ∈ x'.numbers := fun m => by
    rw [S.mem, S'.mem]
    constructor
    · rintro ⟨h, hh, h2, rfl⟩
      exact ⟨h, hh, by have := st' h hh; omega, (L.2.1 l h hl hh (by omega)).symm⟩
    · rintro ⟨h, hh, h2, rfl⟩
      have h3' := h3 h hh
      exact ⟨h, hh, by omega, L.2.1 l h hl hh (by omega)⟩
  have ne : ∀ (y : LS), (∀ h, h < n → 3 ≤ a.st l h) → y = x → y.numbers ≠ [] := fun y _ hy z => by
    have h0 := h3 0 I.n0
    have : a.g 0 l ∈ x.numbers := (S.mem _).mpr ⟨0, I.n0, by omega, rfl⟩
    rw [← hy, z] at this
    cases this
  have n1 : x.numbers ≠ [] := ne x h3 rfl
  have n2 : x'.numbers ≠ [] := fun z => by
    have := (hmem _).mp (great_mem n1)
    rw [z] at this
    cases this
  have eg : great x'.numbers = great x.numbers := mless_eq (great_ge ((hmem _).mp (great_mem n1))) (great_ge ((hmem _).mpr (great_mem n2)))
  unfold finO
  rw [hx']
  show x'.final = some f
  rw [e2, eg, e1]
end

end K8

namespace K8
open PySem L2 Evl Ob

local macro_rules | `(tactic| tm_at "sh") => `(tactic| first | exact sh_mk | exact sh_mks | exact sh_b3)

/-! ## the law's own desk, a dict -/
structure LP where
  a : Addr
  l : Addr
  m : Addr
  d : Addr
  r : Addr
def LP.foot (q : LP) : List Addr := [q.a, q.l, q.m, q.d, q.r]
def ldK (q : LP) (s : DS) (ex : List (Str × Addr)) : List (Key × V) := (.inr "hand", .int s.hand) :: (.inr "time", .int s.time) :: (.inr "met", .ref q.l) :: (.inr "marks", .ref q.m) :: (.inr "done", .ref q.d) :: (.inr "row", .ref q.r) :: ex.map fun e => (.inr e.1, .ref e.2)
def ExKey (k : Str) : Prop := k = "told" ∨ k = "rows" ∨ k = "given"
structure LDAt (K : PySem.W.Frag) (A B : Hp) (q : LP) (ex : List (Str × Addr)) (s : DS) : Prop where
  ia : B q.a = some (.dK (ldK q s ex))
  il : B q.l = some (.lst (s.known.map V.int))
  im : ∃ kvs, B q.m = some (.dK kvs) ∧ MkKvs K A kvs s.marked
  id : B q.d = some (.dK (flags s.done))
  ir : B q.r = some (.lst (s.row.map V.int))
  nd : q.foot.Nodup
  na : ∀ x ∈ q.foot, A x = none
  kx : ∀ e ∈ ex, ExKey e.1
def exP (ex : List (Str × Addr)) (k : Str) (x : Addr) : List (Str × Addr) := if (ex.any fun e => decide (e.1 = k)) = true then ex.map (fun e => if e.1 = k then (e.1, x) else e) else ex ++ [(k, x)]
theorem exP_len (ex : List (Str × Addr)) (k : Str) (x : Addr) : (exP ex k x).length ≤ ex.length + 1 := by
  unfold exP
  split
  · rw [List.length_map]; omega
  · rw [List.length_append]; simp
theorem exP_key {ex : List (Str × Addr)} {k : Str} {x : Addr} (hk : ExKey k) (h : ∀ e ∈ ex, ExKey e.1) : ∀ e ∈ exP ex k x, ExKey e.1 := fun e he => by
  unfold exP at he
  split at he
  · obtain ⟨y, hy, e'⟩ := List.mem_map.mp he
    split at e'
    · rw [← e']; exact h y hy
    · rw [← e']; exact h y hy
  · rcases List.mem_append.mp he with z | z
    · exact h e z
    · rw [List.mem_singleton.mp z]; exact hk
theorem exP_mem {ex : List (Str × Addr)} {k : Str} {x : Addr} {e : Str × Addr} (h : e ∈ exP ex k x) : e ∈ ex ∨ e.2 = x := by
  unfold exP at h
  split at h
  · obtain ⟨y, hy, he⟩ := List.mem_map.mp h
    split at he
    · exact .inr (by rw [← he])
    · exact .inl (he ▸ hy)
  · rcases List.mem_append.mp h with z | z
    · exact .inl z
    · rw [List.mem_singleton.mp z]
      exact .inr rfl
theorem ex_any (k : Str) : ∀ ex : List (Str × Addr), ((ex.map fun e => ((Sum.inr e.1 : Key), V.ref e.2)).any fun kv => decide (kv.1 = Sum.inr k)) = ex.any fun e => decide (e.1 = k)
  | [] => rfl
  | e :: r => by
    rw [List.map_cons, List.any_cons, List.any_cons, ex_any k r]
    congr 1
    exact decide_eq_decide.mpr ⟨fun z => Sum.inr.inj z, fun z => by rw [z]⟩
theorem ex_map (k : Str) (x : Addr) : ∀ ex : List (Str × Addr), ((ex.map fun e => ((Sum.inr e.1 : Key), V.ref e.2)).map fun kv => if kv.1 = Sum.inr k then (kv.1, V.ref x) else kv) = (ex.map fun e => if e.1 = k then (e.1, x) else e).map fun e => ((Sum.inr e.1 : Key), V.ref e.2)
  | [] => rfl
  | e :: r => by
    rw [List.map_cons, List.map_cons, List.map_cons, List.map_cons, ex_map k x r]
    congr 1
    by_cases z : e.1 = k
    · rw [if_pos z, if_pos (by rw [z])]
    · rw [if_neg z, if_neg (fun y => z (Sum.inr.inj y))]
theorem kne {a b : Str} (h : a ≠ b) : (Sum.inr a : Key) ≠ Sum.inr b := fun z => h (Sum.inr.inj z)
theorem ld_put {q : LP} {s : DS} {ex : List (Str × Addr)} {k : Str} {x : Addr} (hk : ExKey k) : putK (ldK q s ex) (.inr k) (.ref x) = ldK q s (exP ex k x) := by
  have key : ∀ (b1 b2 b3 b4 b5 b6 : Key × V) (r : List (Key × V)), b1.1 ≠ Sum.inr k → b2.1 ≠ Sum.inr k → b3.1 ≠ Sum.inr k → b4.1 ≠ Sum.inr k → b5.1 ≠ Sum.inr k → b6.1 ≠ Sum.inr k → putK (b1 :: b2 :: b3 :: b4 :: b5 :: b6 :: r) (.inr k) (.ref x) = b1 :: b2 :: b3 :: b4 :: b5 :: b6 :: putK r (.inr k) (.ref x) := fun b1 b2 b3 b4 b5 b6 r h1 h2 h3 h4 h5 h6 => by
    unfold putK
    simp only [List.any_cons, List.map_cons, decide_eq_false h1, decide_eq_false h2, decide_eq_false h3, decide_eq_false h4, decide_eq_false h5, decide_eq_false h6, Bool.false_or, if_neg h1, if_neg h2, if_neg h3, if_neg h4, if_neg h5, if_neg h6]
    split <;> rfl
  have rest : putK (ex.map fun e => ((Sum.inr e.1 : Key), V.ref e.2)) (.inr k) (.ref x) = (exP ex k x).map fun e => ((Sum.inr e.1 : Key), V.ref e.2) := by
    unfold putK exP
    rw [ex_any]
    split
    · rw [ex_map]
    · rw [List.map_append]; rfl
  unfold ldK
  rw [key, rest]
  all_goals (rcases hk with rfl | rfl | rfl <;> exact kne (by decide))
theorem putK_at {l1 l2 : List (Key × V)} {k : Key} {v v' : V} (h1 : ∀ kv ∈ l1, kv.1 ≠ k) (h2 : ∀ kv ∈ l2, kv.1 ≠ k) : putK (l1 ++ (k, v) :: l2) k v' = l1 ++ (k, v') :: l2 := by
  have same : ∀ l : List (Key × V), (∀ kv ∈ l, kv.1 ≠ k) → l.map (fun kv => if kv.1 = k then (kv.1, v') else kv) = l := fun l h => by
    conv => rhs; rw [← List.map_id l]
    exact List.map_congr_left fun kv hkv => if_neg (h kv hkv)
  unfold putK
  rw [if_pos (by rw [List.any_append, List.any_cons, decide_eq_true rfl]; simp), List.map_append, List.map_cons, same l1 h1, same l2 h2, if_pos rfl]
theorem exm_ne {ex : List (Str × Addr)} (h : ∀ e ∈ ex, ExKey e.1) {k : Str} (hk : ¬ ExKey k) : ∀ kv ∈ ex.map (fun e => ((Sum.inr e.1 : Key), V.ref e.2)), kv.1 ≠ Sum.inr k := fun kv hkv z => by
  obtain ⟨e, he, rfl⟩ := List.mem_map.mp hkv
  exact hk (Sum.inr.inj z ▸ h e he)
theorem exk_time : ¬ ExKey "time" := fun h => by
  rcases h with h | h | h <;> (revert h; decide)
theorem exk_row : ¬ ExKey "row" := fun h => by
  rcases h with h | h | h <;> (revert h; decide)
theorem ld_time {q : LP} {s : DS} {ex : List (Str × Addr)} (h : ∀ e ∈ ex, ExKey e.1) {t : Int} : putK (ldK q s ex) (.inr "time") (.int t) = ldK q ⟨s.hand, t, s.known, s.marked, s.done, s.row⟩ ex :=
  putK_at (k := .inr "time") (v := .int s.time) (v' := .int t) (l1 := [(.inr "hand", .int s.hand)]) (l2 := (.inr "met", .ref q.l) :: (.inr "marks", .ref q.m) :: (.inr "done", .ref q.d) :: (.inr "row", .ref q.r) :: ex.map fun e : Str × Addr => ((Sum.inr e.1 : Key), V.ref e.2)) (fun kv hkv => by
    rw [List.mem_singleton.mp hkv]; exact kne (by decide)) fun kv hkv => by
    rcases List.mem_cons.mp hkv with rfl | hkv
    · exact kne (by decide)
    rcases List.mem_cons.mp hkv with rfl | hkv
    · exact kne (by decide)
    rcases List.mem_cons.mp hkv with rfl | hkv
    · exact kne (by decide)
    rcases List.mem_cons.mp hkv with rfl | hkv
    · exact kne (by decide)
    exact exm_ne h exk_time kv hkv
theorem ld_row {q : LP} {s : DS} {ex : List (Str × Addr)} (h : ∀ e ∈ ex, ExKey e.1) {r : Addr} : putK (ldK q s ex) (.inr "row") (.ref r) = ldK ⟨q.a, q.l, q.m, q.d, r⟩ s ex :=
  putK_at (k := .inr "row") (v := .ref q.r) (v' := .ref r) (l1 := [(.inr "hand", .int s.hand), (.inr "time", .int s.time), (.inr "met", .ref q.l), (.inr "marks", .ref q.m), (.inr "done", .ref q.d)]) (l2 := ex.map fun e : Str × Addr => ((Sum.inr e.1 : Key), V.ref e.2)) (fun kv hkv => by
    rcases List.mem_cons.mp hkv with rfl | hkv
    · exact kne (by decide)
    rcases List.mem_cons.mp hkv with rfl | hkv
    · exact kne (by decide)
    rcases List.mem_cons.mp hkv with rfl | hkv
    · exact kne (by decide)
    rcases List.mem_cons.mp hkv with rfl | hkv
    · exact kne (by decide)
    rw [List.mem_singleton.mp hkv]; exact kne (by decide)) (exm_ne h exk_row)
theorem ld_get {q : LP} {s : DS} {ex : List (Str × Addr)} {k : Str} (hk : ExKey k) : valV (ldK q s ex) (.inr k) = none ∨ ∃ e ∈ ex, valV (ldK q s ex) (.inr k) = some (.ref e.2) := by
  have rest : ∀ ex : List (Str × Addr), valV (ex.map fun e => ((Sum.inr e.1 : Key), V.ref e.2)) (.inr k) = none ∨ ∃ e ∈ ex, valV (ex.map fun e => ((Sum.inr e.1 : Key), V.ref e.2)) (.inr k) = some (.ref e.2) := by
    intro ex
    induction ex with
    | nil => exact .inl rfl
    | cons e r ih =>
      rw [List.map_cons]
      by_cases z : e.1 = k
      · exact .inr ⟨e, by simp, by rw [valV_pos (by rw [z])]⟩
      · rw [valV_neg (fun y => z (Sum.inr.inj y))]
        rcases ih with h | ⟨e', h1, h2⟩
        · exact .inl h
        · exact .inr ⟨e', List.mem_cons_of_mem _ h1, h2⟩
  have eq : valV (ldK q s ex) (.inr k) = valV (ex.map fun e => ((Sum.inr e.1 : Key), V.ref e.2)) (.inr k) := by
    unfold ldK
    rcases hk with rfl | rfl | rfl <;> rfl
  rw [eq]
  exact rest ex
section
variable {K : PySem.W.Frag} {A B A' B' : Hp} {q : LP} {s : DS} {F : Addr → Prop} {ex : List (Str × Addr)}
theorem LDAt.alive (D : LDAt K A B q ex s) : ∀ x ∈ q.foot, B x ≠ none := fun x hx => by
  simp only [LP.foot, List.mem_cons, List.not_mem_nil, or_false] at hx
  obtain ⟨kv0, e0, _⟩ := D.im
  rcases hx with rfl | rfl | rfl | rfl | rfl
  · rw [D.ia]; simp
  · rw [D.il]; simp
  · rw [e0]; simp
  · rw [D.id]; simp
  · rw [D.ir]; simp
theorem LP.in_a : q.a ∈ q.foot := by simp [LP.foot]
theorem LP.in_l : q.l ∈ q.foot := by simp [LP.foot]
theorem LP.in_m : q.m ∈ q.foot := by simp [LP.foot]
theorem LP.in_d : q.d ∈ q.foot := by simp [LP.foot]
theorem LP.in_r : q.r ∈ q.foot := by simp [LP.foot]
theorem LDAt.mono (D : LDAt K A B q ex s) (P : PrM F A B A' B') (h : ∀ x ∈ q.foot, ¬ F x) : LDAt K A' B' q ex s := by
  obtain ⟨kvs, e3, hk⟩ := D.im
  exact ⟨P.b _ _ (h _ LP.in_a) D.ia, P.b _ _ (h _ LP.in_l) D.il, ⟨kvs, P.b _ _ (h _ LP.in_m) e3, hk.mono P.a⟩, P.b _ _ (h _ LP.in_d) D.id, P.b _ _ (h _ LP.in_r) D.ir, D.nd, fun x hx => P.n x (D.na x hx) (D.alive x hx), D.kx⟩
theorem LDAt.pr (D : LDAt K A B q ex s) (P : Pr A B A' B') : LDAt K A' B' q ex s := D.mono (F := fun _ => False) P.m fun _ _ z => z
theorem LDAt.up (D : LDAt K A B q ex s) (e : Ex A B) (h : Ex B B') : LDAt K A B' q ex s := D.pr (Pr.up e h)
theorem LDAt.ne (D : LDAt K A B q ex s) : q.a ≠ q.l ∧ q.a ≠ q.m ∧ q.a ≠ q.d ∧ q.a ≠ q.r ∧ q.l ≠ q.m ∧ q.l ≠ q.d ∧ q.l ≠ q.r ∧ q.m ≠ q.d ∧ q.m ≠ q.r ∧ q.d ≠ q.r := by
  have h := D.nd
  simp only [LP.foot, List.nodup_cons, List.mem_cons, List.not_mem_nil, or_false, not_or, not_false_eq_true, List.nodup_nil, and_true] at h
  obtain ⟨⟨h1, h2, h3, h4⟩, ⟨h5, h6, h7⟩, ⟨h8, h9⟩, h10⟩ := h
  exact ⟨h1, h2, h3, h4, h5, h6, h7, h8, h9, h10⟩
end
/-- less of tuples -/
theorem lex_mless (m n : Mk) : HT.lexLt [m.1, m.2] [n.1, n.2] = mless m n := by
  unfold mless
  rw [HT.lexLt_cons, HT.lexLt_cons, HT.lexLt_nil_nil]
  by_cases h : m.1 = n.1
  · rw [if_pos h, h]
    by_cases h2 : m.2 = n.2
    · rw [if_pos h2, h2]; simp
    · rw [if_neg h2]; simp
  · rw [if_neg h, beq_false_of_ne h]; simp
theorem ed_ltT {K : PySem.W.Frag} {ta tb : TE} {σ : L2.St} {H : Hp} {m n : Mk} (ha : EvD K ta σ H (mkD m)) (hb : EvD K tb σ H (mkD n)) : EvD K (tOp (rLtT K) ta tb) σ H (.bool (mless m n)) :=
  ed_opB ha hb fun x y B hx hy Q q => by
    obtain ⟨a, xs, rfl, sa, aa⟩ := dp_tuple hx
    obtain ⟨b, ys, rfl, sb, bb⟩ := dp_tuple hy
    obtain ⟨v1, v2, rfl, h1, h2⟩ := dpa2 aa
    obtain ⟨w1, w2, rfl, g1, g2⟩ := dpa2 bb
    cases h1; cases h2; cases g1; cases g2
    exact ⟨a, b, [m.1, m.2], [n.1, n.2], rfl, rfl, sa, sb, by rw [lex_mless]; exact q _ fun _ _ _ _ => .bl _⟩
section
variable {P : Program} {w : World} {K : PySem.W.Frag} {mg : Str → Option Value} {base : Heap} {c : Cs}
def sp_lfirst (K : PySem.W.Frag) : Sp := fun vs H Q _ => ∃ a lm mm kvs mkvs met ms, vs = [.ref a] ∧ H a = some (.dK kvs) ∧ valV kvs (.inr "met") = some (.ref lm) ∧ valV kvs (.inr "marks") = some (.ref mm) ∧ H lm = some (.lst (met.map V.int)) ∧ H mm = some (.dK mkvs) ∧ MkKvs K H mkvs ms ∧
  ∀ H', Ex H H' → Q (optV (lfirst ms met)) H'
theorem ok_lfirst (T : Tx K mg c) : DefOk P w K mg base CX0 1 "_law_first" ["_law_d"] (sp_lfirst K) := by
  obtain ⟨f, fd, d⟩ := T.d_law_first
  refine d.ok (d.F.ok sc_law_first (fun vs H Q E h => ?_) fun cdv A outer s H vs Q E hr h => ?_)
  · obtain ⟨_, _, _, _, _, _, _, e, _⟩ := h
    rw [e]
    rfl
  obtain ⟨a, lm, mm, kvs, mkvs, met, ms, rfl, ha, h1, h2, hlm, hmm, hmk, k⟩ := h
  have nd := sc_law_first.nd
  refine ⟨_, (pss_cons (ps_set (i := 1) nd rfl (Or.inl rfl) pe_non)
      (pss_cons (ps_for PassesOwn.never rfl (pi_list (pe_dget (hu_of hr) (pv 0) pe_str (fun _ _ => rfl))) (pg_name (i := 2) nd rfl (Or.inl rfl)) (pss_one (ps_if (PW.pt (pw_and (pt_cmp (pc_din (hu_of hr) (pv 2) (pe_dget (hu_of hr) (pv 0) pe_str (fun _ _ => rfl)))) (pw_and1 (PW.pt (pw_or (pt_cmpR op_isN1 (pv 1) pe_non (nomark _)) (pw_or1 (pt_cmpR (op_ltT hr.units0) (pe_dget (hu_of hr) (pe_dget (hu_of hr) (pv 0) pe_str (fun _ _ => rfl)) (pv 2) (fun _ _ => rfl)) (pe_dget (hu_of hr) (pe_dget (hu_of hr) (pv 0) pe_str (fun _ _ => rfl)) (pv 1) (fun _ _ => rfl)) (nomark _)))))))) (pss_one (ps_set (i := 1) nd rfl (Or.inl rfl) (pv 2))) pss_nil)))
      (pss_one (ps_ret (pv 1))))), ?_⟩
  try dsimp only [cx_K]
  have hget : ∀ B (σ : L2.St) (f : Str) (v : V), Ex H B → σ[0]? = some (some (.ref a)) → valV kvs (.inr f) = some v → Ev (tDGet (tVar 0) (tC (.str f))) σ B v := fun B σ f v e hσ hv => ev_dgetS (K := K) (ev_var hσ) (.inl (e _ _ ha)) ed_str hv
  refine q_asgV ev_c fun B1 e1 => ?_
  have mark : ∀ B (σ : L2.St) (ti : TE) (j : Int), Ex H B → σ[0]? = some (some (.ref a)) → EvD K ti σ B (.int j) → j ∈ ms.map (·.1) → EvD K (tDGet (tDGet (tVar 0) (tC (.str "marks"))) ti) σ B (mkD (mkM ms j)) := fun B σ ti j e hσ hj hin => by
    obtain ⟨m, hm'⟩ := lk_mem hin
    obtain ⟨v, g1, g2⟩ := hmk.lk hm'
    refine ed_v (ev_dget (K := K) (hget B σ "marks" _ e hσ h2) (.inl (e _ _ hmm)) hj g1) (dp_ex e ?_)
    unfold mkM
    rw [hm']
    exact g2
  have step : ∀ (i : Nat) (x : Int), met[i]? = some x → firstF (mkM ms) none ((met.take (i + 1)).filter fun i => decide (i ∈ ms.map (·.1))) = if x ∈ ms.map (·.1) then some (match firstF (mkM ms) none ((met.take i).filter fun i => decide (i ∈ ms.map (·.1))) with
      | none => x
      | some c => if mless (mkM ms x) (mkM ms c) = true then x else c) else firstF (mkM ms) none ((met.take i).filter fun i => decide (i ∈ ms.map (·.1))) := fun i x hx => by
    rw [List.take_succ, hx, List.filter_append]
    show firstF _ none (_ ++ List.filter _ [x]) = _
    by_cases z : x ∈ ms.map (·.1)
    · rw [if_pos z, List.filter_cons_of_pos (by simpa using z), List.filter_nil, firstF_app]
      try rfl
    · rw [if_neg z, List.filter_cons_of_neg (by simpa using z), List.filter_nil, List.append_nil]
  refine q_do (s_forL K (hget B1 _ "met" _ e1 rfl h1) (sq_of (e1 _ _ hlm)) (fun i σ' => ∃ w2, σ' = [some (.ref a), some (optV (firstF (mkM ms) none ((met.take i).filter fun i => decide (i ∈ ms.map (·.1))))), w2]) ⟨none, rfl⟩ ?_ ?_)
  · rintro i v σ' B2 hv e2 ⟨w2, rfl⟩
    rw [List.getElem?_map] at hv
    obtain ⟨x, hx, rfl⟩ := Option.map_eq_some_iff.mp hv
    have st := step i x hx
    have e12 := e1.trans e2
    have hk1 : (valV mkvs (.inl x)).isSome = decide (x ∈ ms.map (·.1)) := by rw [hmk.some, lk_some]
    by_cases z : x ∈ ms.map (·.1)
    · rw [if_pos z] at st
      cases hf : firstF (mkM ms) none ((met.take i).filter fun i => decide (i ∈ ms.map (·.1))) with
      | none =>
        rw [hf] at st
        refine s_ifM K (b := true) (eb_and (a := true) (b := true) (eb_is (eb_DB (ed_din (ed_var rfl (.int x)) (hget B2 _ "marks" _ e12 rfl h2) (.inl (e12 _ _ hmm)))) (by rw [hk1, decide_eq_true z])) fun _ => eb_or (a := true) (b := true) (eb_is (eb_D (ed_isN (ed_var rfl .non))) rfl) fun z => by cases z) rfl (fun _ B3 e3 => ?_) (fun z => by cases z)
        exact s_asgV (ev_var rfl) fun B4 e4 => ⟨e2.trans (e3.trans e4), some (.int x), by rw [st]; rfl⟩
      | some y =>
        rw [hf] at st
        have hyin : y ∈ ms.map (·.1) := (firstF_mem (mkM ms) _ none y hf).elim (fun z => by cases z) fun z => of_decide_eq_true (List.mem_filter.mp z).2
        refine s_ifM K (b := mless (mkM ms x) (mkM ms y)) (eb_and (a := true) (b := mless (mkM ms x) (mkM ms y)) (eb_is (eb_DB (ed_din (ed_var rfl (.int x)) (hget B2 _ "marks" _ e12 rfl h2) (.inl (e12 _ _ hmm)))) (by rw [hk1, decide_eq_true z])) fun _ => eb_is (eb_or (a := false) (b := mless (mkM ms x) (mkM ms y)) (eb_is (eb_D (ed_isN (ed_var rfl (.int y)))) rfl) fun _ => eb_D (ed_ltT (mark B2 _ _ x e12 rfl (ed_var rfl (.int x)) z) (mark B2 _ _ y e12 rfl (ed_var rfl (.int y)) hyin))) (by simp)) (by simp) (fun hb B3 e3 => ?_) (fun hb B3 e3 => ?_)
        · exact s_asgV (ev_var rfl) fun B4 e4 => ⟨e2.trans (e3.trans e4), some (.int x), by rw [st]; simp only [hb, if_true]; rfl⟩
        · exact ⟨e2.trans e3, some (.int x), by rw [st]; simp only [hb, Bool.false_eq_true, if_false]; rfl⟩
    · rw [if_neg z] at st
      refine s_ifM K (b := false) (eb_and (a := false) (b := false) (eb_is (eb_DB (ed_din (ed_var rfl (.int x)) (hget B2 _ "marks" _ e12 rfl h2) (.inl (e12 _ _ hmm)))) (by rw [hk1, decide_eq_false z])) fun z => by cases z) rfl (fun z => by cases z) (fun _ B3 e3 => ?_)
      exact ⟨e2.trans e3, some (.int x), by rw [st]; rfl⟩
  · rintro σ' B2 e2 ⟨w2, rfl⟩
    rw [List.length_map, List.take_length]
    exact go_nx (s_retV (ev_var rfl) fun B3 e3 => k B3 (e1.trans (e2.trans e3)))
end

section
variable {K : PySem.W.Frag} {A B H : Hp} {σ : L2.St} {td : TE} {E : XK} {q : LP} {ex : List (Str × Addr)} {s : DS}
theorem ev_lfirst (D : LDAt K A B q ex s) (e : Ex A B) (hd : Ev td σ B (.ref q.a)) : Ev (tCall (sp_lfirst K) [] E (tCons td tNil)) σ B (optV (lfirst s.marked s.known)) := fun B1 e1 Q q =>
  hd B1 e1 _ fun B2 e2 => by
    obtain ⟨kvs, hm, hmk⟩ := D.im
    have e12 := e1.trans e2
    exact ⟨_, _, _, _, kvs, _, _, rfl, e12 _ _ D.ia, rfl, rfl, e12 _ _ D.il, e12 _ _ hm, hmk.mono (e.trans e12), fun B3 e3 => q B3 (e2.trans e3)⟩
/-- what stands in the dict -/
theorem ev_ld (D : LDAt K A B q ex s) (hd : Ev td σ B (.ref q.a)) {f : Str} {v : V} (hv : valV (ldK q s ex) (.inr f) = some v) : Ev (tDGet td (tC (.str f))) σ B v := ev_dgetS (K := K) hd (.inl D.ia) ed_str hv
end
section
variable {P : Program} {w : World} {K : PySem.W.Frag} {mg : Str → Option Value} {base : Heap} {c : Cs}
def sp_ldesk (K : PySem.W.Frag) : Sp := fun vs H Q _ => ∃ A h, vs = [.int h] ∧ Ex A H ∧ ∀ q H', PrM (fun _ => False) A H A H' → (∀ x ∈ q.foot, H x = none) → LDAt K A H' q [] ⟨h, 0, [], [], [], []⟩ → Q (.ref q.a) H'
theorem ok_ldesk (T : Tx K mg c) : DefOk P w K mg base CX0 1 "_law_desk" ["_law_hand_here"] (sp_ldesk K) := by
  obtain ⟨f, fd, d⟩ := T.d_law_desk
  refine d.ok (d.F.ok sc_law_desk (fun vs H Q E h => ?_) fun cdv A outer s H vs Q E hr h => ?_)
  · obtain ⟨_, _, e, _⟩ := h
    rw [e]
    rfl
  obtain ⟨A0, h, rfl, s0, k⟩ := h
  have nd := sc_law_desk.nd
  refine ⟨_, (pss_one (ps_ret (pe_disp (pps_cons pe_str (pv 0) (pps_cons pe_str pe_int (pps_cons pe_str (pe_lst pa_nil) (pps_cons pe_str pe_dnewK (pps_cons pe_str pe_dnewK (pps_cons pe_str (pe_lst pa_nil) pps_nil)))))) (by rfl) (by rfl) (fun z => by cases z) (by decide)))), ?_⟩
  try dsimp only [cx_K]
  intro pa hpa
  have P1 : PrM (fun _ => False) A0 H A0 (upd H pa (.dK [])) := (PrM.refl s0).new hpa
  generalize hH1 : upd H pa (.dK []) = H1 at P1 ⊢
  have g1 : H1 pa = some (.dK []) := by rw [← hH1]; exact upd_same
  refine ⟨_, rfl, sz_of (by decide), fun pl hpl => ?_⟩
  have n1 : pl ≠ pa := fun z => by rw [z, g1] at hpl; cases hpl
  have P2 := P1.new (o := .lst []) hpl
  have f2 := P1.fresh hpl
  have a2 : (upd H1 pl (.lst [])) pa = some (.dK []) := by rw [upd_ne (Ne.symm n1)]; exact g1
  have l2 : (upd H1 pl (.lst [])) pl = some (.lst []) := upd_same
  generalize upd H1 pl (.lst []) = H2 at P2 a2 l2 ⊢
  intro pm hpm
  have m1 : pm ≠ pa := fun z => by rw [z, a2] at hpm; cases hpm
  have m2 : pm ≠ pl := fun z => by rw [z, l2] at hpm; cases hpm
  have P3 := P2.new (o := .dK []) hpm
  have f3 := P2.fresh hpm
  have a3 : (upd H2 pm (.dK [])) pa = some (.dK []) := by rw [upd_ne (Ne.symm m1)]; exact a2
  have l3 : (upd H2 pm (.dK [])) pl = some (.lst []) := by rw [upd_ne (Ne.symm m2)]; exact l2
  have m3 : (upd H2 pm (.dK [])) pm = some (.dK []) := upd_same
  generalize upd H2 pm (.dK []) = H3 at P3 a3 l3 m3 ⊢
  intro pd hpd
  have d1 : pd ≠ pa := fun z => by rw [z, a3] at hpd; cases hpd
  have d2 : pd ≠ pl := fun z => by rw [z, l3] at hpd; cases hpd
  have d3 : pd ≠ pm := fun z => by rw [z, m3] at hpd; cases hpd
  have P4 := P3.new (o := .dK []) hpd
  have f4 := P3.fresh hpd
  have a4 : (upd H3 pd (.dK [])) pa = some (.dK []) := by rw [upd_ne (Ne.symm d1)]; exact a3
  have l4 : (upd H3 pd (.dK [])) pl = some (.lst []) := by rw [upd_ne (Ne.symm d2)]; exact l3
  have m4 : (upd H3 pd (.dK [])) pm = some (.dK []) := by rw [upd_ne (Ne.symm d3)]; exact m3
  have d4 : (upd H3 pd (.dK [])) pd = some (.dK []) := upd_same
  generalize upd H3 pd (.dK []) = H4 at P4 a4 l4 m4 d4 ⊢
  refine ⟨sz_of (by decide), fun pr hpr => ?_⟩
  have r1 : pr ≠ pa := fun z => by rw [z, a4] at hpr; cases hpr
  have r2 : pr ≠ pl := fun z => by rw [z, l4] at hpr; cases hpr
  have r3 : pr ≠ pm := fun z => by rw [z, m4] at hpr; cases hpr
  have r4 : pr ≠ pd := fun z => by rw [z, d4] at hpr; cases hpr
  have P5 := P4.new (o := .lst []) hpr
  have f5 := P4.fresh hpr
  have a5 : (upd H4 pr (.lst [])) pa = some (.dK []) := by rw [upd_ne (Ne.symm r1)]; exact a4
  have l5 : (upd H4 pr (.lst [])) pl = some (.lst []) := by rw [upd_ne (Ne.symm r2)]; exact l4
  have m5 : (upd H4 pr (.lst [])) pm = some (.dK []) := by rw [upd_ne (Ne.symm r3)]; exact m4
  have d5 : (upd H4 pr (.lst [])) pd = some (.dK []) := by rw [upd_ne (Ne.symm r4)]; exact d4
  have r5 : (upd H4 pr (.lst [])) pr = some (.lst []) := upd_same
  generalize upd H4 pr (.lst []) = H5 at P5 a5 l5 m5 d5 r5 ⊢
  have nA : ∀ x, H x = none → A0 x = none := fun x e => fresh_back s0 e
  have P6 := P5.put (l := pa) (o := .dK (ldK ⟨pa, pl, pm, pd, pr⟩ ⟨h, 0, [], [], [], []⟩ [])) (.inr hpa) (nA _ hpa)
  refine ⟨a5, ldK ⟨pa, pl, pm, pd, pr⟩ ⟨h, 0, [], [], [], []⟩ [], rfl, by show 6 ≤ 15; decide, ?_⟩
  have foot : ∀ x ∈ (LP.mk pa pl pm pd pr).foot, H x = none := fun x hx => by
    simp only [LP.foot, List.mem_cons, List.not_mem_nil, or_false] at hx
    rcases hx with rfl | rfl | rfl | rfl | rfl
    · exact hpa
    · exact f2
    · exact f3
    · exact f4
    · exact f5
  refine k ⟨pa, pl, pm, pd, pr⟩ _ P6 foot ⟨upd_same, ?_, ⟨[], ?_, .nil⟩, ?_, ?_, ?_, fun x hx => nA x (foot x hx), fun e he => absurd he (by simp)⟩
  · show (upd H5 pa _) pl = _
    rw [upd_ne n1]; exact l5
  · show (upd H5 pa _) pm = _
    rw [upd_ne m1]; exact m5
  · show (upd H5 pa _) pd = _
    rw [upd_ne d1]; exact d5
  · show (upd H5 pa _) pr = _
    rw [upd_ne r1]; exact r5
  · simp only [LP.foot, List.nodup_cons, List.mem_cons, List.not_mem_nil, or_false, not_or, not_false_eq_true, List.nodup_nil, and_true]
    exact ⟨⟨Ne.symm n1, Ne.symm m1, Ne.symm d1, Ne.symm r1⟩, ⟨Ne.symm m2, Ne.symm d2, Ne.symm r2⟩, ⟨Ne.symm d3, Ne.symm r3⟩, Ne.symm r4⟩
end
section
variable {P : Program} {w : World} {K : PySem.W.Frag} {mg : Str → Option Value} {base : Heap} {c : Cs}
def sp_lprop (K : PySem.W.Frag) : Sp := fun vs H Q _ => ∃ A q ex s l, vs = [.ref q.a, .int l] ∧ Ex A H ∧ LDAt K A H q ex s ∧ s.size < 80000 ∧ ex.length < 9000 ∧
  ∀ v A' H', PrM (fun x => x ∈ q.foot) A H A' H' → LDAt K A' H' q ex (s.prop l) → Dp K A' v (mkD (s.time + 1, s.hand)) → Q v H'
theorem ok_lprop (T : Tx K mg c) : DefOk P w K mg base CX0 1 "_law_proposed" ["_law_d", "_law_letter_here"] (sp_lprop K) := by
  obtain ⟨f, fd, d⟩ := T.d_law_proposed
  refine d.ok (d.F.ok sc_law_proposed (fun vs H Q E h => ?_) fun cdv A outer s H vs Q E hr h => ?_)
  · obtain ⟨_, _, _, _, _, e, _⟩ := h
    rw [e]
    rfl
  obtain ⟨A0, q, ex, st, l, rfl, s0, hD, hl, hx, k⟩ := h
  have nd := sc_law_proposed.nd
  refine ⟨_, (pss_cons (ps_dput (hu_of hr) (pv 0) pe_str (pe_op op_add (pe_dget (hu_of hr) (pv 0) pe_str (fun _ _ => rfl)) pe_int) rfl)
      (pss_cons (ps_expr (pe_bm PySem.F.plainAttrs_list PySem.F.slot_list_append PySem.F.type_list_append mt_append (pe_dget (hu_of hr) (pv 0) pe_str (fun _ _ => rfl)) (pa_cons (pv 1) pa_nil)))
      (pss_cons (ps_dput (hu_of hr) (pe_dget (hu_of hr) (pv 0) pe_str (fun _ _ => rfl)) (pv 1) (pe_tup (pa_cons (pe_dget (hu_of hr) (pv 0) pe_str (fun _ _ => rfl)) (pa_cons (pe_dget (hu_of hr) (pv 0) pe_str (fun _ _ => rfl)) pa_nil))) rfl)
      (pss_one (ps_ret (pe_dget (hu_of hr) (pe_dget (hu_of hr) (pv 0) pe_str (fun _ _ => rfl)) (pv 1) (fun _ _ => rfl))))))), ?_⟩
  try dsimp only [cx_K]
  obtain ⟨ne1, ne2, ne3, ne4, ne5, ne6, ne7, ne8, ne9, ne10⟩ := hD.ne
  unfold DS.size at hl
  have hlen : ∀ s : DS, (ldK q s ex).length < 100000 := fun s => by unfold ldK; simp only [List.length_cons, List.length_map]; omega
  obtain ⟨kvs, hm, hmk⟩ := hD.im
  -- time
  refine q_do (s_dputS (K := K) (v := .int (st.time + 1)) (v_int (K := K) (ed_Ii (ed_ev (ev_ld hD (ev_var rfl) (v := .int st.time) rfl) (.int _)) ed_int)) (ev_var rfl) ed_str hD.ia (hlen _) fun B1 e1 => go_nx ?_)
  rw [ld_time hD.kx]
  have P2 := ((PrM.refl (F := fun x => x ∈ q.foot) s0).up e1).put (l := q.a) (o := .dK (ldK q ⟨st.hand, st.time + 1, st.known, st.marked, st.done, st.row⟩ ex)) (.inl LP.in_a) (hD.na _ LP.in_a)
  have na : ∀ x, x ≠ q.a → ∀ u, H x = some u → (upd B1 q.a (.dK (ldK q ⟨st.hand, st.time + 1, st.known, st.marked, st.done, st.row⟩ ex))) x = some u := fun x n u e => by rw [upd_ne n]; exact e1 _ _ e
  have a2 : (upd B1 q.a (.dK (ldK q ⟨st.hand, st.time + 1, st.known, st.marked, st.done, st.row⟩ ex))) q.a = some (.dK (ldK q ⟨st.hand, st.time + 1, st.known, st.marked, st.done, st.row⟩ ex)) := upd_same
  generalize upd B1 q.a (.dK (ldK q ⟨st.hand, st.time + 1, st.known, st.marked, st.done, st.row⟩ ex)) = H2 at P2 na a2 ⊢
  have D2 : LDAt K A0 H2 q ex ⟨st.hand, st.time + 1, st.known, st.marked, st.done, st.row⟩ := ⟨a2, na _ (Ne.symm ne1) _ hD.il, ⟨kvs, na _ (Ne.symm ne2) _ hm, hmk⟩, na _ (Ne.symm ne3) _ hD.id, na _ (Ne.symm ne4) _ hD.ir, hD.nd, hD.na, hD.kx⟩
  -- met
  refine q_do (s_app K (d := .int l) P2.s (ev_ld D2 (ev_var rfl) (v := .ref q.l) rfl) (ep_v (ev_var rfl) (.int l)) D2.il (by rw [List.length_map]; show st.known.length < 100000; omega) fun v3 A3 B3 P3 hv3 => go_nx ?_)
  cases hv3
  have hmm : (DS.mk st.hand (st.time + 1) st.known st.marked st.done st.row).known.map V.int ++ [V.int l] = (st.known ++ [l]).map V.int := by rw [List.map_append]; rfl
  rw [hmm]
  have D3 := D2.pr P3
  have P4 := (P2.pr P3).put (l := q.l) (o := .lst ((st.known ++ [l]).map V.int)) (.inl LP.in_l) (D3.na _ LP.in_l)
  have nl : ∀ x, x ≠ q.l → ∀ u, B3 x = some u → (upd B3 q.l (.lst ((st.known ++ [l]).map V.int))) x = some u := fun x n u e => by rw [upd_ne n]; exact e
  have l4 : (upd B3 q.l (.lst ((st.known ++ [l]).map V.int))) q.l = some (.lst ((st.known ++ [l]).map V.int)) := upd_same
  generalize upd B3 q.l (.lst ((st.known ++ [l]).map V.int)) = H4 at P4 nl l4 ⊢
  obtain ⟨kvs3, hm3, hmk3⟩ := D3.im
  have D4 : LDAt K A3 H4 q ex ⟨st.hand, st.time + 1, st.known ++ [l], st.marked, st.done, st.row⟩ := ⟨nl _ ne1 _ D3.ia, l4, ⟨kvs3, nl _ (Ne.symm ne5) _ hm3, hmk3⟩, nl _ (Ne.symm ne6) _ D3.id, nl _ (Ne.symm ne7) _ D3.ir, hD.nd, D3.na, hD.kx⟩
  -- marks
  have m4 := nl _ (Ne.symm ne5) _ hm3
  refine q_do (s_dput K (d := mkD (st.time + 1, st.hand)) P4.s (ep_tup (epa_cons (ep_i (ed_ev (ev_ld D4 (ev_var rfl) (v := .int (st.time + 1)) rfl) (.int _))) (epa_cons (ep_i (ed_ev (ev_ld D4 (ev_var rfl) (v := .int st.hand) rfl) (.int _))) epa_nil)) (by show 2 ≤ 100000; decide)) (ev_ld D4 (ev_var rfl) (v := .ref q.m) rfl) (ed_var rfl (.int l)) m4 (by rw [hmk3.len]; show st.marked.length < 100000; omega) fun v5 A5 B5 P5 hv5 => go_nx ?_)
  have D5 := D4.pr P5
  have P6 := (P4.pr P5).put (l := q.m) (o := .dK (putK kvs3 (.inl l) v5)) (.inl LP.in_m) (D5.na _ LP.in_m)
  have hm6 := (hmk3.mono P5.a).put (i := l) (m := (st.time + 1, st.hand)) hv5
  have nm : ∀ x, x ≠ q.m → ∀ u, B5 x = some u → (upd B5 q.m (.dK (putK kvs3 (.inl l) v5))) x = some u := fun x n u e => by rw [upd_ne n]; exact e
  have m6 : (upd B5 q.m (.dK (putK kvs3 (.inl l) v5))) q.m = some (.dK (putK kvs3 (.inl l) v5)) := upd_same
  generalize upd B5 q.m (.dK (putK kvs3 (.inl l) v5)) = H6 at P6 nm m6 ⊢
  have D6 : LDAt K A5 H6 q ex (st.prop l) := ⟨nm _ ne2 _ D5.ia, nm _ ne5 _ D5.il, ⟨_, m6, hm6⟩, nm _ (Ne.symm ne8) _ D5.id, nm _ (Ne.symm ne9) _ D5.ir, hD.nd, D5.na, hD.kx⟩
  obtain ⟨v7, hv7, hd7⟩ := hm6.lk (lk_put l (st.time + 1, st.hand) st.marked)
  refine s_retV (ev_dget (K := K) (ev_ld D6 (ev_var rfl) (v := .ref q.m) rfl) (.inl m6) (ed_var rfl (.int l)) hv7) fun B8 e8 => ?_
  exact k v7 A5 B8 (P6.up e8) (D6.up P6.s e8) hd7
end

section
variable {K : PySem.W.Frag} {H : Hp} {σ : L2.St} {td ty te : TE} {ds : List D} {Dd : Ends} {m p : Addr} {xs : List V}
theorem s_dputSN {kvs : List (Key × V)} {i : Str} (hv : EvN K te σ H ds) (hd : Ev td σ H (.ref m)) (hi : EvD K ty σ H (.str i)) (hm : H m = some (.dK kvs)) (hl : kvs.length < 100000)
    (k : ∀ p ys B', H p = none → Ex H B' → B' p = some (.lst ys) → DpAll K B' ys ds → Dd.nx σ (upd B' m (.dK (putK kvs (.inr i) (.ref p))))) : sDPut td ty te Dd σ H :=
  hv H H (Ex.refl _) (Ex.refl _) _ fun p xs A1 B1 hp P hA h1 hx => hd B1 P.b _ fun B2 e2 => v_str hi B2 (P.b.trans e2) _ fun B3 e3 =>
    ⟨m, _, rfl, .inl ⟨kvs, .inr i, e3 _ _ (e2 _ _ (P.b _ _ hm)), rfl, sz_lt hl, rfl⟩, k p xs B3 hp ((P.b.trans e2).trans e3) ((e2.trans e3) _ _ h1) (dpa_ex (P.s.trans (e2.trans e3)) hx)⟩
theorem ek_v (h : Ev te σ H (.ref p)) (hp : H p = some (.lst xs)) (ha : DpAll K H xs ds) : EvK K te σ H ds := fun A B e s Q q => h B (e.trans s) _ fun B' e2 => q p xs A B' (Pr.up s e2) (e2 _ _ (s _ _ (e _ _ hp))) (dpa_ex e ha)
theorem at_last (l : List Int) (x : Int) : atI ((l ++ [x]).map PyData.int) (-1) = some (.int x) := by
  have h1 : ixN ((l ++ [x]).map PyData.int).length (-1) = some l.length := by
    rw [List.length_map, List.length_append, List.length_singleton]
    unfold ixN
    rw [if_neg (by decide), if_pos (by omega)]
    congr 1
    omega
  unfold atI
  rw [h1]
  show ((l ++ [x]).map PyData.int)[l.length]? = _
  rw [List.getElem?_map, List.getElem?_append_right (Nat.le_refl _)]
  simp
end
section
variable {P : Program} {w : World} {K : PySem.W.Frag} {mg : Str → Option Value} {base : Heap} {c : Cs}
def sp_lset (K : PySem.W.Frag) : Sp := fun vs H Q _ => ∃ A q ex s l vm m, vs = [.ref q.a, .int l, vm] ∧ Ex A H ∧ Dp K A vm (mkD m) ∧ LDAt K A H q ex s ∧ Good s ∧ l ∈ s.keys ∧ l ∉ s.done ∧ s.size < 80000 ∧ ex.length < 9000 ∧
  ∀ r x A' H', PrM (fun x => x ∈ q.foot) A H A' H' → H r = none → H x = none → r ≠ x → LDAt K A' H' ⟨q.a, q.l, q.m, q.d, r⟩ ex (s.set1 l m).run.1 → A' x = none → H' x = some (.lst ((s.set1 l m).run.2.map V.int)) → Q (.ref x) H'
theorem ok_lset (T : Tx K mg c) : DefOk P w K mg base CX0 2 "_law_settled" ["_law_d", "_law_letter_here", "_law_mark_here"] (sp_lset K) := by
  obtain ⟨f, fd, d⟩ := T.d_law_settled
  refine d.ok (d.F.ok sc_law_settled (fun vs H Q E h => ?_) fun cdv A outer s H vs Q E hr h => ?_)
  · obtain ⟨_, _, _, _, _, _, _, e, _⟩ := h
    rw [e]
    rfl
  obtain ⟨A0, q, ex, st, l, vm, m, rfl, s0, hvm, hD, hg, hin, hnd, hl, hx, k⟩ := h
  have nd := sc_law_settled.nd
  have G_law_first := ok_lfirst (P := P) (w := w) (base := base) T
  refine ⟨_, (pss_cons (ps_dput (hu_of hr) (pe_dget (hu_of hr) (pv 0) pe_str (fun _ _ => rfl)) (pv 1) (pv 2) rfl)
      (pss_cons (ps_dput (hu_of hr) (pe_dget (hu_of hr) (pv 0) pe_str (fun _ _ => rfl)) (pv 1) pe_bl rfl)
      (pss_cons (ps_dput (hu_of hr) (pv 0) pe_str (pe_callB (c_max2 rfl) rfl T.mn_max (by decide +kernel) (pa_cons (pe_dget (hu_of hr) (pv 0) pe_str (fun _ _ => rfl)) (pa_cons (pe_ix (ixT (K := K) rfl) (pv 2) pe_int (fun _ _ => rfl)) pa_nil))) rfl)
      (pss_cons (ps_set (i := 3) nd rfl (Or.inl rfl) (pe_lst pa_nil))
      (pss_cons (ps_while PassesOwn.never (PW.pt (pw_and (pt_cmpR op_notN1 (pe_cd G_law_first (hr.mono (by decide)) rfl pass0 (pa_cons (pv 0) pa_nil)) pe_non (nomark _)) (pw_and1 (pt_cmp (pc_din (hu_of hr) (pe_cd G_law_first (hr.mono (by decide)) rfl pass0 (pa_cons (pv 0) pa_nil)) (pe_dget (hu_of hr) (pv 0) pe_str (fun _ _ => rfl))))))) (pss_cons (ps_expr (pe_bm PySem.F.plainAttrs_list PySem.F.slot_list_append PySem.F.type_list_append mt_append (pv 3) (pa_cons (pe_cd G_law_first (hr.mono (by decide)) rfl pass0 (pa_cons (pv 0) pa_nil)) pa_nil)))
        (pss_one (ps_expr (pe_dpop1 (pe_dget (hu_of hr) (pv 0) pe_str (fun _ _ => rfl)) (pe_ix (ixL (K := K) rfl) (pv 3) (pe_un un_neg pe_int) (fun _ _ => rfl)) ⟨rfl, rfl, rfl, rfl⟩)))))
      (pss_cons (ps_dput (hu_of hr) (pv 0) pe_str (pe_op op_cat (pe_dget (hu_of hr) (pv 0) pe_str (fun _ _ => rfl)) (pv 3)) rfl)
      (pss_one (ps_ret (pv 3))))))))), ?_⟩
  try dsimp only [cx_K]
  obtain ⟨ne1, ne2, ne3, ne4, ne5, ne6, ne7, ne8, ne9, ne10⟩ := hD.ne
  unfold DS.size at hl
  have hlen : ∀ q (s : DS), (ldK q s ex).length < 100000 := fun q s => by unfold ldK; simp only [List.length_cons, List.length_map]; omega
  obtain ⟨kvs0, hm0, hmk0⟩ := hD.im
  -- marks
  refine q_do (s_dput K s0 (ep_v (ev_var rfl) hvm) (ev_ld hD (ev_var rfl) (v := .ref q.m) rfl) (ed_var rfl (.int l)) hm0 (by rw [hmk0.len]; omega) fun v1 A1 B1 P1 hv1 => go_nx ?_)
  have D1 := hD.pr P1
  have P2 := ((PrM.refl (F := fun x => x ∈ q.foot) s0).pr P1).put (l := q.m) (o := .dK (putK kvs0 (.inl l) v1)) (.inl LP.in_m) (D1.na _ LP.in_m)
  have hm2 := (hmk0.mono P1.a).put (i := l) (m := m) hv1
  have nm : ∀ x, x ≠ q.m → ∀ u, B1 x = some u → (upd B1 q.m (.dK (putK kvs0 (.inl l) v1))) x = some u := fun x n u e => by rw [upd_ne n]; exact e
  have m2 : (upd B1 q.m (.dK (putK kvs0 (.inl l) v1))) q.m = some (.dK (putK kvs0 (.inl l) v1)) := upd_same
  generalize upd B1 q.m (.dK (putK kvs0 (.inl l) v1)) = H2 at P2 nm m2 ⊢
  have D2 : LDAt K A1 H2 q ex ⟨st.hand, st.time, st.known, putM st.marked l m, st.done, st.row⟩ := ⟨nm _ ne2 _ D1.ia, nm _ ne5 _ D1.il, ⟨_, m2, hm2⟩, nm _ (Ne.symm ne8) _ D1.id, nm _ (Ne.symm ne9) _ D1.ir, hD.nd, D1.na, hD.kx⟩
  -- done
  refine q_do (s_dput K (d := .bool true) P2.s (ep_ed ed_bl) (ev_ld D2 (ev_var rfl) (v := .ref q.d) rfl) (ed_var rfl (.int l)) D2.id (by rw [flags, List.length_map]; show st.done.length < 100000; omega) fun v3 A3 B3 P3 hv3 => go_nx ?_)
  cases hv3
  rw [flags_put hnd]
  have D3 := D2.pr P3
  have P4 := (P2.pr P3).put (l := q.d) (o := .dK (flags (st.done ++ [l]))) (.inl LP.in_d) (D3.na _ LP.in_d)
  have nD : ∀ x, x ≠ q.d → ∀ u, B3 x = some u → (upd B3 q.d (.dK (flags (st.done ++ [l])))) x = some u := fun x n u e => by rw [upd_ne n]; exact e
  have d4 : (upd B3 q.d (.dK (flags (st.done ++ [l])))) q.d = some (.dK (flags (st.done ++ [l]))) := upd_same
  generalize upd B3 q.d (.dK (flags (st.done ++ [l]))) = H4 at P4 nD d4 ⊢
  obtain ⟨kvs3, hm3, hmk3⟩ := D3.im
  have D4 : LDAt K A3 H4 q ex ⟨st.hand, st.time, st.known, putM st.marked l m, st.done ++ [l], st.row⟩ := ⟨nD _ ne3 _ D3.ia, nD _ ne6 _ D3.il, ⟨_, nD _ ne8 _ hm3, hmk3⟩, d4, nD _ (Ne.symm ne10) _ D3.ir, hD.nd, D3.na, hD.kx⟩
  -- time
  have hx4 : Dp K H4 vm (.tuple [.int m.1, .int m.2]) := dp_ex P4.s (dp_ex P4.a hvm)
  refine q_do (s_dputS (K := K) (v := .int (if m.1 > st.time then m.1 else st.time)) (v_int (K := K) (ed_max2 (ed_ev (ev_ld D4 (ev_var rfl) (v := .int st.time) rfl) (.int _)) (ed_ixT (ed_var rfl hx4) ed_int rfl))) (ev_var rfl) ed_str D4.ia (hlen _ _) fun B5 e5 => go_nx ?_)
  rw [ld_time hD.kx]
  have hs1 : DS.mk st.hand (if m.1 > st.time then m.1 else st.time) st.known (putM st.marked l m) (st.done ++ [l]) st.row = st.set1 l m := rfl
  have hld : ldK q ⟨st.hand, if m.1 > st.time then m.1 else st.time, st.known, putM st.marked l m, st.done ++ [l], st.row⟩ ex = ldK q (st.set1 l m) ex := rfl
  rw [hld]
  have P6 := (P4.up e5).put (l := q.a) (o := .dK (ldK q (st.set1 l m) ex)) (.inl LP.in_a) (D4.na _ LP.in_a)
  have na : ∀ x, x ≠ q.a → ∀ u, H4 x = some u → (upd B5 q.a (.dK (ldK q (st.set1 l m) ex))) x = some u := fun x n u e => by rw [upd_ne n]; exact e5 _ _ e
  have a6 : (upd B5 q.a (.dK (ldK q (st.set1 l m) ex))) q.a = some (.dK (ldK q (st.set1 l m) ex)) := upd_same
  generalize upd B5 q.a (.dK (ldK q (st.set1 l m) ex)) = H6 at P6 na a6 ⊢
  obtain ⟨kvs4, hm4, hmk4⟩ := D4.im
  have D6 : LDAt K A3 H6 q ex (st.set1 l m) := ⟨a6, na _ (Ne.symm ne1) _ D4.il, ⟨_, na _ (Ne.symm ne2) _ hm4, hmk4⟩, na _ (Ne.symm ne3) _ D4.id, na _ (Ne.symm ne4) _ D4.ir, hD.nd, D4.na, hD.kx⟩
  have g1 : Good (st.set1 l m) := hg.set1 hin
  have hml : (st.set1 l m).marked.length = st.marked.length := put_len hin
  have hrow : (st.set1 l m).row = st.row := rfl
  generalize st.set1 l m = s1 at D6 P6 g1 k hml hrow ⊢
  -- found
  refine q_asgL fun qf hqf => ?_
  have hqH : H qf = none := P6.fresh hqf
  have nqf : ∀ x ∈ q.foot, x ≠ qf := fun x hx z => hD.alive x hx (z ▸ hqH)
  have P7 := P6.new (o := .lst []) hqf
  have D7 : LDAt K A3 (upd H6 qf (.lst [])) q ex s1 := D6.up P6.s (Ex.new hqf)
  have b7 : (upd H6 qf (.lst [])) qf = some (.lst []) := upd_same
  have nA7 : A3 qf = none := fresh_back P6.s hqf
  generalize upd H6 qf (.lst []) = H7 at P7 D7 b7 ⊢
  let J : Nat → L2.St → Hp → Prop := fun n σ B => ∃ (s2 : DS) (gone : List Int) (A' : Hp), σ = [some (.ref q.a), some (.int l), some vm, some (.ref qf)] ∧ s2.marked.length = n ∧ s1.run = (s2.run.1, gone ++ s2.run.2) ∧ Good s2 ∧ s2.row = s1.row ++ gone ∧ gone.length + n ≤ s1.marked.length ∧
    PrM (fun x => x ∈ q.foot) A0 H A' B ∧ LDAt K A' B q ex ⟨s2.hand, s2.time, s2.known, s2.marked, s2.done, s1.row⟩ ∧ A' qf = none ∧ B qf = some (.lst (gone.map V.int))
  refine ⟨J, ⟨s1.marked.length, s1, [], A3, rfl, rfl, rfl, g1, (List.append_nil _).symm, by simp, P7, D7, nA7, b7⟩, ?_⟩
  rintro n σ B ⟨s2, gone, A', rfl, hn, hrun, g2, hro, hgl, PB, DB, nq1, b1⟩
  -- the end: the row
  have fin : ∀ Dd : Ends, Dd.rt = Q → ∀ B4, Ex B B4 → s1.run = (s2, gone) → tSeq (sDPut (tVar 0) (tC (.str "row")) (tOp rCat (tDGet (tVar 0) (tC (.str "row"))) (tVar 3))) (tRet (tVar 3)) Dd [some (.ref q.a), some (.int l), some vm, some (.ref qf)] B4 := fun Dd hrt B4 e4 hr2 => by
    have PB4 := PB.up e4
    have D4 := DB.up PB.s e4
    have hb4 := e4 _ _ b1
    refine q_do (s_dputSN (K := K) (ds := s1.row.map PyData.int ++ gone.map PyData.int) (en_cat (ek_v (ev_ld D4 (ev_var rfl) (v := .ref q.r) rfl) D4.ir dpa_ints) (ek_var rfl hb4 dpa_ints) ?_) (ev_var rfl) ed_str D4.ia (hlen _ _) fun r ys B5 hr5 e5 hb5 hys => go_nx ?_)
    · rw [List.length_map, List.length_map, hrow]
      omega
    rw [← List.map_append] at hys
    rw [dpa_ints_inv hys] at hb5
    rw [ld_row hD.kx]
    have hrB : ∀ x, B4 x ≠ none → x ≠ r := fun x h z => h (z ▸ hr5)
    have n1 : r ≠ q.a := Ne.symm (hrB _ (D4.alive _ LP.in_a))
    have P8 := (PB4.up e5).put (l := q.a) (o := .dK (ldK ⟨q.a, q.l, q.m, q.d, r⟩ ⟨s2.hand, s2.time, s2.known, s2.marked, s2.done, s1.row⟩ ex)) (.inl LP.in_a) (DB.na _ LP.in_a)
    have nn : ∀ x, x ≠ q.a → ∀ u, B5 x = some u → (upd B5 q.a (.dK (ldK ⟨q.a, q.l, q.m, q.d, r⟩ ⟨s2.hand, s2.time, s2.known, s2.marked, s2.done, s1.row⟩ ex))) x = some u := fun x n u e => by rw [upd_ne n]; exact e
    have a8 : (upd B5 q.a (.dK (ldK ⟨q.a, q.l, q.m, q.d, r⟩ ⟨s2.hand, s2.time, s2.known, s2.marked, s2.done, s1.row⟩ ex))) q.a = some (.dK (ldK ⟨q.a, q.l, q.m, q.d, r⟩ ⟨s2.hand, s2.time, s2.known, s2.marked, s2.done, s1.row⟩ ex)) := upd_same
    generalize upd B5 q.a (.dK (ldK ⟨q.a, q.l, q.m, q.d, r⟩ ⟨s2.hand, s2.time, s2.known, s2.marked, s2.done, s1.row⟩ ex)) = H8 at P8 nn a8 ⊢
    obtain ⟨kv4, hm4, hmk4⟩ := D4.im
    have nrA : A' r = none := fresh_back (PB.s.trans e4) hr5
    have D8 : LDAt K A' H8 ⟨q.a, q.l, q.m, q.d, r⟩ ex s2 := by
      refine ⟨a8, nn _ (Ne.symm ne1) _ (e5 _ _ D4.il), ⟨_, nn _ (Ne.symm ne2) _ (e5 _ _ hm4), hmk4⟩, nn _ (Ne.symm ne3) _ (e5 _ _ D4.id), ?_, ?_, ?_, hD.kx⟩
      · rw [hro]
        exact nn _ n1 _ hb5
      · simp only [LP.foot, List.nodup_cons, List.mem_cons, List.not_mem_nil, or_false, not_or, not_false_eq_true, List.nodup_nil, and_true]
        exact ⟨⟨ne1, ne2, ne3, Ne.symm n1⟩, ⟨ne5, ne6, hrB _ (D4.alive _ LP.in_l)⟩, ⟨ne8, hrB _ (D4.alive _ LP.in_m)⟩, hrB _ (D4.alive _ LP.in_d)⟩
      · intro x hx
        simp only [LP.foot, List.mem_cons, List.not_mem_nil, or_false] at hx
        rcases hx with rfl | rfl | rfl | rfl | rfl
        · exact DB.na _ LP.in_a
        · exact DB.na _ LP.in_l
        · exact DB.na _ LP.in_m
        · exact DB.na _ LP.in_d
        · exact nrA
    have b8 := nn _ (Ne.symm (nqf _ LP.in_a)) _ (e5 _ _ hb4)
    refine s_retV (ev_var rfl) fun B9 e9 => ?_
    show Dd.rt _ _
    rw [hrt]
    refine k r qf A' B9 (P8.up e9) (PB4.fresh hr5) hqH (Ne.symm (hrB _ (by rw [hb4]; simp))) (by rw [hr2]; exact D8.up P8.s e9) nq1 (by rw [hr2]; exact e9 _ _ b8)
  have hlf : lfirst s2.marked s2.known = s2.first := lfirst_eq g2
  have ef : ∀ B4 (E : XK), Ex B B4 → Ev (tCall (sp_lfirst K) [] E (tCons (tVar 0) tNil)) [some (.ref q.a), some (.int l), some vm, some (.ref qf)] B4 (optV s2.first) := fun B4 E e4 => by
    have := ev_lfirst (E := E) (DB.up PB.s e4) (PB.s.trans e4) (ev_var (σ := [some (.ref q.a), some (.int l), some vm, some (.ref qf)]) (i := 0) rfl)
    rw [hlf] at this
    exact this
  cases hf : s2.first with
  | none =>
    refine (eb_is (eb_and (a := false) (b := false) (eb_is (eb_D (ed_notN (ed_v (ef B _ (Ex.refl _)) (dp_opt _)))) (by rw [hf]; rfl)) fun z => by cases z) rfl : EvB K _ _ B false) B (Ex.refl _) _ fun B3 e3 => iteF ?_
    refine fin _ rfl B3 e3 ?_
    rw [hrun, DS.run_none hf, List.append_nil]
  | some x =>
    have ex1 : ∀ B4 (E : XK), Ex B B4 → Ev (tCall (sp_lfirst K) [] E (tCons (tVar 0) tNil)) [some (.ref q.a), some (.int l), some vm, some (.ref qf)] B4 (.int x) := fun B4 E e4 => by
      have := ef B4 E e4
      rw [hf] at this
      exact this
    refine (eb_is (eb_and (a := true) (b := decide (x ∈ s2.done)) (eb_is (eb_D (ed_notN (ed_v (ex1 B _ (Ex.refl _)) (.int x)))) rfl) fun _ => eb_is (eb_DB (ed_din (ed_v (ex1 B _ (Ex.refl _)) (.int x)) (ev_ld DB (ev_var rfl) (v := .ref q.d) rfl) (.inl DB.id))) (flags_val _ _)) rfl : EvB K _ _ B (decide (x ∈ s2.done))) B (Ex.refl _) _ fun B3 e3 => ?_
    by_cases hd : x ∈ s2.done
    · rw [decide_eq_true hd]
      refine iteT ⟨fun σ' B' => ∃ m', m' < n ∧ J m' σ' B', fun σ' B' h => h, ?_⟩
      have hlt : (s2.hand1 x).marked.length < s2.marked.length := drop_lt (DS.first_mem hf)
      have PB3 := PB.up e3
      have D3 := DB.up PB.s e3
      refine q_do (s_app K (d := .int x) PB3.s (ev_var rfl) (ep_v (ex1 B3 _ e3) (.int x)) (e3 _ _ b1) (by rw [List.length_map]; omega) fun v5 A5 B5 P5 hv5 => go_nx ?_)
      cases hv5
      have hgg : gone.map V.int ++ [V.int x] = (gone ++ [x]).map V.int := by rw [List.map_append]; rfl
      rw [hgg]
      have nq5 : A5 qf = none := P5.n _ nq1 (by rw [e3 _ _ b1]; simp)
      have P6 := (PB3.pr P5).put (l := qf) (o := .lst ((gone ++ [x]).map V.int)) (.inr hqH) nq5
      have PQ := ((PrM.refl (F := fun x => x = qf) PB3.s).pr P5).put (l := qf) (o := .lst ((gone ++ [x]).map V.int)) (.inl rfl) nq5
      have D6 := D3.mono PQ fun y hy z => nqf y hy z
      have b6 : (upd B5 qf (.lst ((gone ++ [x]).map V.int))) qf = some (.lst ((gone ++ [x]).map V.int)) := upd_same
      generalize upd B5 qf (.lst ((gone ++ [x]).map V.int)) = H6 at P6 PQ D6 b6 ⊢
      obtain ⟨kvs, hm, hmk⟩ := D6.im
      obtain ⟨mk, hmk'⟩ := lk_mem (DS.first_mem hf)
      obtain ⟨v, hv1, hv2⟩ := hmk.lk hmk'
      refine s_dpop K (ev_ld D6 (ev_var rfl) (v := .ref q.m) rfl) (ed_ixL (ed_var rfl (Dp.lst (sq_of b6) dpa_ints)) (ed_neg ed_int) (at_last gone x)) hm hv1 fun B7 e7 => ?_
      have P8 := (P6.up e7).put (l := q.m) (o := .dK (dropK kvs (.inl x))) (.inl LP.in_m) (D6.na _ LP.in_m)
      have nm : ∀ y, y ≠ q.m → ∀ u, H6 y = some u → (upd B7 q.m (.dK (dropK kvs (.inl x)))) y = some u := fun y n u e => by rw [upd_ne n]; exact e7 _ _ e
      refine ⟨(s2.hand1 x).marked.length, by omega, s2.hand1 x, gone ++ [x], A5, rfl, rfl, ?_, g2.drop x, ?_, ?_, P8, ⟨nm _ ne2 _ D6.ia, nm _ ne5 _ D6.il, ⟨_, upd_same, hmk.drop⟩, nm _ (Ne.symm ne8) _ D6.id, nm _ (Ne.symm ne9) _ D6.ir, hD.nd, D6.na, hD.kx⟩, nq5, nm _ (Ne.symm (nqf _ LP.in_m)) _ b6⟩
      · rw [hrun, DS.run_go hf hd]
        simp
      · show s2.row ++ [x] = _
        rw [hro, List.append_assoc]
      · rw [List.length_append, List.length_singleton]
        omega
    · rw [decide_eq_false hd]
      refine iteF (fin _ rfl B3 e3 ?_)
      rw [hrun, DS.run_stop hf hd, List.append_nil]
end

end K8

namespace K8
open PySem L2 Evl Ob

local macro_rules | `(tactic| tm_at "sh") => `(tactic| first | exact sh_mk | exact sh_mks | exact sh_b3)

section
variable {P : Program} {w : World} {K : PySem.W.Frag} {mg : Str → Option Value} {base : Heap} {c : Cs}
/-- a whole number, no truth -/
def isW : D → Bool
  | .int _ => true
  | _ => false
def sp_whole (K : PySem.W.Frag) : Sp := spF K (fun d : D => [d]) (fun _ => True) (fun d => .bool (isW d))
theorem at_whole (d : D) : SpD K (sp_whole K) [d] (.bool (isW d)) := spF_at d trivial
theorem ok_whole (T : Tx K mg c) : DefOk P w K mg base CX0 1 "_law_whole" ["_law_found"] (sp_whole K) := by
  obtain ⟨f, fd, d⟩ := T.d_law_whole
  refine d.ok (d.F.ok sc_law_whole (fun vs H Q E h => spF_len h fun _ => rfl) fun cdv A outer s H vs Q E hr h => ?_)
  obtain ⟨A0, x, _, s0, ha, k⟩ := h
  obtain ⟨v1, rfl, h1⟩ := dpa1 ha
  have nd := sc_law_whole.nd
  refine ⟨_, (pss_one (ps_ret (pe_and (pe_callB (c_isi (K := K) rfl) rfl T.mn_isinstance (by decide +kernel) (pa_cons (pv 0) (pa_cons (pe_ty (T := "int") rfl T.mn_int (by decide +kernel)) pa_nil))) (pe_one (pe_not (pe_callB (c_isi (K := K) rfl) rfl T.mn_isinstance (by decide +kernel) (pa_cons (pv 0) (pa_cons (pe_ty (T := "bool") rfl T.mn_bool (by decide +kernel)) pa_nil)))))))), ?_⟩
  try dsimp only [cx_K]
  cases x with
  | dict kvs => cases h1
  | none => exact s_retK K s0 (by tm_at "ed") (by rfl) k
  | bool b => exact s_retK K s0 (by tm_at "ed") (by rfl) k
  | int b => exact s_retK K s0 (by tm_at "ed") (by rfl) k
  | str b => exact s_retK K s0 (by tm_at "ed") (by rfl) k
  | list b => exact s_retK K s0 (by tm_at "ed") (by rfl) k
  | tuple b => exact s_retK K s0 (by tm_at "ed") (by rfl) k
end
local macro_rules | `(tactic| tm_at "fn") => `(tactic| exact at_whole _)

section
variable {P : Program} {w : World} {K : PySem.W.Frag} {mg : Str → Option Value} {base : Heap} {c : Cs}
theorem at_map {α : Type} (f : α → D) {xs : List α} {i : Nat} {x : α} (h : xs[i]? = some x) : atI (xs.map f) (i : Int) = some (f x) := by
  have hl := (List.getElem?_eq_some_iff.mp h).1
  unfold atI
  rw [show ixN (xs.map f).length (i : Int) = some i from ixN_nat (by rw [List.length_map]; exact hl)]
  show (xs.map f)[i]? = _
  rw [List.getElem?_map, h]
  rfl
/-- a cell of the script, nought behind its end -/
def cell (ns : List Int) (k : Int) : Int := ns.getD k.toNat 0
def sp_cell (K : PySem.W.Frag) : Sp := spF K (fun x : List Int × Int => [.list (x.1.map .int), .int x.2]) (fun x => 0 ≤ x.2) (fun x => .int (cell x.1 x.2))
theorem at_cell {ns : List Int} {k : Int} (h : 0 ≤ k) : SpD K (sp_cell K) [.list (ns.map .int), .int k] (.int (cell ns k)) := spF_at (ns, k) h
theorem cell_at {ns : List Int} {k : Int} (h : 0 ≤ k) (hk : k < ns.length) : atI (ns.map PyData.int) k = some (.int (cell ns k)) := by
  obtain ⟨j, rfl⟩ : ∃ j : Nat, k = (j : Int) := ⟨k.toNat, by omega⟩
  have hj : j < ns.length := by omega
  refine at_map _ ?_
  unfold cell
  rw [show ((j : Int)).toNat = j by omega, List.getElem?_eq_getElem hj, List.getD_eq_getElem?_getD, List.getElem?_eq_getElem hj]
  rfl
theorem ok_cell (T : Tx K mg c) : DefOk P w K mg base CX0 1 "_law_cell_at" ["_law_script", "_law_k"] (sp_cell K) := by
  obtain ⟨f, fd, d⟩ := T.d_law_cell_at
  refine d.ok (d.F.ok sc_law_cell_at (fun vs H Q E h => spF_len h fun _ => rfl) fun cdv A outer s H vs Q E hr h => ?_)
  obtain ⟨A0, ⟨ns, x⟩, hx, s0, ha, k⟩ := h
  obtain ⟨v1, v2, rfl, h1, h2⟩ := dpa2 ha
  have nd := sc_law_cell_at.nd
  refine ⟨_, (pss_cons (ps_if (pt_cmpR op_lt (pv 1) (pe_callB (c_len (K := K) rfl) rfl T.mn_len (by decide +kernel) (pa_cons (pv 0) pa_nil)) (nomark _)) (pss_one (ps_ret (pe_ix (ixL (K := K) rfl) (pv 0) (pv 1) (fun _ _ => rfl)))) pss_nil)
      (pss_one (ps_ret pe_int))), ?_⟩
  try dsimp only [cx_K]
  have hx : 0 ≤ x := hx
  refine q_ifD K s0 (b := decide (x < ((ns.map PyData.int).length : Int))) (by tm_at "et") (fun hb B4 P4 => ?_) (fun hb B4 P4 => ?_)
  · have hb := of_decide_eq_true hb
    rw [List.length_map] at hb
    have := cell_at hx hb
    exact s_retK K P4.s (d := .int (cell ns x)) (by tm_at "ed") (by rfl) fun v A' B' P5 hv => k v A' B' (by tm_at "pr") hv
  · have hb := of_decide_eq_false hb
    rw [List.length_map] at hb
    refine q_next ?_
    refine s_retK K P4.s (by tm_at "ed") (d' := .int (cell ns x)) ?_ fun v A' B' P5 hv => k v A' B' (by tm_at "pr") hv
    unfold cell
    rw [List.getD_eq_getElem?_getD, List.getElem?_eq_none (by omega)]
    rfl
end
local macro_rules | `(tactic| tm_at "fn") => `(tactic| exact at_cell (by decide))

section
variable {P : Program} {w : World} {K : PySem.W.Frag} {mg : Str → Option Value} {base : Heap} {c : Cs}
def isMk : D → Bool
  | .tuple [a, b] => isW a && isW b
  | _ => false
def sp_mark (K : PySem.W.Frag) : Sp := spF K (fun d : D => [d]) (fun _ => True) (fun d => .bool (isMk d))
theorem at_mark (d : D) : SpD K (sp_mark K) [d] (.bool (isMk d)) := spF_at d trivial
theorem ok_mark (T : Tx K mg c) : DefOk P w K mg base CX0 2 "_law_mark" ["_law_found"] (sp_mark K) := by
  obtain ⟨f, fd, d⟩ := T.d_law_mark
  refine d.ok (d.F.ok sc_law_mark (fun vs H Q E h => spF_len h fun _ => rfl) fun cdv A outer s H vs Q E hr h => ?_)
  obtain ⟨A0, x, _, s0, ha, k⟩ := h
  obtain ⟨v1, rfl, h1⟩ := dpa1 ha
  have nd := sc_law_mark.nd
  have G_law_whole := ok_whole (P := P) (w := w) (base := base) T
  refine ⟨_, (pss_cons (ps_if (PW.pt (pw_or (pt_not (pt_val (pe_callB (c_isi (K := K) rfl) rfl T.mn_isinstance (by decide +kernel) (pa_cons (pv 0) (pa_cons (pe_ty (T := "tuple") rfl T.mn_tuple (by decide +kernel)) pa_nil))))) (pw_or1 (pt_cmpR op_ne (pe_callB (c_len (K := K) rfl) rfl T.mn_len (by decide +kernel) (pa_cons (pv 0) pa_nil)) pe_int (nomark _))))) (pss_one (ps_ret pe_bl)) pss_nil)
      (pss_one (ps_ret (pe_and (pe_cd G_law_whole (hr.mono (by decide)) rfl pass0 (pa_cons (pe_ix (ixT (K := K) rfl) (pv 0) pe_int (fun _ _ => rfl)) pa_nil)) (pe_one (pe_cd G_law_whole (hr.mono (by decide)) rfl pass0 (pa_cons (pe_ix (ixT (K := K) rfl) (pv 0) pe_int (fun _ _ => rfl)) pa_nil))))))), ?_⟩
  try dsimp only [cx_K]
  cases x with
  | dict kvs => cases h1
  | none => exact q_ifE K s0 (b := true) (by tm_at "et") (by rfl) (fun _ B P => s_retK K P.s (by tm_at "ed") (by rfl) fun v A' B' P5 hv => k v A' B' (by tm_at "pr") hv) (fun h => by cases h)
  | bool b => exact q_ifE K s0 (b := true) (by tm_at "et") (by rfl) (fun _ B P => s_retK K P.s (by tm_at "ed") (by rfl) fun v A' B' P5 hv => k v A' B' (by tm_at "pr") hv) (fun h => by cases h)
  | int b => exact q_ifE K s0 (b := true) (by tm_at "et") (by rfl) (fun _ B P => s_retK K P.s (by tm_at "ed") (by rfl) fun v A' B' P5 hv => k v A' B' (by tm_at "pr") hv) (fun h => by cases h)
  | str b => exact q_ifE K s0 (b := true) (by tm_at "et") (by rfl) (fun _ B P => s_retK K P.s (by tm_at "ed") (by rfl) fun v A' B' P5 hv => k v A' B' (by tm_at "pr") hv) (fun h => by cases h)
  | list b => exact q_ifE K s0 (b := true) (by tm_at "et") (by rfl) (fun _ B P => s_retK K P.s (by tm_at "ed") (by rfl) fun v A' B' P5 hv => k v A' B' (by tm_at "pr") hv) (fun h => by cases h)
  | tuple ds =>
    by_cases hl : ∃ a b, ds = [a, b]
    · obtain ⟨a, b, rfl⟩ := hl
      refine q_ifE K s0 (b := false) (by tm_at "et") (by rfl) (fun h => by cases h) (fun _ B P => q_next ?_)
      exact s_retK K P.s (by tm_at "ed") (by rfl) fun v A' B' P5 hv => k v A' B' (by tm_at "pr") hv
    · have hz : ((ds.length : Int) == 2) = false := by
        match ds, hl with
        | [], _ => rfl
        | [_], _ => rfl
        | [a, b], h => exact absurd ⟨a, b, rfl⟩ h
        | _ :: _ :: _ :: r, _ => exact beq_false_of_ne (by simp only [List.length_cons]; omega)
      have e : isMk (.tuple ds) = false := by
        match ds, hl with
        | [], _ => rfl
        | [_], _ => rfl
        | [a, b], h => exact absurd ⟨a, b, rfl⟩ h
        | _ :: _ :: _ :: r, _ => rfl
      refine q_ifD K s0 (b := (!true || !((ds.length : Int) == 2))) (by tm_at "et") (fun _ B P => ?_) (fun h => by rw [hz] at h; cases h)
      exact s_retK K P.s (d' := .bool (isMk (.tuple ds))) (by tm_at "ed") (by rw [e]) fun v A' B' P5 hv => k v A' B' (by tm_at "pr") hv
end
local macro_rules | `(tactic| tm_at "fn") => `(tactic| exact at_mark _)

section
variable {P : Program} {w : World} {K : PySem.W.Frag} {mg : Str → Option Value} {base : Heap} {c : Cs}
def sp_mail (K : PySem.W.Frag) : Sp := spF K (fun m : Mail => [mailD m]) (fun _ => True) (fun _ => .bool true)
theorem at_mail (m : Mail) : SpD K (sp_mail K) [mailD m] (.bool true) := spF_at m trivial
theorem ok_mail (T : Tx K mg c) : DefOk P w K mg base CX0 3 "_law_mail" ["_law_found"] (sp_mail K) := by
  obtain ⟨f, fd, d⟩ := T.d_law_mail
  refine d.ok (d.F.ok sc_law_mail (fun vs H Q E h => spF_len h fun _ => rfl) fun cdv A outer s H vs Q E hr h => ?_)
  obtain ⟨A0, ⟨kw, l, a, b, m⟩, _, s0, ha, k⟩ := h
  obtain ⟨v1, rfl, h1⟩ := dpa1 ha
  have nd := sc_law_mail.nd
  have G_law_whole := ok_whole (P := P) (w := w) (base := base) T
  have G_law_mark := ok_mark (P := P) (w := w) (base := base) T
  refine ⟨_, (pss_cons (ps_if (PW.pt (pw_or (pt_not (pt_val (pe_callB (c_isi (K := K) rfl) rfl T.mn_isinstance (by decide +kernel) (pa_cons (pv 0) (pa_cons (pe_ty (T := "tuple") rfl T.mn_tuple (by decide +kernel)) pa_nil))))) (pw_or (pt_cmpR op_ne (pe_callB (c_len (K := K) rfl) rfl T.mn_len (by decide +kernel) (pa_cons (pv 0) pa_nil)) pe_int (nomark _)) (pw_or1 (pt_not (pt_val (pe_callB (c_isi (K := K) rfl) rfl T.mn_isinstance (by decide +kernel) (pa_cons (pe_ix (ixT (K := K) rfl) (pv 0) pe_int (fun _ _ => rfl)) (pa_cons (pe_ty (T := "str") rfl T.mn_str (by decide +kernel)) pa_nil))))))))) (pss_one (ps_ret pe_bl)) pss_nil)
      (pss_cons (ps_if (PW.pt (pw_or (pt_not (pt_val (pe_cd G_law_whole (hr.mono (by decide)) rfl pass0 (pa_cons (pe_ix (ixT (K := K) rfl) (pv 0) pe_int (fun _ _ => rfl)) pa_nil)))) (pw_or (pt_not (pt_val (pe_cd G_law_whole (hr.mono (by decide)) rfl pass0 (pa_cons (pe_ix (ixT (K := K) rfl) (pv 0) pe_int (fun _ _ => rfl)) pa_nil)))) (pw_or1 (pt_not (pt_val (pe_cd G_law_whole (hr.mono (by decide)) rfl pass0 (pa_cons (pe_ix (ixT (K := K) rfl) (pv 0) pe_int (fun _ _ => rfl)) pa_nil)))))))) (pss_one (ps_ret pe_bl)) pss_nil)
      (pss_one (ps_ret (pe_or (pe_cmpR op_isN1 (pe_ix (ixT (K := K) rfl) (pv 0) pe_int (fun _ _ => rfl)) pe_non (nomark _)) (pe_one (pe_cd G_law_mark (hr.mono (by decide)) rfl pass0 (pa_cons (pe_ix (ixT (K := K) rfl) (pv 0) pe_int (fun _ _ => rfl)) pa_nil)))))))), ?_⟩
  try dsimp only [cx_K]
  have h1 : Dp K A0 v1 (.tuple [.str kw.str, .int (l : Nat), .int (a : Nat), .int (b : Nat), mkO m]) := h1
  refine q_ifE K (b := false) s0 (by tm_at "et") (by rfl) (fun h => by cases h) (fun _ B1 P1 => q_next ?_)
  refine q_ifE K (b := false) P1.s (by tm_at "et") (by rfl) (fun h => by cases h) (fun _ B2 P2 => q_next ?_)
  cases m with
  | none =>
    have h1 : Dp K A0 v1 (.tuple [.str kw.str, .int (l : Nat), .int (a : Nat), .int (b : Nat), .none]) := h1
    exact s_retK K P2.s (by tm_at "ed") (by rfl) fun v A' B' P6 hv => k v A' B' (by tm_at "pr") hv
  | some m =>
    have h1 : Dp K A0 v1 (.tuple [.str kw.str, .int (l : Nat), .int (a : Nat), .int (b : Nat), .tuple [.int m.1, .int m.2]]) := h1
    exact s_retK K P2.s (by tm_at "ed") (by rfl) fun v A' B' P6 hv => k v A' B' (by tm_at "pr") hv
theorem shn_mail {m : Mail} {n : Nat} : ShN (n + 2) (mailD m) := shn_tup fun d hd => by
  rcases List.mem_cons.mp hd with rfl | hd
  · exact shn_str (by cases m.word <;> decide +kernel)
  rcases List.mem_cons.mp hd with rfl | hd
  · exact shn_int
  rcases List.mem_cons.mp hd with rfl | hd
  · exact shn_int
  rcases List.mem_cons.mp hd with rfl | hd
  · exact shn_int
  rcases List.mem_cons.mp hd with rfl | hd
  · cases m.mark with
    | none => exact shn_non
    | some k => exact shn_mk
  · cases hd
theorem sh_mails (ms : List Mail) : SeqAt.shaped (.list (ms.map mailD)) = true := ShN.sh (n := 3) (shn_list fun d hd => by
  obtain ⟨m, _, rfl⟩ := List.mem_map.mp hd
  exact shn_mail) (by decide)
end

/-! ## marks: greater, among; what a house tells, in an expression -/
theorem lex_gt (m n : Mk) : lexGt [m.1, m.2] [n.1, n.2] = mless n m := by
  unfold lexGt mless
  show Ob.lexAt _ _ _ 0 2 = _
  rw [Ob.lexAt_succ, Ob.lexAt_succ, Ob.lexAt_zero]
  show (if decide (m.1 = n.1) = true then (if decide (m.2 = n.2) = true then decide (2 > 2) else decide (n.2 < m.2)) else decide (n.1 < m.1)) = _
  by_cases h : m.1 = n.1
  · by_cases h2 : m.2 = n.2
    · rw [h, h2]; simp
    · rw [h]; simp [h2]
  · simp [h, Ne.symm h]
theorem lex_ge (m n : Mk) : lexGe [m.1, m.2] [n.1, n.2] = !mless m n := by
  unfold lexGe mless
  show Ob.lexAt _ _ _ 0 2 = _
  rw [Ob.lexAt_succ, Ob.lexAt_succ, Ob.lexAt_zero]
  show (if decide (m.1 = n.1) = true then (if decide (m.2 = n.2) = true then decide (2 ≥ 2) else decide (n.2 ≤ m.2)) else decide (n.1 ≤ m.1)) = _
  by_cases h : m.1 = n.1
  · by_cases h2 : m.2 = n.2
    · rw [h, h2]; simp
    · rw [h]
      simp only [decide_true, if_true, decide_eq_true_eq, h2, if_false, beq_self_eq_true, Bool.true_and, Int.lt_irrefl, decide_false, Bool.false_or]
      rw [if_neg (by decide)]
      by_cases q : m.2 < n.2
      · rw [decide_eq_true q, decide_eq_false (by omega)]; rfl
      · rw [decide_eq_false q, decide_eq_true (by omega)]; rfl
  · simp only [decide_eq_true_eq, h, if_false, beq_false_of_ne h, Bool.false_and, Bool.or_false]
    by_cases q : m.1 < n.1
    · rw [decide_eq_true q, decide_eq_false (by omega)]; rfl
    · rw [decide_eq_false q, decide_eq_true (by omega)]; rfl
section
variable {K : PySem.W.Frag} {ta tb : TE} {σ : L2.St} {H A0 : Hp} {m n : Mk} {CH CD CL No : Addr} {P : HP} {s : HS}
theorem ed_gtT (ha : EvD K ta σ H (mkD m)) (hb : EvD K tb σ H (mkD n)) : EvD K (tOp (rGtT K) ta tb) σ H (.bool (mless n m)) :=
  ed_opB ha hb fun x y B hx hy Q q => by
    obtain ⟨a, xs, rfl, sa, aa⟩ := dp_tuple hx
    obtain ⟨b, ys, rfl, sb, bb⟩ := dp_tuple hy
    obtain ⟨v1, v2, rfl, h1, h2⟩ := dpa2 aa
    obtain ⟨w1, w2, rfl, g1, g2⟩ := dpa2 bb
    cases h1; cases h2; cases g1; cases g2
    exact ⟨a, b, [m.1, m.2], [n.1, n.2], rfl, rfl, sa, sb, by rw [lex_gt]; exact q _ fun _ _ _ _ => .bl _⟩
theorem ed_geT (ha : EvD K ta σ H (mkD m)) (hb : EvD K tb σ H (mkD n)) : EvD K (tOp (rGeT K) ta tb) σ H (.bool (!mless m n)) :=
  ed_opB ha hb fun x y B hx hy Q q => by
    obtain ⟨a, xs, rfl, sa, aa⟩ := dp_tuple hx
    obtain ⟨b, ys, rfl, sb, bb⟩ := dp_tuple hy
    obtain ⟨v1, v2, rfl, h1, h2⟩ := dpa2 aa
    obtain ⟨w1, w2, rfl, g1, g2⟩ := dpa2 bb
    cases h1; cases h2; cases g1; cases g2
    exact ⟨a, b, [m.1, m.2], [n.1, n.2], rfl, rfl, sa, sb, by rw [lex_ge]; exact q _ fun _ _ _ _ => .bl _⟩
theorem eqv_mk (a b : Mk) : PyData.eqv (mkD a) (mkD b) = decide (a = b) := by
  show PyData.eqv (.tuple [.int a.1, .int a.2]) (.tuple [.int b.1, .int b.2]) = _
  have : PyData.eqv (.tuple [.int a.1, .int a.2]) (.tuple [.int b.1, .int b.2]) = (a.1 == b.1 && (a.2 == b.2 && true)) := by simp [PyData.eqv, PyData.eqvAll]
  rw [this, Bool.and_true]
  by_cases h1 : a.1 = b.1
  · by_cases h2 : a.2 = b.2
    · rw [h1, h2, decide_eq_true (Prod.ext h1 h2)]; simp
    · rw [beq_false_of_ne h2, Bool.and_false, decide_eq_false fun z => h2 (by rw [z])]
  · rw [beq_false_of_ne h1, Bool.false_and, decide_eq_false fun z => h1 (by rw [z])]
theorem any_mk (m : Mk) : ∀ ms : List Mk, ((ms.map mkD).any fun y => PyData.eqv y (mkD m)) = decide (m ∈ ms)
  | [] => rfl
  | x :: r => by
    rw [List.map_cons, List.any_cons, any_mk m r, eqv_mk]
    by_cases h : x = m
    · subst h; simp
    · rw [decide_eq_false h, Bool.false_or]; simp [Ne.symm h]
theorem cutL_take {α : Type} {xs : List α} {k : Nat} (h : k ≤ xs.length) : cutL xs none (some (k : Int)) = xs.take k := by
  unfold cutL
  rw [HT.sIx_none, HT.sIx_nat, Nat.min_eq_left h, List.drop_zero, Nat.sub_zero]
theorem cutL_drop {α : Type} {xs : List α} {k : Nat} (h : k ≤ xs.length) : cutL xs (some (k : Int)) none = xs.drop k := by
  unfold cutL
  rw [HT.sIx_none, HT.sIx_nat, Nat.min_eq_left h]
  exact List.take_of_length_le (by rw [List.length_drop]; omega)
/-- the list of mails, in an expression -/
theorem en_mails (O : HouseAt K CH CD CL A0 H P s) (s0 : Ex A0 H) (ha : Ev ta σ H (.ref P.a)) : EvN K (tMeth CH "mails" (sp_mails K CH CD CL) [] E0 ta tNil) σ H (s.post.map mailD) := fun A B e e2 Q q =>
  m_callV (ha.mono (e.trans e2)) ((e.trans e2) _ _ O.ia) rfl ea_nil fun B1 e1 => ⟨A0, P, s, rfl, (O.up s0 (e.trans e2)).up (s0.trans (e.trans e2)) e1, fun p xs B2 hp e3 hx hd =>
    q p xs A B2 (fresh_back e1 hp) (Pr.up e2 (e1.trans e3)) (fresh_back (e2.trans e1) hp) hx (dpa_ex (s0.trans e) hd)⟩
end

section
variable {K : PySem.W.Frag} {ta tb : TE} {σ : L2.St} {H A0 : Hp} {CH CD CL No : Addr} {P : HP} {s : HS} {l : Nat} {x : LS}
theorem ed_hmark (O : HouseAt K CH CD CL A0 H P s) (s0 : Ex A0 H) (ha : Ev ta σ H (.ref P.a)) (hi : Ev tb σ H (.int (l : Int))) (hx : s.sent[l]? = some x) : EvD K (tMeth CH "mark" (sp_ofLet K CH CD CL No fun A x u => Dp K A u (mkO x.final)) [] E0 ta (tCons tb tNil)) σ H (mkO x.final) := fun A B e e2 Q q =>
  m_callV (ha.mono (e.trans e2)) ((e.trans e2) _ _ O.ia) rfl (ea_cons (hi.mono (e.trans e2)) ea_nil) fun B1 e1 => ⟨A0, P, s, .int (l : Int), some (l : Int), rfl, (O.up s0 (e.trans e2)).up (s0.trans (e.trans e2)) e1, s0.trans ((e.trans e2).trans e1), rfl, (fun z => by rw [isPl_of (lt_of_get hx)] at z; cases z), fun j y hj hy u B2 hu e3 => by
    have hjl : j = l := by have := Option.some.inj hj; omega
    subst hjl
    rw [hx] at hy
    cases hy
    exact q u A B2 (Pr.up e2 (e1.trans e3)) (dp_ex (s0.trans e) hu)⟩
end
section
variable {K : PySem.W.Frag} {ta tb : TE} {σ : L2.St} {H A0 : Hp} {CH CD CL No : Addr} {P : HP} {s : HS}
theorem ed_letters (O : HouseAt K CH CD CL A0 H P s) (s0 : Ex A0 H) (ha : Ev ta σ H (.ref P.a)) : EvD K (tMeth CH "letters" (sp_letters K CH CD CL) [] E0 ta tNil) σ H (.int (s.sent.length : Nat)) := fun A B e e2 Q q =>
  m_callV (ha.mono (e.trans e2)) ((e.trans e2) _ _ O.ia) rfl ea_nil fun B1 e1 => ⟨A0, P, s, rfl, (O.up s0 (e.trans e2)).up (s0.trans (e.trans e2)) e1, fun B2 e3 => q _ A B2 (Pr.up e2 (e1.trans e3)) (.int _)⟩
end
section
variable {K : PySem.W.Frag} {ta tb : TE} {σ : L2.St} {H A0 : Hp} {CH CD CL No : Addr} {P : HP} {s : HS} {i : Nat} {d : DS}
theorem en_handed (O : HouseAt K CH CD CL A0 H P s) (s0 : Ex A0 H) (ha : Ev ta σ H (.ref P.a)) (hi : Ev tb σ H (.int (i : Int))) (hd : s.desks[i]? = some d) : EvN K (tMeth CH "handed" (sp_handed K CH CD CL No) [] E0 ta (tCons tb tNil)) σ H (d.row.map PyData.int) := fun A B e e2 Q q =>
  m_callV (ha.mono (e.trans e2)) ((e.trans e2) _ _ O.ia) rfl (ea_cons (hi.mono (e.trans e2)) ea_nil) fun B1 e1 => ⟨A0, P, s, .int (i : Int), some (i : Int), rfl, (O.up s0 (e.trans e2)).up (s0.trans (e.trans e2)) e1, s0.trans ((e.trans e2).trans e1), rfl, (fun z => by rw [isPl_of (lt_of_get hd)] at z; cases z), fun j d' hj hd' p B2 hp e3 hx => by
    have hji : j = i := by have := Option.some.inj hj; omega
    subst hji
    rw [hd] at hd'
    cases hd'
    exact q p _ A B2 (fresh_back e1 hp) (Pr.up e2 (e1.trans e3)) (fresh_back (e2.trans e1) hp) hx dpa_ints⟩
end

section
variable {K : PySem.W.Frag} {A H : Hp} {σ : L2.St} {tl te to : TE} {ts tw tz : TS} {t : TT} {Dd : Ends} {l : Addr} {xs : List V}
theorem s_forEM {i j : Nat} {xs : List V} (h : Ev tl σ H (.ref l)) (hl0 : SqL K H l xs) (J : Nat → L2.St → Hp → Prop) (h0 : ∀ B', Ex H B' → J 0 σ B') (hl : ∀ t σ' B', J t σ' B' → SqL K B' l xs)
    (hs : ∀ (t : Nat) x σ' B' T, xs[t]? = some x → J t σ' B' → B' T = none → ts { Dd with nx := J (t + 1), ct := J (t + 1), bk := Dd.nx } ((σ'.set i (some (.int (t : Int)))).set j (some x)) (upd B' T (.tup [.int (t : Int), x])))
    (hd : ∀ σ' B', J xs.length σ' B' → Dd.nx σ' B') : tFor (iEnum K (tCons tl tNil)) (gTup K 2 (gCons (gName i) (gCons (gName j) gNil))) ts Dd σ H := h H (Ex.refl _) _ fun B1 e1 =>
  ⟨l, xs, rfl, ex_l e1 hl0, for_it (walk_enum (xs := xs)) J (h0 B1 e1) (fun t σ' H' _ p => hl t σ' H' p)
    (fun t x σ' H' H'' _ p y => by
      obtain ⟨T, u, z, rfl, hT, rfl, hu, hz⟩ := y
      cases hu
      exact ⟨T, [.int (t : Nat), z], rfl, st_of upd_same, rfl, _, [z], rfl, z, [], rfl, rfl, hs t z σ' _ T hz p hT⟩) (fun σ' H' p => hd σ' H' p)⟩
theorem en_listRg {n : Nat} (h : EvD K te σ H (.int (n : Nat))) (hn : n ≤ 100000) : EvN K (tLstRg (tRg1 te)) σ H ((List.range n).map fun i : Nat => PyData.int (i : Int)) := fun A B e s Q q =>
  h A B e s _ fun v A1 B1 P1 hv => by
    cases hv
    refine ⟨(n : Int), rfl, RgOk.of_le (by decide) (by omega) (by decide) (by omega), fun p hp => ?_⟩
    have hm : rgV 0 (n : Int) = ((List.range n).map Int.ofNat).map V.int := by
      unfold rgV
      rw [List.map_map, show ((n : Int) - 0).toNat = n by omega]
      refine List.map_congr_left fun i _ => ?_
      show V.int (0 + (i : Int)) = V.int (i : Int)
      rw [Int.zero_add]
    have hd : ((List.range n).map fun i : Nat => PyData.int (i : Int)) = ((List.range n).map Int.ofNat).map PyData.int := by
      rw [List.map_map]; rfl
    refine q p (rgV 0 (n : Int)) A1 _ (fresh_back P1.b hp) (P1.trans (Pr.priv P1.s hp)) (fresh_back P1.s hp) upd_same ?_
    rw [hm, hd]
    exact dpa_ints
theorem s_andNot (K : PySem.W.Frag) (h : EvB K t σ H true) (k : ∀ B', Ex H B' → te σ B' fun x H1 => ∃ b, x = .bl b ∧ if (!b) = true then tw Dd σ H1 else tz Dd σ H1) : tIfS (tAnd t (tNot (tB te))) tw tz Dd σ H :=
  h H (Ex.refl _) _ fun B' e => k B' e
theorem s_appL (ho : Ev to σ H (.ref l)) (hl : H l = some (.lst xs)) (hz : xs.length < 100000) (k : ∀ p B1, Ex H B1 → B1 p = none → Dd.nx σ (upd (upd B1 p (.lst [])) l (.lst (xs ++ [.ref p])))) : tDrop (tBM K "list" rAppend to (tCons (tLst tNil) tNil)) Dd σ H := ho H (Ex.refl _) _ fun B1 e1 =>
  ⟨.inl ⟨rfl, xs, sq_of (e1 _ _ hl)⟩, sz_of (by decide), fun p hp => ⟨l, xs, _, rfl, rfl, (Ex.new hp) _ _ (e1 _ _ hl), sz_lt hz, k p B1 e1 hp⟩⟩
end
def tCst (v : V) : TE := fun _ H Q => Q v H
theorem ev_cst {σ : L2.St} {H : Hp} {v : V} : Ev (tCst v) σ H v := fun H1 _ Q q => q H1 (Ex.refl _)
section
variable {K : PySem.W.Frag} {A H : Hp} {σ : L2.St} {tl te to ta tb : TE} {ts tw tz t2 : TS} {g : TG} {t : TT} {Dd : Ends} {l : Addr} {xs : List V}
theorem un_forL : tFor (iList K tl) g ts Dd σ H = tl σ H fun x H1 => tFor (iList K (tCst x)) g ts Dd σ H1 := rfl
theorem s_forLM {j : Nat} (h : Ev tl σ H (.ref l)) (hl0 : SqL K H l xs) (J : Nat → L2.St → Hp → Prop) (h0 : ∀ B', Ex H B' → J 0 σ B') (hl : ∀ t σ' B', J t σ' B' → SqL K B' l xs)
    (hs : ∀ (t : Nat) x σ' B', xs[t]? = some x → J t σ' B' → ts { Dd with nx := J (t + 1), ct := J (t + 1), bk := Dd.nx } (σ'.set j (some x)) B') (hd : ∀ σ' B', J xs.length σ' B' → Dd.nx σ' B') : tFor (iList K tl) (gName j) ts Dd σ H := h H (Ex.refl _) _ fun B1 e1 =>
  ⟨l, rfl, ⟨xs, ex_l e1 hl0⟩, for_it (walk_list (xs := xs)) J (h0 B1 e1) (fun t σ' H' _ p => hl t σ' H' p)
    (fun i x σ' H' H'' _ p y => by obtain ⟨rfl, hx⟩ := y; exact hs i x σ' _ hx p) hd⟩
theorem un_orNN : tIfS (tOr (tNot (tB ta)) (tNot (tB tb))) tw tz Dd σ H = ta σ H fun x H1 => ∃ b, x = .bl b ∧ if (!b) = true then tw Dd σ H1 else tb σ H1 fun y H2 => ∃ b2, y = .bl b2 ∧ if (!b2) = true then tw Dd σ H2 else tz Dd σ H2 := rfl
theorem q_asgK {i : Nat} (k : ∀ p, H p = none → t2 Dd (σ.set i (some (.ref p))) (upd H p (.dK []))) : tSeq (tAsg tDNewK (gName i)) t2 Dd σ H := fun p hp => k p hp
end
theorem pick5 (c b : Int) : ∃ m : Int, atI [PyData.int b, .int 5, .int 5, .int 5, .int 5] (c % 5) = some (.int m) ∧ (m = b ∨ m = 5) := by
  have h := Int.emod_nonneg c (show (5 : Int) ≠ 0 by decide)
  have h' := Int.emod_lt_of_pos c (show (0 : Int) < 5 by decide)
  have : c % 5 = 0 ∨ c % 5 = 1 ∨ c % 5 = 2 ∨ c % 5 = 3 ∨ c % 5 = 4 := by omega
  rcases this with z | z | z | z | z <;> rw [z]
  · exact ⟨b, rfl, .inl rfl⟩
  all_goals exact ⟨5, rfl, .inr rfl⟩
theorem mod_nat (c : Int) {n : Nat} (h : 0 < n) : ∃ k : Nat, c % (n : Int) = (k : Int) ∧ k < n := by
  have q1 := Int.emod_nonneg c (show (n : Int) ≠ 0 by omega)
  have q2 := Int.emod_lt_of_pos c (show (0 : Int) < (n : Int) by omega)
  exact ⟨(c % (n : Int)).toNat, by omega, by omega⟩
theorem eqv_nil (ds : List D) : PyData.eqv (.list ds) (.list []) = decide (ds.length = 0) := by cases ds <;> rfl
section
variable {K : PySem.W.Frag} {CH CD CL Bc : Addr} {A H : Hp} {σ : L2.St} {te : TE} {E : XK} {Q : VK}
theorem mk_house {n : Nat} (s : Ex A H) (h : Ev te σ H (.int (n : Nat))) (h0 : 0 < n) (h1 : n ≤ 40) (k : ∀ P H', PrM (fun _ => False) A H A H' → (∀ x, P.inF x → H x = none) → HouseAt K CH CD CL A H' P (newHS n) → Q (.ref P.a) H') : tMake CH (sp_mkHouse K CH CD CL Bc) [] E (tCons te tNil) σ H Q :=
  h H (Ex.refl _) _ fun H1 e1 x dx hx hdx ne => by
    have P0 : PrM (fun _ => False) A H A (upd (upd H1 dx (.own x)) x (.ins CH dx [])) := ((((PrM.refl s).up e1).new (o := .own x) hdx)).new (by rw [upd_ne (Ne.symm ne)]; exact hx)
    have hxH : H x = none := fresh_back e1 hx
    refine ⟨A, x, dx, _, some (n : Int), rfl, P0.s, upd_same, fresh_back s hxH, rfl, fun hb => ?_, fun m hm _ _ P H' pa PM foot O => ⟨rfl, ?_⟩⟩
    · exfalso
      rcases hb with z | z
      · have : isPl (some (n : Int)) ((41 : Nat) : Int) = true := isPl_of (by omega)
        rw [show ((41 : Nat) : Int) = 41 from rfl, z] at this
        cases this
      · have := Option.some.inj z
        omega
    · have hmn : m = n := by have := Option.some.inj hm; omega
      subst hmn
      rw [← pa]
      refine k P H' (P0.then PM fun y hy => .inr (by rw [hy]; exact hxH)) (fun y hy => ?_) O
      rcases foot y hy with z | z
      · rw [z]; exact hxH
      · exact P0.fresh z
end
section
variable {ta tb te : TE} {t : TA} {σ : L2.St} {H : Hp} {Q : VK} {Dd : Ends} {r : R2} {C : Addr} {m : Str} {sp : Sp} {E : XK}
theorem ret_te (h : te σ H fun v H' => Dd.rt v H') : tRet te Dd σ H := h
theorem and_te (h : ta σ H fun x H1 => ∃ c, x = .bl c ∧ if c = true then tb σ H1 Q else Q (.bl false) H1) : tAndV ta tb σ H Q := h
theorem op_te (h : ta σ H fun x H1 => tb σ H1 fun y H2 => r x y H2 Q) : tOp r ta tb σ H Q := h
theorem meth_te (h : ta σ H fun x H1 => ∃ a dx fs, x = .ref a ∧ H1 a = some (.ins C dx fs) ∧ fs.lookup m = none ∧ t σ H1 fun vs H2 => sp (x :: (vs ++ [])) H2 Q E) : tMeth C m sp [] E ta t σ H Q := h
end

end K8

namespace K8
open PySem L2 Evl Ob

local macro_rules | `(tactic| tm_at "sh") => `(tactic| first | exact sh_mk | exact sh_mks | exact sh_b3)

local macro_rules | `(tactic| tm_at "fn") => `(tactic| first | exact at_mail _ | exact at_whole _ | exact at_mark _ | exact at_cell (by decide))

/-! ## rest -/
def HS.restN : Nat → HS → HS
  | 0, s => s
  | k + 1, s => match s.bring 0 with
    | none => s
    | some s' => HS.restN k s'
theorem restN_succ {k : Nat} {s s' : HS} (h : s.bring 0 = some s') : s.restN (k + 1) = s'.restN k := by
  show (match s.bring 0 with
    | none => s
    | some s' => HS.restN k s') = _
  rw [h]
section
variable {P : Program} {w : World} {K : PySem.W.Frag} {mg : Str → Option Value} {base : Heap} {c : Cs}
def sp_rest (K : PySem.W.Frag) (CH CD CL : Addr) : Sp := fun vs H Q _ => ∃ (A : Hp) (P : HP) (s : HS) (n : Nat) (ab : Ab), vs = [.ref P.a] ∧ Ex A H ∧ HouseAt K CH CD CL A H P s ∧ Inv n ab (fun _ => False) s ∧ n ≤ 40 ∧ s.sent.length < 1500 ∧
  ∀ s' ab' A' H', s' = s.restN s.pot → PrM P.inF A H A' H' → HouseAt K CH CD CL A' H' P s' → Inv n ab' (fun _ => False) s' → s'.post = [] → RowsUp s s' → Later s.sent.length n ab ab' → s'.sent.length = s.sent.length → Q (.int (s.pot : Nat)) H'
theorem ok_rest (T : Tx K mg c) : MethOk P w K mg base (L2N.CX P w) 7 c.House "rest" ["self"] (sp_rest K c.House c.Desk c.Letter) := by
  obtain ⟨f, fd, d⟩ := T.m_House_rest
  refine d.ok (okN d.F sc_House_rest (fun vs H Q E h => ?_) fun cdv A outer s H vs Q E hr h => ?_)
  · obtain ⟨_, _, _, _, _, e, _⟩ := h
    rw [e]
    rfl
  obtain ⟨A0, P0, st, n, ab, rfl, s0, O, I, hn, hsl, k⟩ := h
  have nd := sc_House_rest.nd
  have MT_House_bring := ok_bring (P := P) (w := w) (base := base) T
  refine ⟨_, (pss_cons (ps_set (i := 1) nd rfl (Or.inl rfl) pe_int)
      (pss_cons (ps_while (passes_of rfl) (pt_cmpR (o_neD (K := K) rfl hr.units) (pe_fld (pv 0) rfl) (pe_lst pa_nil) (nomark _)) (pss_cons (ps_expr (pe_md (pv 0) T.c_House MT_House_bring (hr.mono (by decide)) passN (pa_cons pe_int pa_nil)))
        (pss_one (ps_set (i := 1) nd rfl (Or.inl rfl) (pe_op op_add (pv 1) pe_int)))))
      (pss_one (ps_ret (pv 1))))), ?_⟩
  try dsimp only [cx_K2]
  refine q_asgV ev_c fun B1 e1 => ?_
  let J : Nat → L2.St → Hp → Prop := fun m σ B => ∃ (s2 : HS) (ab2 : Ab) (A' : Hp) (found : Nat), σ = [some (.ref P0.a), some (.int (found : Nat))] ∧ s2.pot = m ∧ found + m = st.pot ∧ s2.restN m = st.restN st.pot ∧ PrM P0.inF A0 H A' B ∧ HouseAt K c.House c.Desk c.Letter A' B P0 s2 ∧ Inv n ab2 (fun _ => False) s2 ∧ RowsUp st s2 ∧ Later st.sent.length n ab ab2 ∧ s2.sent.length = st.sent.length
  refine ⟨J, ⟨st.pot, st, ab, A0, 0, rfl, rfl, by omega, rfl, (PrM.refl s0).up e1, O.up s0 e1, I, RowsUp.refl _, ⟨fun _ _ => rfl, fun _ _ _ _ _ => rfl, fun _ _ _ _ => Nat.le_refl _⟩, rfl⟩, ?_⟩
  rintro m σ B ⟨s2, ab2, A2, found, rfl, hm, hf, hrs, R2, O2, I2, U2, L2', hl2⟩
  obtain ⟨xs, hx, hxs⟩ := O2.ipl
  have s2' := R2.s
  have hcond : EvB K (tTest (tOp (rNeD K) (tFld K (tVar 0) "post") (tLst tNil))) [some (.ref P0.a), some (.int (found : Nat))] B (!decide (s2.post.length = 0)) := eb_is (eb_D (ed_neD (ed_v (O2.look (ev_var rfl) T.c_House T.na_House_post rfl) (.lst (sq_of hx) (dpa_ex s2' hxs))) (ed_n (en_lst ea_nilD (by decide))) (sh_mails _) rfl)) (by rw [eqv_nil, List.length_map])
  refine hcond B (Ex.refl _) _ fun B3 e3 => ?_
  by_cases hp : s2.post.length = 0
  · rw [decide_eq_true hp]
    refine iteF ?_
    have hp0 : s2.post = [] := List.length_eq_zero_iff.mp hp
    have hz := I2.end_pot hp0
    have hm0 : m = 0 := by omega
    subst hm0
    refine s_retV (ev_var rfl) fun B4 e4 => ?_
    have hfo : found = st.pot := by omega
    subst hfo
    exact k s2 ab2 A2 B4 hrs (R2.up (e3.trans e4)) (O2.up s2' (e3.trans e4)) I2 hp0 U2 L2' hl2
  · rw [decide_eq_false hp]
    refine iteT ⟨fun σ' B' => ∃ m', m' < m ∧ J m' σ' B', fun σ' B' h => h, ?_⟩
    have hq : 0 < s2.post.length := by omega
    have hm2 := List.getElem?_eq_getElem hq
    obtain ⟨s3, hbr, ab3, I3, L3⟩ := I2.bring hm2
    have hpot := I2.bring_pot hm2 hbr
    have O3 := O2.up s2' e3
    refine q_do (m_callV (ev_var rfl) O3.ia rfl (ea_cons ev_c ea_nil) fun B4 e4 => ⟨A2, P0, s2, .int ((0 : Nat) : Int), some ((0 : Nat) : Int), rfl, s2'.trans (e3.trans e4), O3.up (s2'.trans e3) e4, rfl, (fun z => by rw [isPl_of hq] at z; cases z), fun i' hi' _ => ?_⟩)
    have hii : 0 = i' := by have := Option.some.inj hi'; omega
    subst hii
    refine ⟨s3, _, hbr, hm2, I2.sm hn (by omega), fun v A5 B5 R5 O5 hv => go_nx ?_⟩
    refine s_asgV (v_int (K := K) (ed_Ii (ed_var rfl (.int (found : Nat))) ed_int)) fun B6 e6 => ?_
    refine ⟨m - 1, by omega, s3, ab3, A5, found + 1, rfl, by omega, by omega, ?_, ((R2.up (e3.trans e4)).trans R5).up e6, O5.up R5.s e6, I3, U2.trans (HS.bring_up hbr), L2'.trans (hl2 ▸ L3), by rw [HS.bring_len hm2 hbr, hl2]⟩
    rw [← hrs]
    obtain ⟨q, rfl⟩ : ∃ q, m = q + 1 := ⟨m - 1, by omega⟩
    rw [restN_succ hbr, Nat.add_sub_cancel]
end

section
variable {P : Program} {w : World} {K : PySem.W.Frag} {mg : Str → Option Value} {base : Heap} {c : Cs}
/-! a list of mails, a row: looked through, compared and cleared -/
def sp_mails2 (K : PySem.W.Frag) : Sp := fun vs H Q _ => ∃ (A : Hp) (qf qd : Addr) (ms : List Mail), vs = [.ref qf, .ref qd] ∧ Ex A H ∧ A qf = none ∧ (∃ xs, H qf = some (.lst xs) ∧ DpAll K H xs (ms.map mailD)) ∧ Dp K H (.ref qd) (.list (ms.map mailD)) ∧ ms.length < 40000 ∧
  ∀ H', PrM (fun x => x = qf) A H A H' → H' qf = some (.lst []) → Q (.bl true) H'
theorem ok_mails2 (T : Tx K mg c) : DefOk P w K mg base CX0 4 "_law_mails" ["_law_found", "_law_due"] (sp_mails2 K) := by
  obtain ⟨f, fd, d⟩ := T.d_law_mails
  refine d.ok (d.F.ok sc_law_mails (fun vs H Q E h => ?_) fun cdv A outer s H vs Q E hr h => ?_)
  · obtain ⟨_, _, _, _, e, _⟩ := h
    rw [e]
    rfl
  obtain ⟨A0, qf, qd, ms, rfl, s0, nq, ⟨xs, hx, hxs⟩, hd, hl, k⟩ := h
  have nd := sc_law_mails.nd
  have G_law_mail := ok_mail (P := P) (w := w) (base := base) T
  refine ⟨_, (pss_cons (ps_if (PW.pt (pw_or (pt_not (pt_val (pe_callB (c_isi (K := K) rfl) rfl T.mn_isinstance (by decide +kernel) (pa_cons (pv 0) (pa_cons (pe_ty (T := "list") rfl T.mn_list (by decide +kernel)) pa_nil))))) (pw_or1 (pt_cmpR op_ne (pe_callB (c_len (K := K) rfl) rfl T.mn_len (by decide +kernel) (pa_cons (pv 0) pa_nil)) (pe_callB (c_len (K := K) rfl) rfl T.mn_len (by decide +kernel) (pa_cons (pv 1) pa_nil)) (nomark _))))) (pss_one (ps_ret pe_bl)) pss_nil)
      (pss_cons (ps_for PassesOwn.never rfl (pi_list (pv 0)) (pg_name (i := 2) nd rfl (Or.inl rfl)) (pss_one (ps_if (pt_not (pt_val (pe_cd G_law_mail (hr.mono (by decide)) rfl pass0 (pa_cons (pv 2) pa_nil)))) (pss_one (ps_ret pe_bl)) pss_nil)))
      (pss_cons (ps_set (i := 3) nd rfl (Or.inl rfl) (pe_cmpR (o_eqD (K := K) rfl hr.units) (pv 0) (pv 1) (nomark _)))
      (pss_cons (ps_expr (pe_bm0 PySem.F.plainAttrs_list PySem.F.slot_list_clear PySem.F.type_list_clear mt_clear (pv 0)))
      (pss_one (ps_ret (pv 3))))))), ?_⟩
  try dsimp only [cx_K]
  have d1 : ∀ B, Ex H B → Dp K B (.ref qf) (.list (ms.map mailD)) := fun B e => .lst (sq_of (e _ _ hx)) (dpa_ex e hxs)
  have d2 : ∀ B, Ex H B → Dp K B (.ref qd) (.list (ms.map mailD)) := fun B e => dp_ex e hd
  refine q_ifM K (b := false) (eb_or (a := false) (b := false) (eb_is (eb_not (eb_DB (ed_isi (ed_var rfl (d1 H (Ex.refl _))) ki_ll))) rfl) fun _ => eb_is (eb_D (ed_nei (ed_len (ed_var rfl (d1 H (Ex.refl _)))) (ed_len (ed_var rfl (d2 H (Ex.refl _)))))) (by simp)) rfl (fun z => by cases z) (fun _ B1 e1 => q_next ?_)
  refine q_do (s_forL K (ev_var rfl) (sq_of (e1 _ _ hx)) (fun i σ' => ∃ w2, σ' = [some (.ref qf), some (.ref qd), w2, none]) ⟨none, rfl⟩ ?_ ?_)
  · rintro i x σ' B2 hxi e2 ⟨w2, rfl⟩
    have hi : i < ms.length := by
      have := lt_of_get hxi
      rw [dpa_len hxs, List.length_map] at this
      exact this
    obtain ⟨v', h3, h4⟩ := dpa_get (d := mailD ms[i]) hxs (by rw [List.getElem?_map, List.getElem?_eq_getElem hi]; rfl)
    rw [hxi] at h3
    cases h3
    refine s_ifM K (b := false) (eb_is (eb_not (eb_DB (ed_call (ea_consD (ed_var rfl (dp_ex (e1.trans e2) h4)) ea_nilD) (at_mail _)))) rfl) rfl (fun z => by cases z) (fun _ B3 e3 => ?_)
    exact ⟨e2.trans e3, _, rfl⟩
  · rintro σ' B2 e2 ⟨w2, rfl⟩
    have e12 := e1.trans e2
    refine go_nx (q_asgV (v_bl (K := K) (i := true) (ed_is (ed_eqD (ed_var rfl (d1 B2 e12)) (ed_var rfl (d2 B2 e12)) (sh_mails ms) (sh_mails ms)) (by rw [eqv_refl (sh_mails ms)]))) fun B3 e3 => ?_)
    have e13 := e12.trans e3
    refine q_do (s_clear K (ev_var rfl) (e13 _ _ hx) fun B4 e4 => go_nx ?_)
    refine s_retV (ev_var rfl) fun B5 e5 => ?_
    exact k B5 ((((PrM.refl (F := fun y => y = qf) s0).up (e13.trans e4)).put (l := qf) (o := .lst []) (.inl rfl) nq).up e5) (e5 _ _ upd_same)
def sp_row2 (K : PySem.W.Frag) : Sp := fun vs H Q _ => ∃ (A : Hp) (qf qd : Addr) (ms : List Int), vs = [.ref qf, .ref qd] ∧ Ex A H ∧ A qf = none ∧ H qf = some (.lst (ms.map V.int)) ∧ Dp K H (.ref qd) (.list (ms.map PyData.int)) ∧
  ∀ H', PrM (fun x => x = qf) A H A H' → H' qf = some (.lst []) → Q (.bl true) H'
theorem ok_row2 (T : Tx K mg c) : DefOk P w K mg base CX0 2 "_law_row" ["_law_found", "_law_due"] (sp_row2 K) := by
  obtain ⟨f, fd, d⟩ := T.d_law_row
  refine d.ok (d.F.ok sc_law_row (fun vs H Q E h => ?_) fun cdv A outer s H vs Q E hr h => ?_)
  · obtain ⟨_, _, _, _, e, _⟩ := h
    rw [e]
    rfl
  obtain ⟨A0, qf, qd, ms, rfl, s0, nq, hx, hd, k⟩ := h
  have nd := sc_law_row.nd
  have G_law_whole := ok_whole (P := P) (w := w) (base := base) T
  refine ⟨_, (pss_cons (ps_if (PW.pt (pw_or (pt_not (pt_val (pe_callB (c_isi (K := K) rfl) rfl T.mn_isinstance (by decide +kernel) (pa_cons (pv 0) (pa_cons (pe_ty (T := "list") rfl T.mn_list (by decide +kernel)) pa_nil))))) (pw_or1 (pt_cmpR op_ne (pe_callB (c_len (K := K) rfl) rfl T.mn_len (by decide +kernel) (pa_cons (pv 0) pa_nil)) (pe_callB (c_len (K := K) rfl) rfl T.mn_len (by decide +kernel) (pa_cons (pv 1) pa_nil)) (nomark _))))) (pss_one (ps_ret pe_bl)) pss_nil)
      (pss_cons (ps_for PassesOwn.never rfl (pi_list (pv 0)) (pg_name (i := 2) nd rfl (Or.inl rfl)) (pss_one (ps_if (pt_not (pt_val (pe_cd G_law_whole (hr.mono (by decide)) rfl pass0 (pa_cons (pv 2) pa_nil)))) (pss_one (ps_ret pe_bl)) pss_nil)))
      (pss_cons (ps_set (i := 3) nd rfl (Or.inl rfl) (pe_cmpR (o_eqD (K := K) rfl hr.units) (pv 0) (pv 1) (nomark _)))
      (pss_cons (ps_expr (pe_bm0 PySem.F.plainAttrs_list PySem.F.slot_list_clear PySem.F.type_list_clear mt_clear (pv 0)))
      (pss_one (ps_ret (pv 3))))))), ?_⟩
  try dsimp only [cx_K]
  have d1 : ∀ B, Ex H B → Dp K B (.ref qf) (.list (ms.map PyData.int)) := fun B e => .lst (sq_of (e _ _ hx)) dpa_ints
  have d2 : ∀ B, Ex H B → Dp K B (.ref qd) (.list (ms.map PyData.int)) := fun B e => dp_ex e hd
  refine q_ifM K (b := false) (eb_or (a := false) (b := false) (eb_is (eb_not (eb_DB (ed_isi (ed_var rfl (d1 H (Ex.refl _))) ki_ll))) rfl) fun _ => eb_is (eb_D (ed_nei (ed_len (ed_var rfl (d1 H (Ex.refl _)))) (ed_len (ed_var rfl (d2 H (Ex.refl _)))))) (by simp)) rfl (fun z => by cases z) (fun _ B1 e1 => q_next ?_)
  refine q_do (s_forL K (ev_var rfl) (sq_of (e1 _ _ hx)) (fun i σ' => ∃ w2, σ' = [some (.ref qf), some (.ref qd), w2, none]) ⟨none, rfl⟩ ?_ ?_)
  · rintro i x σ' B2 hxi e2 ⟨w2, rfl⟩
    rw [List.getElem?_map] at hxi
    obtain ⟨z, hz, rfl⟩ := Option.map_eq_some_iff.mp hxi
    refine s_ifM K (b := false) (eb_is (eb_not (eb_DB (ed_call (ea_consD (ed_var rfl (.int z)) ea_nilD) (at_whole _)))) rfl) rfl (fun z => by cases z) (fun _ B3 e3 => ?_)
    exact ⟨e2.trans e3, _, rfl⟩
  · rintro σ' B2 e2 ⟨w2, rfl⟩
    have e12 := e1.trans e2
    refine go_nx (q_asgV (v_bl (K := K) (i := true) (ed_is (ed_eqD (ed_var rfl (d1 B2 e12)) (ed_var rfl (d2 B2 e12)) (sh_ints ms) (sh_ints ms)) (by rw [eqv_refl (sh_ints ms)]))) fun B3 e3 => ?_)
    have e13 := e12.trans e3
    refine q_do (s_clear K (ev_var rfl) (e13 _ _ hx) fun B4 e4 => go_nx ?_)
    refine s_retV (ev_var rfl) fun B5 e5 => ?_
    exact k B5 ((((PrM.refl (F := fun y => y = qf) s0).up (e13.trans e4)).put (l := qf) (o := .lst []) (.inl rfl) nq).up e5) (e5 _ _ upd_same)
end

end K8

namespace K8
open PySem L2 Evl Ob

local macro_rules | `(tactic| tm_at "sh") => `(tactic| first | exact sh_mk | exact sh_mks | exact sh_b3)

/-! ## the law's own house: a dict, its lists, its desks' dicts, its letters' lists -/
structure QL where
  a : Addr
  n : Addr
def QL.foot (q : QL) : List Addr := [q.a, q.n]
structure LEAt (K : PySem.W.Frag) (A B : Hp) (q : QL) (s : LS) : Prop where
  ia : ∃ vf, B q.a = some (.lst [.int (s.writer : Nat), .str s.words, .ref q.n, vf]) ∧ Dp K A vf (mkO s.final)
  im : ∃ xs, B q.n = some (.lst xs) ∧ DpAll K A xs (s.numbers.map mkD)
  ne : q.a ≠ q.n
  na : ∀ x ∈ q.foot, A x = none
structure LHP where
  a : Addr
  dl : Addr
  sl : Addr
  ml : Addr
  t : Option Addr
  tv : List V
  ds : List LP
  qs : List QL
def LHP.base (P : LHP) : List Addr := [P.a, P.dl, P.sl, P.ml]
def LHP.inF (P : LHP) (x : Addr) : Prop := x ∈ P.base ∨ (∃ p ∈ P.ds, x ∈ p.foot) ∨ (∃ q ∈ P.qs, x ∈ q.foot) ∨ P.t = some x
def toldK : Option Addr → List (Key × V)
  | none => []
  | some t => [(.inr "told", .ref t)]
def lhK (P : LHP) : List (Key × V) := (.inr "desks", .ref P.dl) :: (.inr "sent", .ref P.sl) :: (.inr "mails", .ref P.ml) :: toldK P.t
structure LHAt (K : PySem.W.Frag) (A B : Hp) (P : LHP) (s : HS) : Prop where
  ia : B P.a = some (.dK (lhK P))
  idl : B P.dl = some (.lst (P.ds.map fun p => .ref p.a))
  isl : B P.sl = some (.lst (P.qs.map fun q => .ref q.a))
  ipl : ∃ xs, B P.ml = some (.lst xs) ∧ DpAll K A xs (s.post.map mailD)
  hdl : P.ds.length = s.desks.length
  hd : ∀ (i : Nat) p d, P.ds[i]? = some p → s.desks[i]? = some d → LDAt K A B p [] d
  hql : P.qs.length = s.sent.length
  hq : ∀ (j : Nat) q l, P.qs[j]? = some q → s.sent[j]? = some l → LEAt K A B q l
  it : ∀ t, P.t = some t → B t = some (.lst P.tv)
  ow : ∃ own : Addr → Nat, (∀ x ∈ P.base, own x = 0) ∧ (∀ (i : Nat) p, P.ds[i]? = some p → ∀ x ∈ p.foot, own x = 3 * i + 1) ∧ (∀ (j : Nat) q, P.qs[j]? = some q → ∀ x ∈ q.foot, own x = 3 * j + 2) ∧ ∀ t, P.t = some t → own t = 3
  nd : P.base.Nodup
  na : ∀ x ∈ P.base, A x = none
  nt : ∀ t, P.t = some t → A t = none
section
variable {K : PySem.W.Frag} {A B A' B' : Hp} {P : LHP} {s : HS} {F : Addr → Prop} {q : QL} {l : LS}
theorem LEAt.alive (D : LEAt K A B q l) : ∀ x ∈ q.foot, B x ≠ none := fun x hx => by
  simp only [QL.foot, List.mem_cons, List.not_mem_nil, or_false] at hx
  obtain ⟨vf, e0, _⟩ := D.ia
  obtain ⟨xs, e1, _⟩ := D.im
  rcases hx with rfl | rfl
  · rw [e0]; simp
  · rw [e1]; simp
theorem LEAt.mono (D : LEAt K A B q l) (P : PrM F A B A' B') (h : ∀ x ∈ q.foot, ¬ F x) : LEAt K A' B' q l := by
  obtain ⟨vf, e0, h0⟩ := D.ia
  obtain ⟨xs, e1, h1⟩ := D.im
  exact ⟨⟨vf, P.b _ _ (h _ (by simp [QL.foot])) e0, dp_ex P.a h0⟩, ⟨xs, P.b _ _ (h _ (by simp [QL.foot])) e1, dpa_ex P.a h1⟩, D.ne, fun x hx => P.n x (D.na x hx) (D.alive x hx)⟩
theorem LHP.in_a : P.a ∈ P.base := by simp [LHP.base]
theorem LHP.in_dl : P.dl ∈ P.base := by simp [LHP.base]
theorem LHP.in_sl : P.sl ∈ P.base := by simp [LHP.base]
theorem LHP.in_ml : P.ml ∈ P.base := by simp [LHP.base]
theorem LHP.inD {x : Addr} {i : Nat} {p : LP} (hp : P.ds[i]? = some p) (h : x ∈ p.foot) : P.inF x := .inr (.inl ⟨p, List.mem_of_getElem? hp, h⟩)
theorem LHP.inQ {x : Addr} {j : Nat} {q : QL} (hp : P.qs[j]? = some q) (h : x ∈ q.foot) : P.inF x := .inr (.inr (.inl ⟨q, List.mem_of_getElem? hp, h⟩))
theorem LHP.inT {x : Addr} (h : P.t = some x) : P.inF x := .inr (.inr (.inr h))
theorem LHAt.ne (O : LHAt K A B P s) : P.a ≠ P.dl ∧ P.a ≠ P.sl ∧ P.a ≠ P.ml ∧ P.dl ≠ P.sl ∧ P.dl ≠ P.ml ∧ P.sl ≠ P.ml := by
  have h := O.nd
  simp only [LHP.base, List.nodup_cons, List.mem_cons, List.not_mem_nil, or_false, not_or, not_false_eq_true, List.nodup_nil, and_true] at h
  exact ⟨h.1.1, h.1.2.1, h.1.2.2, h.2.1.1, h.2.1.2, h.2.2⟩
theorem LHAt.gd (O : LHAt K A B P s) {i : Nat} {d : DS} (h : s.desks[i]? = some d) : ∃ p, P.ds[i]? = some p ∧ LDAt K A B p [] d := by
  have hl : i < P.ds.length := by rw [O.hdl]; exact (List.getElem?_eq_some_iff.mp h).1
  exact ⟨P.ds[i], List.getElem?_eq_getElem hl, O.hd i _ _ (List.getElem?_eq_getElem hl) h⟩
theorem LHAt.gq (O : LHAt K A B P s) {j : Nat} {l : LS} (h : s.sent[j]? = some l) : ∃ q, P.qs[j]? = some q ∧ LEAt K A B q l := by
  have hl : j < P.qs.length := by rw [O.hql]; exact (List.getElem?_eq_some_iff.mp h).1
  exact ⟨P.qs[j], List.getElem?_eq_getElem hl, O.hq j _ _ (List.getElem?_eq_getElem hl) h⟩
theorem LHAt.alive (O : LHAt K A B P s) {x : Addr} (h : P.inF x) : B x ≠ none := by
  rcases h with h | ⟨p, hp, h⟩ | ⟨q, hq, h⟩ | h
  · simp only [LHP.base, List.mem_cons, List.not_mem_nil, or_false] at h
    obtain ⟨xs, e, _⟩ := O.ipl
    rcases h with rfl | rfl | rfl | rfl
    · rw [O.ia]; simp
    · rw [O.idl]; simp
    · rw [O.isl]; simp
    · rw [e]; simp
  · obtain ⟨i, hi⟩ := List.mem_iff_getElem?.mp hp
    have hl : i < s.desks.length := by rw [← O.hdl]; exact lt_of_get hi
    exact (O.hd i p _ hi (List.getElem?_eq_getElem hl)).alive x h
  · obtain ⟨i, hi⟩ := List.mem_iff_getElem?.mp hq
    have hl : i < s.sent.length := by rw [← O.hql]; exact lt_of_get hi
    exact (O.hq i q _ hi (List.getElem?_eq_getElem hl)).alive x h
  · rw [O.it x h]; simp
theorem LHAt.mono (O : LHAt K A B P s) (R : PrM F A B A' B') (h : ∀ x, P.inF x → ¬ F x) : LHAt K A' B' P s := by
  obtain ⟨xs, e, hx⟩ := O.ipl
  exact ⟨R.b _ _ (h _ (.inl LHP.in_a)) O.ia, R.b _ _ (h _ (.inl LHP.in_dl)) O.idl, R.b _ _ (h _ (.inl LHP.in_sl)) O.isl, ⟨xs, R.b _ _ (h _ (.inl LHP.in_ml)) e, dpa_ex R.a hx⟩, O.hdl,
    fun i p d h1 h2 => (O.hd i p d h1 h2).mono R fun x hx => h x (LHP.inD h1 hx), O.hql, fun j q l h1 h2 => (O.hq j q l h1 h2).mono R fun x hx => h x (LHP.inQ h1 hx), fun t ht => R.b _ _ (h t (LHP.inT ht)) (O.it t ht), O.ow, O.nd, fun x hx => R.n x (O.na x hx) (O.alive (.inl hx)), fun t ht => R.n t (O.nt t ht) (O.alive (LHP.inT ht))⟩
theorem LHAt.pr (O : LHAt K A B P s) (R : Pr A B A' B') : LHAt K A' B' P s := O.mono (F := fun _ => False) R.m fun _ _ z => z
theorem LHAt.up (O : LHAt K A B P s) (e : Ex A B) (h : Ex B B') : LHAt K A B' P s := O.pr (Pr.up e h)
/-- a desk has changed; its row may be a new list -/
def LHP.setD (P : LHP) (i : Nat) (p : LP) : LHP := ⟨P.a, P.dl, P.sl, P.ml, P.t, P.tv, P.ds.set i p, P.qs⟩
theorem setD_in {i : Nat} {p p' : LP} {H : Hp} (hp : P.ds[i]? = some p) (h : ∀ x ∈ p'.foot, x ∈ p.foot ∨ H x = none) : ∀ x, (P.setD i p').inF x → P.inF x ∨ H x = none := fun x hx => by
  rcases hx with z | ⟨r, hr, z⟩ | ⟨q, hq, z⟩ | z
  · exact .inl (.inl z)
  · have hr : r ∈ P.ds.set i p' := hr
    rcases List.mem_or_eq_of_mem_set hr with y | y
    · exact .inl (.inr (.inl ⟨r, y, z⟩))
    · rw [y] at z
      exact (h x z).imp (fun y => LHP.inD hp y) id
  · exact .inl (.inr (.inr (.inl ⟨q, hq, z⟩)))
  · exact .inl (LHP.inT z)
theorem LHAt.desk (O : LHAt K A B P s) {i : Nat} {p p' : LP} {d' : DS} (hp : P.ds[i]? = some p) (R : PrM (fun x => x ∈ p.foot) A B A' B') (ha : p'.a = p.a) (hn : ∀ x ∈ p'.foot, x ∈ p.foot ∨ B x = none) (D : LDAt K A' B' p' [] d') : LHAt K A' B' (P.setD i p') ⟨s.desks.set i d', s.sent, s.post⟩ := by
  obtain ⟨own, o1, o2, o3, o4⟩ := O.ow
  have nb : ∀ x ∈ P.base, x ∉ p.foot := fun x hx z => by have h1 := o1 x hx; have h2 := o2 i p hp x z; omega
  obtain ⟨xs, e, hx⟩ := O.ipl
  have hmap : (P.ds.set i p').map (fun p => V.ref p.a) = P.ds.map fun p => V.ref p.a := by
    rw [List.map_set]
    refine List.ext_getElem? fun j => ?_
    rw [List.getElem?_set]
    by_cases z : i = j
    · subst z
      rw [if_pos rfl, if_pos (by rw [List.length_map]; exact lt_of_get hp), List.getElem?_map, hp, ha]; rfl
    · rw [if_neg z]
  have apart : ∀ x, P.inF x → x ∉ p.foot → x ∉ p'.foot := fun x hx n z => (hn x z).elim n fun y => O.alive hx y
  refine ⟨R.b _ _ (nb _ LHP.in_a) O.ia, ?_, R.b _ _ (nb _ LHP.in_sl) O.isl, ⟨xs, R.b _ _ (nb _ LHP.in_ml) e, dpa_ex R.a hx⟩, ?_, fun j p2 d2 h1 h2 => ?_, O.hql,
    fun j q l h1 h2 => (O.hq j q l h1 h2).mono R fun x hx z => by have h3 := o3 j q h1 x hx; have h4 := o2 i p hp x z; omega, fun t ht => R.b _ _ (fun z => by have h3 := o4 t ht; have h4 := o2 i p hp t z; omega) (O.it t ht),
    ⟨fun x => if x ∈ p'.foot then 3 * i + 1 else own x, fun x hx => ?_, fun j p2 h1 x hx => ?_, fun j q h1 x hx => ?_, fun t ht => ?_⟩, O.nd, fun x hx => R.n x (O.na x hx) (O.alive (.inl hx)), fun t ht => R.n t (O.nt t ht) (O.alive (LHP.inT ht))⟩
  · show B' P.dl = some (.lst ((P.ds.set i p').map fun p => V.ref p.a))
    rw [hmap]
    exact R.b _ _ (nb _ LHP.in_dl) O.idl
  · show (P.ds.set i p').length = (s.desks.set i d').length
    rw [List.length_set, List.length_set]; exact O.hdl
  · have h1 : (P.ds.set i p')[j]? = some p2 := h1
    have h2 : (s.desks.set i d')[j]? = some d2 := h2
    rw [List.getElem?_set] at h1 h2
    by_cases e : i = j
    · subst e
      have hl := (List.getElem?_eq_some_iff.mp hp).1
      rw [if_pos rfl, if_pos hl] at h1
      rw [O.hdl] at hl
      rw [if_pos rfl, if_pos hl] at h2
      cases h1; cases h2
      exact D
    · rw [if_neg e] at h1 h2
      exact (O.hd j p2 d2 h1 h2).mono R fun x hx z => by have h3 := o2 j p2 h1 x hx; have h4 := o2 i p hp x z; omega
  · show (if x ∈ p'.foot then _ else _) = 0
    rw [if_neg (apart x (.inl hx) (nb x hx))]
    exact o1 x hx
  · have h1 : (P.ds.set i p')[j]? = some p2 := h1
    rw [List.getElem?_set] at h1
    show (if x ∈ p'.foot then _ else _) = _
    by_cases e : i = j
    · subst e
      rw [if_pos rfl, if_pos (lt_of_get hp)] at h1
      cases h1
      rw [if_pos hx]
    · rw [if_neg e] at h1
      rw [if_neg (apart x (LHP.inD h1 hx) fun z => by have h3 := o2 j p2 h1 x hx; have h4 := o2 i p hp x z; omega)]
      exact o2 j p2 h1 x hx
  · show (if x ∈ p'.foot then _ else _) = _
    have h1 : P.qs[j]? = some q := h1
    rw [if_neg (apart x (LHP.inQ h1 hx) fun z => by have h3 := o3 j q h1 x hx; have h4 := o2 i p hp x z; omega)]
    exact o3 j q h1 x hx
  · show (if t ∈ p'.foot then _ else _) = _
    have ht : P.t = some t := ht
    rw [if_neg (apart t (LHP.inT ht) fun z => by have h3 := o4 t ht; have h4 := o2 i p hp t z; omega)]
    exact o4 t ht
/-- a letter has changed -/
theorem LHAt.letter (O : LHAt K A B P s) {j : Nat} {q : QL} {l' : LS} (hp : P.qs[j]? = some q) (R : PrM (fun x => x ∈ q.foot) A B A' B') (D : LEAt K A' B' q l') : LHAt K A' B' P ⟨s.desks, s.sent.set j l', s.post⟩ := by
  obtain ⟨own, o1, o2, o3, o4⟩ := O.ow
  have nb : ∀ x ∈ P.base, x ∉ q.foot := fun x hx z => by have h1 := o1 x hx; have h2 := o3 j q hp x z; omega
  obtain ⟨xs, e, hx⟩ := O.ipl
  refine ⟨R.b _ _ (nb _ LHP.in_a) O.ia, R.b _ _ (nb _ LHP.in_dl) O.idl, R.b _ _ (nb _ LHP.in_sl) O.isl, ⟨xs, R.b _ _ (nb _ LHP.in_ml) e, dpa_ex R.a hx⟩, O.hdl, fun i p d h1 h2 => (O.hd i p d h1 h2).mono R fun x hx z => by have h3 := o2 i p h1 x hx; have h4 := o3 j q hp x z; omega, by rw [List.length_set]; exact O.hql,
    fun i q2 l2 h1 h2 => ?_, fun t ht => R.b _ _ (fun z => by have h3 := o4 t ht; have h4 := o3 j q hp t z; omega) (O.it t ht), ⟨own, o1, o2, o3, o4⟩, O.nd, fun x hx => R.n x (O.na x hx) (O.alive (.inl hx)), fun t ht => R.n t (O.nt t ht) (O.alive (LHP.inT ht))⟩
  rw [List.getElem?_set] at h2
  by_cases e : j = i
  · subst e
    have hl := (List.getElem?_eq_some_iff.mp hp).1
    rw [O.hql] at hl
    rw [if_pos rfl, if_pos hl] at h2
    cases h2
    rw [hp] at h1
    cases h1
    exact D
  · rw [if_neg e] at h2
    exact (O.hq i q2 l2 h1 h2).mono R fun x hx z => by have h3 := o3 i q2 h1 x hx; have h4 := o3 j q hp x z; omega
/-- the post has changed -/
theorem LHAt.post_ (O : LHAt K A B P s) {ms : List Mail} {xs : List V} (R : PrM (fun x => x = P.ml) A B A' B') (e : B' P.ml = some (.lst xs)) (hx : DpAll K A' xs (ms.map mailD)) : LHAt K A' B' P ⟨s.desks, s.sent, ms⟩ := by
  obtain ⟨own, o1, o2, o3, o4⟩ := O.ow
  obtain ⟨n1, n2, n3, n4, n5, n6⟩ := O.ne
  have hm := o1 _ (LHP.in_ml (P := P))
  exact ⟨R.b _ _ n3 O.ia, R.b _ _ n5 O.idl, R.b _ _ n6 O.isl, ⟨xs, e, hx⟩, O.hdl, fun i p d h1 h2 => (O.hd i p d h1 h2).mono R fun x hx z => by have h3 := o2 i p h1 x hx; rw [z] at h3; omega, O.hql,
    fun j q l h1 h2 => (O.hq j q l h1 h2).mono R fun x hx z => by have h3 := o3 j q h1 x hx; rw [z] at h3; omega, fun t ht => R.b _ _ (fun z => by have h3 := o4 t ht; rw [z] at h3; omega) (O.it t ht), ⟨own, o1, o2, o3, o4⟩, O.nd, fun x hx => R.n x (O.na x hx) (O.alive (.inl hx)), fun t ht => R.n t (O.nt t ht) (O.alive (LHP.inT ht))⟩
/-- a letter is new -/
def LHP.addQ (P : LHP) (q : QL) : LHP := ⟨P.a, P.dl, P.sl, P.ml, P.t, P.tv, P.ds, P.qs ++ [q]⟩
theorem addQ_in {q : QL} {H : Hp} (h : ∀ x ∈ q.foot, H x = none) : ∀ x, (P.addQ q).inF x → P.inF x ∨ H x = none := fun x hx => by
  rcases hx with z | z | ⟨r, hr, z⟩ | z
  · exact .inl (.inl z)
  · exact .inl (.inr (.inl z))
  · rcases List.mem_append.mp hr with y | y
    · exact .inl (.inr (.inr (.inl ⟨r, y, z⟩)))
    · rw [List.mem_singleton.mp y] at z
      exact .inr (h x z)
  · exact .inl (LHP.inT z)
theorem LHAt.add (O : LHAt K A B P s) {q : QL} {l : LS} (D : LEAt K A' B' q l) (nq : ∀ x ∈ q.foot, B x = none) (R : PrM (fun x => x = P.sl) A B A' B') (e : B' P.sl = some (.lst ((P.qs ++ [q]).map fun q => .ref q.a))) :
    LHAt K A' B' (P.addQ q) ⟨s.desks, s.sent ++ [l], s.post⟩ := by
  obtain ⟨own, o1, o2, o3, o4⟩ := O.ow
  obtain ⟨n1, n2, n3, n4, n5, n6⟩ := O.ne
  obtain ⟨xs, ep, hx⟩ := O.ipl
  have hm := o1 _ (LHP.in_sl (P := P))
  have notq : ∀ x, P.inF x → x ∉ q.foot := fun x h z => O.alive h (nq x z)
  refine ⟨R.b _ _ n2 O.ia, R.b _ _ n4 O.idl, e, ⟨xs, R.b _ _ (Ne.symm n6) ep, dpa_ex R.a hx⟩, O.hdl, fun i p d h1 h2 => (O.hd i p d h1 h2).mono R fun x hx z => by have h3 := o2 i p h1 x hx; rw [z] at h3; omega, ?_, ?_, fun t ht => R.b _ _ (fun z => by have h3 := o4 t ht; rw [z] at h3; omega) (O.it t ht), ?_, O.nd, fun x hx => R.n x (O.na x hx) (O.alive (.inl hx)), fun t ht => R.n t (O.nt t ht) (O.alive (LHP.inT ht))⟩
  · show (P.qs ++ [q]).length = (s.sent ++ [l]).length
    rw [List.length_append, List.length_append, O.hql]; rfl
  · intro j q2 l2 h1 h2
    have h1 : (P.qs ++ [q])[j]? = some q2 := h1
    have h2 : (s.sent ++ [l])[j]? = some l2 := h2
    rcases snoc_get h1 with ⟨h3, h4⟩ | ⟨rfl, rfl⟩
    · rw [List.getElem?_append_left (by rw [← O.hql]; exact h4)] at h2
      exact (O.hq j q2 l2 h3 h2).mono R fun x hx z => by have h5 := o3 j q2 h3 x hx; rw [z] at h5; omega
    · rw [O.hql, List.getElem?_append_right (Nat.le_refl _), Nat.sub_self] at h2
      cases h2
      exact D
  · refine ⟨fun x => if x ∈ q.foot then 3 * P.qs.length + 2 else own x, fun x hx => ?_, fun i p hp x hx => ?_, fun j q2 hq2 x hx => ?_, fun t ht => ?_⟩
    · show (if x ∈ q.foot then _ else _) = 0
      rw [if_neg (notq x (.inl hx))]
      exact o1 x hx
    · show (if x ∈ q.foot then _ else _) = _
      rw [if_neg (notq x (LHP.inD hp hx))]
      exact o2 i p hp x hx
    · show (if x ∈ q.foot then _ else _) = _
      have hq2 : (P.qs ++ [q])[j]? = some q2 := hq2
      rcases snoc_get hq2 with ⟨h3, h4⟩ | ⟨rfl, rfl⟩
      · rw [if_neg (notq x (LHP.inQ h3 hx))]
        exact o3 j q2 h3 x hx
      · rw [if_pos hx]
    · show (if t ∈ q.foot then _ else _) = _
      have ht : P.t = some t := ht
      rw [if_neg (notq t (LHP.inT ht))]
      exact o4 t ht
/-- what is told is kept -/
def LHP.setT (P : LHP) (t : Addr) (tv : List V) : LHP := ⟨P.a, P.dl, P.sl, P.ml, some t, tv, P.ds, P.qs⟩
theorem lh_told (t : Addr) (tv : List V) : putK (lhK P) (.inr "told") (.ref t) = lhK (P.setT t tv) := by
  have h1 : (Sum.inr ("desks" : Str) : Key) ≠ Sum.inr ("told" : Str) := kne (a := "desks") (b := "told") (by decide)
  have h2 : (Sum.inr ("sent" : Str) : Key) ≠ Sum.inr ("told" : Str) := kne (a := "sent") (b := "told") (by decide)
  have h3 : (Sum.inr ("mails" : Str) : Key) ≠ Sum.inr ("told" : Str) := kne (a := "mails") (b := "told") (by decide)
  obtain ⟨a, dl, sl, ml, o, ov, ds, qs⟩ := P
  unfold lhK LHP.setT putK
  cases o with
  | none =>
    simp only [toldK, List.any_cons, List.any_nil, decide_eq_false h1, decide_eq_false h2, decide_eq_false h3, Bool.false_or]
    rw [if_neg (by decide)]
    rfl
  | some u =>
    simp only [toldK, List.any_cons, List.any_nil, decide_eq_false h1, decide_eq_false h2, decide_eq_false h3, Bool.false_or, List.map_cons, List.map_nil, if_neg h1, if_neg h2, if_neg h3]
    rw [if_pos (by simp)]
    simp
theorem setT_in {t : Addr} {tv : List V} {H : Hp} (h : H t = none) : ∀ x, (P.setT t tv).inF x → P.inF x ∨ H x = none := fun x hx => by
  rcases hx with z | z | z | z
  · exact .inl (.inl z)
  · exact .inl (.inr (.inl z))
  · exact .inl (.inr (.inr (.inl z)))
  · have z : some t = some x := z
    cases z
    exact .inr h
theorem LHAt.told (O : LHAt K A B P s) {t : Addr} {tv : List V} (nt : ¬ P.inF t) (nA : A t = none) (hB : B t = some (.lst tv)) (s0 : Ex A B) : LHAt K A (upd B P.a (.dK (lhK (P.setT t tv)))) (P.setT t tv) s := by
  obtain ⟨own, o1, o2, o3, o4⟩ := O.ow
  obtain ⟨n1, n2, n3, n4, n5, n6⟩ := O.ne
  obtain ⟨xs, ep, hx⟩ := O.ipl
  have R := (PrM.refl (F := fun x => x = P.a) s0).put (l := P.a) (o := .dK (lhK (P.setT t tv))) (.inl rfl) (O.na _ LHP.in_a)
  have ha := o1 _ (LHP.in_a (P := P))
  have na : t ≠ P.a := fun z => nt (z ▸ .inl LHP.in_a)
  refine ⟨upd_same, R.b _ _ (Ne.symm n1) O.idl, R.b _ _ (Ne.symm n2) O.isl, ⟨xs, R.b _ _ (Ne.symm n3) ep, hx⟩, O.hdl, fun i p d h1 h2 => (O.hd i p d h1 h2).mono R fun x hx z => by have h3 := o2 i p h1 x hx; rw [z] at h3; omega, O.hql, fun j q l h1 h2 => (O.hq j q l h1 h2).mono R fun x hx z => by have h3 := o3 j q h1 x hx; rw [z] at h3; omega, fun u hu => ?_, ⟨fun x => if x = t then 3 else own x, fun x hx => ?_, fun i p hp x hx => ?_, fun j q hq x hx => ?_, fun u hu => ?_⟩, O.nd, O.na, fun u hu => ?_⟩
  · have hu : some t = some u := hu
    cases hu
    rw [upd_ne na]
    exact hB
  · show (if x = t then _ else _) = 0
    rw [if_neg (fun z : x = t => nt (z ▸ .inl hx))]
    exact o1 x hx
  · show (if x = t then _ else _) = _
    have hp : P.ds[i]? = some p := hp
    rw [if_neg (fun z : x = t => nt (z ▸ LHP.inD hp hx))]
    exact o2 i p hp x hx
  · show (if x = t then _ else _) = _
    have hq : P.qs[j]? = some q := hq
    rw [if_neg (fun z : x = t => nt (z ▸ LHP.inQ hq hx))]
    exact o3 j q hq x hx
  · have hu : some t = some u := hu
    cases hu
    exact if_pos rfl
  · have hu : some t = some u := hu
    cases hu
    exact nA
theorem LHAt.cleared {t : Addr} {tv : List V} (O : LHAt K A B (P.setT t tv) s) (R : PrM (fun x => x = t) A B A' B') (e : B' t = some (.lst [])) : LHAt K A' B' (P.setT t []) s := by
  obtain ⟨own, o1, o2, o3, o4⟩ := O.ow
  have ht := o4 t rfl
  have nb : ∀ x ∈ (P.setT t tv).base, ¬ x = t := fun x hx z => by have h1 := o1 x hx; rw [z] at h1; omega
  obtain ⟨xs, ep, hx⟩ := O.ipl
  exact ⟨R.b _ _ (nb _ LHP.in_a) O.ia, R.b _ _ (nb _ LHP.in_dl) O.idl, R.b _ _ (nb _ LHP.in_sl) O.isl, ⟨xs, R.b _ _ (nb _ LHP.in_ml) ep, dpa_ex R.a hx⟩, O.hdl, fun i p d h1 h2 => (O.hd i p d h1 h2).mono R fun x hx z => by have h3 := o2 i p h1 x hx; rw [z] at h3; omega, O.hql, fun j q l h1 h2 => (O.hq j q l h1 h2).mono R fun x hx z => by have h3 := o3 j q h1 x hx; rw [z] at h3; omega, fun u hu => (by
    have hu : some t = some u := hu
    cases hu
    exact e), ⟨own, o1, o2, o3, o4⟩, O.nd, fun x hx => R.n x (O.na x hx) (O.alive (.inl hx)), fun u hu => (by
    have hu : some t = some u := hu
    cases hu
    exact R.n t (O.nt t rfl) (O.alive (LHP.inT rfl)))⟩
end

end K8

namespace K8
open PySem L2 Evl Ob

local macro_rules | `(tactic| tm_at "sh") => `(tactic| first | exact sh_mk | exact sh_mks | exact sh_b3)

section
variable {K : PySem.W.Frag} {A B A' B' H : Hp} {P : LHP} {s : HS} {σ : L2.St} {ta tb te : TE} {f : Str} {v : V}
theorem LHAt.get (O : LHAt K A B P s) (ha : Ev ta σ B (.ref P.a)) (hv : valV (lhK P) (.inr f) = some v) : Ev (tDGet ta (tC (.str f))) σ B v := ev_dgetS (K := K) ha (.inl O.ia) ed_str hv
theorem LHAt.ev_let (O : LHAt K A B P s) (ha : Ev ta σ B (.ref P.a)) {j : Nat} {q : QL} (hq : P.qs[j]? = some q) (he : EvD K te σ B (.int (j : Int))) : Ev (tOp (rIxL K) (tDGet ta (tC (.str "sent"))) te) σ B (.ref q.a) :=
  ev_ixL (O.get ha rfl) (sq_of O.isl) he (at_mapG (fun q : QL => V.ref q.a) hq)
theorem LHAt.ev_desk (O : LHAt K A B P s) (ha : Ev ta σ B (.ref P.a)) {j : Nat} {p : LP} (hq : P.ds[j]? = some p) (he : EvD K te σ B (.int (j : Int))) : Ev (tOp (rIxL K) (tDGet ta (tC (.str "desks"))) te) σ B (.ref p.a) :=
  ev_ixL (O.get ha rfl) (sq_of O.idl) he (at_mapG (fun p : LP => V.ref p.a) hq)
theorem LHAt.ev_n (O : LHAt K A B P s) (ha : Ev ta σ B (.ref P.a)) : EvD K (tCB (rLenS K) (tCons (tDGet ta (tC (.str "desks"))) tNil)) σ B (.int (s.desks.length : Int)) := by
  have h := ed_lenL (K := K) (O.get (f := "desks") ha rfl) (sq_of O.idl)
  rw [List.length_map, O.hdl] at h
  exact h
theorem LHAt.ev_l (O : LHAt K A B P s) (ha : Ev ta σ B (.ref P.a)) : EvD K (tCB (rLenS K) (tCons (tDGet ta (tC (.str "sent"))) tNil)) σ B (.int (s.sent.length : Int)) := by
  have h := ed_lenL (K := K) (O.get (f := "sent") ha rfl) (sq_of O.isl)
  rw [List.length_map, O.hql] at h
  exact h
theorem LHAt.ev_m (O : LHAt K A B P s) (es : Ex A B) (ha : Ev ta σ B (.ref P.a)) : EvD K (tDGet ta (tC (.str "mails"))) σ B (.list (s.post.map mailD)) := by
  obtain ⟨xs, e, hx⟩ := O.ipl
  exact ed_v (O.get (f := "mails") ha rfl) (.lst (sq_of e) (dpa_ex es hx))
end
structure NewL (K : PySem.W.Frag) (A B0 B : Hp) (L : Addr) (i : Nat) (ps : List LP) : Prop where
  len : ps.length = i
  pr : PrM (fun _ => False) A B0 A B
  lst : B L = some (.lst (ps.map fun p => .ref p.a))
  ds : ∀ (j : Nat) p, ps[j]? = some p → LDAt K A B p [] (mkDS j)
  ow : ∃ own : Addr → Nat, ∀ (j : Nat) p, ps[j]? = some p → ∀ x ∈ p.foot, own x = 3 * j + 1
  fr : ∀ p ∈ ps, ∀ x ∈ p.foot, B0 x = none ∧ x ≠ L
section
variable {P : Program} {w : World} {K : PySem.W.Frag} {mg : Str → Option Value} {base : Heap} {c : Cs}
def sp_lhouse (K : PySem.W.Frag) : Sp := fun vs H Q _ => ∃ (A : Hp) (n : Nat), vs = [.int (n : Nat)] ∧ Ex A H ∧ n ≤ 40 ∧ ∀ (P : LHP) H', PrM (fun _ => False) A H A H' → (∀ x, P.inF x → H x = none) → LHAt K A H' P (newHS n) → P.tv = [] → Q (.ref P.a) H'
theorem ok_lhouse (T : Tx K mg c) : DefOk P w K mg base CX0 2 "_law_house" ["_law_many"] (sp_lhouse K) := by
  obtain ⟨f, fd, d⟩ := T.d_law_house
  refine d.ok (d.F.ok sc_law_house (fun vs H Q E h => ?_) fun cdv A outer s H vs Q E hr h => ?_)
  · obtain ⟨_, _, e, _⟩ := h
    rw [e]
    rfl
  obtain ⟨A0, n, rfl, s0, hn, k⟩ := h
  have nd := sc_law_house.nd
  have G_law_desk := ok_ldesk (P := P) (w := w) (base := base) T
  refine ⟨_, (pss_one (ps_ret (pe_disp (pps_cons pe_str (pe_lc (own := [("_law_hand_here", 1)]) (g := gName 1) rfl nd (pi_range1 rfl T.mn_range (pa_cons (pv 0) pa_nil)) (blkOk_by (own := [("_law_hand_here", 1)]) (N := ["_law_many", "_law_hand_here"]) (sc := defScope s_law_house) (by decide +kernel)) (fun _ _ _ _ _ => pg_name (i := 1) nd rfl (Or.inl rfl)) (fun _ _ _ _ _ => pts_nil) (fun _ _ _ _ _ => (pe_cd G_law_desk (hr.mono (by decide)) rfl pass0 (pa_cons (pv 1) pa_nil)))) (pps_cons pe_str (pe_lst pa_nil) (pps_cons pe_str (pe_lst pa_nil) pps_nil))) (by rfl) (by rfl) (fun z => by cases z) (by decide)))), ?_⟩
  try dsimp only [cx_K]
  intro pa hpa
  have P1 : PrM (fun _ => False) A0 H A0 (upd H pa (.dK [])) := (PrM.refl s0).new hpa
  have g1 : (upd H pa (.dK [])) pa = some (.dK []) := upd_same
  generalize upd H pa (.dK []) = B1 at P1 g1 ⊢
  refine ⟨_, rfl, (n : Int), rfl, by omega, by omega, fun L hL => lc_range (lo := 0) (n := ((n : Int)).toNat) (fun i H' => ∃ ps, NewL K A0 B1 H' L i ps) ?_ ?_ ?_⟩
  · exact ⟨[], rfl, (PrM.refl P1.s).new hL, upd_same, fun j p h => by simp at h, ⟨fun _ => 0, fun j p h => by simp at h⟩, fun p h => by simp at h⟩
  · rintro i H' hi ⟨ps, N⟩
    have e0 : (0 : Int) + (i : Int) = (i : Int) := Int.zero_add _
    rw [e0]
    refine ⟨rfl, ?_⟩
    refine t_yes ?_
    refine c_callV (ea_cons (ev_var rfl) ea_nil) fun H4 e4 => ⟨A0, (i : Int), rfl, N.pr.s.trans e4, fun q H5 P5' f5' D5 => ?_⟩
    have P5 : PrM (fun _ => False) A0 H' A0 H5 := ((PrM.refl N.pr.s).up e4).trans P5'
    have f5 : ∀ x ∈ q.foot, H' x = none := fun x hx => fresh_back e4 (f5' x hx)
    have hLalive : H' L ≠ none := by rw [N.lst]; simp
    have nAL : A0 L = none := fresh_back P1.s hL
    have g5 : H5 L = some (.lst (ps.map fun p => .ref p.a)) := P5.b _ _ (fun z => z) N.lst
    have PQ := (PrM.refl (F := fun x => x = L) P5.s).put (l := L) (o := .lst ((ps.map fun p => V.ref p.a) ++ [.ref q.a])) (.inl rfl) nAL
    have fL : ∀ x ∈ q.foot, x ≠ L := fun x hx z => hLalive (z ▸ f5 x hx)
    refine ⟨_, g5, sz_lt (by rw [List.length_map, N.len]; omega), ps ++ [q], by rw [List.length_append, N.len]; rfl, (N.pr.trans P5).put (.inr hL) nAL, by rw [upd_same, List.map_append]; rfl, fun j p h => ?_, ?_, fun p hp x hx => ?_⟩
    · rcases snoc_get h with ⟨h1, h2⟩ | ⟨rfl, rfl⟩
      · exact ((N.ds j p h1).mono P5 fun _ _ z => z).mono PQ fun x hx z => (N.fr p (List.mem_of_getElem? h1) x hx).2 z
      · rw [N.len]
        exact D5.mono PQ fun x hx z => fL x hx z
    · obtain ⟨own, ho⟩ := N.ow
      refine ⟨fun x => if x ∈ q.foot then 3 * i + 1 else own x, fun j p h x hx => ?_⟩
      show (if x ∈ q.foot then _ else _) = _
      rcases snoc_get h with ⟨h1, h2⟩ | ⟨rfl, rfl⟩
      · rw [if_neg (fun z => (N.ds j p h1).alive x hx (f5 x z))]
        exact ho j p h1 x hx
      · rw [if_pos hx, N.len]
    · rcases List.mem_append.mp hp with z | z
      · exact N.fr p z x hx
      · rw [List.mem_singleton.mp z] at hx
        exact ⟨N.pr.fresh (f5 x hx), fL x hx⟩
  · rintro H' ⟨ps, N⟩
    have hlen : ps.length = n := by rw [N.len]; omega
    have g2 : H' pa = some (.dK []) := N.pr.b _ _ (fun z => z) g1
    have hLa : L ≠ pa := fun z => by rw [z, g1] at hL; cases hL
    refine ⟨sz_of (by decide), fun p4 hp4 => ?_⟩
    have n4 : p4 ≠ pa := fun z => by rw [z, g2] at hp4; cases hp4
    have n4L : p4 ≠ L := fun z => by rw [z, N.lst] at hp4; cases hp4
    have PA := (PrM.refl (F := fun _ => False) N.pr.s).new (o := .lst []) hp4
    have s4 : (upd H' p4 (.lst [])) p4 = some (.lst []) := upd_same
    generalize upd H' p4 (.lst []) = H4 at PA s4 ⊢
    refine ⟨sz_of (by decide), fun p5 hp5 => ?_⟩
    have n5 : p5 ≠ pa := fun z => by have := PA.b _ _ (fun z => z) g2; rw [← z, hp5] at this; cases this
    have n5L : p5 ≠ L := fun z => by have := PA.b _ _ (fun z => z) N.lst; rw [← z, hp5] at this; cases this
    have n54 : p5 ≠ p4 := fun z => by rw [z, s4] at hp5; cases hp5
    have f5' : H' p5 = none := PA.fresh hp5
    have PB := PA.new (o := .lst []) hp5
    have t5 : (upd H4 p5 (.lst [])) p5 = some (.lst []) := upd_same
    have t4 : (upd H4 p5 (.lst [])) p4 = some (.lst []) := by rw [upd_ne (Ne.symm n54)]; exact s4
    generalize upd H4 p5 (.lst []) = H5 at PB t5 t4 ⊢
    have g5 := PB.b _ _ (fun z => z) g2
    have nAa : A0 pa = none := fresh_back s0 hpa
    have PR5 := (PrM.refl (F := fun x => x = pa) PB.s).put (l := pa) (o := .dK (lhK ⟨pa, L, p4, p5, none, [], ps, []⟩)) (.inl rfl) nAa
    have hLH : H L = none := P1.fresh hL
    have f4 : H p4 = none := P1.fresh (N.pr.fresh hp4)
    have f5 : H p5 = none := P1.fresh (N.pr.fresh f5')
    have frH : ∀ p ∈ ps, ∀ x ∈ p.foot, H x = none := fun p hp x hx => P1.fresh (N.fr p hp x hx).1
    have nap : ∀ p ∈ ps, ∀ x ∈ p.foot, x ≠ pa := fun p hp x hx z => by have := (N.fr p hp x hx).1; rw [z, g1] at this; cases this
    have base : ∀ x ∈ [pa, L, p4, p5], H x = none := fun x hx => by
      simp only [List.mem_cons, List.not_mem_nil, or_false] at hx
      rcases hx with rfl | rfl | rfl | rfl
      · exact hpa
      · exact hLH
      · exact f4
      · exact f5
    refine ⟨g5, lhK ⟨pa, L, p4, p5, none, [], ps, []⟩, rfl, by show 3 ≤ 15; decide, ?_⟩
    have PF : PrM (fun _ => False) A0 H A0 (upd H5 pa (.dK (lhK ⟨pa, L, p4, p5, none, [], ps, []⟩))) := ((P1.trans N.pr).trans PB).put (.inr hpa) nAa
    refine k ⟨pa, L, p4, p5, none, [], ps, []⟩ _ PF (fun x hx => ?_) ⟨upd_same, ?_, ?_, ⟨[], ?_, .nil⟩, ?_, fun i p d h1 h2 => ?_, rfl, fun j q l h => by simp at h, fun t ht => (by cases ht), ?_, ?_, fun x hx => fresh_back s0 (base x hx), fun t ht => (by cases ht)⟩ rfl
    · rcases hx with h | ⟨p, hp, h⟩ | ⟨q, hq, h⟩ | h
      · exact base x h
      · exact frH p hp x h
      · simp at hq
      · cases h
    · show (upd H5 pa _) L = _
      rw [upd_ne hLa]; exact PB.b _ _ (fun z => z) N.lst
    · show (upd H5 pa _) p4 = _
      rw [upd_ne n4]; exact t4
    · show (upd H5 pa _) p5 = _
      rw [upd_ne n5]; exact t5
    · show ps.length = ((List.range n).map mkDS).length
      rw [List.length_map, List.length_range, hlen]
    · have h2 : ((List.range n).map mkDS)[i]? = some d := h2
      rw [List.getElem?_map] at h2
      obtain ⟨y, hy, rfl⟩ := Option.map_eq_some_iff.mp h2
      have hyi : y = i := by
        obtain ⟨h3, h4⟩ := List.getElem?_eq_some_iff.mp hy
        rw [List.getElem_range] at h4
        exact h4.symm
      subst hyi
      exact ((N.ds _ p h1).mono PB fun _ _ z => z).mono PR5 fun x hx z => nap p (List.mem_of_getElem? h1) x hx z
    · obtain ⟨own, ho⟩ := N.ow
      have notb : ∀ p ∈ ps, ∀ x ∈ p.foot, x ∉ [pa, L, p4, p5] := fun p hp x hx z => by
        obtain ⟨j, hj⟩ := List.mem_iff_getElem?.mp hp
        have al := (N.ds j p hj).alive x hx
        simp only [List.mem_cons, List.not_mem_nil, or_false] at z
        rcases z with z | z | z | z
        · exact nap p hp x hx z
        · exact (N.fr p hp x hx).2 z
        · exact al (z ▸ hp4)
        · exact al (z ▸ f5')
      refine ⟨fun x => if x ∈ [pa, L, p4, p5] then 0 else own x, fun x hx => if_pos hx, fun i p hp x hx => ?_, fun j q h => by simp at h, fun t ht => (by cases ht)⟩
      show (if x ∈ [pa, L, p4, p5] then 0 else own x) = _
      rw [if_neg (notb p (List.mem_of_getElem? hp) x hx)]
      exact ho i p hp x hx
    · show [pa, L, p4, p5].Nodup
      simp only [List.nodup_cons, List.mem_cons, List.not_mem_nil, or_false, not_or, not_false_eq_true, List.nodup_nil, and_true]
      exact ⟨⟨Ne.symm hLa, Ne.symm n4, Ne.symm n5⟩, ⟨Ne.symm n4L, Ne.symm n5L⟩, Ne.symm n54⟩
/-! a mail to each other hand -/
def sp_lto (K : PySem.W.Frag) : Sp := fun vs H Q _ => ∃ (A : Hp) (P : LHP) (s : HS) (kw : MW) (l : Nat) (x : LS) (vm : V) (m : Option Mk), vs = [.ref P.a, .str (MW.str kw), .int (l : Nat), vm] ∧ Ex A H ∧ LHAt K A H P s ∧ s.sent[l]? = some x ∧ Dp K A vm (mkO m) ∧ s.desks.length ≤ 40 ∧ s.post.length < 90000 ∧
  ∀ A' H', PrM (fun x => x = P.ml) A H A' H' → LHAt K A' H' P ⟨s.desks, s.sent, s.post ++ mailsTo s.desks.length kw l x.writer m⟩ → Q .non H'
theorem ok_lto (T : Tx K mg c) : DefOk P w K mg base CX0 1 "_law_to_others" ["_law_h", "_law_word", "_law_letter_here", "_law_mark_here"] (sp_lto K) := by
  obtain ⟨f, fd, d⟩ := T.d_law_to_others
  refine d.ok (d.F.ok sc_law_to_others (fun vs H Q E h => ?_) fun cdv A outer s H vs Q E hr h => ?_)
  · obtain ⟨_, _, _, _, _, _, _, _, e, _⟩ := h
    rw [e]
    rfl
  obtain ⟨A0, P0, st, kw, l, x, vm, m, rfl, s0, O, hx, hvm, hn, hp, k⟩ := h
  have nd := sc_law_to_others.nd
  refine ⟨_, (pss_cons (ps_set (i := 4) nd rfl (Or.inl rfl) (pe_ix (ixL (K := K) rfl) (pe_ix (ixL (K := K) rfl) (pe_dget (hu_of hr) (pv 0) pe_str (fun _ _ => rfl)) (pv 2) (fun _ _ => rfl)) pe_int (fun _ _ => rfl)))
      (pss_one (ps_for PassesOwn.never rfl (pi_range1 rfl T.mn_range (pa_cons (pe_callB (c_len (K := K) rfl) rfl T.mn_len (by decide +kernel) (pa_cons (pe_dget (hu_of hr) (pv 0) pe_str (fun _ _ => rfl)) pa_nil)) pa_nil)) (pg_name (i := 5) nd rfl (Or.inl rfl)) (pss_one (ps_if (pt_cmpR op_ne (pv 5) (pv 4) (nomark _)) (pss_one (ps_expr (pe_bm PySem.F.plainAttrs_list PySem.F.slot_list_append PySem.F.type_list_append mt_append (pe_dget (hu_of hr) (pv 0) pe_str (fun _ _ => rfl)) (pa_cons (pe_tup (pa_cons (pv 1) (pa_cons (pv 2) (pa_cons (pv 4) (pa_cons (pv 5) (pa_cons (pv 3) pa_nil)))))) pa_nil)))) pss_nil))))), ?_⟩
  try dsimp only [cx_K]
  obtain ⟨n1, n2, n3, n4, n5, n6⟩ := O.ne
  obtain ⟨q, hq, L⟩ := O.gq hx
  obtain ⟨vf, hia, _⟩ := L.ia
  refine q_asgV (v := .int (x.writer : Nat)) (ev_ixL (O.ev_let (ev_var rfl) hq (ed_var rfl (.int (l : Int)))) (sq_of hia) ed_int rfl) fun B1 e1 => ?_
  obtain ⟨xs0, hpl, hxs0⟩ := O.ipl
  let J : Nat → L2.St → Hp → Prop := fun i σ B => ∃ A' w5 xs, σ = [some (.ref P0.a), some (.str kw.str), some (.int (l : Nat)), some vm, some (.int (x.writer : Nat)), w5] ∧ PrM (fun x => x = P0.ml) A0 H A' B ∧ B P0.ml = some (.lst xs) ∧ DpAll K A' xs ((st.post ++ mailsTo i kw l x.writer m).map mailD)
  have O1 := O.up s0 e1
  refine s_forRM K (n := (st.desks.length : Int)) (O1.ev_n (ev_var rfl)) (by omega) J (fun B' e => ⟨A0, none, xs0, rfl, (PrM.refl s0).up (e1.trans e), (e1.trans e) _ _ hpl, by rw [show mailsTo 0 kw l x.writer m = [] from rfl, List.append_nil]; exact hxs0⟩) ?_ ?_
  · rintro i σ B hi ⟨A', w5, xs, rfl, PB, hB, hxs⟩
    have hia' : B P0.a = some (.dK (lhK P0)) := PB.b _ _ (fun z => n3 z) O.ia
    have hl := dpa_len hxs
    rw [List.length_map, List.length_append] at hl
    have hml := mailsTo_len i kw l x.writer m
    refine s_ifM K (b := decide (i ≠ x.writer)) (eb_D (ed_nei (ed_var rfl (.int (i : Int))) (ed_var rfl (.int (x.writer : Int))))) (by
      by_cases h : i = x.writer
      · rw [h]; simp
      · rw [decide_eq_true h, beq_false_of_ne (by omega)]; rfl) (fun hb B2 e2 => ?_) (fun hb B2 e2 => ?_)
    · have hne := of_decide_eq_true hb
      have PB2 := PB.up e2
      refine s_app K (d := mailD ⟨kw, l, x.writer, i, m⟩) PB2.s (ev_dgetS (K := K) (ev_var rfl) (.inl (e2 _ _ hia')) ed_str rfl) (ep_tup (epa_cons (ep_v (ev_var rfl) (.str _)) (epa_cons (ep_v (ev_var rfl) (.int _)) (epa_cons (ep_v (ev_var rfl) (.int _)) (epa_cons (ep_v (ev_var rfl) (.int _)) (epa_cons (ep_v (ev_var rfl) (dp_ex PB.a hvm)) epa_nil))))) (by show 5 ≤ 100000; decide)) (e2 _ _ hB) (by omega) fun v3 A3 B3 P3 hv3 => ?_
      refine ⟨A3, _, xs ++ [v3], rfl, (PB2.pr P3).put (.inl rfl) ((PB2.pr P3).n _ (O.na _ LHP.in_ml) (O.alive (.inl LHP.in_ml))), upd_same, ?_⟩
      rw [mailsTo_succ, if_pos hne, ← List.append_assoc, List.map_append]
      exact dpa_app (dpa_ex P3.a hxs) (.cons hv3 .nil)
    · have hne := of_decide_eq_false hb
      refine ⟨A', _, xs, rfl, PB.up e2, e2 _ _ hB, ?_⟩
      rw [mailsTo_succ, if_neg hne, List.append_nil]
      exact hxs
  · rintro σ B ⟨A', w5, xs, rfl, PB, hB, hxs⟩
    refine k A' B PB (O.post_ PB hB ?_)
    rw [show ((st.desks.length : Nat) : Int).toNat = st.desks.length from rfl] at hxs
    exact hxs
end

end K8

namespace K8
open PySem L2 Evl Ob

local macro_rules | `(tactic| tm_at "sh") => `(tactic| first | exact sh_mk | exact sh_mks | exact sh_b3)

section
variable {K : PySem.W.Frag} {A H : Hp} {σ : L2.St} {ta : TE} {l : Addr} {xs : List V} {ms : List Mk} {Q : VK}
/-- max of the marks that came -/
theorem max_te (s : Ex A H) (ha : Ev ta σ H (.ref l)) (hl : H l = some (.lst xs)) (hx : DpAll K A xs (ms.map mkD)) (hne : ms ≠ []) (k : ∀ v B, Ex H B → Dp K A v (mkD (great ms)) → Q v B) : tCB (rMaxT K) (tCons ta tNil) σ H Q :=
  ha H (Ex.refl _) _ fun B1 e1 => by
    have hlen : xs.length = ms.length := by rw [dpa_len hx, List.length_map]
    refine ⟨l, xs, ms, rfl, sq_of (e1 _ _ hl), hlen, by rw [hlen]; exact List.length_pos_iff.mpr hne, fun j x m hxj hmj => ?_, fun j x mj hxj hmj hb => ?_⟩
    · obtain ⟨v', h3, h4⟩ := dpa_get (d := mkD m) hx (by rw [List.getElem?_map, hmj]; rfl)
      rw [hxj] at h3
      cases h3
      obtain ⟨t, ys, rfl, sq, al⟩ := dp_tuple h4
      obtain ⟨v1, v2, rfl, g1, g2⟩ := dpa2 al
      cases g1; cases g2
      exact ⟨t, rfl, ex_t (s.trans e1) sq⟩
    · obtain ⟨v', h3, h4⟩ := dpa_get (d := mkD mj) hx (by rw [List.getElem?_map, hmj]; rfl)
      rw [hxj] at h3
      cases h3
      have hge : ∀ m ∈ ms, mless mj m = false := fun m hm => by
        obtain ⟨i, hi⟩ := List.mem_iff_getElem?.mp hm
        have := hb i m hi
        rw [lex_gt] at this
        exact this
      have e : mj = great ms := mless_eq (hge _ (great_mem hne)) (great_ge (List.mem_of_getElem? hmj))
      exact k x B1 e1 (e ▸ h4)
end
theorem HS.look_eq {s : HS} {l : Nat} {x : LS} {s' : HS} (hx : s.sent[l]? = some x) (h : s.look l = some s') : (if x.numbers.length = s.desks.length then (s.desks[x.writer]?).bind fun d => (d.settle? l (great x.numbers)).map fun d' => HS.mk (s.desks.set x.writer d') (s.sent.set l ⟨x.writer, x.words, x.numbers, some (great x.numbers)⟩) (s.post ++ mailsTo s.desks.length .mark l x.writer (some (great x.numbers))) else some s) = some s' := by
  unfold HS.look at h
  rw [hx] at h
  exact h
theorem set_get {α : Type} {l : List α} {i : Nat} {x : α} (h : l[i]? = some x) : l.set i x = l := by
  refine List.ext_getElem? fun j => ?_
  rw [List.getElem?_set]
  by_cases z : i = j
  · subst z
    rw [if_pos rfl, if_pos (lt_of_get h), h]
  · rw [if_neg z]
theorem newr_in {p : LP} {r : Addr} {H : Hp} (h : H r = none) : ∀ x ∈ (LP.mk p.a p.l p.m p.d r).foot, x ∈ p.foot ∨ H x = none := fun x hx => by
  simp only [LP.foot, List.mem_cons, List.not_mem_nil, or_false] at hx ⊢
  rcases hx with rfl | rfl | rfl | rfl | rfl
  · exact .inl (.inl rfl)
  · exact .inl (.inr (.inl rfl))
  · exact .inl (.inr (.inr (.inl rfl)))
  · exact .inl (.inr (.inr (.inr (.inl rfl))))
  · exact .inr h
section
variable {P : LHP} {A B A' B' : Hp}
theorem lrM (R : PrM (fun x => x = P.ml) A B A' B') : PrM P.inF A B A' B' := R.mono fun x h => .inl (h ▸ LHP.in_ml)
theorem lrD {i : Nat} {p : LP} (h : P.ds[i]? = some p) (R : PrM (fun x => x ∈ p.foot) A B A' B') : PrM P.inF A B A' B' := R.mono fun x hx => LHP.inD h hx
theorem lrL {j : Nat} {q : QL} (h : P.qs[j]? = some q) (R : PrM (fun x => x ∈ q.foot) A B A' B') : PrM P.inF A B A' B' := R.mono fun x hx => LHP.inQ h hx
end
section
variable {P : Program} {w : World} {K : PySem.W.Frag} {mg : Str → Option Value} {base : Heap} {c : Cs}
def sp_llook (K : PySem.W.Frag) : Sp := fun vs H Q _ => ∃ (A : Hp) (P : LHP) (s : HS) (l : Nat) (s' : HS), vs = [.ref P.a, .int (l : Nat)] ∧ Ex A H ∧ LHAt K A H P s ∧ s.look l = some s' ∧ Sm 79000 s ∧ (∀ d ∈ s.desks, Good d) ∧
  ∀ P' A' H', P'.a = P.a ∧ P'.tv = P.tv → PrM P.inF A H A' H' → (∀ x, P'.inF x → P.inF x ∨ H x = none) → LHAt K A' H' P' s' → Q .non H'
theorem ok_llook (T : Tx K mg c) : DefOk P w K mg base CX0 3 "_law_look" ["_law_h", "_law_letter_here"] (sp_llook K) := by
  obtain ⟨f, fd, d⟩ := T.d_law_look
  refine d.ok (d.F.ok sc_law_look (fun vs H Q E h => ?_) fun cdv A outer s H vs Q E hr h => ?_)
  · obtain ⟨_, _, _, _, _, e, _⟩ := h
    rw [e]
    rfl
  obtain ⟨A0, P0, st, l, s', rfl, s0, O, hs, hm, hG, k⟩ := h
  have nd := sc_law_look.nd
  have G_law_settled := ok_lset (P := P) (w := w) (base := base) T
  have G_law_to_others := ok_lto (P := P) (w := w) (base := base) T
  refine ⟨_, (pss_cons (ps_set (i := 2) nd rfl (Or.inl rfl) (pe_ix (ixL (K := K) rfl) (pe_dget (hu_of hr) (pv 0) pe_str (fun _ _ => rfl)) (pv 1) (fun _ _ => rfl)))
      (pss_one (ps_if (pt_cmpR op_eq (pe_callB (c_len (K := K) rfl) rfl T.mn_len (by decide +kernel) (pa_cons (pe_ix (ixL (K := K) rfl) (pv 2) pe_int (fun _ _ => rfl)) pa_nil)) (pe_callB (c_len (K := K) rfl) rfl T.mn_len (by decide +kernel) (pa_cons (pe_dget (hu_of hr) (pv 0) pe_str (fun _ _ => rfl)) pa_nil)) (nomark _)) (pss_cons (ps_asg (pe_callB (cr_maxT (K := K) rfl (by rfl) hr.units) rfl T.mn_max (by decide +kernel) (pa_cons (pe_ix (ixL (K := K) rfl) (pv 2) pe_int (fun _ _ => rfl)) pa_nil)) (pg_sub (pv 2) pe_int set_list))
        (pss_cons (ps_expr (pe_cd G_law_settled (hr.mono (by decide)) rfl pass0 (pa_cons (pe_ix (ixL (K := K) rfl) (pe_dget (hu_of hr) (pv 0) pe_str (fun _ _ => rfl)) (pe_ix (ixL (K := K) rfl) (pv 2) pe_int (fun _ _ => rfl)) (fun _ _ => rfl)) (pa_cons (pv 1) (pa_cons (pe_ix (ixL (K := K) rfl) (pv 2) pe_int (fun _ _ => rfl)) pa_nil)))))
        (pss_one (ps_expr (pe_cd G_law_to_others (hr.mono (by decide)) rfl pass0 (pa_cons (pv 0) (pa_cons pe_str (pa_cons (pv 1) (pa_cons (pe_ix (ixL (K := K) rfl) (pv 2) pe_int (fun _ _ => rfl)) pa_nil))))))))) pss_nil))), ?_⟩
  try dsimp only [cx_K]
  have hlk := hs
  unfold HS.look at hlk
  obtain ⟨x, hx, _⟩ := Option.bind_eq_some_iff.mp hlk
  have hs := HS.look_eq hx hs
  obtain ⟨q, hq, L⟩ := O.gq hx
  refine q_asgV (O.ev_let (ev_var rfl) hq (ed_var rfl (.int (l : Int)))) fun B1 e1 => ?_
  have O1 := O.up s0 e1
  have s1 := s0.trans e1
  have L1 := O1.hq l q x hq hx
  obtain ⟨vf, hia, hvf⟩ := L1.ia
  obtain ⟨xs, him, hxs⟩ := L1.im
  have hxl : xs.length = x.numbers.length := by rw [dpa_len hxs, List.length_map]
  refine s_ifM K (b := decide (x.numbers.length = st.desks.length)) (eb_D (ed_eqi (ed_lenL (ev_ixL (ev_var rfl) (sq_of hia) ed_int rfl) (sq_of him)) (O1.ev_n (ev_var rfl)))) (by
    rw [hxl]
    by_cases h : x.numbers.length = st.desks.length
    · rw [decide_eq_true h, h, beq_self_eq_true]
    · rw [decide_eq_false h, beq_false_of_ne (by omega)]) (fun hb B2 e2 => ?_) (fun hb B2 e2 => ?_)
  · have hb := of_decide_eq_true hb
    rw [if_pos hb] at hs
    obtain ⟨dk, hdk, hs⟩ := Option.bind_eq_some_iff.mp hs
    obtain ⟨d', hset, rfl⟩ := Option.map_eq_some_iff.mp hs
    obtain ⟨hin, hnd, hml, rfl⟩ := settle_some hset
    have hne : x.numbers ≠ [] := fun z => by
      have := lt_of_get hdk
      rw [← hb, z] at this
      simp at this
    have s2 := s1.trans e2
    refine q_do (max_te s2 (ev_ixL (ev_var rfl) (sq_of (e2 _ _ hia)) ed_int rfl) (e2 _ _ him) hxs hne fun v B4 e4 hv => ?_)
    have e24 := e2.trans e4
    refine ⟨_, rfl, q.a, _, 3, 3, rfl, rfl, e24 _ _ hia, rfl, go_nx ?_⟩
    have qa : q.a ∈ q.foot := by simp [QL.foot]
    have R5 := ((PrM.refl (F := fun x => x ∈ q.foot) s1).up e24).put (l := q.a) (o := .lst [.int (x.writer : Nat), .str x.words, .ref q.n, v]) (.inl qa) (L1.na _ qa)
    have L5 : LEAt K A0 (upd B4 q.a (.lst [.int (x.writer : Nat), .str x.words, .ref q.n, v])) q ⟨x.writer, x.words, x.numbers, some (great x.numbers)⟩ :=
      ⟨⟨v, upd_same, hv⟩, ⟨xs, by rw [upd_ne (Ne.symm L1.ne)]; exact e24 _ _ him, hxs⟩, L1.ne, L1.na⟩
    have O5 := O1.letter hq R5 L5
    have hset3 : ([V.int (x.writer : Nat), .str x.words, .ref q.n, vf] : List V).set 3 v = [.int (x.writer : Nat), .str x.words, .ref q.n, v] := rfl
    rw [hset3]
    generalize upd B4 q.a (.lst [.int (x.writer : Nat), .str x.words, .ref q.n, v]) = C5 at R5 L5 O5 ⊢
    obtain ⟨p, hp, D5⟩ := O5.gd hdk
    obtain ⟨vf5, hia5, hvf5⟩ := L5.ia
    have hsz := hm.d dk (List.mem_of_getElem? hdk)
    refine q_do (c_callV (ea_cons (O5.ev_desk (ev_var rfl) hp (ed_v (v := .int (x.writer : Nat)) (ev_ixL (ev_var rfl) (sq_of hia5) ed_int rfl) (.int _))) (ea_cons (ev_var rfl) (ea_cons (ev_ixL (ev_var rfl) (sq_of hia5) ed_int rfl) ea_nil))) fun B6 e6 => ⟨A0, p, [], dk, (l : Nat), vf5, great x.numbers, rfl, R5.s.trans e6, hvf5, D5.up R5.s e6, hG dk (List.mem_of_getElem? hdk), hin, hnd, by omega, by simp, fun r y A7 B7 P7 hr hy hry D7 _ _ => go_nx ?_⟩)
    have O6 := O5.up R5.s e6
    have hin7 := newr_in (p := p) hr
    have O7 := O6.desk (p' := ⟨p.a, p.l, p.m, p.d, r⟩) hp P7 rfl hin7 D7
    have RA : PrM P0.inF A0 H A7 B7 := (((PrM.refl s0).up e1).trans (lrL hq R5)).up e6 |>.trans (lrD hp P7)
    have inP : ∀ z, (P0.setD x.writer ⟨p.a, p.l, p.m, p.d, r⟩).inF z → P0.inF z ∨ H z = none := fun z hz => (setD_in hp hin7 z hz).imp id fun y => by
      have R6 : PrM P0.inF A0 H A0 B6 := (((PrM.refl s0).up e1).trans (lrL hq R5)).up e6
      exact R6.fresh y
    have hx7 : (st.sent.set l ⟨x.writer, x.words, x.numbers, some (great x.numbers)⟩)[l]? = some ⟨x.writer, x.words, x.numbers, some (great x.numbers)⟩ := by
      rw [List.getElem?_set, if_pos rfl, if_pos (lt_of_get hx)]
    obtain ⟨q', hq', L7⟩ := O7.gq hx7
    have hqq : q' = q := by
      have hq' : P0.qs[l]? = some q' := hq'
      rw [hq] at hq'; exact (Option.some.inj hq').symm
    subst hqq
    obtain ⟨vf7, hia7, hvf7⟩ := L7.ia
    refine c_callV (ea_cons (ev_var rfl) (ea_cons ev_c (ea_cons (ev_var rfl) (ea_cons (ev_ixL (ev_var rfl) (sq_of hia7) ed_int rfl) ea_nil)))) fun B8 e8 => ?_
    refine ⟨A7, P0.setD x.writer ⟨p.a, p.l, p.m, p.d, r⟩, _, .mark, l, _, vf7, some (great x.numbers), rfl, P7.s.trans e8, O7.up P7.s e8, hx7, hvf7, by show (st.desks.set _ _).length ≤ 40; rw [List.length_set]; exact hm.n, by show st.post.length < 90000; have := hm.p; omega, fun A9 H9 P9 O9 => ?_⟩
    have e9 : (st.desks.set x.writer (dk.set1 (l : Int) (great x.numbers)).run.1).length = st.desks.length := List.length_set
    rw [show (HS.mk (st.desks.set x.writer (dk.set1 (l : Int) (great x.numbers)).run.1) (st.sent.set l ⟨x.writer, x.words, x.numbers, some (great x.numbers)⟩) st.post).desks.length = st.desks.length from e9] at O9
    exact k (P0.setD x.writer ⟨p.a, p.l, p.m, p.d, r⟩) A9 H9 ⟨rfl, rfl⟩ ((RA.up e8).trans (P9.mono fun z hz => .inl (hz ▸ LHP.in_ml))) inP O9
  · rw [if_neg (of_decide_eq_false hb)] at hs
    cases hs
    exact k P0 A0 B2 ⟨rfl, rfl⟩ ((PrM.refl s0).up (e1.trans e2)) (fun x hx => .inl hx) (O.up s0 (e1.trans e2))
/-! a letter is sent -/
def sp_lsent (K : PySem.W.Frag) : Sp := fun vs H Q _ => ∃ (A : Hp) (P : LHP) (s : HS) (h : Nat) (t : Str) (s' : HS), vs = [.ref P.a, .int (h : Nat), .str t] ∧ Ex A H ∧ LHAt K A H P s ∧ s.send h t = some s' ∧ Sm 70000 s ∧ (∀ d ∈ s.desks, Good d) ∧
  ∀ P' A' H', P'.a = P.a ∧ P'.tv = P.tv → PrM P.inF A H A' H' → (∀ x, P'.inF x → P.inF x ∨ H x = none) → LHAt K A' H' P' s' → Q (.int (s.sent.length : Nat)) H'
theorem ok_lsent (T : Tx K mg c) : DefOk P w K mg base CX0 4 "_law_sent" ["_law_h", "_law_hand_here", "_law_text"] (sp_lsent K) := by
  obtain ⟨f, fd, d⟩ := T.d_law_sent
  refine d.ok (d.F.ok sc_law_sent (fun vs H Q E h => ?_) fun cdv A outer s H vs Q E hr h => ?_)
  · obtain ⟨_, _, _, _, _, _, e, _⟩ := h
    rw [e]
    rfl
  obtain ⟨A0, P0, st, h, t, s', rfl, s0, O, hsend, hm, hG, k⟩ := h
  have nd := sc_law_sent.nd
  have G_law_proposed := ok_lprop (P := P) (w := w) (base := base) T
  have G_law_to_others := ok_lto (P := P) (w := w) (base := base) T
  have G_law_look := ok_llook (P := P) (w := w) (base := base) T
  refine ⟨_, (pss_cons (ps_set (i := 3) nd rfl (Or.inl rfl) (pe_callB (c_len (K := K) rfl) rfl T.mn_len (by decide +kernel) (pa_cons (pe_dget (hu_of hr) (pv 0) pe_str (fun _ _ => rfl)) pa_nil)))
      (pss_cons (ps_expr (pe_bm PySem.F.plainAttrs_list PySem.F.slot_list_append PySem.F.type_list_append mt_append (pe_dget (hu_of hr) (pv 0) pe_str (fun _ _ => rfl)) (pa_cons (pe_lst (pa_cons (pv 1) (pa_cons (pv 2) (pa_cons (pe_lst (pa_cons (pe_cd G_law_proposed (hr.mono (by decide)) rfl pass0 (pa_cons (pe_ix (ixL (K := K) rfl) (pe_dget (hu_of hr) (pv 0) pe_str (fun _ _ => rfl)) (pv 1) (fun _ _ => rfl)) (pa_cons (pv 3) pa_nil))) pa_nil)) (pa_cons pe_non pa_nil))))) pa_nil)))
      (pss_cons (ps_expr (pe_cd G_law_to_others (hr.mono (by decide)) rfl pass0 (pa_cons (pv 0) (pa_cons pe_str (pa_cons (pv 3) (pa_cons pe_non pa_nil))))))
      (pss_cons (ps_expr (pe_cd G_law_look (hr.mono (by decide)) rfl pass0 (pa_cons (pv 0) (pa_cons (pv 3) pa_nil))))
      (pss_one (ps_ret (pv 3))))))), ?_⟩
  try dsimp only [cx_K]
  unfold HS.send at hsend
  obtain ⟨dk, hdk, hsend⟩ := Option.bind_eq_some_iff.mp hsend
  by_cases hkn : (st.sent.length : Int) ∈ dk.known
  · rw [if_pos hkn] at hsend; cases hsend
  rw [if_neg hkn] at hsend
  refine q_asgV (v_int (K := K) (O.ev_l (ev_var rfl))) fun B1 e1 => ?_
  have O1 := O.up s0 e1
  have s1 := s0.trans e1
  obtain ⟨p, hp, D1⟩ := O1.gd hdk
  have hsz := hm.d dk (List.mem_of_getElem? hdk)
  have hql : P0.qs.length = st.sent.length := O.hql
  refine q_do (s_appM K (O1.get (ev_var rfl) rfl) O1.isl fun B2 e2 => ⟨_, rfl, _, rfl, c_callV (ea_cons ((O1.up s1 e2).ev_desk (ev_var rfl) hp (ed_var rfl (.int (h : Nat)))) (ea_cons (ev_var rfl) ea_nil)) fun B3 e3 => ⟨A0, p, [], dk, (st.sent.length : Nat), rfl, s1.trans (e2.trans e3), D1.up s1 (e2.trans e3), by omega, by simp, fun v A4 B4 P4 D4 hv => ⟨sz_of (by show 1 ≤ 100000; decide), fun p1 hp1 => ⟨sz_of (by show 4 ≤ 100000; decide), fun p2 hp2 => ?_⟩⟩⟩⟩)
  have e13 := e2.trans e3
  have O3 := O1.up s1 e13
  have O4 := O3.desk hp P4 rfl (fun x hx => .inl hx) D4
  have hsame : P0.setD h p = P0 := by
    show LHP.mk P0.a P0.dl P0.sl P0.ml P0.t P0.tv (P0.ds.set h p) P0.qs = P0
    rw [set_get hp]
  rw [hsame] at O4
  have R4 : PrM P0.inF A0 H A4 B4 := ((PrM.refl s0).up (e1.trans e13)).trans (lrD hp P4)
  have n12 : p1 ≠ p2 := fun z => by rw [z] at hp2; rw [upd_same] at hp2; cases hp2
  have hp2' : B4 p2 = none := by rw [upd_ne (Ne.symm n12)] at hp2; exact hp2
  have e46 : Ex B4 (upd (upd B4 p1 (.lst [v])) p2 (.lst [.int (h : Nat), .str t, .ref p1, .non])) := (Ex.new hp1).trans (Ex.new hp2)
  have O6 := O4.up R4.s e46
  have isl6 : (upd (upd B4 p1 (.lst [v])) p2 (.lst [.int (h : Nat), .str t, .ref p1, .non])) P0.sl = some (.lst (P0.qs.map fun q => .ref q.a)) := O6.isl
  refine ⟨P0.sl, _, _, rfl, rfl, isl6, sz_lt (by rw [List.length_map, hql]; have := hm.l; omega), go_nx ?_⟩
  have ns1 : P0.sl ≠ p1 := fun z => O4.alive (.inl LHP.in_sl) (z ▸ hp1)
  have ns2 : P0.sl ≠ p2 := fun z => O4.alive (.inl LHP.in_sl) (z ▸ hp2')
  have nAs : A4 P0.sl = none := O4.na _ LHP.in_sl
  have hmap : (P0.qs.map fun q => V.ref q.a) ++ [V.ref p2] = (P0.qs ++ [QL.mk p2 p1]).map fun q : QL => V.ref q.a := by rw [List.map_append]; rfl
  rw [hmap]
  have R6 := ((PrM.refl (F := fun x => x = P0.sl) R4.s).up e46).put (l := P0.sl) (o := .lst ((P0.qs ++ [QL.mk p2 p1]).map fun q : QL => V.ref q.a)) (.inl rfl) nAs
  have nq : ∀ x ∈ (QL.mk p2 p1).foot, B4 x = none := fun x hx => by
    simp only [QL.foot, List.mem_cons, List.not_mem_nil, or_false] at hx
    rcases hx with rfl | rfl
    · exact hp2'
    · exact hp1
  have L6 : LEAt K A4 (upd (upd (upd B4 p1 (.lst [v])) p2 (.lst [.int (h : Nat), .str t, .ref p1, .non])) P0.sl (.lst ((P0.qs ++ [QL.mk p2 p1]).map fun q : QL => V.ref q.a))) ⟨p2, p1⟩ ⟨h, t, [(dk.time + 1, dk.hand)], none⟩ := by
    refine ⟨⟨.non, by rw [upd_ne (Ne.symm ns2)]; exact upd_same, .non⟩, ⟨[v], by rw [upd_ne (Ne.symm ns1), upd_ne n12]; exact upd_same, .cons hv .nil⟩, Ne.symm n12, fun x hx => fresh_back R4.s (nq x hx)⟩
  have O7 := O4.add L6 nq R6 upd_same
  generalize upd (upd (upd B4 p1 (.lst [v])) p2 (.lst [.int (h : Nat), .str t, .ref p1, .non])) P0.sl (.lst ((P0.qs ++ [QL.mk p2 p1]).map fun q : QL => V.ref q.a)) = C7 at R6 L6 O7 ⊢
  have R7 : PrM P0.inF A0 H A4 C7 := R4.trans (R6.mono fun x hx => .inl (hx ▸ LHP.in_sl))
  have in7 : ∀ x, (P0.addQ ⟨p2, p1⟩).inF x → P0.inF x ∨ H x = none := fun x hx => (addQ_in nq x hx).imp id fun y => R4.fresh y
  have hx9 : (st.sent ++ [(⟨h, t, [(dk.time + 1, dk.hand)], none⟩ : LS)])[st.sent.length]? = some ⟨h, t, [(dk.time + 1, dk.hand)], none⟩ := by
    rw [List.getElem?_append_right (Nat.le_refl _), Nat.sub_self]; rfl
  have hdl : (st.desks.set h (dk.prop (st.sent.length : Int))).length = st.desks.length := List.length_set
  refine q_do (c_callV (ea_cons (ev_var rfl) (ea_cons ev_c (ea_cons (ev_var rfl) (ea_cons ev_c ea_nil)))) fun B8 e8 => ⟨A4, P0.addQ ⟨p2, p1⟩, _, .letter, st.sent.length, _, .non, none, rfl, R6.s.trans e8, O7.up R6.s e8, hx9, .non, by rw [hdl]; exact hm.n, by show st.post.length < 90000; have := hm.p; omega, fun A9 B9 R9 O9 => go_nx ?_⟩)
  have hO9 : LHAt K A9 B9 (P0.addQ ⟨p2, p1⟩) (st.send1 h dk t) := by
    have := O9
    rw [show (HS.mk (st.desks.set h (dk.prop (st.sent.length : Int))) (st.sent ++ [⟨h, t, [(dk.time + 1, dk.hand)], none⟩]) st.post).desks.length = st.desks.length from hdl] at this
    exact this
  have hml := mailsTo_len st.desks.length .letter st.sent.length h none
  have hm1 : Sm 79000 (st.send1 h dk t) := by
    refine ⟨by show (st.desks.set _ _).length ≤ 40; rw [hdl]; exact hm.n, ?_, fun d hd => ?_, ?_, fun x hx => ?_⟩
    · show (st.post ++ mailsTo _ _ _ _ _).length < _
      rw [List.length_append]
      have := hm.p
      have := hm.n
      omega
    · have hd : d ∈ st.desks.set h (dk.prop (st.sent.length : Int)) := hd
      rcases List.mem_or_eq_of_mem_set hd with z | z
      · have := hm.d d z; omega
      · rw [z]
        have := prop_size dk hkn
        omega
    · show (st.sent ++ [_]).length < _
      rw [List.length_append, List.length_singleton]
      have := hm.l
      omega
    · have hx : x ∈ st.sent ++ [(⟨h, t, [(dk.time + 1, dk.hand)], none⟩ : LS)] := hx
      rcases List.mem_append.mp hx with z | z
      · have := hm.x x z; omega
      · rw [List.mem_singleton.mp z]; show 1 < _; decide
  have hG1 : ∀ d ∈ (st.send1 h dk t).desks, Good d := fun d hd => by
    have hd : d ∈ st.desks.set h (dk.prop (st.sent.length : Int)) := hd
    rcases List.mem_or_eq_of_mem_set hd with z | z
    · exact hG d z
    · rw [z]; exact (hG dk (List.mem_of_getElem? hdk)).prop hkn
  refine q_do (c_callV (ea_cons (ev_var rfl) (ea_cons (ev_var rfl) ea_nil)) fun B10 e10 => ⟨A9, P0.addQ ⟨p2, p1⟩, _, st.sent.length, s', rfl, R9.s.trans e10, hO9.up R9.s e10, hsend, hm1, hG1, fun P11 A11 B11 hPa R11 in11 O11 => go_nx (s_retV (ev_var rfl) fun B12 e12 => ?_)⟩)
  have RA : PrM P0.inF A0 H A9 B10 := ((R7.up e8).trans (R9.mono fun z hz => .inl (hz ▸ LHP.in_ml))).up e10
  refine k P11 A11 B12 hPa ((RA.then R11 in7).up e12) (fun x hx => (in11 x hx).elim (in7 x) fun y => .inr (RA.fresh y)) (O11.up R11.s e12)
end

end K8

namespace K8
open PySem L2 Evl Ob

local macro_rules | `(tactic| tm_at "sh") => `(tactic| first | exact sh_mk | exact sh_mks | exact sh_b3)

section
variable {K : PySem.W.Frag} {H : Hp} {σ : L2.St} {ta tb : TE} {l : Addr} {v : V}
theorem ev_ixT {xs : List V} {i : Int} (h : Ev ta σ H (.ref l)) (hl : SqT K H l xs) (hi : EvD K tb σ H (.int i)) (hv : atI xs i = some v) : Ev (tOp (rIxT K) ta tb) σ H v := fun H1 e Q q =>
  h H1 e _ fun H2 e2 => v_int hi H2 (e.trans e2) _ fun H3 e3 => ⟨l, xs, i, v, rfl, rfl, ex_t ((e.trans e2).trans e3) hl, hv, q H3 (e2.trans e3)⟩
end
section
variable {P : Program} {w : World} {K : PySem.W.Frag} {mg : Str → Option Value} {base : Heap} {c : Cs}
/-! a mail is brought -/
def sp_lbrought (K : PySem.W.Frag) : Sp := fun vs H Q _ => ∃ (A : Hp) (P : LHP) (s : HS) (i : Nat) (m : Mail) (s' : HS), vs = [.ref P.a, .int (i : Nat)] ∧ Ex A H ∧ LHAt K A H P s ∧ s.bring i = some s' ∧ s.post[i]? = some m ∧ Sm 70000 s ∧ (∀ d ∈ s.desks, Good d) ∧
  ∀ v P' A' H', P'.a = P.a ∧ P'.tv = P.tv → PrM P.inF A H A' H' → (∀ x, P'.inF x → P.inF x ∨ H x = none) → LHAt K A' H' P' s' → Dp K A' v (mailD m) → Q v H'
theorem ok_lbrought (T : Tx K mg c) : DefOk P w K mg base CX0 4 "_law_brought" ["_law_h", "_law_place"] (sp_lbrought K) := by
  obtain ⟨f, fd, d⟩ := T.d_law_brought
  refine d.ok (d.F.ok sc_law_brought (fun vs H Q E h => ?_) fun cdv A outer s H vs Q E hr h => ?_)
  · obtain ⟨_, _, _, _, _, _, e, _⟩ := h
    rw [e]
    rfl
  obtain ⟨A0, P0, st, i, m, s', rfl, s0, O, hbr, hm, hsm, hG, k⟩ := h
  have nd := sc_law_brought.nd
  have G_law_proposed := ok_lprop (P := P) (w := w) (base := base) T
  have G_law_settled := ok_lset (P := P) (w := w) (base := base) T
  have G_law_look := ok_llook (P := P) (w := w) (base := base) T
  refine ⟨_, (pss_cons (ps_set (i := 2) nd rfl (Or.inl rfl) (pe_bm PySem.F.plainAttrs_list PySem.F.slot_list_pop PySem.F.type_list_pop mt_popAt (pe_dget (hu_of hr) (pv 0) pe_str (fun _ _ => rfl)) (pa_cons (pv 1) pa_nil)))
      (pss_cons (ps_if (pt_cmpR op_eq (pe_ix (ixT (K := K) rfl) (pv 2) pe_int (fun _ _ => rfl)) pe_str (nomark _)) (pss_cons (ps_set (i := 3) nd rfl (Or.inl rfl) (pe_cd G_law_proposed (hr.mono (by decide)) rfl pass0 (pa_cons (pe_ix (ixL (K := K) rfl) (pe_dget (hu_of hr) (pv 0) pe_str (fun _ _ => rfl)) (pe_ix (ixT (K := K) rfl) (pv 2) pe_int (fun _ _ => rfl)) (fun _ _ => rfl)) (pa_cons (pe_ix (ixT (K := K) rfl) (pv 2) pe_int (fun _ _ => rfl)) pa_nil))))
        (pss_one (ps_expr (pe_bm PySem.F.plainAttrs_list PySem.F.slot_list_append PySem.F.type_list_append mt_append (pe_dget (hu_of hr) (pv 0) pe_str (fun _ _ => rfl)) (pa_cons (pe_tup (pa_cons pe_str (pa_cons (pe_ix (ixT (K := K) rfl) (pv 2) pe_int (fun _ _ => rfl)) (pa_cons (pe_ix (ixT (K := K) rfl) (pv 2) pe_int (fun _ _ => rfl)) (pa_cons (pe_ix (ixT (K := K) rfl) (pv 2) pe_int (fun _ _ => rfl)) (pa_cons (pv 3) pa_nil)))))) pa_nil))))) (pss_one (ps_if (pt_cmpR op_eq (pe_ix (ixT (K := K) rfl) (pv 2) pe_int (fun _ _ => rfl)) pe_str (nomark _)) (pss_cons (ps_expr (pe_bm PySem.F.plainAttrs_list PySem.F.slot_list_append PySem.F.type_list_append mt_append (pe_ix (ixL (K := K) rfl) (pe_ix (ixL (K := K) rfl) (pe_dget (hu_of hr) (pv 0) pe_str (fun _ _ => rfl)) (pe_ix (ixT (K := K) rfl) (pv 2) pe_int (fun _ _ => rfl)) (fun _ _ => rfl)) pe_int (fun _ _ => rfl)) (pa_cons (pe_ix (ixT (K := K) rfl) (pv 2) pe_int (fun _ _ => rfl)) pa_nil)))
          (pss_one (ps_expr (pe_cd G_law_look (hr.mono (by decide)) rfl pass0 (pa_cons (pv 0) (pa_cons (pe_ix (ixT (K := K) rfl) (pv 2) pe_int (fun _ _ => rfl)) pa_nil)))))) (pss_one (ps_expr (pe_cd G_law_settled (hr.mono (by decide)) rfl pass0 (pa_cons (pe_ix (ixL (K := K) rfl) (pe_dget (hu_of hr) (pv 0) pe_str (fun _ _ => rfl)) (pe_ix (ixT (K := K) rfl) (pv 2) pe_int (fun _ _ => rfl)) (fun _ _ => rfl)) (pa_cons (pe_ix (ixT (K := K) rfl) (pv 2) pe_int (fun _ _ => rfl)) (pa_cons (pe_ix (ixT (K := K) rfl) (pv 2) pe_int (fun _ _ => rfl)) pa_nil)))))))))
      (pss_one (ps_ret (pv 2))))), ?_⟩
  try dsimp only [cx_K]
  have hi := lt_of_get hm
  obtain ⟨xs, hxl, hxs⟩ := O.ipl
  obtain ⟨y, hy, hyD⟩ := dpa_get (d := mailD m) hxs (by rw [List.getElem?_map, hm]; rfl)
  have hp0 := hsm.p
  refine q_do (e_popAt (O.get (ev_var rfl) rfl) (ev_var rfl) hxl hy (by omega) fun B2 e2 => go_nx ?_)
  have R2 := ((PrM.refl (F := fun x => x = P0.ml) s0).up e2).put (l := P0.ml) (o := .lst (xs.eraseIdx i)) (.inl rfl) (O.na _ LHP.in_ml)
  have O2 : LHAt K A0 (upd B2 P0.ml (.lst (xs.eraseIdx i))) P0 ⟨st.desks, st.sent, st.post.eraseIdx i⟩ := O.post_ R2 upd_same (by rw [map_erase]; exact dpa_erase (ds := []) hxs i)
  generalize upd B2 P0.ml (.lst (xs.eraseIdx i)) = C2 at R2 O2 ⊢
  have hpe : (st.post.eraseIdx i).length < 70000 := by
    rw [List.length_eraseIdx]
    split <;> omega
  unfold HS.bring at hbr
  rw [hm] at hbr
  obtain ⟨kw, l, sr, dt, mk⟩ := m
  have hyB : ∀ B, Ex C2 B → Dp K B y (.tuple [.str kw.str, .int (l : Nat), .int (sr : Nat), .int (dt : Nat), mkO mk]) := fun B e => dp_ex (R2.s.trans e) hyD
  have RR2 : PrM P0.inF A0 H A0 C2 := lrM R2
  let J : L2.St → Hp → Prop := fun σ B => ∃ w3 A' P', (P'.a = P0.a ∧ P'.tv = P0.tv) ∧ σ = [some (.ref P0.a), some (.int (i : Nat)), some y, w3] ∧ PrM P0.inF A0 H A' B ∧ (∀ x, P'.inF x → P0.inF x ∨ H x = none) ∧ LHAt K A' B P' s' ∧ Dp K A' y (mailD ⟨kw, l, sr, dt, mk⟩)
  have fin : ∀ (Dd : Ends), Dd.rt = Q → ∀ σ B, J σ B → tRet (tVar 2) Dd σ B := by
    rintro Dd hDd σ B ⟨w3, A', P', hPa, rfl, R, inP, O', hd⟩
    refine s_retV (ev_var rfl) fun B' e' => ?_
    rw [hDd]
    exact k y P' A' B' hPa (R.up e') inP (O'.up R.s e') hd
  cases kw with
  | letter =>
    have hbr : ((st.desks[dt]?).bind fun d => if ((l : Nat) : Int) ∈ d.known then none else some ⟨st.desks.set dt (d.prop l), st.sent, st.post.eraseIdx i ++ [⟨.number, l, dt, sr, some (d.time + 1, d.hand)⟩]⟩) = some s' := hbr
    obtain ⟨dk, hdk, hbr⟩ := Option.bind_eq_some_iff.mp hbr
    by_cases hkn : ((l : Nat) : Int) ∈ dk.known
    · rw [if_pos hkn] at hbr; cases hbr
    rw [if_neg hkn] at hbr
    cases hbr
    obtain ⟨p, hp, D2⟩ := O2.gd hdk
    have hsz := hsm.d dk (List.mem_of_getElem? hdk)
    refine q_ifJ K J (b := true) (eb_D (ed_eqs (ed_ixT (ed_var rfl (hyB C2 (Ex.refl _))) ed_int rfl) ed_str)) (by decide) (fun σ B h => fin _ rfl σ B h) (fun r hb B4 e4 => ?_) (fun r hb => by cases hb)
    have O4 := O2.up R2.s e4
    have s4 := R2.s.trans e4
    refine q_do (c_callV (ea_cons (O4.ev_desk (ev_var rfl) hp (ed_ixT (ed_var rfl (hyB B4 e4)) ed_int rfl)) (ea_cons (v_int (K := K) (i := (l : Nat)) (ed_ixT (ed_var rfl (hyB B4 e4)) ed_int rfl)) ea_nil)) fun B5 e5 => ⟨A0, p, [], dk, (l : Nat), rfl, s4.trans e5, D2.up R2.s (e4.trans e5), by omega, by simp, fun v6 A6 B6 P6 D6 hv6 => go_nx ?_⟩)
    have O6 := (O4.up s4 e5).desk hp P6 rfl (fun x hx => .inl hx) D6
    have hsame : P0.setD dt p = P0 := by
      show LHP.mk P0.a P0.dl P0.sl P0.ml P0.t P0.tv (P0.ds.set dt p) P0.qs = P0
      rw [set_get hp]
    rw [hsame] at O6
    obtain ⟨xs6, hx6, hxs6⟩ := O6.ipl
    have R6 : PrM P0.inF A0 H A6 B6 := (RR2.up (e4.trans e5)).trans (lrD hp P6)
    have hy6 : Dp K A6 y (.tuple [.str (MW.str .letter), .int (l : Nat), .int (sr : Nat), .int (dt : Nat), mkO mk]) := dp_ex P6.a hyD
    have hl6 : xs6.length < 70000 := by
      rw [dpa_len hxs6, List.length_map]
      exact hpe
    refine s_app K (d := mailD ⟨.number, l, dt, sr, some (dk.time + 1, dk.hand)⟩) P6.s (O6.get (ev_var rfl) rfl) (ep_tup (epa_cons (ep_v ev_c (.str _)) (epa_cons (ep_ed (ed_ixT (ed_var rfl hy6) ed_int rfl)) (epa_cons (ep_ed (ed_ixT (ed_var rfl hy6) ed_int rfl)) (epa_cons (ep_ed (ed_ixT (ed_var rfl hy6) ed_int rfl)) (epa_cons (ep_v (ev_var rfl) hv6) epa_nil))))) (by show 5 ≤ 100000; decide)) hx6 (by omega) fun v7 A7 B7 P7 hv7 => ?_
    have R7 := ((PrM.refl (F := fun x => x = P0.ml) P6.s).pr P7).put (l := P0.ml) (o := .lst (xs6 ++ [v7])) (.inl rfl) ((O6.pr P7).na _ LHP.in_ml)
    have O7 := O6.post_ (ms := st.post.eraseIdx i ++ [⟨.number, l, dt, sr, some (dk.time + 1, dk.hand)⟩]) R7 upd_same (by rw [List.map_append]; exact dpa_app (dpa_ex P7.a hxs6) (.cons hv7 .nil))
    exact r _ _ ⟨_, A7, P0, ⟨rfl, rfl⟩, rfl, R6.trans (lrM R7), fun x hx => .inl hx, O7, dp_ex P7.a hy6⟩
  | number =>
    have hbr : ((st.sent[l]?).bind fun x => mk.bind fun k => HS.look ⟨st.desks, st.sent.set l ⟨x.writer, x.words, x.numbers ++ [k], x.final⟩, st.post.eraseIdx i⟩ l) = some s' := hbr
    obtain ⟨x, hx, hbr⟩ := Option.bind_eq_some_iff.mp hbr
    obtain ⟨kk, rfl, hbr⟩ := Option.bind_eq_some_iff.mp hbr
    obtain ⟨q, hq, L2⟩ := O2.gq hx
    obtain ⟨vf, hia, hvf⟩ := L2.ia
    obtain ⟨ys, him, hys⟩ := L2.im
    refine q_ifJ K J (b := false) (eb_D (ed_eqs (ed_ixT (ed_var rfl (hyB C2 (Ex.refl _))) ed_int rfl) ed_str)) (by decide) (fun σ B h => fin _ rfl σ B h) (fun r hb => by cases hb) (fun r hb B4 e4 => ?_)
    refine s_ifM K (b := true) (eb_D (ed_eqs (ed_ixT (ed_var rfl (hyB B4 e4)) ed_int rfl) ed_str)) (by decide) (fun hb B5 e5 => ?_) (fun hb => by cases hb)
    have e45 := e4.trans e5
    have O5 := O2.up R2.s e45
    have s5 := R2.s.trans e45
    have hyl : ys.length < 70000 := by
      rw [dpa_len hys, List.length_map]
      exact hsm.x x (List.mem_of_getElem? hx)
    refine q_do (s_app K (d := mkD kk) s5 (ev_ixL (O5.ev_let (ev_var rfl) hq (ed_ixT (ed_var rfl (hyB B5 e45)) ed_int rfl)) (sq_of (e45 _ _ hia)) ed_int rfl) (ep_ed (ed_ixT (ed_var rfl hyD) ed_int rfl)) (e45 _ _ him) (by omega) fun v6 A6 B6 P6 hv6 => go_nx ?_)
    have O6 := O5.pr P6
    have L6 := O6.hq l q x hq hx
    have qn : q.n ∈ q.foot := by simp [QL.foot]
    have R7 := (PrM.refl (F := fun x => x ∈ q.foot) P6.s).put (l := q.n) (o := .lst (ys ++ [v6])) (.inl qn) (L6.na _ qn)
    obtain ⟨vf6, hia6, hvf6⟩ := L6.ia
    have L7 : LEAt K A6 (upd B6 q.n (.lst (ys ++ [v6]))) q ⟨x.writer, x.words, x.numbers ++ [kk], x.final⟩ := ⟨⟨vf6, by rw [upd_ne L6.ne]; exact hia6, hvf6⟩, ⟨_, upd_same, by rw [List.map_append]; exact dpa_app (dpa_ex P6.a hys) (.cons hv6 .nil)⟩, L6.ne, L6.na⟩
    have O7 := O6.letter hq R7 L7
    have R7' : PrM P0.inF A0 H A6 (upd B6 q.n (.lst (ys ++ [v6]))) := ((RR2.up e45).pr P6).trans (lrL hq R7)
    generalize upd B6 q.n (.lst (ys ++ [v6])) = C7 at R7 R7' O7 ⊢
    have hm7 : Sm 79000 ⟨st.desks, st.sent.set l ⟨x.writer, x.words, x.numbers ++ [kk], x.final⟩, st.post.eraseIdx i⟩ := by
      refine ⟨hsm.n, by show (st.post.eraseIdx i).length < _; omega, fun d hd => by have := hsm.d d hd; omega, by show (st.sent.set _ _).length < _; rw [List.length_set]; have := hsm.l; omega, fun z hz => ?_⟩
      have hz : z ∈ st.sent.set l ⟨x.writer, x.words, x.numbers ++ [kk], x.final⟩ := hz
      rcases List.mem_or_eq_of_mem_set hz with y | y
      · have := hsm.x z y; omega
      · rw [y]
        show (x.numbers ++ [kk]).length < _
        rw [List.length_append, List.length_singleton]
        have := hsm.x x (List.mem_of_getElem? hx)
        omega
    have hyC : Dp K C7 y (.tuple [.str (MW.str .number), .int (l : Nat), .int (sr : Nat), .int (dt : Nat), mkD kk]) := dp_ex R7.s (dp_ex P6.a hyD)
    refine c_callV (ea_cons (ev_var rfl) (ea_cons (v_int (K := K) (i := (l : Nat)) (ed_ixT (ed_var rfl hyC) ed_int rfl)) ea_nil)) fun B8 e8 => ⟨A6, P0, _, l, s', rfl, R7.s.trans e8, O7.up R7.s e8, hbr, hm7, hG, fun P9 A9 B9 hPa R9 in9 O9 => ?_⟩
    have R8 := R7'.up e8
    exact r _ _ ⟨_, A9, P9, hPa, rfl, R8.trans R9, fun x hx => (in9 x hx).imp id fun z => R8.fresh z, O9, dp_ex (P6.a.trans R9.a) hyD⟩
  | mark =>
    have hbr : ((st.desks[dt]?).bind fun d => mk.bind fun k => (d.settle? l k).map fun d' => ⟨st.desks.set dt d', st.sent, st.post.eraseIdx i⟩) = some s' := hbr
    obtain ⟨dk, hdk, hbr⟩ := Option.bind_eq_some_iff.mp hbr
    obtain ⟨kk, rfl, hbr⟩ := Option.bind_eq_some_iff.mp hbr
    obtain ⟨d', hset, rfl⟩ := Option.map_eq_some_iff.mp hbr
    obtain ⟨hin, hnd, hml, rfl⟩ := settle_some hset
    obtain ⟨p, hp, D2⟩ := O2.gd hdk
    have hsz := hsm.d dk (List.mem_of_getElem? hdk)
    refine q_ifJ K J (b := false) (eb_D (ed_eqs (ed_ixT (ed_var rfl (hyB C2 (Ex.refl _))) ed_int rfl) ed_str)) (by decide) (fun σ B h => fin _ rfl σ B h) (fun r hb => by cases hb) (fun r hb B4 e4 => ?_)
    refine s_ifM K (b := false) (eb_D (ed_eqs (ed_ixT (ed_var rfl (hyB B4 e4)) ed_int rfl) ed_str)) (by decide) (fun hb => by cases hb) (fun hb B5 e5 => ?_)
    have e45 := e4.trans e5
    have O5 := O2.up R2.s e45
    have s5 := R2.s.trans e45
    obtain ⟨ty, tys, rfl, tsq, tal⟩ := dp_tuple hyD
    obtain ⟨vk, hvk1, hvk2⟩ := dpa_get (i := 4) (d := mkD kk) tal rfl
    have evk : Ev (tOp (rIxT K) (tVar 2) (tC (.int 4))) [some (.ref P0.a), some (.int (i : Nat)), some (.ref ty), none] B5 vk := ev_ixT (ev_var rfl) (ex_t s5 tsq) ed_int (by
      unfold atI
      rw [show ixN tys.length (4 : Int) = some 4 from ixN_nat (lt_of_get hvk1)]
      exact hvk1)
    refine c_callV (ea_cons (O5.ev_desk (ev_var rfl) hp (ed_ixT (ed_var rfl (hyB B5 e45)) ed_int rfl)) (ea_cons (v_int (K := K) (i := (l : Nat)) (ed_ixT (ed_var rfl (hyB B5 e45)) ed_int rfl)) (ea_cons evk ea_nil))) fun B6 e6 => ⟨A0, p, [], dk, (l : Nat), vk, kk, rfl, s5.trans e6, hvk2, D2.up R2.s (e45.trans e6), hG dk (List.mem_of_getElem? hdk), hin, hnd, by omega, by simp, fun rr yy A7 B7 P7 hr hy' hry D7 _ _ => ?_⟩
    have R6 := (RR2.up e45).up e6
    have hin7 := newr_in (p := p) hr
    have O7 := (O5.up s5 e6).desk (p' := ⟨p.a, p.l, p.m, p.d, rr⟩) hp P7 rfl hin7 D7
    exact r _ _ ⟨_, A7, P0.setD dt ⟨p.a, p.l, p.m, p.d, rr⟩, ⟨rfl, rfl⟩, rfl, R6.trans (lrD hp P7), fun x hx => (setD_in hp hin7 x hx).imp id fun z => R6.fresh z, O7, dp_ex P7.a hyD⟩
end

end K8

namespace K8
open PySem L2 Evl Ob

local macro_rules | `(tactic| tm_at "sh") => `(tactic| first | exact sh_mk | exact sh_mks | exact sh_b3)

local macro_rules | `(tactic| tm_at "fn") => `(tactic| first | exact at_mail _ | exact at_whole _ | exact at_mark _ | exact at_cell (by decide))

/-! ## a house, and the law's own beside it -/
structure Pa (K : PySem.W.Frag) (CH CD CL : Addr) (A B : Hp) (P : HP) (R : LHP) (s : HS) (n : Nat) (ab : Ab) : Prop where
  es : Ex A B
  O : HouseAt K CH CD CL A B P s
  L : LHAt K A B R s
  I : Inv n ab (fun _ => False) s
  dj : ∀ x, R.inF x → ¬ P.inF x
theorem Inv.goods {n : Nat} {a : Ab} {pe : Nat → Prop} {s : HS} (I : Inv n a pe s) : ∀ d ∈ s.desks, Good d := fun d hd => by
  obtain ⟨i, hi⟩ := List.mem_iff_getElem?.mp hd
  exact (I.dk i d hi).di.g
section
variable {K : PySem.W.Frag} {CH CD CL : Addr} {A B A' B' : Hp} {P : HP} {R : LHP} {s : HS} {n : Nat} {ab : Ab} {F : Addr → Prop} {σ : L2.St} {ta te : TE}
theorem Pa.up (Z : Pa K CH CD CL A B P R s n ab) (e : Ex B B') : Pa K CH CD CL A B' P R s n ab := ⟨Z.es.trans e, Z.O.up Z.es e, Z.L.up Z.es e, Z.I, Z.dj⟩
theorem Pa.mono (Z : Pa K CH CD CL A B P R s n ab) (M : PrM F A B A' B') (h : ∀ x, P.inF x ∨ R.inF x → ¬ F x) : Pa K CH CD CL A' B' P R s n ab := ⟨M.s, Z.O.mono M fun x hx => h x (.inl hx), Z.L.mono M fun x hx => h x (.inr hx), Z.I, Z.dj⟩
theorem ev_dtime (L : LHAt K A B R s) (ha : Ev ta σ B (.ref R.a)) {i : Nat} {d : DS} (hd : s.desks[i]? = some d) (hi : EvD K te σ B (.int (i : Int))) : EvD K (tDGet (tOp (rIxL K) (tDGet ta (tC (.str "desks"))) te) (tC (.str "time"))) σ B (.int d.time) := by
  obtain ⟨p, hp, D⟩ := L.gd hd
  exact ed_v (ev_dgetS (K := K) (v := .int d.time) (L.ev_desk ha hp hi) (.inl D.ia) ed_str rfl) (.int _)
theorem ev_drow (L : LHAt K A B R s) (ha : Ev ta σ B (.ref R.a)) {i : Nat} {d : DS} (hd : s.desks[i]? = some d) (hi : EvD K te σ B (.int (i : Int))) : EvD K (tDGet (tOp (rIxL K) (tDGet ta (tC (.str "desks"))) te) (tC (.str "row"))) σ B (.list (d.row.map .int)) := by
  obtain ⟨p, hp, D⟩ := L.gd hd
  exact ed_v (ev_dgetS (K := K) (v := .ref p.r) (L.ev_desk ha hp hi) (.inl D.ia) ed_str rfl) (.lst (sq_of D.ir) dpa_ints)
end
section
variable {P : Program} {w : World} {K : PySem.W.Frag} {mg : Str → Option Value} {base : Heap} {c : Cs}
def sp_hand (K : PySem.W.Frag) (CH CD CL : Addr) : Sp := fun vs H Q _ => ∃ (A : Hp) (P : HP) (R : LHP) (s : HS) (n : Nat) (ab : Ab) (i : Nat) (d : DS), vs = [.ref P.a, .ref R.a, .int (i : Nat)] ∧ Pa K CH CD CL A H P R s n ab ∧ s.desks[i]? = some d ∧ ∀ H', Ex H H' → Q (.bl true) H'
theorem ok_hand (T : Tx K mg c) : DefOk P w K mg base CX0 4 "_law_hand" ["_law_house_here", "_law_h", "_law_hand_here"] (sp_hand K c.House c.Desk c.Letter) := by
  obtain ⟨f, fd, d⟩ := T.d_law_hand
  refine d.ok (d.F.ok sc_law_hand (fun vs H Q E h => ?_) fun cdv A outer s H vs Q E hr h => ?_)
  · obtain ⟨_, _, _, _, _, _, _, _, e, _⟩ := h
    rw [e]
    rfl
  obtain ⟨A0, P0, R0, st, n, ab, i, d, rfl, Z, hd, k⟩ := h
  have nd := sc_law_hand.nd
  have MT_House_clock := ok_hclock (P := P) (w := w) (base := base) T
  have MT_House_handed := ok_handed (P := P) (w := w) (base := base) T
  have G_law_whole := ok_whole (P := P) (w := w) (base := base) T
  have G_law_row := ok_row2 (P := P) (w := w) (base := base) T
  refine ⟨_, (pss_cons (ps_set (i := 3) nd rfl (Or.inl rfl) (pe_md (pv 0) T.c_House MT_House_clock (hr.mono (by decide)) passN (pa_cons (pv 2) pa_nil)))
      (pss_cons (ps_if (PW.pt (pw_or (pt_not (pt_val (pe_cd G_law_whole (hr.mono (by decide)) rfl pass0 (pa_cons (pv 3) pa_nil)))) (pw_or1 (pt_cmpR op_ne (pv 3) (pe_dget (hu_of hr) (pe_ix (ixL (K := K) rfl) (pe_dget (hu_of hr) (pv 1) pe_str (fun _ _ => rfl)) (pv 2) (fun _ _ => rfl)) pe_str (fun _ _ => rfl)) (nomark _))))) (pss_one (ps_ret pe_bl)) pss_nil)
      (pss_one (ps_ret (pe_cd G_law_row (hr.mono (by decide)) rfl pass0 (pa_cons (pe_md (pv 0) T.c_House MT_House_handed (hr.mono (by decide)) passN (pa_cons (pv 2) pa_nil)) (pa_cons (pe_callTy (c_list (K := K) rfl) rfl T.mn_list (by decide +kernel) (pa_cons (pe_dget (hu_of hr) (pe_ix (ixL (K := K) rfl) (pe_dget (hu_of hr) (pv 1) pe_str (fun _ _ => rfl)) (pv 2) (fun _ _ => rfl)) pe_str (fun _ _ => rfl)) pa_nil)) pa_nil))))))), ?_⟩
  try dsimp only [cx_K]
  have hpl : isPl (some (i : Int)) st.desks.length = true := isPl_of (lt_of_get hd)
  refine q_do (m_callV (ev_var rfl) Z.O.ia rfl (ea_cons (ev_var rfl) ea_nil) fun B1 e1 => ⟨A0, P0, st, .int (i : Int), some (i : Int), rfl, (Z.up e1).O, (Z.up e1).es, rfl, (fun z => by rw [hpl] at z; cases z), fun j d' hj hd' B2 e2 => go_nx ?_⟩)
  have hji : j = i := by have := Option.some.inj hj; omega
  subst hji
  rw [hd] at hd'
  cases hd'
  have e12 := e1.trans e2
  have Z2 := Z.up e12
  refine q_ifM K (b := false) (eb_or (a := false) (b := false) (eb_is (eb_not (eb_DB (ed_call (ea_consD (ed_var rfl (.int d.time)) ea_nilD) (at_whole _)))) rfl) fun _ => eb_is (eb_D (ed_nei (ed_var rfl (.int d.time)) (ev_dtime Z2.L (ev_var rfl) hd (ed_var rfl (.int (j : Nat)))))) (by rw [beq_self_eq_true]; rfl)) rfl (fun z => by cases z) (fun _ B3 e3 => q_next ?_)
  have Z3 := Z2.up e3
  refine ret_te (c_call2 (m_callV (ev_var rfl) Z3.O.ia rfl (ea_cons (ev_var rfl) ea_nil) fun B4 e4 => ⟨A0, P0, st, .int (j : Int), some (j : Int), rfl, (Z3.up e4).O, (Z3.up e4).es, rfl, (fun z => by rw [hpl] at z; cases z), fun j2 d' hj hd' q B5 hq e5 hx => ?_⟩))
  have hji : j2 = j := by have := Option.some.inj hj; omega
  subst hji
  rw [hd] at hd'
  cases hd'
  have Z5 := (Z3.up e4).up e5
  refine (ed_n (en_listof (ev_drow Z5.L (ev_var rfl) hd (ed_var rfl (.int (j2 : Nat)))))) B5 B5 (Ex.refl _) (Ex.refl _) _ fun v A6 B6 P6 hv => ?_
  obtain ⟨qd, ys, rfl, _, _⟩ := dp_list hv
  have eH : Ex H B4 := (e12.trans e3).trans e4
  have hqH : H q = none := fresh_back eH hq
  refine ⟨H, q, qd, d.row, rfl, eH.trans (e5.trans P6.b), hqH, P6.b _ _ hx, dp_ex P6.s hv, fun H' M hc => k H' fun x u e => M.b x u (fun z => by rw [z, hqH] at e; cases e) ((eH.trans (e5.trans P6.b)) _ _ e)⟩
/-! a place at which none stands -/
def sp_missing (K : PySem.W.Frag) (CH CD CL : Addr) : Sp := fun vs H Q _ => ∃ (A : Hp) (P : HP) (s : HS) (k : Nat), vs = [.ref P.a, .int (k : Nat)] ∧ Ex A H ∧ HouseAt K CH CD CL A H P s ∧ s.post.length ≤ k ∧ ∀ H', Ex H H' → Q (.bl true) H'
theorem ok_missing (T : Tx K mg c) : DefOk P w K mg base CX0 7 "_law_missing" ["_law_house_here", "_law_place"] (sp_missing K c.House c.Desk c.Letter) := by
  obtain ⟨f, fd, d⟩ := T.d_law_missing
  refine d.ok (d.F.ok sc_law_missing (fun vs H Q E h => ?_) fun cdv A outer s H vs Q E hr h => ?_)
  · obtain ⟨_, _, _, _, e, _⟩ := h
    rw [e]
    rfl
  obtain ⟨A0, P0, st, kk, rfl, s0, O, hk, k⟩ := h
  have nd := sc_law_missing.nd
  have MT_House_bring := ok_bring (P := P) (w := w) (base := base) T
  refine ⟨_, (pss_cons (L2N.ps_try_as (i := 2) rfl rfl nd rfl rfl ⟨rfl, by decide, Or.inl T.x_BellError.g⟩ takes0 (fun W pn xe tk po => (pss_one (ps_expr (pe_mdX (pv 0) T.c_House MT_House_bring (hr.mono (by decide)) (fun σ => L2N.passAt tk σ) (pa_cons (pv 1) pa_nil))))) (fun a oe cls d pn hz hf => (pss_one (ps_ret (pe_and (pe_callB (c_isZ (K := K) rfl List.mem_cons_self hz hf) rfl T.mn_isinstance (by decide +kernel) (pa_cons (pv 2) (pa_cons (pe_glob (v := .ref c.NoMail) rfl T.x_NoMail.g rfl) pa_nil))) (pe_one (pe_callB (c_isZ (K := K) rfl List.mem_cons_self hz hf) rfl T.mn_isinstance (by decide +kernel) (pa_cons (pv 2) (pa_cons (pe_ty (T := "ValueError") rfl T.mn_ValueError (by decide +kernel)) pa_nil)))))))))
      (pss_one (ps_ret pe_bl))), ?_⟩
  try dsimp only [cx_K]
  refine q_do (m_callXV (ev_var rfl) O.ia rfl (ea_cons (ev_var rfl) ea_nil) fun B1 e1 => ?_)
  refine ⟨A0, P0, st, .int (kk : Nat), some (kk : Int), rfl, s0.trans e1, O.up s0 e1, rfl, fun _ B2 e2 => ?_, fun i hi hh => ?_⟩
  · refine ⟨true, T.i_NoMail.e, fun _ a na => ?_, fun z => by cases z⟩
    refine s_retV (v_bl (K := K) (i := true) (ed_is (ed_and (a := true) (b := true) (ed_isZ rfl T.i_NoMail.i (.own _) T.i_NoMail.k3) fun _ => ed_isZ rfl T.i_NoMail.i (.ty _) T.i_NoMail.v) rfl)) fun B3 e3 => k B3 ((e1.trans e2).trans e3)
  · have := Option.some.inj hi
    omega
/-! a letter -/
def sp_letter (K : PySem.W.Frag) (CH CD CL : Addr) : Sp := fun vs H Q _ => ∃ (A : Hp) (P : HP) (R : LHP) (s : HS) (n : Nat) (ab : Ab) (l : Nat) (x : LS), vs = [.ref P.a, .ref R.a, .int (l : Nat)] ∧ Pa K CH CD CL A H P R s n ab ∧ s.sent[l]? = some x ∧ ∀ H', Ex H H' → Q (.bl true) H'
theorem ok_letter (T : Tx K mg c) : DefOk P w K mg base CX0 4 "_law_letter" ["_law_house_here", "_law_h", "_law_letter_here"] (sp_letter K c.House c.Desk c.Letter) := by
  obtain ⟨f, fd, d⟩ := T.d_law_letter
  refine d.ok (d.F.ok sc_law_letter (fun vs H Q E h => ?_) fun cdv A outer s H vs Q E hr h => ?_)
  · obtain ⟨_, _, _, _, _, _, _, _, e, _⟩ := h
    rw [e]
    rfl
  obtain ⟨A0, P0, R0, st, n, ab, l, x, rfl, Z, hx, k⟩ := h
  have nd := sc_law_letter.nd
  have MT_House_mark := ok_hmark (P := P) (w := w) (base := base) T
  have MT_House_sender := ok_sender (P := P) (w := w) (base := base) T
  have MT_House_text := ok_text (P := P) (w := w) (base := base) T
  have G_law_whole := ok_whole (P := P) (w := w) (base := base) T
  have G_law_mark := ok_mark (P := P) (w := w) (base := base) T
  refine ⟨_, (pss_cons (ps_set (i := 3) nd rfl (Or.inl rfl) (pe_md (pv 0) T.c_House MT_House_mark (hr.mono (by decide)) passN (pa_cons (pv 2) pa_nil)))
      (pss_cons (ps_set (i := 4) nd rfl (Or.inl rfl) (pe_md (pv 0) T.c_House MT_House_sender (hr.mono (by decide)) passN (pa_cons (pv 2) pa_nil)))
      (pss_cons (ps_set (i := 5) nd rfl (Or.inl rfl) (pe_md (pv 0) T.c_House MT_House_text (hr.mono (by decide)) passN (pa_cons (pv 2) pa_nil)))
      (pss_cons (ps_if (PW.pt (pw_or (pt_not (pt_val (pe_cd G_law_whole (hr.mono (by decide)) rfl pass0 (pa_cons (pv 4) pa_nil)))) (pw_or1 (pt_cmpR op_ne (pv 4) (pe_ix (ixL (K := K) rfl) (pe_ix (ixL (K := K) rfl) (pe_dget (hu_of hr) (pv 1) pe_str (fun _ _ => rfl)) (pv 2) (fun _ _ => rfl)) pe_int (fun _ _ => rfl)) (nomark _))))) (pss_one (ps_ret pe_bl)) pss_nil)
      (pss_cons (ps_if (PW.pt (pw_or (pt_not (pt_val (pe_callB (c_isi (K := K) rfl) rfl T.mn_isinstance (by decide +kernel) (pa_cons (pv 5) (pa_cons (pe_ty (T := "str") rfl T.mn_str (by decide +kernel)) pa_nil))))) (pw_or1 (pt_cmpR op_ne (pv 5) (pe_ix (ixL (K := K) rfl) (pe_ix (ixL (K := K) rfl) (pe_dget (hu_of hr) (pv 1) pe_str (fun _ _ => rfl)) (pv 2) (fun _ _ => rfl)) pe_int (fun _ _ => rfl)) (nomark _))))) (pss_one (ps_ret pe_bl)) pss_nil)
      (pss_cons (ps_if (pt_cmpR op_isN1 (pe_ix (ixL (K := K) rfl) (pe_ix (ixL (K := K) rfl) (pe_dget (hu_of hr) (pv 1) pe_str (fun _ _ => rfl)) (pv 2) (fun _ _ => rfl)) pe_int (fun _ _ => rfl)) pe_non (nomark _)) (pss_one (ps_ret (pe_cmpR op_isN1 (pv 3) pe_non (nomark _)))) pss_nil)
      (pss_one (ps_ret (pe_and (pe_cd G_law_mark (hr.mono (by decide)) rfl pass0 (pa_cons (pv 3) pa_nil)) (pe_one (pe_cmpR (o_eqD (K := K) rfl hr.units) (pv 3) (pe_ix (ixL (K := K) rfl) (pe_ix (ixL (K := K) rfl) (pe_dget (hu_of hr) (pv 1) pe_str (fun _ _ => rfl)) (pv 2) (fun _ _ => rfl)) pe_int (fun _ _ => rfl)) (nomark _)))))))))))), ?_⟩
  try dsimp only [cx_K]
  have hpl : isPl (some (l : Int)) st.sent.length = true := isPl_of (lt_of_get hx)
  have uniq : ∀ (j : Nat) (y : LS), some (l : Int) = some (j : Int) → st.sent[j]? = some y → y = x := fun j y hj hy => by
    have hji : j = l := by have := Option.some.inj hj; omega
    subst hji
    rw [hx] at hy
    exact (Option.some.inj hy).symm
  refine q_do (m_callV (ev_var rfl) Z.O.ia rfl (ea_cons (ev_var rfl) ea_nil) fun B1 e1 => ⟨A0, P0, st, .int (l : Int), some (l : Int), rfl, (Z.up e1).O, (Z.up e1).es, rfl, (fun z => by rw [hpl] at z; cases z), fun j y hj hy um B2 hum e2 => go_nx ?_⟩)
  rw [uniq j y hj hy] at hum
  have Z2 := (Z.up e1).up e2
  refine q_do (m_callV (ev_var rfl) Z2.O.ia rfl (ea_cons (ev_var rfl) ea_nil) fun B3 e3 => ⟨A0, P0, st, .int (l : Int), some (l : Int), rfl, (Z2.up e3).O, (Z2.up e3).es, rfl, (fun z => by rw [hpl] at z; cases z), fun j y hj hy us B4 hus e4 => go_nx ?_⟩)
  rw [uniq j y hj hy] at hus
  subst hus
  have Z4 := (Z2.up e3).up e4
  refine q_do (m_callV (ev_var rfl) Z4.O.ia rfl (ea_cons (ev_var rfl) ea_nil) fun B5 e5 => ⟨A0, P0, st, .int (l : Int), some (l : Int), rfl, (Z4.up e5).O, (Z4.up e5).es, rfl, (fun z => by rw [hpl] at z; cases z), fun j y hj hy ut B6 hut e6 => go_nx ?_⟩)
  rw [uniq j y hj hy] at hut
  subst hut
  have Z6 := (Z4.up e5).up e6
  obtain ⟨q, hq, Lq⟩ := Z6.L.gq hx
  obtain ⟨vf, hia, hvf⟩ := Lq.ia
  have it : ∀ {B : Hp} {σ : L2.St} {j : Nat} {v : V}, Ex B6 B → σ[1]? = some (some (.ref R0.a)) → σ[2]? = some (some (.int (l : Nat))) → ([V.int (x.writer : Nat), .str x.words, .ref q.n, vf] : List V)[j]? = some v → Ev (tOp (rIxL K) (tOp (rIxL K) (tDGet (tVar 1) (tC (.str "sent"))) (tVar 2)) (tC (.int (j : Int)))) σ B v := fun {B σ j v} e h1 h2 hv =>
    ev_ixL ((Z6.up e).L.ev_let (ev_var h1) hq (ed_var h2 (.int (l : Nat)))) (sq_of (e _ _ hia)) ed_int (by
      unfold atI
      rw [show ixN ([V.int (x.writer : Nat), .str x.words, .ref q.n, vf] : List V).length (j : Int) = some j from ixN_nat (lt_of_get hv)]
      exact hv)
  refine q_ifM K (b := false) (eb_or (a := false) (b := false) (eb_is (eb_not (eb_DB (ed_call (ea_consD (ed_var rfl (.int (x.writer : Nat))) ea_nilD) (at_whole _)))) rfl) fun _ => eb_is (eb_D (ed_nei (ed_var rfl (.int (x.writer : Nat))) (ed_v (it (j := 0) (Ex.refl _) rfl rfl rfl) (.int (x.writer : Nat))))) (by rw [beq_self_eq_true]; rfl)) rfl (fun z => by cases z) (fun _ B7 e7 => q_next ?_)
  refine q_ifM K (b := false) (eb_or (a := false) (b := false) (eb_is (eb_not (eb_DB (ed_isi (ed_var rfl (.str x.words)) ki_ss))) rfl) fun _ => eb_is (eb_D (ed_nes (ed_var rfl (.str x.words)) (ed_v (it (j := 1) e7 rfl rfl rfl) (.str x.words)))) (by rw [beq_self_eq_true]; rfl)) rfl (fun z => by cases z) (fun _ B8 e8 => q_next ?_)
  have e78 := e7.trans e8
  have e28 := ((e3.trans e4).trans (e5.trans e6)).trans e78
  have eH8 := (e1.trans e2).trans e28
  have s8 := (Z6.up e78).es
  refine q_ifM K (b := isNone (mkO x.final)) (eb_D (ed_isN (ed_v (it (j := 3) e78 rfl rfl rfl) (dp_ex s8 hvf)))) rfl (fun hb B9 e9 => ?_) (fun hb B9 e9 => q_next ?_)
  · refine s_retV (v_bl (K := K) (i := true) (ed_is (ed_isN (ed_var rfl (dp_ex (s8.trans e9) hum))) (congrArg PyData.bool hb))) fun B10 e10 => k B10 (eH8.trans (e9.trans e10))
  · cases hf : x.final with
    | none => rw [hf] at hb; cases hb
    | some m =>
      have hum : Dp K A0 um (mkD m) := by rw [hf] at hum; exact hum
      have hvf : Dp K A0 vf (mkD m) := by rw [hf] at hvf; exact hvf
      have s9 := s8.trans e9
      refine s_retV (v_bl (K := K) (i := true) (ed_is (ed_and (a := true) (b := true) (ed_is (ed_call (ea_consD (ed_var rfl (dp_ex s9 hum)) ea_nilD) (at_mark _)) rfl) fun _ => ed_is (ed_eqD (ed_var rfl (dp_ex s9 hum)) (ed_v (it (j := 3) (e78.trans e9) rfl rfl rfl) (dp_ex s9 hvf)) sh_mk sh_mk) (by rw [eqv_refl sh_mk])) rfl)) fun B10 e10 => k B10 (eH8.trans (e9.trans e10))
/-! all of them, by rest -/
def sp_rested (K : PySem.W.Frag) (CH CD CL : Addr) : Sp := fun vs H Q _ => ∃ (A : Hp) (P : HP) (R : LHP) (s : HS) (n : Nat) (ab : Ab), vs = [.ref P.a, .ref R.a] ∧ Pa K CH CD CL A H P R s n ab ∧ n ≤ 40 ∧ s.sent.length < 1400 ∧
  ∀ R' s' ab' A' H', R'.a = R.a ∧ R'.tv = R.tv → PrM (fun x => P.inF x ∨ R.inF x) A H A' H' → (∀ x, R'.inF x → R.inF x ∨ H x = none) → Pa K CH CD CL A' H' P R' s' n ab' → s'.sent.length = s.sent.length → Q (.bl true) H'
theorem ok_rested (T : Tx K mg c) : DefOk P w K mg base CX0 8 "_law_rested" ["_law_house_here", "_law_h"] (sp_rested K c.House c.Desk c.Letter) := by
  obtain ⟨f, fd, d⟩ := T.d_law_rested
  refine d.ok (d.F.ok sc_law_rested (fun vs H Q E h => ?_) fun cdv A outer s H vs Q E hr h => ?_)
  · obtain ⟨_, _, _, _, _, _, e, _⟩ := h
    rw [e]
    rfl
  obtain ⟨A0, P0, R0, st, n, ab, rfl, Z, hn, hsl, k⟩ := h
  have nd := sc_law_rested.nd
  have G_law_brought := ok_lbrought (P := P) (w := w) (base := base) T
  have G_law_whole := ok_whole (P := P) (w := w) (base := base) T
  have MT_House_rest := ok_rest (P := P) (w := w) (base := base) T
  have MT_House_mails := ok_mails (P := P) (w := w) (base := base) T
  refine ⟨_, (pss_cons (ps_set (i := 2) nd rfl (Or.inl rfl) pe_int)
      (pss_cons (ps_while PassesOwn.never (pt_cmpR (o_neD (K := K) rfl hr.units) (pe_dget (hu_of hr) (pv 1) pe_str (fun _ _ => rfl)) (pe_lst pa_nil) (nomark _)) (pss_cons (ps_expr (pe_cd G_law_brought (hr.mono (by decide)) rfl pass0 (pa_cons (pv 1) (pa_cons pe_int pa_nil))))
        (pss_one (ps_set (i := 2) nd rfl (Or.inl rfl) (pe_op op_add (pv 2) pe_int)))))
      (pss_cons (ps_set (i := 3) nd rfl (Or.inl rfl) (pe_md0 (pv 0) T.c_House MT_House_rest (hr.mono (by decide)) passN))
      (pss_one (ps_ret (pe_and (pe_cd G_law_whole (hr.mono (by decide)) rfl pass0 (pa_cons (pv 3) pa_nil)) (pe_and (pe_cmpR op_eq (pv 3) (pv 2) (nomark _)) (pe_one (pe_cmpR (o_eqD (K := K) rfl hr.units) (pe_md0 (pv 0) T.c_House MT_House_mails (hr.mono (by decide)) passN) (pe_lst pa_nil) (nomark _)))))))))), ?_⟩
  try dsimp only [cx_K]
  refine q_asgV ev_c fun B1 e1 => ?_
  let J : Nat → L2.St → Hp → Prop := fun m σ B => ∃ (s2 : HS) (ab2 : Ab) (A' : Hp) (R' : LHP) (due : Nat), σ = [some (.ref P0.a), some (.ref R0.a), some (.int (due : Nat)), none] ∧ s2.pot = m ∧ due + m = st.pot ∧ s2.restN m = st.restN st.pot ∧ (R'.a = R0.a ∧ R'.tv = R0.tv) ∧ PrM R0.inF A0 H A' B ∧ (∀ x, R'.inF x → R0.inF x ∨ H x = none) ∧ LHAt K A' B R' s2 ∧ Inv n ab2 (fun _ => False) s2 ∧ s2.sent.length = st.sent.length
  refine q_do ⟨J, ⟨st.pot, st, ab, A0, R0, 0, rfl, rfl, by omega, rfl, ⟨rfl, rfl⟩, (PrM.refl Z.es).up e1, fun x hx => .inl hx, (Z.up e1).L, Z.I, rfl⟩, ?_⟩
  rintro m σ B ⟨s2, ab2, A2, R2, due, rfl, hm, hf, hrs, hRa, M2, in2, L2', I2, hl2⟩
  have s2' := M2.s
  refine (eb_is (eb_D (ed_neD (L2'.ev_m s2' (by rw [hRa.1]; exact ev_var rfl)) (ed_n (en_lst ea_nilD (by decide))) (sh_mails _) rfl)) (by rw [eqv_nil, List.length_map]) : EvB K _ _ B (!decide (s2.post.length = 0))) B (Ex.refl _) _ fun B3 e3 => ?_
  by_cases hp : s2.post.length = 0
  · rw [decide_eq_true hp]
    refine iteF (go_nx ?_)
    have hp0 : s2.post = [] := List.length_eq_zero_iff.mp hp
    have hz := I2.end_pot hp0
    have hm0 : m = 0 := by omega
    subst hm0
    have hdue : due = st.pot := by omega
    subst hdue
    have M3 := M2.up e3
    have O3 := Z.O.mono M3 fun x hx z => Z.dj x z hx
    have L3 := L2'.up s2' e3
    refine q_do (m_callV (ev_var rfl) O3.ia rfl ea_nil fun B4 e4 => ⟨A2, P0, st, n, ab, rfl, M3.s.trans e4, O3.up M3.s e4, Z.I, hn, by omega, fun s5 ab5 A5 B5 hs5 M5 O5 I5 hp5 _ _ hl5 => go_nx ?_⟩)
    have hs5 : s5 = s2 := hs5.trans hrs.symm
    subst hs5
    have dj2 : ∀ x, R2.inF x → ¬ P0.inF x := fun x hx z => (in2 x hx).elim (fun y => Z.dj x y z) fun y => Z.O.alive z y
    have L5 := (L3.up M3.s e4).mono M5 fun x hx => dj2 x hx
    have Z5 : Pa K c.House c.Desk c.Letter A5 B5 P0 R2 s5 n ab5 := ⟨M5.s, O5, L5, I5, dj2⟩
    have hml0 : s5.post.length = 0 := by rw [hp5]; rfl
    refine s_retV (v_bl (K := K) (i := true) (ed_is (ed_and (a := true) (b := true) (ed_is (ed_call (ea_consD (ed_var rfl (.int (st.pot : Nat))) ea_nilD) (at_whole _)) rfl) fun _ => ed_is (ed_and (a := true) (b := true) (ed_is (ed_eqi (ed_var rfl (.int (st.pot : Nat))) (ed_var rfl (.int (st.pot : Nat)))) (congrArg PyData.bool (beq_self_eq_true _))) fun _ => ed_is (ed_eqD (ed_n (en_mails O5 M5.s (ev_var rfl))) (ed_n (en_lst ea_nilD (by decide))) (sh_mails _) rfl) (congrArg PyData.bool (by rw [eqv_nil, List.length_map]; exact decide_eq_true hml0))) rfl) rfl)) fun B6 e6 => ?_
    exact k R2 s5 ab5 A5 B6 hRa (((M3.mono fun x hx => .inr hx).up e4 |>.trans (M5.mono fun x hx => .inl hx)).up e6) in2 (Z5.up e6) hl5
  · rw [decide_eq_false hp]
    refine iteT ⟨fun σ' B' => ∃ m', m' < m ∧ J m' σ' B', fun σ' B' h => h, ?_⟩
    have hq : 0 < s2.post.length := by omega
    have hm2 := List.getElem?_eq_getElem hq
    obtain ⟨s3, hbr, ab3, I3, L3⟩ := I2.bring hm2
    have hpot := I2.bring_pot hm2 hbr
    have L3' := L2'.up s2' e3
    refine q_do (c_callV (ea_cons (ev_var rfl) (ea_cons ev_c ea_nil)) fun B4 e4 => ⟨A2, R2, s2, 0, _, s3, by rw [hRa.1]; rfl, s2'.trans (e3.trans e4), L3'.up (s2'.trans e3) e4, hbr, hm2, I2.sm hn (by omega), I2.goods, fun v R5 A5 B5 hRa5 M5 in5 O5 hv => go_nx ?_⟩)
    refine s_asgV (v_int (K := K) (ed_Ii (ed_var rfl (.int (due : Nat))) ed_int)) fun B6 e6 => ?_
    have M4 := M2.up (e3.trans e4)
    refine ⟨m - 1, by omega, s3, ab3, A5, R5, due + 1, rfl, by omega, by omega, ?_, ⟨hRa5.1.trans hRa.1, hRa5.2.trans hRa.2⟩, ((M4.then M5 fun x hx => (in2 x hx).imp id fun y => y).up e6), fun x hx => (in5 x hx).elim (in2 x) fun y => .inr (M4.fresh y), O5.up M5.s e6, I3, by rw [HS.bring_len hm2 hbr, hl2]⟩
    rw [← hrs]
    obtain ⟨q, rfl⟩ : ∃ q, m = q + 1 := ⟨m - 1, by omega⟩
    rw [restN_succ hbr, Nat.add_sub_cancel]
end

end K8

namespace K8
open PySem L2 Evl Ob

local macro_rules | `(tactic| tm_at "sh") => `(tactic| first | exact sh_mk | exact sh_mks | exact sh_b3)

/-! ## texts that the law makes -/
def signs : Str := ⟨((List.range' 32 95).filter (· ≠ 37)).toArray⟩
def signC (x : Int) : Nat := signs.cps.toList.getD (x % 94).toNat 0
theorem at_sign0 {x : Int} : atI signs.cps.toList (x % 94) = some (signC x) := by
  have hl : signs.cps.toList.length = 94 := by decide +kernel
  have h0 := Int.emod_nonneg x (show (94 : Int) ≠ 0 by decide)
  have h1 := Int.emod_lt_of_pos x (show (0 : Int) < 94 by decide)
  obtain ⟨n, e⟩ : ∃ n : Nat, x % 94 = (n : Int) := ⟨(x % 94).toNat, by omega⟩
  have hn : n < signs.cps.toList.length := by omega
  unfold atI signC
  rw [e, ixN_nat hn]
  show signs.cps.toList[n]? = _
  rw [show ((n : Int).toNat) = n from rfl, List.getD_eq_getElem?_getD, List.getElem?_eq_getElem hn]
  rfl
section
variable {P : Program} {w : World} {K : PySem.W.Frag} {mg : Str → Option Value} {base : Heap} {c : Cs}
def sp_sign (K : PySem.W.Frag) : Sp := spF K (fun x : Int => [.int x]) (fun _ => True) (fun x => .str ⟨#[signC x]⟩)
theorem at_sign (x : Int) : SpD K (sp_sign K) [.int x] (.str ⟨#[signC x]⟩) := spF_at x trivial
theorem ok_sign (T : Tx K mg c) : DefOk P w K mg base CX0 1 "_law_sign" ["_law_cell"] (sp_sign K) := by
  obtain ⟨f, fd, d⟩ := T.d_law_sign
  refine d.ok (d.F.ok sc_law_sign (fun vs H Q E h => spF_len h fun _ => rfl) fun cdv A outer s H vs Q E hr h => ?_)
  obtain ⟨A0, x, _, s0, ha, k⟩ := h
  obtain ⟨v1, rfl, h1⟩ := dpa1 ha
  have nd := sc_law_sign.nd
  refine ⟨_, (pss_cons (ps_set (i := 1) nd rfl (Or.inl rfl) pe_str)
      (pss_cons (ps_set (i := 1) nd rfl (Or.inl rfl) (pe_op o_addS (pv 1) pe_str))
      (pss_one (ps_ret (pe_ix ix_str (pv 1) (pe_op op_mod (pv 0) pe_int) (fun _ _ => rfl)))))), ?_⟩
  try dsimp only [cx_K]
  refine q_asgD K s0 (by tm_at "ed") fun v2 A1 B1 P1 hv2 => ?_
  refine q_asgD K P1.s (d := .str signs) (ed_is (ed_addS (by tm_at "ed") (by tm_at "ed") (by decide +kernel)) (congrArg PyData.str (by decide +kernel))) fun v3 A2 B2 P2 hv3 => ?_
  exact s_retK K P2.s (ed_ixS (by tm_at "ed") (by tm_at "ed") (by decide +kernel) at_sign0) rfl fun v A' B' P6 hv => k v A' B' (by tm_at "pr") hv
end

end K8

namespace K8
open PySem L2 Evl Ob

local macro_rules | `(tactic| tm_at "sh") => `(tactic| first | exact sh_mk | exact sh_mks | exact sh_b3)

local macro_rules | `(tactic| tm_at "fn") => `(tactic| first | exact at_mail _ | exact at_whole _ | exact at_mark _ | exact at_cell (by decide))

/-! ## one step of the law -/
theorem var_te {σ : L2.St} {H : Hp} {Q : VK} {i : Nat} {v : V} (h : σ[i]? = some (some v)) (q : Q v H) : tVar i σ H Q := ⟨v, h, q⟩
/-- what a step has done: where both stand then, what may have changed -/
structure To (P : HP) (R : LHP) (A H : Hp) (P' : HP) (R' : LHP) (A' H' : Hp) : Prop where
  pa : P'.a = P.a
  ra : R'.a = R.a
  tv : R'.tv = []
  pr : PrM (fun x => P.inF x ∨ R.inF x) A H A' H'
  nw : ∀ x, P'.inF x ∨ R'.inF x → (P.inF x ∨ R.inF x) ∨ H x = none
theorem To.up {P P' : HP} {R R' : LHP} {A H A' H' H2 : Hp} (t : To P R A H P' R' A' H') (e : Ex H' H2) : To P R A H P' R' A' H2 := ⟨t.pa, t.ra, t.tv, t.pr.up e, t.nw⟩
theorem Inv.plen {n : Nat} {a : Ab} {pe : Nat → Prop} {s : HS} (I : Inv n a pe s) (hn : n ≤ 40) : s.post.length ≤ s.sent.length * 40 := by
  have h1 : (s.post.map fun m => (kLH m).1 * 40 + (kLH m).2).length = s.post.length := List.length_map ..
  rw [← h1]
  refine nodup_bound (s.sent.length * 40) _ ?_ fun x hx => ?_
  · have : (s.post.map fun m => (kLH m).1 * 40 + (kLH m).2) = (s.post.map kLH).map fun p => p.1 * 40 + p.2 := by rw [List.map_map]; rfl
    rw [this]
    refine List.pairwise_map.mpr (I.p3.imp_of_mem fun {p q} hp hq hne e => hne ?_)
    obtain ⟨m, hm, rfl⟩ := List.mem_map.mp hp
    obtain ⟨m', hm', rfl⟩ := List.mem_map.mp hq
    have := (I.p1 m hm).2.1
    have := (I.p1 m' hm').2.1
    exact Prod.ext (by omega) (by omega)
  · obtain ⟨m, hm, rfl⟩ := List.mem_map.mp hx
    obtain ⟨q1, q2, _⟩ := I.p1 m hm
    show m.letter * 40 + _ < _
    have : (m.letter + 1) * 40 ≤ s.sent.length * 40 := Nat.mul_le_mul_right _ q1
    omega
theorem Inv.mail_hands {n : Nat} {a : Ab} {pe : Nat → Prop} {s : HS} (I : Inv n a pe s) {m : Mail} (hm : m ∈ s.post) : m.letter < s.sent.length ∧ m.src < n ∧ m.dst < n := by
  obtain ⟨q1, q2, q3⟩ := I.p1 m hm
  obtain ⟨x, _, S⟩ := I.gs q1
  have hw := S.wn
  unfold kLH at q2 q3
  rcases mailOf_word q3 with ⟨z, _, e⟩ | ⟨z, _, e⟩ | ⟨z, _, e⟩
  · rw [if_neg (by rw [z]; decide)] at q2
    refine ⟨q1, ?_, q2⟩
    rw [congrArg Mail.src e]; exact hw
  · rw [if_pos z] at q2
    refine ⟨q1, q2, ?_⟩
    rw [congrArg Mail.dst e]; exact hw
  · rw [if_neg (by rw [z]; decide)] at q2
    refine ⟨q1, ?_, q2⟩
    rw [congrArg Mail.src e]; exact hw
theorem sh_mail (m : Mail) : SeqAt.shaped (mailD m) = true := (shn_mail (n := 0)).sh (by decide)
theorem lhK_len (P : LHP) : (lhK P).length < 100000 := by
  obtain ⟨a, dl, sl, ml, o, ov, ds, qs⟩ := P
  cases o
  · show 3 < 100000; decide
  · show 4 < 100000; decide
theorem lh_val (P : LHP) : valV (lhK P) (.inr "told") = P.t.map V.ref := by
  obtain ⟨a, dl, sl, ml, o, ov, ds, qs⟩ := P
  cases o <;> rfl
section
variable {K : PySem.W.Frag} {CH CD CL : Addr} {A B A2 B2 B3 A4 B4 H : Hp} {P P4 : HP} {R R2 : LHP} {s s' : HS} {n : Nat} {ab ab' : Ab} {σ : L2.St} {ta tb tc td : TE} {E : XK} {q : Addr} {xs : List V}
theorem ev_hand (Z : Pa K CH CD CL A B P R s n ab) (ha : Ev ta σ B (.ref P.a)) (hb : Ev tb σ B (.ref R.a)) {i : Nat} {d : DS} (hd : s.desks[i]? = some d) (hc : Ev tc σ B (.int (i : Nat))) : Ev (tCall (sp_hand K CH CD CL) [] E (tCons ta (tCons tb (tCons tc tNil)))) σ B (.bl true) := fun H1 e Q q =>
  c_callV (ea_cons (ha.mono e) (ea_cons (hb.mono e) (ea_cons (hc.mono e) ea_nil))) fun B' e' => ⟨A, P, R, s, n, ab, i, d, rfl, Z.up (e.trans e'), hd, fun H' e2 => q H' (e'.trans e2)⟩
theorem ed_told (L : LHAt K A B R s) (hv : R.tv = []) (hd : Ev td σ B (.ref R.a)) : EvD K (tDGet2 td (tC (.str "told")) (tLst tNil)) σ B (.list []) := fun A1 B1 e1 s1 Q q1 =>
  hd B1 (e1.trans s1) _ fun B2 e2 => by
    have e12 := (e1.trans s1).trans e2
    refine ⟨R.a, rfl, .inl ⟨_, .inl (e12 _ _ L.ia)⟩, ⟨sz_of (by decide), fun z hz => ?_⟩⟩
    have ia3 := Ex.new (o := .lst []) hz _ _ (e12 _ _ L.ia)
    refine ⟨valV (lhK R) (.inr "told"), .inl ⟨_, .inr "told", .inl ia3, rfl, rfl⟩, ?_⟩
    have P3 : Pr A1 B1 (upd A1 z (.lst [])) (upd B2 z (.lst [])) := (Pr.up s1 e2).trans (Pr.new (s1.trans e2) hz)
    rw [lh_val]
    cases ht : R.t with
    | none => exact q1 _ _ _ P3 (.lst (xs := []) (sq_of upd_same) .nil)
    | some t =>
      have h2 := L.it t ht
      rw [hv] at h2
      exact q1 _ _ _ P3 (.lst (xs := []) (sq_of (P3.a _ _ (e1 _ _ h2))) .nil)
/-- the law's own deed, then the house's -/
theorem Pa.both (Z : Pa K CH CD CL A B P R s n ab) (M : PrM R.inF A B A2 B2) (in2 : ∀ x, R2.inF x → R.inF x ∨ B x = none) (L2 : LHAt K A2 B2 R2 s') (e : Ex B2 B3) (M4 : PrM P.inF A2 B3 A4 B4) (in4 : ∀ x, P4.inF x → P.inF x ∨ B3 x = none) (O4 : HouseAt K CH CD CL A4 B4 P4 s') (I : Inv n ab' (fun _ => False) s') :
    Pa K CH CD CL A4 B4 P4 R2 s' n ab' := by
  have dj2 : ∀ x, R2.inF x → ¬ P.inF x := fun x hx z => (in2 x hx).elim (fun y => Z.dj x y z) fun y => Z.O.alive z y
  have L3 := L2.up M.s e
  exact ⟨M4.s, O4, L3.mono M4 fun x hx z => dj2 x hx z, I, fun x hx z => (in4 x z).elim (dj2 x hx) fun y => L3.alive hx y⟩
theorem To.both (s0 : Ex A H) (eb : Ex H B) (htv : R.tv = []) (hp : P4.a = P.a) (hr : R2.a = R.a ∧ R2.tv = R.tv) (M : PrM R.inF A B A2 B2) (in2 : ∀ x, R2.inF x → R.inF x ∨ B x = none) (e : Ex B2 B3) (M4 : PrM P.inF A2 B3 A4 B4) (in4 : ∀ x, P4.inF x → P.inF x ∨ B3 x = none) : To P R A H P4 R2 A4 B4 := by
  have M3 : PrM (fun x => P.inF x ∨ R.inF x) A H A2 B3 := (((PrM.refl s0).up eb).trans (M.mono fun x hx => .inr hx)).up e
  refine ⟨hp, hr.1, hr.2.trans htv, M3.trans (M4.mono fun x hx => .inl hx), fun x hx => ?_⟩
  rcases hx with hx | hx
  · exact (in4 x hx).elim (fun y => .inl (.inl y)) fun y => .inr (M3.fresh y)
  · exact (in2 x hx).elim (fun y => .inl (.inr y)) fun y => .inr (fresh_back eb y)
/-- what is told is kept -/
theorem Pa.tell (Z : Pa K CH CD CL A B P R s n ab) (nP : ¬ P.inF q) (nR : ¬ R.inF q) (nA : A q = none) (hB : B q = some (.lst xs)) :
    Pa K CH CD CL A (upd B R.a (.dK (lhK (R.setT q xs)))) P (R.setT q xs) s n ab ∧ PrM R.inF A B A (upd B R.a (.dK (lhK (R.setT q xs)))) := by
  have M := (PrM.refl (F := R.inF) Z.es).put (l := R.a) (o := .dK (lhK (R.setT q xs))) (.inl (.inl LHP.in_a)) (Z.L.na _ LHP.in_a)
  refine ⟨⟨M.s, Z.O.mono M fun x hx z => Z.dj x z hx, Z.L.told nR nA hB Z.es, Z.I, fun x hx => ?_⟩, M⟩
  rcases hx with z | z | z | z
  · exact Z.dj x (.inl z)
  · exact Z.dj x (.inr (.inl z))
  · exact Z.dj x (.inr (.inr (.inl z)))
  · have z : some q = some x := z
    cases z
    exact nP
theorem Pa.clear (Z : Pa K CH CD CL A B P (R.setT q xs) s n ab) (M : PrM (fun x => x = q) A B A B4) (e : B4 q = some (.lst [])) : Pa K CH CD CL A B4 P (R.setT q []) s n ab :=
  ⟨M.s, Z.O.mono M fun x hx z => Z.dj x (z ▸ LHP.inT rfl) hx, Z.L.cleared M e, Z.I, fun x hx => Z.dj x hx⟩
end
section
variable {P : Program} {w : World} {K : PySem.W.Frag} {mg : Str → Option Value} {base : Heap} {c : Cs}
def sp_step (K : PySem.W.Frag) (CH CD CL : Addr) : Sp := fun vs H Q _ => ∃ (A : Hp) (P : HP) (R : LHP) (s : HS) (n : Nat) (ab : Ab) (kind cell : Int), vs = [.ref P.a, .ref R.a, .int kind, .int cell] ∧ Pa K CH CD CL A H P R s n ab ∧ n ≤ 40 ∧ s.sent.length < 900 ∧ R.tv = [] ∧
  ∀ P' R' s' ab' A' H', To P R A H P' R' A' H' → Pa K CH CD CL A' H' P' R' s' n ab' → s'.sent.length ≤ s.sent.length + 1 → Q (.bl true) H'
theorem ok_step (T : Tx K mg c) : DefOk P w K mg base CX0 9 "_law_step" ["_law_house_here", "_law_h", "_law_kind", "_law_cell"] (sp_step K c.House c.Desk c.Letter) := by
  obtain ⟨f, fd, d⟩ := T.d_law_step
  refine d.ok (d.F.ok sc_law_step (fun vs H Q E h => ?_) fun cdv A outer s H vs Q E hr h => ?_)
  · obtain ⟨_, _, _, _, _, _, _, _, e, _⟩ := h
    rw [e]
    rfl
  obtain ⟨A0, P0, R0, st, n, ab, kind, cell, rfl, Z, hn, hsl, htv, k⟩ := h
  have nd := sc_law_step.nd
  have G_law_sign := ok_sign (P := P) (w := w) (base := base) T
  have G_law_sent := ok_lsent (P := P) (w := w) (base := base) T
  have G_law_brought := ok_lbrought (P := P) (w := w) (base := base) T
  have G_law_whole := ok_whole (P := P) (w := w) (base := base) T
  have G_law_mail := ok_mail (P := P) (w := w) (base := base) T
  have G_law_hand := ok_hand (P := P) (w := w) (base := base) T
  have G_law_missing := ok_missing (P := P) (w := w) (base := base) T
  have G_law_rested := ok_rested (P := P) (w := w) (base := base) T
  have G_law_letter := ok_letter (P := P) (w := w) (base := base) T
  have G_law_mails := ok_mails2 (P := P) (w := w) (base := base) T
  have MT_House_send := ok_send (P := P) (w := w) (base := base) T
  have MT_House_bring := ok_bring (P := P) (w := w) (base := base) T
  have MT_House_letters := ok_letters (P := P) (w := w) (base := base) T
  have MT_House_mails := ok_mails (P := P) (w := w) (base := base) T
  refine ⟨_, (pss_cons (ps_if (PW.pt (pw_or (pt_cmpR op_eq (pe_op op_mod (pv 2) pe_int) pe_int (nomark _)) (pw_or1 (pt_cmpR (o_eqD (K := K) rfl hr.units) (pe_dget (hu_of hr) (pv 1) pe_str (fun _ _ => rfl)) (pe_lst pa_nil) (nomark _))))) (pss_cons (ps_set (i := 4) nd rfl (Or.inl rfl) (pe_op op_mod (pv 3) (pe_callB (c_len (K := K) rfl) rfl T.mn_len (by decide +kernel) (pa_cons (pe_dget (hu_of hr) (pv 1) pe_str (fun _ _ => rfl)) pa_nil))))
        (pss_cons (ps_set (i := 5) nd rfl (Or.inl rfl) (pe_op o_addS (pe_cd G_law_sign (hr.mono (by decide)) rfl pass0 (pa_cons (pv 3) pa_nil)) (pe_ix (ixL (K := K) rfl) (pe_lst (pa_cons (pe_op op_mul_str (pe_cd G_law_sign (hr.mono (by decide)) rfl pass0 (pa_cons (pe_op op_fdiv (pv 2) pe_int) pa_nil)) (pe_op op_mod (pv 3) pe_int)) (pa_cons pe_str pa_nil))) (pe_callB (c_min2 rfl) rfl T.mn_min (by decide +kernel) (pa_cons pe_int (pa_cons (pe_op op_mod (pe_op op_fdiv (pv 2) pe_int) pe_int) pa_nil))) (fun _ _ => rfl))))
        (pss_cons (ps_set (i := 6) nd rfl (Or.inl rfl) (pe_cd G_law_sent (hr.mono (by decide)) rfl pass0 (pa_cons (pv 1) (pa_cons (pv 4) (pa_cons (pv 5) pa_nil)))))
        (pss_cons (ps_set (i := 7) nd rfl (Or.inl rfl) (pe_md (pv 0) T.c_House MT_House_send (hr.mono (by decide)) passN (pa_cons (pv 4) (pa_cons (pv 5) pa_nil))))
        (pss_one (ps_set (i := 8) nd rfl (Or.inl rfl) (pe_and (pe_cd G_law_whole (hr.mono (by decide)) rfl pass0 (pa_cons (pv 7) pa_nil)) (pe_and (pe_cmpR (o_eqD (K := K) rfl hr.units) (pv 7) (pv 6) (nomark _)) (pe_one (pe_cd G_law_hand (hr.mono (by decide)) rfl pass0 (pa_cons (pv 0) (pa_cons (pv 1) (pa_cons (pv 4) pa_nil))))))))))))) (pss_one (ps_if (pt_cmpR op_eq (pe_op op_mod (pe_op op_fdiv (pv 2) pe_int) pe_int) pe_int (nomark _)) (pss_one (ps_ret (pe_cd G_law_missing (hr.mono (by decide)) rfl pass0 (pa_cons (pv 0) (pa_cons (pe_op op_add (pe_callB (c_len (K := K) rfl) rfl T.mn_len (by decide +kernel) (pa_cons (pe_dget (hu_of hr) (pv 1) pe_str (fun _ _ => rfl)) pa_nil)) (pe_op op_mod (pv 3) pe_int)) pa_nil))))) (pss_one (ps_if (PW.pt (pw_and (pt_cmpR op_eq (pe_op op_mod (pe_op op_fdiv (pv 2) pe_int) pe_int) pe_int (nomark _)) (pw_and1 (pt_cmpR op_lt (pe_callB (c_len (K := K) rfl) rfl T.mn_len (by decide +kernel) (pa_cons (pe_dget (hu_of hr) (pv 1) pe_str (fun _ _ => rfl)) pa_nil)) pe_int (nomark _))))) (pss_one (ps_ret (pe_cd G_law_rested (hr.mono (by decide)) rfl pass0 (pa_cons (pv 0) (pa_cons (pv 1) pa_nil))))) (pss_cons (ps_set (i := 9) nd rfl (Or.inl rfl) (pe_op op_mod (pv 3) (pe_callB (c_len (K := K) rfl) rfl T.mn_len (by decide +kernel) (pa_cons (pe_dget (hu_of hr) (pv 1) pe_str (fun _ _ => rfl)) pa_nil))))
            (pss_cons (ps_set (i := 10) nd rfl (Or.inl rfl) (pe_cd G_law_brought (hr.mono (by decide)) rfl pass0 (pa_cons (pv 1) (pa_cons (pv 9) pa_nil))))
            (pss_cons (ps_set (i := 7) nd rfl (Or.inl rfl) (pe_md (pv 0) T.c_House MT_House_bring (hr.mono (by decide)) passN (pa_cons (pv 9) pa_nil)))
            (pss_cons (ps_set (i := 6) nd rfl (Or.inl rfl) (pe_ix (ixT (K := K) rfl) (pv 10) pe_int (fun _ _ => rfl)))
            (pss_one (ps_set (i := 8) nd rfl (Or.inl rfl) (pe_and (pe_cd G_law_mail (hr.mono (by decide)) rfl pass0 (pa_cons (pv 7) pa_nil)) (pe_and (pe_cmpR (o_eqD (K := K) rfl hr.units) (pv 7) (pv 10) (nomark _)) (pe_and (pe_cd G_law_hand (hr.mono (by decide)) rfl pass0 (pa_cons (pv 0) (pa_cons (pv 1) (pa_cons (pe_ix (ixT (K := K) rfl) (pv 10) pe_int (fun _ _ => rfl)) pa_nil)))) (pe_one (pe_cd G_law_hand (hr.mono (by decide)) rfl pass0 (pa_cons (pv 0) (pa_cons (pv 1) (pa_cons (pe_ix (ixT (K := K) rfl) (pv 10) pe_int (fun _ _ => rfl)) pa_nil)))))))))))))))))))
      (pss_cons (ps_if (PW.pt (pw_or (pt_not (pt_val (pv 8))) (pw_or (pt_not (pt_val (pe_cd G_law_whole (hr.mono (by decide)) rfl pass0 (pa_cons (pe_md0 (pv 0) T.c_House MT_House_letters (hr.mono (by decide)) passN) pa_nil)))) (pw_or1 (pt_cmpR op_ne (pe_md0 (pv 0) T.c_House MT_House_letters (hr.mono (by decide)) passN) (pe_callB (c_len (K := K) rfl) rfl T.mn_len (by decide +kernel) (pa_cons (pe_dget (hu_of hr) (pv 1) pe_str (fun _ _ => rfl)) pa_nil)) (nomark _)))))) (pss_one (ps_ret pe_bl)) pss_nil)
      (pss_cons (ps_set (i := 7) nd rfl (Or.inl rfl) (pe_md0 (pv 0) T.c_House MT_House_mails (hr.mono (by decide)) passN))
      (pss_cons (ps_if (pt_cmpR (o_neD (K := K) rfl hr.units) (pe_dget2 (hu_of hr) (pv 1) pe_str (pe_lst pa_nil) ⟨rfl, rfl, rfl, rfl⟩) (pe_lst pa_nil) (nomark _)) (pss_one (ps_ret pe_bl)) pss_nil)
      (pss_cons (ps_dput (hu_of hr) (pv 1) pe_str (pv 7) rfl)
      (pss_one (ps_ret (pe_and (pe_cd G_law_letter (hr.mono (by decide)) rfl pass0 (pa_cons (pv 0) (pa_cons (pv 1) (pa_cons (pv 6) pa_nil)))) (pe_one (pe_cd G_law_mails (hr.mono (by decide)) rfl pass0 (pa_cons (pv 7) (pa_cons (pe_callTy (c_list (K := K) rfl) rfl T.mn_list (by decide +kernel) (pa_cons (pe_dget (hu_of hr) (pv 1) pe_str (fun _ _ => rfl)) pa_nil)) pa_nil)))))))))))), ?_⟩
  try dsimp only [cx_K]
  have hn0 := Z.I.n0
  have hdl := Z.I.hn
  have hsm := Z.I.sm hn (by omega)
  let J : L2.St → Hp → Prop := fun σ B => ∃ A' P' R' s' ab', ∃ (l : Nat) (x : LS), ∃ w4 w5 w7 w9 w10, σ = [some (.ref P0.a), some (.ref R0.a), some (.int kind), some (.int cell), w4, w5, some (.int (l : Nat)), w7, some (.bl true), w9, w10] ∧ To P0 R0 A0 H P' R' A' B ∧ Pa K c.House c.Desk c.Letter A' B P' R' s' n ab' ∧ s'.sent[l]? = some x ∧ s'.sent.length ≤ st.sent.length + 1
  refine q_ifJ K J (b := kind % 4 == 0 || decide (st.post.length = 0)) (eb_or (a := kind % 4 == 0) (b := decide (st.post.length = 0)) (eb_D (ed_eqi (ed_Ic (ed_var rfl (.int kind)) ed_int (by decide)) ed_int)) fun _ => eb_is (eb_D (ed_eqD (Z.L.ev_m Z.es (ev_var rfl)) (ed_n (en_lst ea_nilD (by decide))) (sh_mails _) rfl)) (by rw [eqv_nil, List.length_map])) rfl ?rest (fun r hb B1 e1 => ?send) (fun r hb B1 e1 => ?other)
  case send =>
    have Z1 := Z.up e1
    obtain ⟨h, hh, hhn⟩ := mod_nat cell hn0
    refine q_asgV (v_int (K := K) (i := (h : Nat)) (ed_is (ed_Ic (ed_var rfl (.int cell)) (Z1.L.ev_n (ev_var rfl)) (by rw [hdl]; show (0 : Int) < (n : Int); omega)) (congrArg PyData.int (by rw [hdl]; exact hh)))) fun B2 e2 => ?_
    have m0 := Int.emod_nonneg cell (show (99 : Int) ≠ 0 by decide)
    have m1 := Int.emod_lt_of_pos cell (show (0 : Int) < 99 by decide)
    have q0 := Int.emod_nonneg (kind / 4) (show (5 : Int) ≠ 0 by decide)
    have hml : (Txt.mul ⟨#[signC (kind / 20)]⟩ (cell % 99)).length ≤ 100 := by
      have := mul_len (x := ⟨#[signC (kind / 20)]⟩) m0
      rw [show Str.length ⟨#[signC (kind / 20)]⟩ = 1 from rfl] at this
      omega
    obtain ⟨y, hy, hyl⟩ : ∃ y : Str, atI [PyData.str (Txt.mul ⟨#[signC (kind / 20)]⟩ (cell % 99)), PyData.str ""] (if kind / 4 % 5 < 1 then kind / 4 % 5 else 1) = some (.str y) ∧ y.length ≤ 100 := by
      by_cases z : kind / 4 % 5 < 1
      · rw [if_pos z, show kind / 4 % 5 = 0 by omega]
        exact ⟨_, rfl, hml⟩
      · rw [if_neg z]
        exact ⟨_, rfl, by decide⟩
    refine q_asgV (v_str (K := K) (ed_addS (ed_call (ea_consD (ed_var rfl (.int cell)) ea_nilD) (at_sign _)) (ed_ixL (ed_n (en_lst (ea_consD (ed_mulS (ed_call (ea_consD (ed_Ic (ed_var rfl (.int kind)) ed_int (by tm_at "cc")) ea_nilD) (at_sign _)) (ed_Ic (ed_var rfl (.int cell)) ed_int (by decide)) (by show 1 ≤ 16; decide) ⟨m0, by omega⟩) (ea_consD ed_str ea_nilD)) (by show 2 ≤ 100000; decide))) (ed_min2 ed_int (ed_Ic (ed_Ic (ed_var rfl (.int kind)) ed_int (by tm_at "cc")) ed_int (by decide))) hy) (by show 1 + _ ≤ _; omega))) fun B3 e3 => ?_
    generalize (⟨#[signC cell]⟩ : Str) ++ y = tx
    have Z3 := (Z1.up e2).up e3
    obtain ⟨s', hs', ab', I', _⟩ := Z.I.send hhn tx
    refine q_do (c_callV (ea_cons (ev_var rfl) (ea_cons (ev_var rfl) (ea_cons (ev_var rfl) ea_nil))) fun B4 e4 => ⟨A0, R0, st, h, tx, s', rfl, (Z3.up e4).es, (Z3.up e4).L, hs', hsm, Z.I.goods, fun R5 A5 B5 hRa M5 in5 L5 => go_nx ?_⟩)
    have Z4 := Z3.up e4
    have O5 := Z4.O.mono M5 fun x hx z => Z.dj x z hx
    refine q_do (m_callV (ev_var rfl) O5.ia rfl (ea_cons (ev_var rfl) (ea_cons (ev_var rfl) ea_nil)) fun B6 e6 => ⟨A5, P0, st, _, some (h : Int), tx, rfl, M5.s.trans e6, O5.up M5.s e6, rfl, (fun z => by rw [isPl_of (by rw [hdl]; exact hhn)] at z; cases z), fun h' ho _ => ?_⟩)
    have hhh : h = h' := by have := Option.some.inj ho; omega
    subst hhh
    refine ⟨s', hs', hsm, fun A7 B7 P7 hPa M7 in7 O7 => go_nx ?_⟩
    have Z7 := Z4.both M5 in5 L5 e6 M7 in7 O7 I'
    have T7 := To.both Z.es (((e1.trans e2).trans e3).trans e4) htv hPa hRa M5 in5 e6 M7 in7
    have hd7 := List.getElem?_eq_getElem (l := s'.desks) (i := h) (by rw [I'.hn]; exact hhn)
    have hl7 := HS.send_len hs'
    refine s_asgV (v_bl (K := K) (i := true) (ed_is (ed_and (a := true) (b := true) (ed_is (ed_call (ea_consD (ed_var rfl (.int (st.sent.length : Nat))) ea_nilD) (at_whole _)) rfl) fun _ => ed_is (ed_and (a := true) (b := true) (ed_is (ed_eqD (ed_var rfl (.int (st.sent.length : Nat))) (ed_var rfl (.int (st.sent.length : Nat))) rfl rfl) (congrArg PyData.bool (eqv_refl rfl))) fun _ => ed_v (ev_hand Z7 (by rw [hPa]; exact ev_var rfl) (by rw [hRa.1]; exact ev_var rfl) hd7 (ev_var rfl)) (.bl true)) rfl) rfl)) fun B8 e8 => ?_
    exact r _ _ ⟨A7, P7, R5, s', ab', st.sent.length, _, _, _, _, _, _, rfl, T7.up e8, Z7.up e8, List.getElem?_eq_getElem (by omega), by omega⟩
  case other =>
    rw [Bool.or_eq_false_iff] at hb
    have hpl : 0 < st.post.length := by have := of_decide_eq_false hb.2; omega
    have Z1 := Z.up e1
    refine s_ifM K (b := kind / 4 % 9 == 0) (eb_D (ed_eqi (ed_Ic (ed_Ic (ed_var rfl (.int kind)) ed_int (by tm_at "cc")) ed_int (by decide)) ed_int)) rfl (fun _ B2 e2 => ?_) (fun _ B2 e2 => ?_)
    · have Z2 := Z1.up e2
      have m0 := Int.emod_nonneg cell (show (9 : Int) ≠ 0 by decide)
      refine ret_te (c_callV (ea_cons (ev_var rfl) (ea_cons (v_int (K := K) (i := ((st.post.length + (cell % 9).toNat : Nat) : Int)) (ed_is (ed_Ii (ed_len (Z2.L.ev_m Z2.es (ev_var rfl))) (ed_Ic (ed_var rfl (.int cell)) ed_int (by decide))) (congrArg PyData.int (by rw [List.length_map]; omega)))) ea_nil)) fun B3 e3 => ⟨A0, P0, st, _, rfl, (Z2.up e3).es, (Z2.up e3).O, Nat.le_add_right _ _, fun B4 e4 => k P0 R0 st ab A0 B4 ⟨rfl, rfl, htv, (PrM.refl Z.es).up (((e1.trans e2).trans e3).trans e4), fun x hx => .inl hx⟩ ((Z2.up e3).up e4) (by omega)⟩)
    have Z2 := Z1.up e2
    refine s_ifM K (b := kind / 4 % 9 == 1 && decide (st.post.length < 240)) (eb_and (a := kind / 4 % 9 == 1) (b := decide (st.post.length < 240)) (eb_D (ed_eqi (ed_Ic (ed_Ic (ed_var rfl (.int kind)) ed_int (by tm_at "cc")) ed_int (by decide)) ed_int)) fun _ => eb_is (eb_D (ed_Ib (ed_len (Z2.L.ev_m Z2.es (ev_var rfl))) ed_int)) (decide_eq_decide.mpr (by rw [List.length_map]; omega))) rfl (fun _ B3 e3 => ?_) (fun _ B3 e3 => ?_)
    · have Z3 := Z2.up e3
      refine ret_te (c_callV (ea_cons (ev_var rfl) (ea_cons (ev_var rfl) ea_nil)) fun B4 e4 => ⟨A0, P0, R0, st, n, ab, rfl, Z3.up e4, hn, by omega, fun R' s' ab' A' H' hRa M in2 Z' hl => k P0 R' s' ab' A' H' ⟨rfl, hRa.1, hRa.2.trans htv, ((PrM.refl Z.es).up (((e1.trans e2).trans e3).trans e4)).trans M, fun x hx => ?_⟩ Z' (by omega)⟩)
      rcases hx with hx | hx
      · exact .inl (.inl hx)
      · exact (in2 x hx).elim (fun y => .inl (.inr y)) fun y => .inr (fresh_back (((e1.trans e2).trans e3).trans e4) y)
    have Z3 := Z2.up e3
    obtain ⟨p, hp, hpn⟩ := mod_nat cell hpl
    refine q_asgV (v_int (K := K) (i := (p : Nat)) (ed_is (ed_Ic (ed_var rfl (.int cell)) (ed_len (Z3.L.ev_m Z3.es (ev_var rfl))) (by rw [List.length_map]; show (0 : Int) < (st.post.length : Int); omega)) (congrArg PyData.int (by rw [List.length_map]; exact hp)))) fun B4 e4 => ?_
    have hm := List.getElem?_eq_getElem hpn
    generalize st.post[p] = m at hm
    obtain ⟨s', hbr, ab', I', _⟩ := Z.I.bring hm
    obtain ⟨hml, hms, hmd⟩ := Z.I.mail_hands (List.mem_of_getElem? hm)
    have Z4 := Z3.up e4
    refine q_do (c_callV (ea_cons (ev_var rfl) (ea_cons (ev_var rfl) ea_nil)) fun B5 e5 => ⟨A0, R0, st, p, m, s', rfl, (Z4.up e5).es, (Z4.up e5).L, hbr, hm, hsm, Z.I.goods, fun v R6 A6 B6 hRa M6 in6 L6 hv => go_nx ?_⟩)
    have Z5 := Z4.up e5
    have O6 := Z5.O.mono M6 fun x hx z => Z.dj x z hx
    refine q_do (m_callV (ev_var rfl) O6.ia rfl (ea_cons (ev_var rfl) ea_nil) fun B7 e7 => ⟨A6, P0, st, .int (p : Nat), some (p : Int), rfl, M6.s.trans e7, O6.up M6.s e7, rfl, (fun z => by rw [isPl_of hpn] at z; cases z), fun i' hi' _ => ?_⟩)
    have hii : p = i' := by have := Option.some.inj hi'; omega
    subst hii
    refine ⟨s', m, hbr, hm, hsm, fun v2 A8 B8 M8 O8 hv2 => go_nx ?_⟩
    have Z8 := Z5.both M6 in6 L6 e7 M8 (fun x hx => .inl hx) O8 I'
    have T8 := To.both (P4 := P0) Z.es ((((e1.trans e2).trans e3).trans e4).trans e5) htv rfl hRa M6 in6 e7 M8 fun x hx => .inl hx
    have hva : Dp K B8 v (.tuple [.str m.word.str, .int (m.letter : Nat), .int (m.src : Nat), .int (m.dst : Nat), mkO m.mark]) := dp_ex M8.s (dp_ex M8.a hv)
    refine q_asgV (v_int (K := K) (i := (m.letter : Nat)) (ed_ixT (ed_var rfl hva) ed_int rfl)) fun B9 e9 => ?_
    have Z9 := Z8.up e9
    have hvb : Dp K B9 v (mailD m) := dp_ex e9 hva
    have hvb' : Dp K B9 v (.tuple [.str m.word.str, .int (m.letter : Nat), .int (m.src : Nat), .int (m.dst : Nat), mkO m.mark]) := hvb
    have hv2b : Dp K B9 v2 (mailD m) := dp_ex (M8.s.trans e9) hv2
    have hd1 := List.getElem?_eq_getElem (l := s'.desks) (i := m.src) (by rw [I'.hn]; exact hms)
    have hd2 := List.getElem?_eq_getElem (l := s'.desks) (i := m.dst) (by rw [I'.hn]; exact hmd)
    have hl9 := HS.bring_len hm hbr
    refine s_asgV (v_bl (K := K) (i := true) (ed_is (ed_and (a := true) (b := true) (ed_is (ed_call (ea_consD (ed_var rfl hv2b) ea_nilD) (at_mail _)) rfl) fun _ => ed_is (ed_and (a := true) (b := true) (ed_is (ed_eqD (ed_var rfl hv2b) (ed_var rfl hvb) (sh_mail _) (sh_mail _)) (congrArg PyData.bool (eqv_refl (sh_mail _)))) fun _ => ed_is (ed_and (a := true) (b := true) (ed_v (ev_hand Z9 (ev_var rfl) (by rw [hRa.1]; exact ev_var rfl) hd1 (v_int (K := K) (i := (m.src : Nat)) (ed_ixT (ed_var rfl hvb') ed_int rfl))) (.bl true)) fun _ => ed_v (ev_hand Z9 (ev_var rfl) (by rw [hRa.1]; exact ev_var rfl) hd2 (v_int (K := K) (i := (m.dst : Nat)) (ed_ixT (ed_var rfl hvb') ed_int rfl))) (.bl true)) rfl) rfl) rfl)) fun B10 e10 => ?_
    exact r _ _ ⟨A8, P0, R6, s', ab', m.letter, _, _, _, _, _, _, rfl, (T8.up e9).up e10, Z9.up e10, List.getElem?_eq_getElem (by omega), by omega⟩
  case rest =>
    rintro σ B ⟨A1, P1, R1, s1, ab1, l, x, w4, w5, w7, w9, w10, rfl, T1, Z1, hx, hl1⟩
    rw [← T1.pa, ← T1.ra]
    refine q_ifM K (b := false) (eb_or (a := false) (b := false) (eb_is (eb_not (eb_DB (ed_var rfl (.bl true)))) rfl) fun _ => eb_or (a := false) (b := false) (eb_is (eb_not (eb_DB (ed_call (ea_consD (ed_letters Z1.O Z1.es (ev_var rfl)) ea_nilD) (at_whole _)))) rfl) fun _ => eb_is (eb_D (ed_nei (ed_letters Z1.O Z1.es (ev_var rfl)) (Z1.L.ev_l (ev_var rfl)))) (by rw [beq_self_eq_true]; rfl)) rfl (fun z => by cases z) (fun _ B2 e2 => q_next ?_)
    have Z2 := Z1.up e2
    refine q_do (m_callV (ev_var rfl) Z2.O.ia rfl ea_nil fun B3 e3 => ⟨A1, P1, s1, rfl, (Z2.up e3).O, fun q xs B4 hq e4 hqx hxs => go_nx ?_⟩)
    have Z3 := Z2.up e3
    have Z4 := Z3.up e4
    have nP : ¬ P1.inF q := fun z => Z3.O.alive z hq
    have nR : ¬ R1.inF q := fun z => Z3.L.alive z hq
    have nA : A1 q = none := fresh_back Z3.es hq
    have hqH : H q = none := (T1.up (e2.trans e3)).pr.fresh hq
    refine q_ifM K (b := false) (eb_is (eb_D (ed_neD (ed_told Z4.L T1.tv (ev_var rfl)) (ed_n (en_lst ea_nilD (by decide))) rfl rfl)) rfl) rfl (fun z => by cases z) (fun _ B5 e5 => q_next ?_)
    have Z5 := Z4.up e5
    refine q_do (s_dputS K (ev_var rfl) (ev_var rfl) ed_str Z5.L.ia (lhK_len R1) fun B6 e6 => go_nx ?_)
    rw [lh_told q xs]
    have Z6 := Z5.up e6
    have hq6 : B6 q = some (.lst xs) := (e5.trans e6) _ _ hqx
    obtain ⟨Z7, M7⟩ := Z6.tell nP nR nA hq6
    have T6 := (((T1.up e2).up e3).up e4).up (e5.trans e6)
    have M67 := T6.pr.then M7 fun x hx => T1.nw x (.inr hx)
    have hq7 : (upd B6 R1.a (.dK (lhK (R1.setT q xs)))) q = some (.lst xs) := by
      rw [upd_ne (fun z : q = R1.a => nR (z ▸ .inl LHP.in_a))]
      exact hq6
    generalize upd B6 R1.a (.dK (lhK (R1.setT q xs))) = B7 at Z7 M7 M67 hq7 ⊢
    refine ret_te (and_te (c_callV (ea_cons (ev_var rfl) (ea_cons (ev_var rfl) (ea_cons (ev_var rfl) ea_nil))) fun B8 e8 => ⟨A1, P1, R1.setT q xs, s1, n, ab1, l, x, rfl, Z7.up e8, hx, fun B9 e9 => ⟨true, rfl, iteT ?_⟩⟩))
    have Z9 := (Z7.up e8).up e9
    refine c_call2 (var_te rfl ?_)
    refine (ed_n (en_listof (Z9.L.ev_m Z9.es (ev_var rfl)))) B9 B9 (Ex.refl _) (Ex.refl _) _ fun v A10 B10 P10 hv => ?_
    obtain ⟨qd, ys, rfl, _, _⟩ := dp_list hv
    have Z10 := Z9.up P10.b
    have hpl1 := Z1.I.plen hn
    refine ⟨A1, q, qd, s1.post, rfl, Z10.es, nA, ⟨xs, ((e8.trans e9).trans P10.b) _ _ hq7, dpa_ex Z10.es hxs⟩, dp_ex P10.s hv, by omega, fun B11 M11 hc => ?_⟩
    refine k P1 (R1.setT q []) s1 ab1 A1 B11 ⟨T1.pa, T1.ra, rfl, (M67.up ((e8.trans e9).trans P10.b)).then M11 fun y hy => .inr (by rw [hy]; exact hqH), fun y hy => ?_⟩ (Z10.clear M11 hc) hl1
    rcases hy with hy | hy
    · exact T1.nw y (.inl hy)
    · exact (setT_in hqH y hy).elim (fun z => T1.nw y (.inr z)) .inr
end

end K8

namespace K8
open PySem L2 Evl Ob

local macro_rules | `(tactic| tm_at "sh") => `(tactic| first | exact sh_mk | exact sh_mks | exact sh_b3)

local macro_rules | `(tactic| tm_at "fn") => `(tactic| first | exact at_mail _ | exact at_whole _ | exact at_mark _ | exact at_cell (by decide))

/-! ## the law -/
theorem pick6 (c b : Int) : ∃ m : Int, atI [PyData.int b, .int 5, .int 5, .int 5, .int 5, .int 5] (c % 6) = some (.int m) ∧ (m = b ∨ m = 5) := by
  have h := Int.emod_nonneg c (show (6 : Int) ≠ 0 by decide)
  have h' := Int.emod_lt_of_pos c (show (0 : Int) < 6 by decide)
  have : c % 6 = 0 ∨ c % 6 = 1 ∨ c % 6 = 2 ∨ c % 6 = 3 ∨ c % 6 = 4 ∨ c % 6 = 5 := by omega
  rcases this with z | z | z | z | z | z <;> rw [z]
  · exact ⟨b, rfl, .inl rfl⟩
  all_goals exact ⟨5, rfl, .inr rfl⟩
/-- two houses, each with the law's own beside it -/
structure Two (K : PySem.W.Frag) (CH CD CL : Addr) (A B : Hp) (P : HP) (R : LHP) (s : HS) (n : Nat) (ab : Ab) (P' : HP) (R' : LHP) (s' : HS) (ab' : Ab) : Prop where
  z : Pa K CH CD CL A B P R s n ab
  y : Pa K CH CD CL A B P' R' s' 2 ab'
  dj : ∀ x, P.inF x ∨ R.inF x → ¬ (P'.inF x ∨ R'.inF x)
theorem un_ifne {ta tb : TE} {r : R2} {tw tz : TS} {Dd : Ends} {σ : L2.St} {H : Hp} : tIfS (tTest (tOp r ta tb)) tw tz Dd σ H = ta σ H fun x H1 => tb σ H1 fun y H2 => r x y H2 fun v H3 => ∃ k, v = .bl k ∧ if k = true then tw Dd σ H3 else tz Dd σ H3 := rfl
section
variable {K : PySem.W.Frag} {CH CD CL : Addr} {A B A2 B2 B3 A4 B4 H : Hp} {P P2 P' : HP} {R R2 R4 R' : LHP} {s s' s2 : HS} {n : Nat} {ab ab' ab2 : Ab} {σ : L2.St} {ta tb tc td : TE} {E : XK}
theorem Pa.alive (Z : Pa K CH CD CL A B P R s n ab) {x : Addr} (h : P.inF x ∨ R.inF x) : B x ≠ none := h.elim Z.O.alive Z.L.alive
theorem Two.up (Z : Two K CH CD CL A B P R s n ab P' R' s' ab') (e : Ex B B2) : Two K CH CD CL A B2 P R s n ab P' R' s' ab' := ⟨Z.z.up e, Z.y.up e, Z.dj⟩
theorem Two.left (Z : Two K CH CD CL A B P R s n ab P' R' s' ab') (M : PrM (fun x => P.inF x ∨ R.inF x) A B A2 B2) (nw : ∀ x, P2.inF x ∨ R2.inF x → (P.inF x ∨ R.inF x) ∨ B x = none) (Z2 : Pa K CH CD CL A2 B2 P2 R2 s2 n ab2) : Two K CH CD CL A2 B2 P2 R2 s2 n ab2 P' R' s' ab' :=
  ⟨Z2, Z.y.mono M fun x hx z => Z.dj x z hx, fun x hx z => (nw x hx).elim (fun y => Z.dj x y z) fun y => Z.y.alive z y⟩
theorem Two.right (Z : Two K CH CD CL A B P R s n ab P' R' s' ab') (M : PrM (fun x => P'.inF x ∨ R'.inF x) A B A2 B2) (nw : ∀ x, P2.inF x ∨ R2.inF x → (P'.inF x ∨ R'.inF x) ∨ B x = none) (Z2 : Pa K CH CD CL A2 B2 P2 R2 s2 2 ab2) : Two K CH CD CL A2 B2 P R s n ab P2 R2 s2 ab2 :=
  ⟨Z.z.mono M fun x hx z => Z.dj x hx z, Z2, fun x hx z => (nw x z).elim (fun y => Z.dj x hx y) fun y => Z.z.alive hx y⟩
/-- the house's deed, then the law's own -/
theorem Pa.both2 (Z : Pa K CH CD CL A B P R s n ab) (M : PrM P.inF A B A2 B2) (in2 : ∀ x, P2.inF x → P.inF x ∨ B x = none) (O2 : HouseAt K CH CD CL A2 B2 P2 s') (e : Ex B2 B3) (M4 : PrM R.inF A2 B3 A4 B4) (in4 : ∀ x, R4.inF x → R.inF x ∨ B3 x = none) (L4 : LHAt K A4 B4 R4 s') (I : Inv n ab' (fun _ => False) s') :
    Pa K CH CD CL A4 B4 P2 R4 s' n ab' := by
  have dj2 : ∀ x, R.inF x → ¬ P2.inF x := fun x hx z => (in2 x z).elim (Z.dj x hx) fun y => Z.L.alive hx y
  have O3 := O2.up M.s e
  exact ⟨M4.s, O3.mono M4 fun x hx z => dj2 x z hx, L4, I, fun x hx z => (in4 x hx).elim (fun y => dj2 x y z) fun y => O3.alive z y⟩
theorem To.both2 (s0 : Ex A B) (htv : R.tv = []) (hp : P2.a = P.a) (hr : R4.a = R.a ∧ R4.tv = R.tv) (M : PrM P.inF A B A2 B2) (in2 : ∀ x, P2.inF x → P.inF x ∨ B x = none) (e : Ex B2 B3) (M4 : PrM R.inF A2 B3 A4 B4) (in4 : ∀ x, R4.inF x → R.inF x ∨ B3 x = none) : To P R A B P2 R4 A4 B4 := by
  have M3 : PrM (fun x => P.inF x ∨ R.inF x) A B A2 B3 := (M.mono fun x hx => .inl hx).up e
  refine ⟨hp, hr.1, hr.2.trans htv, M3.trans (M4.mono fun x hx => .inr hx), fun x hx => ?_⟩
  rcases hx with hx | hx
  · exact (in2 x hx).elim (fun y => .inl (.inl y)) .inr
  · exact (in4 x hx).elim (fun y => .inl (.inr y)) fun y => .inr (M3.fresh y)
theorem ev_letr (Z : Pa K CH CD CL A B P R s n ab) (ha : Ev ta σ B (.ref P.a)) (hb : Ev tb σ B (.ref R.a)) {l : Nat} {x : LS} (hx : s.sent[l]? = some x) (hc : Ev tc σ B (.int (l : Nat))) : Ev (tCall (sp_letter K CH CD CL) [] E (tCons ta (tCons tb (tCons tc tNil)))) σ B (.bl true) := fun H1 e Q q =>
  c_callV (ea_cons (ha.mono e) (ea_cons (hb.mono e) (ea_cons (hc.mono e) ea_nil))) fun B' e' => ⟨A, P, R, s, n, ab, l, x, rfl, Z.up (e.trans e'), hx, fun H' e2 => q H' (e'.trans e2)⟩
end
section
variable {P : Program} {w : World} {K : PySem.W.Frag} {mg : Str → Option Value} {base : Heap} {c : Cs}
def sp_law (K : PySem.W.Frag) : Sp := fun vs H Q _ => ∃ (a : Addr) (ns : List Int), vs = [.ref a] ∧ SqL K H a (ns.map V.int) ∧ ns.length ≤ 63 ∧ ∀ H', Q (.bl true) H'
theorem ok_law {f : Addr} {fd : FuncData} (T : Tx K mg c) (F : Fun K "law" "law" s_law f fd) : FnOk P w K mg base CX0 10 f fd ["_law_script"] (sp_law K) := by
  refine F.ok sc_law (fun vs H Q E h => ?_) fun cdv A outer s H vs Q E hr h => ?_
  · obtain ⟨a, ns, rfl, _⟩ := h; rfl
  obtain ⟨a, ns, rfl, hS, hlen, k⟩ := h
  have s0 : Ex H H := Ex.refl H
  have h1 : Dp K H (.ref a) (.list (ns.map .int)) := .lst hS dpa_ints
  have nd := sc_law.nd
  have G_law_cell_at := ok_cell (P := P) (w := w) (base := base) T
  have MK_House := ok_House_init (P := P) (w := w) (base := base) T
  have G_law_house := ok_lhouse (P := P) (w := w) (base := base) T
  have G_law_sent := ok_lsent (P := P) (w := w) (base := base) T
  have G_law_step := ok_step (P := P) (w := w) (base := base) T
  have G_law_hand := ok_hand (P := P) (w := w) (base := base) T
  have G_law_letter := ok_letter (P := P) (w := w) (base := base) T
  have G_law_mails := ok_mails2 (P := P) (w := w) (base := base) T
  have MT_House_send := ok_send (P := P) (w := w) (base := base) T
  have MT_House_mails := ok_mails (P := P) (w := w) (base := base) T
  refine ⟨_, (pss_cons (ps_set (i := 1) nd rfl (Or.inl rfl) (pe_op op_add pe_int (pe_op op_mod (pe_op op_fdiv (pe_cd G_law_cell_at (hr.mono (by decide)) rfl pass0 (pa_cons (pv 0) (pa_cons pe_int pa_nil))) pe_int) (pe_ix (ixL (K := K) rfl) (pe_lst (pa_cons pe_int (pa_cons pe_int (pa_cons pe_int (pa_cons pe_int (pa_cons pe_int (pa_cons pe_int pa_nil))))))) (pe_op op_mod (pe_cd G_law_cell_at (hr.mono (by decide)) rfl pass0 (pa_cons (pv 0) (pa_cons pe_int pa_nil))) pe_int) (fun _ _ => rfl)))))
      (pss_cons (ps_set (i := 2) nd rfl (Or.inl rfl) (pe_mk rfl T.g_House MK_House (hr.mono (by decide)) passN (pa_cons (pv 1) pa_nil)))
      (pss_cons (ps_set (i := 3) nd rfl (Or.inl rfl) (pe_cd G_law_house (hr.mono (by decide)) rfl pass0 (pa_cons (pv 1) pa_nil)))
      (pss_cons (ps_set (i := 4) nd rfl (Or.inl rfl) (pe_mk rfl T.g_House MK_House (hr.mono (by decide)) passN (pa_cons pe_int pa_nil)))
      (pss_cons (ps_set (i := 5) nd rfl (Or.inl rfl) (pe_cd G_law_house (hr.mono (by decide)) rfl pass0 (pa_cons pe_int pa_nil)))
      (pss_cons (ps_for PassesOwn.never rfl (pi_range1 rfl T.mn_range (pa_cons (pe_ix (ixL (K := K) rfl) (pe_lst (pa_cons pe_int (pa_cons pe_int pa_nil))) (pe_callTy call_int1 rfl T.mn_int (by decide +kernel) (pa_cons (pe_cmpR op_eq (pv 1) pe_int (nomark _)) pa_nil)) (fun _ _ => rfl)) pa_nil)) (pg_name (i := 6) nd rfl (Or.inl rfl)) (pss_one (ps_if (pt_cmpR op_ne (pe_md (pv 2) T.c_House MT_House_send (hr.mono (by decide)) passN (pa_cons (pe_op op_mod (pe_op op_mul (pv 6) (pv 6)) pe_int) (pa_cons (pe_callTy c_strI rfl T.mn_str (by decide +kernel) (pa_cons (pv 6) pa_nil)) pa_nil))) (pe_cd G_law_sent (hr.mono (by decide)) rfl pass0 (pa_cons (pv 3) (pa_cons (pe_op op_mod (pe_op op_mul (pv 6) (pv 6)) pe_int) (pa_cons (pe_callTy c_strI rfl T.mn_str (by decide +kernel) (pa_cons (pv 6) pa_nil)) pa_nil)))) (nomark _)) (pss_one (ps_ret pe_bl)) pss_nil)))
      (pss_cons (ps_for PassesOwn.never rfl (pi_range3 rfl T.mn_range (pa_cons pe_int (pa_cons (pe_op op_sub (pe_callB (c_len (K := K) rfl) rfl T.mn_len (by decide +kernel) (pa_cons (pv 0) pa_nil)) pe_int) (pa_cons pe_int pa_nil)))) (pg_name (i := 6) nd rfl (Or.inl rfl)) (pss_cons (ps_if (pt_not (pt_val (pe_cd G_law_step (hr.mono (by decide)) rfl pass0 (pa_cons (pv 2) (pa_cons (pv 3) (pa_cons (pe_ix (ixL (K := K) rfl) (pv 0) (pv 6) (fun _ _ => rfl)) (pa_cons (pe_ix (ixL (K := K) rfl) (pv 0) (pe_op op_add (pv 6) pe_int) (fun _ _ => rfl)) pa_nil))))))) (pss_one (ps_ret pe_bl)) pss_nil)
        (pss_one (ps_if (PW.pt (pw_and (pt_cmpR op_eq (pe_op op_mod (pe_op op_fdiv (pe_ix (ixL (K := K) rfl) (pv 0) (pv 6) (fun _ _ => rfl)) pe_int) pe_int) pe_int (nomark _)) (pw_and1 (pt_not (pt_val (pe_cd G_law_step (hr.mono (by decide)) rfl pass0 (pa_cons (pv 4) (pa_cons (pv 5) (pa_cons (pe_op op_fdiv (pe_ix (ixL (K := K) rfl) (pv 0) (pe_op op_add (pv 6) pe_int) (fun _ _ => rfl)) pe_int) (pa_cons (pe_ix (ixL (K := K) rfl) (pv 0) (pv 6) (fun _ _ => rfl)) pa_nil)))))))))) (pss_one (ps_ret pe_bl)) pss_nil))))
      (pss_cons (ps_for PassesOwn.never rfl (pi_range1 rfl T.mn_range (pa_cons (pv 1) pa_nil)) (pg_name (i := 7) nd rfl (Or.inl rfl)) (pss_one (ps_if (pt_not (pt_val (pe_cd G_law_hand (hr.mono (by decide)) rfl pass0 (pa_cons (pv 2) (pa_cons (pv 3) (pa_cons (pv 7) pa_nil)))))) (pss_one (ps_ret pe_bl)) pss_nil)))
      (pss_cons (ps_for PassesOwn.never rfl (pi_range1 rfl T.mn_range (pa_cons (pe_callB (c_len (K := K) rfl) rfl T.mn_len (by decide +kernel) (pa_cons (pe_dget (hu_of hr) (pv 3) pe_str (fun _ _ => rfl)) pa_nil)) pa_nil)) (pg_name (i := 8) nd rfl (Or.inl rfl)) (pss_one (ps_if (pt_not (pt_val (pe_cd G_law_letter (hr.mono (by decide)) rfl pass0 (pa_cons (pv 2) (pa_cons (pv 3) (pa_cons (pv 8) pa_nil)))))) (pss_one (ps_ret pe_bl)) pss_nil)))
      (pss_one (ps_ret (pe_and (pe_cd G_law_hand (hr.mono (by decide)) rfl pass0 (pa_cons (pv 4) (pa_cons (pv 5) (pa_cons pe_int pa_nil)))) (pe_and (pe_cd G_law_hand (hr.mono (by decide)) rfl pass0 (pa_cons (pv 4) (pa_cons (pv 5) (pa_cons pe_int pa_nil)))) (pe_one (pe_cd G_law_mails (hr.mono (by decide)) rfl pass0 (pa_cons (pe_md0 (pv 4) T.c_House MT_House_mails (hr.mono (by decide)) passN) (pa_cons (pe_callTy (c_list (K := K) rfl) rfl T.mn_list (by decide +kernel) (pa_cons (pe_dget (hu_of hr) (pv 5) pe_str (fun _ _ => rfl)) pa_nil)) pa_nil))))))))))))))))), ?_⟩
  try dsimp only [cx_K]
  -- how many hands
  obtain ⟨mm, hmm, hm0⟩ := pick6 (cell ns 0) 40
  refine q_asgV (v_int (K := K) (ed_Ii ed_int (ed_Ic (ed_Ic (ed_call (ea_consD (ed_var rfl h1) (ea_consD ed_int ea_nilD)) (at_cell (by decide))) ed_int (by tm_at "cc")) (ed_ixL (ed_n (en_lst (ea_consD ed_int (ea_consD ed_int (ea_consD ed_int (ea_consD ed_int (ea_consD ed_int (ea_consD ed_int ea_nilD)))))) (by decide))) (ed_Ic (ed_call (ea_consD (ed_var rfl h1) (ea_consD ed_int ea_nilD)) (at_cell (by decide))) ed_int (by decide)) hmm) (show 0 < mm by omega)))) fun B1 e1 => ?_
  obtain ⟨n, hn, hn0, hn1⟩ : ∃ n : Nat, 1 + cell ns 0 / 6 % mm = (n : Int) ∧ 0 < n ∧ n ≤ 40 := by
    have h := Int.emod_nonneg (cell ns 0 / 6) (show mm ≠ 0 by omega)
    have h' := Int.emod_lt_of_pos (cell ns 0 / 6) (show 0 < mm by omega)
    exact ⟨(1 + cell ns 0 / 6 % mm).toNat, by omega, by omega, by omega⟩
  rw [hn]
  -- the houses
  refine q_do (mk_house (A := H) e1 (ev_var rfl) hn0 hn1 fun P0 B2 M2 f2 O2 => go_nx ?_)
  refine q_do (c_callV (ea_cons (ev_var rfl) ea_nil) fun B3 e3 => ⟨H, n, rfl, M2.s.trans e3, hn1, fun R0 B4 M4 f4 L4 tv4 => go_nx ?_⟩)
  have O3 := O2.up M2.s e3
  have Z4 : Pa K c.House c.Desk c.Letter H B4 P0 R0 (newHS n) n _ := ⟨M4.s, O3.mono M4 fun _ _ z => z, L4, Inv.new hn0, fun x hx z => O3.alive z (f4 x hx)⟩
  refine q_do (mk_house (n := 2) (A := H) Z4.es ev_c (by decide) (by decide) fun P1 B5 M5 f5 O5 => go_nx ?_)
  refine q_do (c_callV (ea_cons ev_c ea_nil) fun B6 e6 => ⟨H, 2, rfl, M5.s.trans e6, by decide, fun R1 B7 M7 f7 L7 tv7 => go_nx ?_⟩)
  have O6 := O5.up M5.s e6
  have Z6 := (Z4.mono M5 fun _ _ z => z).up e6
  have W7 : Two K c.House c.Desk c.Letter H B7 P0 R0 (newHS n) n _ P1 R1 (newHS 2) _ := ⟨Z6.mono M7 fun _ _ z => z, ⟨M7.s, O6.mono M7 fun _ _ z => z, L7, Inv.new (by decide), fun x hx z => O6.alive z (f7 x hx)⟩, fun x hx z => z.elim (fun y => Z4.alive hx (f5 x y)) fun y => Z6.alive hx (f7 x y)⟩
  have hscr : ∀ A B, Ex H A → Ex A B → Dp K B (.ref a) (.list (ns.map .int)) := fun A B e1 e2 => dp_ex e2 (dp_ex e1 h1)
  -- seventy letters
  have hix : ∀ b : Bool, atI [PyData.int 0, .int 70] (if b then 1 else 0) = some (.int (if b then 70 else 0)) := fun b => by cases b <;> rfl
  let J : Nat → L2.St → Hp → Prop := fun i σ B => ∃ A P R s ab ab' w6, σ = [some (.ref a), some (.int (n : Nat)), some (.ref P.a), some (.ref R.a), some (.ref P1.a), some (.ref R1.a), w6, none, none] ∧ Ex H A ∧ R.tv = [] ∧ Two K c.House c.Desk c.Letter A B P R s n ab P1 R1 (newHS 2) ab' ∧ s.sent.length = i
  refine q_do (s_forRM K (n := if ((n : Nat) : Int) == 2 then 70 else 0) (ed_ixL (ed_n (en_lst (ea_consD ed_int (ea_consD ed_int ea_nilD)) (by decide))) (ed_int1b (ed_eqi (ed_var rfl (.int (n : Nat))) ed_int)) (hix _)) (by split <;> decide) J (fun B' e => ⟨H, P0, R0, _, _, _, none, rfl, Ex.refl _, tv4, W7.up e, rfl⟩) ?_ ?_)
  · rintro i σ B hi ⟨A5, P5, R5, st, ab, ab', w6, rfl, ea, tv, Z, hl⟩
    have h2 : n = 2 ∧ i < 70 := by
      by_cases z : (((n : Nat) : Int) == 2) = true
      · rw [if_pos z] at hi
        have := eq_of_beq z
        omega
      · rw [if_neg z] at hi
        omega
    obtain ⟨hn2, hi70⟩ := h2
    obtain ⟨h, hh, hhn⟩ : ∃ h : Nat, ((i : Nat) : Int) * (i : Nat) % 2 = (h : Int) ∧ h < n := by
      generalize ((i : Nat) : Int) * (i : Nat) = q
      exact ⟨(q % 2).toNat, by omega, by omega⟩
    have hlog : ((i : Nat) : Int).natAbs.log2 < 1920 := Nat.lt_of_le_of_lt (Nat.log2_le_self _) (by omega)
    obtain ⟨s', hs', ab2, I', _⟩ := Z.z.I.send hhn (numS (i : Nat))
    have hsm := Z.z.I.sm hn1 (by omega)
    rw [un_ifne]
    refine m_callV (ev_var rfl) Z.z.O.ia rfl (ea_cons (v_int (K := K) (ed_is (ed_Ic (ed_Ic (ed_var rfl (.int (i : Nat))) (ed_var rfl (.int (i : Nat))) (.inl ⟨by omega, by omega⟩)) ed_int (by decide)) (congrArg PyData.int hh))) (ea_cons (v_str (K := K) (ed_strI (ed_var rfl (.int (i : Nat))) hlog)) ea_nil)) fun B6 e6 => ⟨A5, P5, st, _, some (h : Int), numS (i : Nat), rfl, Z.z.es.trans e6, Z.z.O.up Z.z.es e6, rfl, (fun z => by rw [isPl_of (by rw [Z.z.I.hn]; exact hhn)] at z; cases z), fun h' ho _ => ?_⟩
    have hhh : h = h' := by have := Option.some.inj ho; omega
    subst hhh
    refine ⟨s', hs', hsm, fun A7 B7 P7 hPa M7 in7 O7 => ?_⟩
    have L7 := (Z.z.up e6).L.mono M7 fun x hx z => Z.z.dj x hx z
    refine c_callV (ea_cons (ev_var rfl) (ea_cons (v_int (K := K) (ed_is (ed_Ic (ed_Ic (ed_var rfl (.int (i : Nat))) (ed_var rfl (.int (i : Nat))) (.inl ⟨by omega, by omega⟩)) ed_int (by decide)) (congrArg PyData.int hh))) (ea_cons (v_str (K := K) (ed_strI (ed_var rfl (.int (i : Nat))) hlog)) ea_nil))) fun B8 e8 => ⟨A7, R5, st, h, numS (i : Nat), s', rfl, M7.s.trans e8, L7.up M7.s e8, hs', hsm, Z.z.I.goods, fun R9 A9 B9 hRa M9 in9 L9 => ⟨rfl, _, rfl, ?_⟩⟩
    rw [decide_eq_true rfl]
    refine iteF ?_
    have Z6 := Z.up e6
    have Z9 := Z6.z.both2 M7 in7 O7 e8 M9 in9 L9 I'
    have T9 := To.both2 Z6.z.es tv hPa hRa M7 in7 e8 M9 in9
    exact ⟨A9, P7, R9, s', ab2, ab', _, by rw [hPa, hRa.1]; rfl, ea.trans T9.pr.a, T9.tv, Z6.left T9.pr T9.nw Z9, by rw [HS.send_len hs', hl]⟩
  rintro σ B8 ⟨A8, P8, R8, st8, ab8, ab8', w6, rfl, ea8, tv8, W8, hl8⟩
  have hl70 : st8.sent.length ≤ 70 := by
    rw [hl8]
    split <;> decide
  refine go_nx ?_
  let J2 : Nat → L2.St → Hp → Prop := fun i σ B => ∃ A P R s ab P' R' s' ab' w6, σ = [some (.ref a), some (.int (n : Nat)), some (.ref P.a), some (.ref R.a), some (.ref P'.a), some (.ref R'.a), w6, none, none] ∧ Ex H A ∧ R.tv = [] ∧ R'.tv = [] ∧ Two K c.House c.Desk c.Letter A B P R s n ab P' R' s' ab' ∧ s.sent.length ≤ 70 + i ∧ s'.sent.length ≤ i
  refine q_do (s_forR3x K (A := B8) (lo := 1) (hi := ((ns.map PyData.int).length : Int) - 1) (c := 2) (Ex.refl _) (ea_consD ed_int (ea_consD (ed_Ii (ed_len (ed_var rfl (hscr _ _ ea8 W8.z.es))) ed_int) (ea_consD ed_int ea_nilD))) (by decide) (by rw [List.length_map]; omega) J2 (fun A5 B5 P5 => ⟨A8, P8, R8, st8, ab8, P1, R1, newHS 2, ab8', w6, rfl, ea8, tv8, tv7, W8.up P5.b, by omega, Nat.zero_le _⟩) ?_ ?_)
  · rintro i σ B hi ⟨A5, P5, R5, st, ab, P', R', st', ab', w6, rfl, ea, tv, tv', Z, hl, hl'⟩
    rw [List.length_map] at hi
    have hi31 : i ≤ 31 := by omega
    generalize hkk : (1 + (i : Nat) * 2 : Int) = kk at hi ⊢
    have c0 := cell_at (ns := ns) (k := kk) (by omega) (by omega)
    have c1 := cell_at (ns := ns) (k := kk + 1) (by omega) (by omega)
    have g : Dp K B (.ref a) (.list (ns.map .int)) := hscr _ _ ea Z.z.es
    rw [un_ifcall]
    refine c_callV (ea_cons (ev_var rfl) (ea_cons (ev_var rfl) (ea_cons (v_int (K := K) (ed_ixL (ed_var rfl g) (ed_var rfl (.int kk)) c0)) (ea_cons (v_int (K := K) (ed_ixL (ed_var rfl g) (ed_Ii (ed_var rfl (.int kk)) ed_int) c1)) ea_nil)))) fun B6 e6 => ⟨A5, P5, R5, st, n, ab, _, _, rfl, Z.z.up e6, hn1, by omega, tv, fun P7 R7 s7 ab7 A7 B7 T7 Z7 hl7 => ⟨true, rfl, iteF (q_next ?_)⟩⟩
    have W7 := (Z.up e6).left T7.pr T7.nw Z7
    have ea7 := ea.trans T7.pr.a
    have g7 : Dp K B7 (.ref a) (.list (ns.map .int)) := hscr _ _ ea7 Z7.es
    rw [← T7.pa, ← T7.ra]
    cases hb : cell ns kk / 36 % 5 == 0 with
    | false =>
      refine s_ifM K (b := false) (eb_and (a := false) (b := true) (eb_is (eb_D (ed_eqi (ed_Ic (ed_Ic (ed_ixL (ed_var rfl g7) (ed_var rfl (.int kk)) c0) ed_int (by tm_at "cc")) ed_int (by decide)) ed_int)) hb) fun z => by cases z) rfl (fun z => by cases z) (fun _ B8 e8 => ?_)
      exact ⟨A7, P7, R7, s7, ab7, P', R', st', ab', _, rfl, ea7, T7.tv, tv', W7.up e8, by omega, by omega⟩
    | true =>
      refine s_andNot K (eb_is (eb_D (ed_eqi (ed_Ic (ed_Ic (ed_ixL (ed_var rfl g7) (ed_var rfl (.int kk)) c0) ed_int (by tm_at "cc")) ed_int (by decide)) ed_int)) hb) fun B8 e8 => ?_
      have g8 := dp_ex e8 g7
      have W8 := W7.up e8
      refine c_callV (ea_cons (ev_var rfl) (ea_cons (ev_var rfl) (ea_cons (v_int (K := K) (ed_Ic (ed_ixL (ed_var rfl g8) (ed_Ii (ed_var rfl (.int kk)) ed_int) c1) ed_int (by tm_at "cc"))) (ea_cons (v_int (K := K) (ed_ixL (ed_var rfl g8) (ed_var rfl (.int kk)) c0)) ea_nil)))) fun B9 e9 => ⟨A7, P', R', st', 2, ab', _, _, rfl, W8.y.up e9, by decide, by omega, tv', fun P10 R10 s10 ab10 A10 B10 T10 Z10 hl10 => ⟨true, rfl, iteF ?_⟩⟩
      have W10 := (W8.up e9).right T10.pr T10.nw Z10
      exact ⟨A10, P7, R7, s7, ab7, P10, R10, s10, ab10, _, by rw [T10.pa, T10.ra]; rfl, ea7.trans T10.pr.a, T7.tv, T10.tv, W10, by omega, by omega⟩
  rintro σ B ⟨A5, P5, R5, st, ab, P', R', st', ab', w6, rfl, ea, tv, tv', Z, hl, hl'⟩
  have hr : rgN 1 (((ns.map PyData.int).length : Int) - 1) 2 ≤ 32 := by
    rw [List.length_map]
    unfold rgN
    split <;> omega
  have hsl : st.sent.length ≤ 102 := by omega
  refine go_nx ?_
  -- all hands
  let J3 : Nat → L2.St → Hp → Prop := fun _ σ B' => Ex B B' ∧ ∃ w7, σ = [some (.ref a), some (.int (n : Nat)), some (.ref P5.a), some (.ref R5.a), some (.ref P'.a), some (.ref R'.a), w6, w7, none]
  refine q_do (s_forRM K (n := ((n : Nat) : Int)) (ed_var rfl (.int (n : Nat))) (by omega) J3 (fun B' e => ⟨e, none, rfl⟩) ?_ ?_)
  · rintro i σ B' hi ⟨e, w7, rfl⟩
    have hd := List.getElem?_eq_getElem (l := st.desks) (i := i) (by rw [Z.z.I.hn]; omega)
    exact s_ifM K (b := false) (eb_is (eb_not (eb_DB (ed_v (ev_hand (Z.z.up e) (ev_var rfl) (ev_var rfl) hd (ev_var rfl)) (.bl true)))) rfl) rfl (fun z => by cases z) (fun _ B2 e2 => ⟨e.trans e2, _, rfl⟩)
  rintro σ B9 ⟨e9, w7, rfl⟩
  refine go_nx ?_
  have Z9 := Z.up e9
  -- all letters
  let J4 : Nat → L2.St → Hp → Prop := fun _ σ B' => Ex B9 B' ∧ ∃ w8, σ = [some (.ref a), some (.int (n : Nat)), some (.ref P5.a), some (.ref R5.a), some (.ref P'.a), some (.ref R'.a), w6, w7, w8]
  refine q_do (s_forRM K (n := (st.sent.length : Int)) (Z9.z.L.ev_l (ev_var rfl)) (by omega) J4 (fun B' e => ⟨e, none, rfl⟩) ?_ ?_)
  · rintro i σ B' hi ⟨e, w8, rfl⟩
    have hd := List.getElem?_eq_getElem (l := st.sent) (i := i) (by omega)
    exact s_ifM K (b := false) (eb_is (eb_not (eb_DB (ed_v (ev_letr (Z9.z.up e) (ev_var rfl) (ev_var rfl) hd (ev_var rfl)) (.bl true)))) rfl) rfl (fun z => by cases z) (fun _ B2 e2 => ⟨e.trans e2, _, rfl⟩)
  rintro σ B10 ⟨e10, w8, rfl⟩
  refine go_nx ?_
  have Y := (Z9.up e10).y
  have hd0 := List.getElem?_eq_getElem (l := st'.desks) (i := 0) (by rw [Y.I.hn]; decide)
  have hd1 := List.getElem?_eq_getElem (l := st'.desks) (i := 1) (by rw [Y.I.hn]; decide)
  refine ret_te (and_te (ev_hand Y (ev_var rfl) (ev_var rfl) hd0 ev_c B10 (Ex.refl _) _ fun B11 e11 => ⟨true, rfl, iteT (and_te (ev_hand (Y.up e11) (ev_var rfl) (ev_var rfl) hd1 ev_c B11 (Ex.refl _) _ fun B12 e12 => ⟨true, rfl, iteT ?_⟩))⟩))
  have Y12 := (Y.up e11).up e12
  refine c_call2 (m_callV (ev_var rfl) Y12.O.ia rfl ea_nil fun B13 e13 => ⟨A5, P', st', rfl, (Y12.up e13).O, fun q xs B14 hq e14 hqx hxs => ?_⟩)
  have Y14 := (Y12.up e13).up e14
  refine (ed_n (en_listof (Y14.L.ev_m Y14.es (ev_var rfl)))) B14 B14 (Ex.refl _) (Ex.refl _) _ fun v A15 B15 P15 hv => ?_
  obtain ⟨qd, ys, rfl, _, _⟩ := dp_list hv
  have hpl := Y14.I.plen (by decide)
  have s15 := Y14.es.trans P15.b
  exact ⟨A5, q, qd, st'.post, rfl, s15, fresh_back (Y12.up e13).es hq, ⟨xs, P15.b _ _ hqx, dpa_ex s15 hxs⟩, dp_ex P15.s hv, by omega, fun B16 _ _ => k B16⟩
end

end K8

namespace K8
open PySem L2 Evl Ob
theorem all_mk {l : PySem.W.OpenLaw} {w : World} {K : PySem.W.Frag} {h : Heap} {mg : Str → Option Value} {fa : Addr} (X : K.In h) (G : h.Ns mainGlobals mg) (hfa : mg "law" = some (.ref fa))
    {f0 : Addr} {od0 an0 : Option Addr} {sl0 : Array (Option Value)} {oc0 kV0 dc0 pm0 cd0 ct0 : Value}
    {f1 : Addr} {od1 an1 : Option Addr} {sl1 : Array (Option Value)} {oc1 kV1 dc1 pm1 cd1 ct1 : Value}
    {f2 : Addr} {od2 an2 : Option Addr} {sl2 : Array (Option Value)} {oc2 kV2 dc2 pm2 cd2 ct2 : Value}
    {f3 : Addr} {od3 an3 : Option Addr} {sl3 : Array (Option Value)} {oc3 kV3 dc3 pm3 cd3 ct3 : Value}
    {f4 : Addr} {od4 an4 : Option Addr} {sl4 : Array (Option Value)} {oc4 kV4 dc4 pm4 cd4 ct4 : Value}
    {f5 : Addr} {od5 an5 : Option Addr} {sl5 : Array (Option Value)} {oc5 kV5 dc5 pm5 cd5 ct5 : Value}
    {f6 : Addr} {od6 an6 : Option Addr} {sl6 : Array (Option Value)} {oc6 kV6 dc6 pm6 cd6 ct6 : Value}
    {f7 : Addr} {od7 an7 : Option Addr} {sl7 : Array (Option Value)} {oc7 kV7 dc7 pm7 cd7 ct7 : Value}
    {f8 : Addr} {od8 an8 : Option Addr} {sl8 : Array (Option Value)} {oc8 kV8 dc8 pm8 cd8 ct8 : Value}
    {f9 : Addr} {od9 an9 : Option Addr} {sl9 : Array (Option Value)} {oc9 kV9 dc9 pm9 cd9 ct9 : Value}
    {f10 : Addr} {od10 an10 : Option Addr} {sl10 : Array (Option Value)} {oc10 kV10 dc10 pm10 cd10 ct10 : Value}
    {f11 : Addr} {od11 an11 : Option Addr} {sl11 : Array (Option Value)} {oc11 kV11 dc11 pm11 cd11 ct11 : Value}
    {f12 : Addr} {od12 an12 : Option Addr} {sl12 : Array (Option Value)} {oc12 kV12 dc12 pm12 cd12 ct12 : Value}
    {f13 : Addr} {od13 an13 : Option Addr} {sl13 : Array (Option Value)} {oc13 kV13 dc13 pm13 cd13 ct13 : Value}
    {f14 : Addr} {od14 an14 : Option Addr} {sl14 : Array (Option Value)} {oc14 kV14 dc14 pm14 cd14 ct14 : Value}
    {f15 : Addr} {od15 an15 : Option Addr} {sl15 : Array (Option Value)} {oc15 kV15 dc15 pm15 cd15 ct15 : Value}
    {f16 : Addr} {od16 an16 : Option Addr} {sl16 : Array (Option Value)} {oc16 kV16 dc16 pm16 cd16 ct16 : Value}
    {f17 : Addr} {od17 an17 : Option Addr} {sl17 : Array (Option Value)} {oc17 kV17 dc17 pm17 cd17 ct17 : Value}
    {f18 : Addr} {od18 an18 : Option Addr} {sl18 : Array (Option Value)} {oc18 kV18 dc18 pm18 cd18 ct18 : Value}
    {f19 : Addr} {od19 an19 : Option Addr} {sl19 : Array (Option Value)} {oc19 kV19 dc19 pm19 cd19 ct19 : Value}
    {f20 : Addr} {od20 an20 : Option Addr} {sl20 : Array (Option Value)} {oc20 kV20 dc20 pm20 cd20 ct20 : Value}
    {f21 : Addr} {od21 an21 : Option Addr} {sl21 : Array (Option Value)} {oc21 kV21 dc21 pm21 cd21 ct21 : Value}
    {f22 : Addr} {od22 an22 : Option Addr} {sl22 : Array (Option Value)} {oc22 kV22 dc22 pm22 cd22 ct22 : Value}
    {f23 : Addr} {od23 an23 : Option Addr} {sl23 : Array (Option Value)} {oc23 kV23 dc23 pm23 cd23 ct23 : Value}
    {f24 : Addr} {od24 an24 : Option Addr} {sl24 : Array (Option Value)} {oc24 kV24 dc24 pm24 cd24 ct24 : Value}
    {C_BellError : Addr}
    {C_BadCount : Addr}
    {C_NoHand : Addr}
    {C_NoLetter : Addr}
    {C_NoMail : Addr}
    {C_Twice : Addr}
    {C_NotOpen : Addr}
    {C_BadMark : Addr}
    {C_Desk : Addr}
    {C_Letter : Addr}
    {C_House : Addr}
    {f_Desk___init__ : Addr} {od_Desk___init__ an_Desk___init__ : Option Addr} {sl_Desk___init__ : Array (Option Value)} {oc_Desk___init__ kV_Desk___init__ dc_Desk___init__ pm_Desk___init__ cd_Desk___init__ ct_Desk___init__ : Value}
    {f_Desk_clock : Addr} {od_Desk_clock an_Desk_clock : Option Addr} {sl_Desk_clock : Array (Option Value)} {oc_Desk_clock kV_Desk_clock dc_Desk_clock pm_Desk_clock cd_Desk_clock ct_Desk_clock : Value}
    {f_Desk_propose : Addr} {od_Desk_propose an_Desk_propose : Option Addr} {sl_Desk_propose : Array (Option Value)} {oc_Desk_propose kV_Desk_propose dc_Desk_propose pm_Desk_propose cd_Desk_propose ct_Desk_propose : Value}
    {f_Desk_settle : Addr} {od_Desk_settle an_Desk_settle : Option Addr} {sl_Desk_settle : Array (Option Value)} {oc_Desk_settle kV_Desk_settle dc_Desk_settle pm_Desk_settle cd_Desk_settle ct_Desk_settle : Value}
    {f_Desk_first : Addr} {od_Desk_first an_Desk_first : Option Addr} {sl_Desk_first : Array (Option Value)} {oc_Desk_first kV_Desk_first dc_Desk_first pm_Desk_first cd_Desk_first ct_Desk_first : Value}
    {f_Desk_hand_over : Addr} {od_Desk_hand_over an_Desk_hand_over : Option Addr} {sl_Desk_hand_over : Array (Option Value)} {oc_Desk_hand_over kV_Desk_hand_over dc_Desk_hand_over pm_Desk_hand_over cd_Desk_hand_over ct_Desk_hand_over : Value}
    {f_Desk_handed : Addr} {od_Desk_handed an_Desk_handed : Option Addr} {sl_Desk_handed : Array (Option Value)} {oc_Desk_handed kV_Desk_handed dc_Desk_handed pm_Desk_handed cd_Desk_handed ct_Desk_handed : Value}
    {f_Letter___init__ : Addr} {od_Letter___init__ an_Letter___init__ : Option Addr} {sl_Letter___init__ : Array (Option Value)} {oc_Letter___init__ kV_Letter___init__ dc_Letter___init__ pm_Letter___init__ cd_Letter___init__ ct_Letter___init__ : Value}
    {f_House___init__ : Addr} {od_House___init__ an_House___init__ : Option Addr} {sl_House___init__ : Array (Option Value)} {oc_House___init__ kV_House___init__ dc_House___init__ pm_House___init__ cd_House___init__ ct_House___init__ : Value}
    {f_House_need_hand : Addr} {od_House_need_hand an_House_need_hand : Option Addr} {sl_House_need_hand : Array (Option Value)} {oc_House_need_hand kV_House_need_hand dc_House_need_hand pm_House_need_hand cd_House_need_hand ct_House_need_hand : Value}
    {f_House_need_letter : Addr} {od_House_need_letter an_House_need_letter : Option Addr} {sl_House_need_letter : Array (Option Value)} {oc_House_need_letter kV_House_need_letter dc_House_need_letter pm_House_need_letter cd_House_need_letter ct_House_need_letter : Value}
    {f_House_send : Addr} {od_House_send an_House_send : Option Addr} {sl_House_send : Array (Option Value)} {oc_House_send kV_House_send dc_House_send pm_House_send cd_House_send ct_House_send : Value}
    {f_House_to_others : Addr} {od_House_to_others an_House_to_others : Option Addr} {sl_House_to_others : Array (Option Value)} {oc_House_to_others kV_House_to_others dc_House_to_others pm_House_to_others cd_House_to_others ct_House_to_others : Value}
    {f_House_look : Addr} {od_House_look an_House_look : Option Addr} {sl_House_look : Array (Option Value)} {oc_House_look kV_House_look dc_House_look pm_House_look cd_House_look ct_House_look : Value}
    {f_House_mails : Addr} {od_House_mails an_House_mails : Option Addr} {sl_House_mails : Array (Option Value)} {oc_House_mails kV_House_mails dc_House_mails pm_House_mails cd_House_mails ct_House_mails : Value}
    {f_House_bring : Addr} {od_House_bring an_House_bring : Option Addr} {sl_House_bring : Array (Option Value)} {oc_House_bring kV_House_bring dc_House_bring pm_House_bring cd_House_bring ct_House_bring : Value}
    {f_House_rest : Addr} {od_House_rest an_House_rest : Option Addr} {sl_House_rest : Array (Option Value)} {oc_House_rest kV_House_rest dc_House_rest pm_House_rest cd_House_rest ct_House_rest : Value}
    {f_House_letters : Addr} {od_House_letters an_House_letters : Option Addr} {sl_House_letters : Array (Option Value)} {oc_House_letters kV_House_letters dc_House_letters pm_House_letters cd_House_letters ct_House_letters : Value}
    {f_House_sender : Addr} {od_House_sender an_House_sender : Option Addr} {sl_House_sender : Array (Option Value)} {oc_House_sender kV_House_sender dc_House_sender pm_House_sender cd_House_sender ct_House_sender : Value}
    {f_House_text : Addr} {od_House_text an_House_text : Option Addr} {sl_House_text : Array (Option Value)} {oc_House_text kV_House_text dc_House_text pm_House_text cd_House_text ct_House_text : Value}
    {f_House_mark : Addr} {od_House_mark an_House_mark : Option Addr} {sl_House_mark : Array (Option Value)} {oc_House_mark kV_House_mark dc_House_mark pm_House_mark cd_House_mark ct_House_mark : Value}
    {f_House_handed : Addr} {od_House_handed an_House_handed : Option Addr} {sl_House_handed : Array (Option Value)} {oc_House_handed kV_House_handed dc_House_handed pm_House_handed cd_House_handed ct_House_handed : Value}
    {f_House_clock : Addr} {od_House_clock an_House_clock : Option Addr} {sl_House_clock : Array (Option Value)} {oc_House_clock kV_House_clock dc_House_clock pm_House_clock cd_House_clock ct_House_clock : Value}
    {tk_MOST_HANDS : Tok}
    (a0 : PySem.W.nsIn K mainGlobals "less" = some (some (.ref f0))) (l0 : K.lookup f0 = some ⟨oc0, od0, .func (PySem.W.fnOf "less" "less" (defArgs s_less) (defBody s_less) (defScope s_less) .none kV0 dc0 pm0 an0 cd0 ct0), sl0⟩) (c0 : PySem.W.codeIn K cd0 "less" = true) (k0 : PySem.W.keepIn K (.ref f0) = true)
    (a1 : PySem.W.nsIn K mainGlobals "greatest" = some (some (.ref f1))) (l1 : K.lookup f1 = some ⟨oc1, od1, .func (PySem.W.fnOf "greatest" "greatest" (defArgs s_greatest) (defBody s_greatest) (defScope s_greatest) .none kV1 dc1 pm1 an1 cd1 ct1), sl1⟩) (c1 : PySem.W.codeIn K cd1 "greatest" = true) (k1 : PySem.W.keepIn K (.ref f1) = true)
    (a2 : PySem.W.nsIn K mainGlobals "is_place" = some (some (.ref f2))) (l2 : K.lookup f2 = some ⟨oc2, od2, .func (PySem.W.fnOf "is_place" "is_place" (defArgs s_is_place) (defBody s_is_place) (defScope s_is_place) .none kV2 dc2 pm2 an2 cd2 ct2), sl2⟩) (c2 : PySem.W.codeIn K cd2 "is_place" = true) (k2 : PySem.W.keepIn K (.ref f2) = true)
    (a3 : PySem.W.nsIn K mainGlobals "_law_whole" = some (some (.ref f3))) (l3 : K.lookup f3 = some ⟨oc3, od3, .func (PySem.W.fnOf "_law_whole" "_law_whole" (defArgs s_law_whole) (defBody s_law_whole) (defScope s_law_whole) .none kV3 dc3 pm3 an3 cd3 ct3), sl3⟩) (c3 : PySem.W.codeIn K cd3 "_law_whole" = true) (k3 : PySem.W.keepIn K (.ref f3) = true)
    (a4 : PySem.W.nsIn K mainGlobals "_law_cell_at" = some (some (.ref f4))) (l4 : K.lookup f4 = some ⟨oc4, od4, .func (PySem.W.fnOf "_law_cell_at" "_law_cell_at" (defArgs s_law_cell_at) (defBody s_law_cell_at) (defScope s_law_cell_at) .none kV4 dc4 pm4 an4 cd4 ct4), sl4⟩) (c4 : PySem.W.codeIn K cd4 "_law_cell_at" = true) (k4 : PySem.W.keepIn K (.ref f4) = true)
    (a5 : PySem.W.nsIn K mainGlobals "_law_mark" = some (some (.ref f5))) (l5 : K.lookup f5 = some ⟨oc5, od5, .func (PySem.W.fnOf "_law_mark" "_law_mark" (defArgs s_law_mark) (defBody s_law_mark) (defScope s_law_mark) .none kV5 dc5 pm5 an5 cd5 ct5), sl5⟩) (c5 : PySem.W.codeIn K cd5 "_law_mark" = true) (k5 : PySem.W.keepIn K (.ref f5) = true)
    (a6 : PySem.W.nsIn K mainGlobals "_law_mail" = some (some (.ref f6))) (l6 : K.lookup f6 = some ⟨oc6, od6, .func (PySem.W.fnOf "_law_mail" "_law_mail" (defArgs s_law_mail) (defBody s_law_mail) (defScope s_law_mail) .none kV6 dc6 pm6 an6 cd6 ct6), sl6⟩) (c6 : PySem.W.codeIn K cd6 "_law_mail" = true) (k6 : PySem.W.keepIn K (.ref f6) = true)
    (a7 : PySem.W.nsIn K mainGlobals "_law_sign" = some (some (.ref f7))) (l7 : K.lookup f7 = some ⟨oc7, od7, .func (PySem.W.fnOf "_law_sign" "_law_sign" (defArgs s_law_sign) (defBody s_law_sign) (defScope s_law_sign) .none kV7 dc7 pm7 an7 cd7 ct7), sl7⟩) (c7 : PySem.W.codeIn K cd7 "_law_sign" = true) (k7 : PySem.W.keepIn K (.ref f7) = true)
    (a8 : PySem.W.nsIn K mainGlobals "_law_desk" = some (some (.ref f8))) (l8 : K.lookup f8 = some ⟨oc8, od8, .func (PySem.W.fnOf "_law_desk" "_law_desk" (defArgs s_law_desk) (defBody s_law_desk) (defScope s_law_desk) .none kV8 dc8 pm8 an8 cd8 ct8), sl8⟩) (c8 : PySem.W.codeIn K cd8 "_law_desk" = true) (k8 : PySem.W.keepIn K (.ref f8) = true)
    (a9 : PySem.W.nsIn K mainGlobals "_law_first" = some (some (.ref f9))) (l9 : K.lookup f9 = some ⟨oc9, od9, .func (PySem.W.fnOf "_law_first" "_law_first" (defArgs s_law_first) (defBody s_law_first) (defScope s_law_first) .none kV9 dc9 pm9 an9 cd9 ct9), sl9⟩) (c9 : PySem.W.codeIn K cd9 "_law_first" = true) (k9 : PySem.W.keepIn K (.ref f9) = true)
    (a10 : PySem.W.nsIn K mainGlobals "_law_proposed" = some (some (.ref f10))) (l10 : K.lookup f10 = some ⟨oc10, od10, .func (PySem.W.fnOf "_law_proposed" "_law_proposed" (defArgs s_law_proposed) (defBody s_law_proposed) (defScope s_law_proposed) .none kV10 dc10 pm10 an10 cd10 ct10), sl10⟩) (c10 : PySem.W.codeIn K cd10 "_law_proposed" = true) (k10 : PySem.W.keepIn K (.ref f10) = true)
    (a11 : PySem.W.nsIn K mainGlobals "_law_settled" = some (some (.ref f11))) (l11 : K.lookup f11 = some ⟨oc11, od11, .func (PySem.W.fnOf "_law_settled" "_law_settled" (defArgs s_law_settled) (defBody s_law_settled) (defScope s_law_settled) .none kV11 dc11 pm11 an11 cd11 ct11), sl11⟩) (c11 : PySem.W.codeIn K cd11 "_law_settled" = true) (k11 : PySem.W.keepIn K (.ref f11) = true)
    (a12 : PySem.W.nsIn K mainGlobals "_law_house" = some (some (.ref f12))) (l12 : K.lookup f12 = some ⟨oc12, od12, .func (PySem.W.fnOf "_law_house" "_law_house" (defArgs s_law_house) (defBody s_law_house) (defScope s_law_house) .none kV12 dc12 pm12 an12 cd12 ct12), sl12⟩) (c12 : PySem.W.codeIn K cd12 "_law_house" = true) (k12 : PySem.W.keepIn K (.ref f12) = true)
    (a13 : PySem.W.nsIn K mainGlobals "_law_to_others" = some (some (.ref f13))) (l13 : K.lookup f13 = some ⟨oc13, od13, .func (PySem.W.fnOf "_law_to_others" "_law_to_others" (defArgs s_law_to_others) (defBody s_law_to_others) (defScope s_law_to_others) .none kV13 dc13 pm13 an13 cd13 ct13), sl13⟩) (c13 : PySem.W.codeIn K cd13 "_law_to_others" = true) (k13 : PySem.W.keepIn K (.ref f13) = true)
    (a14 : PySem.W.nsIn K mainGlobals "_law_look" = some (some (.ref f14))) (l14 : K.lookup f14 = some ⟨oc14, od14, .func (PySem.W.fnOf "_law_look" "_law_look" (defArgs s_law_look) (defBody s_law_look) (defScope s_law_look) .none kV14 dc14 pm14 an14 cd14 ct14), sl14⟩) (c14 : PySem.W.codeIn K cd14 "_law_look" = true) (k14 : PySem.W.keepIn K (.ref f14) = true)
    (a15 : PySem.W.nsIn K mainGlobals "_law_sent" = some (some (.ref f15))) (l15 : K.lookup f15 = some ⟨oc15, od15, .func (PySem.W.fnOf "_law_sent" "_law_sent" (defArgs s_law_sent) (defBody s_law_sent) (defScope s_law_sent) .none kV15 dc15 pm15 an15 cd15 ct15), sl15⟩) (c15 : PySem.W.codeIn K cd15 "_law_sent" = true) (k15 : PySem.W.keepIn K (.ref f15) = true)
    (a16 : PySem.W.nsIn K mainGlobals "_law_brought" = some (some (.ref f16))) (l16 : K.lookup f16 = some ⟨oc16, od16, .func (PySem.W.fnOf "_law_brought" "_law_brought" (defArgs s_law_brought) (defBody s_law_brought) (defScope s_law_brought) .none kV16 dc16 pm16 an16 cd16 ct16), sl16⟩) (c16 : PySem.W.codeIn K cd16 "_law_brought" = true) (k16 : PySem.W.keepIn K (.ref f16) = true)
    (a17 : PySem.W.nsIn K mainGlobals "_law_mails" = some (some (.ref f17))) (l17 : K.lookup f17 = some ⟨oc17, od17, .func (PySem.W.fnOf "_law_mails" "_law_mails" (defArgs s_law_mails) (defBody s_law_mails) (defScope s_law_mails) .none kV17 dc17 pm17 an17 cd17 ct17), sl17⟩) (c17 : PySem.W.codeIn K cd17 "_law_mails" = true) (k17 : PySem.W.keepIn K (.ref f17) = true)
    (a18 : PySem.W.nsIn K mainGlobals "_law_row" = some (some (.ref f18))) (l18 : K.lookup f18 = some ⟨oc18, od18, .func (PySem.W.fnOf "_law_row" "_law_row" (defArgs s_law_row) (defBody s_law_row) (defScope s_law_row) .none kV18 dc18 pm18 an18 cd18 ct18), sl18⟩) (c18 : PySem.W.codeIn K cd18 "_law_row" = true) (k18 : PySem.W.keepIn K (.ref f18) = true)
    (a19 : PySem.W.nsIn K mainGlobals "_law_hand" = some (some (.ref f19))) (l19 : K.lookup f19 = some ⟨oc19, od19, .func (PySem.W.fnOf "_law_hand" "_law_hand" (defArgs s_law_hand) (defBody s_law_hand) (defScope s_law_hand) .none kV19 dc19 pm19 an19 cd19 ct19), sl19⟩) (c19 : PySem.W.codeIn K cd19 "_law_hand" = true) (k19 : PySem.W.keepIn K (.ref f19) = true)
    (a20 : PySem.W.nsIn K mainGlobals "_law_missing" = some (some (.ref f20))) (l20 : K.lookup f20 = some ⟨oc20, od20, .func (PySem.W.fnOf "_law_missing" "_law_missing" (defArgs s_law_missing) (defBody s_law_missing) (defScope s_law_missing) .none kV20 dc20 pm20 an20 cd20 ct20), sl20⟩) (c20 : PySem.W.codeIn K cd20 "_law_missing" = true) (k20 : PySem.W.keepIn K (.ref f20) = true)
    (a21 : PySem.W.nsIn K mainGlobals "_law_letter" = some (some (.ref f21))) (l21 : K.lookup f21 = some ⟨oc21, od21, .func (PySem.W.fnOf "_law_letter" "_law_letter" (defArgs s_law_letter) (defBody s_law_letter) (defScope s_law_letter) .none kV21 dc21 pm21 an21 cd21 ct21), sl21⟩) (c21 : PySem.W.codeIn K cd21 "_law_letter" = true) (k21 : PySem.W.keepIn K (.ref f21) = true)
    (a22 : PySem.W.nsIn K mainGlobals "_law_rested" = some (some (.ref f22))) (l22 : K.lookup f22 = some ⟨oc22, od22, .func (PySem.W.fnOf "_law_rested" "_law_rested" (defArgs s_law_rested) (defBody s_law_rested) (defScope s_law_rested) .none kV22 dc22 pm22 an22 cd22 ct22), sl22⟩) (c22 : PySem.W.codeIn K cd22 "_law_rested" = true) (k22 : PySem.W.keepIn K (.ref f22) = true)
    (a23 : PySem.W.nsIn K mainGlobals "_law_step" = some (some (.ref f23))) (l23 : K.lookup f23 = some ⟨oc23, od23, .func (PySem.W.fnOf "_law_step" "_law_step" (defArgs s_law_step) (defBody s_law_step) (defScope s_law_step) .none kV23 dc23 pm23 an23 cd23 ct23), sl23⟩) (c23 : PySem.W.codeIn K cd23 "_law_step" = true) (k23 : PySem.W.keepIn K (.ref f23) = true)
    (a24 : PySem.W.nsIn K mainGlobals "law" = some (some (.ref f24))) (l24 : K.lookup f24 = some ⟨oc24, od24, .func (PySem.W.fnOf "law" "law" (defArgs s_law) (defBody s_law) (defScope s_law) .none kV24 dc24 pm24 an24 cd24 ct24), sl24⟩) (c24 : PySem.W.codeIn K cd24 "law" = true) (k24 : PySem.W.keepIn K (.ref f24) = true)
    (g_BellError : PySem.W.nsIn K mainGlobals "BellError" = some (some (.ref C_BellError))) (e_BellError : PySem.W.keepIn K (.ref C_BellError) = true)
    (x_BellError : PySem.W.excIn K C_BellError [.type "ValueError", .type "Exception", .type "BaseException", .type "object"] "ValueError.__new__" = true) (s_BellError : PySem.W.subIn K (.ref C_BellError) (.type "BaseException") = some true) (t_BellError : PySem.W.typeIn K (.ref C_BellError) = some (.type "type"))
    (g_BadCount : PySem.W.nsIn K mainGlobals "BadCount" = some (some (.ref C_BadCount))) (e_BadCount : PySem.W.keepIn K (.ref C_BadCount) = true)
    (x_BadCount : PySem.W.excIn K C_BadCount [.type "ValueError", .type "Exception", .type "BaseException", .type "object"] "ValueError.__new__" = true) (s_BadCount : PySem.W.subIn K (.ref C_BadCount) (.type "BaseException") = some true) (t_BadCount : PySem.W.typeIn K (.ref C_BadCount) = some (.type "type"))
    (g_NoHand : PySem.W.nsIn K mainGlobals "NoHand" = some (some (.ref C_NoHand))) (e_NoHand : PySem.W.keepIn K (.ref C_NoHand) = true)
    (x_NoHand : PySem.W.excIn K C_NoHand [.type "ValueError", .type "Exception", .type "BaseException", .type "object"] "ValueError.__new__" = true) (s_NoHand : PySem.W.subIn K (.ref C_NoHand) (.type "BaseException") = some true) (t_NoHand : PySem.W.typeIn K (.ref C_NoHand) = some (.type "type"))
    (g_NoLetter : PySem.W.nsIn K mainGlobals "NoLetter" = some (some (.ref C_NoLetter))) (e_NoLetter : PySem.W.keepIn K (.ref C_NoLetter) = true)
    (x_NoLetter : PySem.W.excIn K C_NoLetter [.type "ValueError", .type "Exception", .type "BaseException", .type "object"] "ValueError.__new__" = true) (s_NoLetter : PySem.W.subIn K (.ref C_NoLetter) (.type "BaseException") = some true) (t_NoLetter : PySem.W.typeIn K (.ref C_NoLetter) = some (.type "type"))
    (g_NoMail : PySem.W.nsIn K mainGlobals "NoMail" = some (some (.ref C_NoMail))) (e_NoMail : PySem.W.keepIn K (.ref C_NoMail) = true)
    (x_NoMail : PySem.W.excIn K C_NoMail [.type "ValueError", .type "Exception", .type "BaseException", .type "object"] "ValueError.__new__" = true) (s_NoMail : PySem.W.subIn K (.ref C_NoMail) (.type "BaseException") = some true) (t_NoMail : PySem.W.typeIn K (.ref C_NoMail) = some (.type "type"))
    (g_Twice : PySem.W.nsIn K mainGlobals "Twice" = some (some (.ref C_Twice))) (e_Twice : PySem.W.keepIn K (.ref C_Twice) = true)
    (x_Twice : PySem.W.excIn K C_Twice [.type "ValueError", .type "Exception", .type "BaseException", .type "object"] "ValueError.__new__" = true) (s_Twice : PySem.W.subIn K (.ref C_Twice) (.type "BaseException") = some true) (t_Twice : PySem.W.typeIn K (.ref C_Twice) = some (.type "type"))
    (g_NotOpen : PySem.W.nsIn K mainGlobals "NotOpen" = some (some (.ref C_NotOpen))) (e_NotOpen : PySem.W.keepIn K (.ref C_NotOpen) = true)
    (x_NotOpen : PySem.W.excIn K C_NotOpen [.type "ValueError", .type "Exception", .type "BaseException", .type "object"] "ValueError.__new__" = true) (s_NotOpen : PySem.W.subIn K (.ref C_NotOpen) (.type "BaseException") = some true) (t_NotOpen : PySem.W.typeIn K (.ref C_NotOpen) = some (.type "type"))
    (g_BadMark : PySem.W.nsIn K mainGlobals "BadMark" = some (some (.ref C_BadMark))) (e_BadMark : PySem.W.keepIn K (.ref C_BadMark) = true)
    (x_BadMark : PySem.W.excIn K C_BadMark [.type "ValueError", .type "Exception", .type "BaseException", .type "object"] "ValueError.__new__" = true) (s_BadMark : PySem.W.subIn K (.ref C_BadMark) (.type "BaseException") = some true) (t_BadMark : PySem.W.typeIn K (.ref C_BadMark) = some (.type "type"))
    (g_Desk : PySem.W.nsIn K mainGlobals "Desk" = some (some (.ref C_Desk))) (e_Desk : PySem.W.keepIn K (.ref C_Desk) = true)
    (g_Letter : PySem.W.nsIn K mainGlobals "Letter" = some (some (.ref C_Letter))) (e_Letter : PySem.W.keepIn K (.ref C_Letter) = true)
    (g_House : PySem.W.nsIn K mainGlobals "House" = some (some (.ref C_House))) (e_House : PySem.W.keepIn K (.ref C_House) = true)
    (pg_Desk : PySem.W.plainGet K C_Desk Str.empty = true)
    (hd_Desk : PySem.W.hasDictIn K C_Desk = true)
    (po_Desk : PySem.W.plainOver K C_Desk = true)
    (sa_Desk : PySem.W.findIn K (.ref C_Desk) "__setattr__" = some (some (.builtin "object.__setattr__")))
    (a_Desk___init__ : PySem.W.findIn K (.ref C_Desk) "__init__" = some (some (.ref f_Desk___init__)))
    (l_Desk___init__ : K.lookup f_Desk___init__ = some ⟨oc_Desk___init__, od_Desk___init__, .func (PySem.W.fnOf "__init__" "Desk.__init__" (defArgs s_Desk___init__) (defBody s_Desk___init__) (defScope s_Desk___init__) .none kV_Desk___init__ dc_Desk___init__ pm_Desk___init__ an_Desk___init__ cd_Desk___init__ ct_Desk___init__), sl_Desk___init__⟩)
    (c_Desk___init__ : PySem.W.codeIn K cd_Desk___init__ "Desk.__init__" = true)
    (k_Desk___init__ : PySem.W.keepIn K (.ref f_Desk___init__) = true)
    (fn_Desk___init__ : PySem.W.isFn K (.ref f_Desk___init__) = true)
    (a_Desk_clock : PySem.W.findIn K (.ref C_Desk) "clock" = some (some (.ref f_Desk_clock)))
    (l_Desk_clock : K.lookup f_Desk_clock = some ⟨oc_Desk_clock, od_Desk_clock, .func (PySem.W.fnOf "clock" "Desk.clock" (defArgs s_Desk_clock) (defBody s_Desk_clock) (defScope s_Desk_clock) .none kV_Desk_clock dc_Desk_clock pm_Desk_clock an_Desk_clock cd_Desk_clock ct_Desk_clock), sl_Desk_clock⟩)
    (c_Desk_clock : PySem.W.codeIn K cd_Desk_clock "Desk.clock" = true)
    (k_Desk_clock : PySem.W.keepIn K (.ref f_Desk_clock) = true)
    (fn_Desk_clock : PySem.W.isFn K (.ref f_Desk_clock) = true)
    (a_Desk_propose : PySem.W.findIn K (.ref C_Desk) "propose" = some (some (.ref f_Desk_propose)))
    (l_Desk_propose : K.lookup f_Desk_propose = some ⟨oc_Desk_propose, od_Desk_propose, .func (PySem.W.fnOf "propose" "Desk.propose" (defArgs s_Desk_propose) (defBody s_Desk_propose) (defScope s_Desk_propose) .none kV_Desk_propose dc_Desk_propose pm_Desk_propose an_Desk_propose cd_Desk_propose ct_Desk_propose), sl_Desk_propose⟩)
    (c_Desk_propose : PySem.W.codeIn K cd_Desk_propose "Desk.propose" = true)
    (k_Desk_propose : PySem.W.keepIn K (.ref f_Desk_propose) = true)
    (fn_Desk_propose : PySem.W.isFn K (.ref f_Desk_propose) = true)
    (a_Desk_settle : PySem.W.findIn K (.ref C_Desk) "settle" = some (some (.ref f_Desk_settle)))
    (l_Desk_settle : K.lookup f_Desk_settle = some ⟨oc_Desk_settle, od_Desk_settle, .func (PySem.W.fnOf "settle" "Desk.settle" (defArgs s_Desk_settle) (defBody s_Desk_settle) (defScope s_Desk_settle) .none kV_Desk_settle dc_Desk_settle pm_Desk_settle an_Desk_settle cd_Desk_settle ct_Desk_settle), sl_Desk_settle⟩)
    (c_Desk_settle : PySem.W.codeIn K cd_Desk_settle "Desk.settle" = true)
    (k_Desk_settle : PySem.W.keepIn K (.ref f_Desk_settle) = true)
    (fn_Desk_settle : PySem.W.isFn K (.ref f_Desk_settle) = true)
    (a_Desk_first : PySem.W.findIn K (.ref C_Desk) "first" = some (some (.ref f_Desk_first)))
    (l_Desk_first : K.lookup f_Desk_first = some ⟨oc_Desk_first, od_Desk_first, .func (PySem.W.fnOf "first" "Desk.first" (defArgs s_Desk_first) (defBody s_Desk_first) (defScope s_Desk_first) .none kV_Desk_first dc_Desk_first pm_Desk_first an_Desk_first cd_Desk_first ct_Desk_first), sl_Desk_first⟩)
    (c_Desk_first : PySem.W.codeIn K cd_Desk_first "Desk.first" = true)
    (k_Desk_first : PySem.W.keepIn K (.ref f_Desk_first) = true)
    (fn_Desk_first : PySem.W.isFn K (.ref f_Desk_first) = true)
    (a_Desk_hand_over : PySem.W.findIn K (.ref C_Desk) "hand_over" = some (some (.ref f_Desk_hand_over)))
    (l_Desk_hand_over : K.lookup f_Desk_hand_over = some ⟨oc_Desk_hand_over, od_Desk_hand_over, .func (PySem.W.fnOf "hand_over" "Desk.hand_over" (defArgs s_Desk_hand_over) (defBody s_Desk_hand_over) (defScope s_Desk_hand_over) .none kV_Desk_hand_over dc_Desk_hand_over pm_Desk_hand_over an_Desk_hand_over cd_Desk_hand_over ct_Desk_hand_over), sl_Desk_hand_over⟩)
    (c_Desk_hand_over : PySem.W.codeIn K cd_Desk_hand_over "Desk.hand_over" = true)
    (k_Desk_hand_over : PySem.W.keepIn K (.ref f_Desk_hand_over) = true)
    (fn_Desk_hand_over : PySem.W.isFn K (.ref f_Desk_hand_over) = true)
    (a_Desk_handed : PySem.W.findIn K (.ref C_Desk) "handed" = some (some (.ref f_Desk_handed)))
    (l_Desk_handed : K.lookup f_Desk_handed = some ⟨oc_Desk_handed, od_Desk_handed, .func (PySem.W.fnOf "handed" "Desk.handed" (defArgs s_Desk_handed) (defBody s_Desk_handed) (defScope s_Desk_handed) .none kV_Desk_handed dc_Desk_handed pm_Desk_handed an_Desk_handed cd_Desk_handed ct_Desk_handed), sl_Desk_handed⟩)
    (c_Desk_handed : PySem.W.codeIn K cd_Desk_handed "Desk.handed" = true)
    (k_Desk_handed : PySem.W.keepIn K (.ref f_Desk_handed) = true)
    (fn_Desk_handed : PySem.W.isFn K (.ref f_Desk_handed) = true)
    (mk_Desk : PySem.W.makesIn K C_Desk = true)
    (na_Desk_hand : PySem.W.findIn K (.ref C_Desk) "hand" = some none)
    (na_Desk_time : PySem.W.findIn K (.ref C_Desk) "time" = some none)
    (na_Desk_known : PySem.W.findIn K (.ref C_Desk) "known" = some none)
    (na_Desk_marked : PySem.W.findIn K (.ref C_Desk) "marked" = some none)
    (na_Desk_done : PySem.W.findIn K (.ref C_Desk) "done" = some none)
    (na_Desk_row : PySem.W.findIn K (.ref C_Desk) "row" = some none)
    (pg_Letter : PySem.W.plainGet K C_Letter Str.empty = true)
    (hd_Letter : PySem.W.hasDictIn K C_Letter = true)
    (po_Letter : PySem.W.plainOver K C_Letter = true)
    (sa_Letter : PySem.W.findIn K (.ref C_Letter) "__setattr__" = some (some (.builtin "object.__setattr__")))
    (a_Letter___init__ : PySem.W.findIn K (.ref C_Letter) "__init__" = some (some (.ref f_Letter___init__)))
    (l_Letter___init__ : K.lookup f_Letter___init__ = some ⟨oc_Letter___init__, od_Letter___init__, .func (PySem.W.fnOf "__init__" "Letter.__init__" (defArgs s_Letter___init__) (defBody s_Letter___init__) (defScope s_Letter___init__) .none kV_Letter___init__ dc_Letter___init__ pm_Letter___init__ an_Letter___init__ cd_Letter___init__ ct_Letter___init__), sl_Letter___init__⟩)
    (c_Letter___init__ : PySem.W.codeIn K cd_Letter___init__ "Letter.__init__" = true)
    (k_Letter___init__ : PySem.W.keepIn K (.ref f_Letter___init__) = true)
    (fn_Letter___init__ : PySem.W.isFn K (.ref f_Letter___init__) = true)
    (mk_Letter : PySem.W.makesIn K C_Letter = true)
    (na_Letter_writer : PySem.W.findIn K (.ref C_Letter) "writer" = some none)
    (na_Letter_words : PySem.W.findIn K (.ref C_Letter) "words" = some none)
    (na_Letter_numbers : PySem.W.findIn K (.ref C_Letter) "numbers" = some none)
    (na_Letter_final : PySem.W.findIn K (.ref C_Letter) "final" = some none)
    (pg_House : PySem.W.plainGet K C_House Str.empty = true)
    (hd_House : PySem.W.hasDictIn K C_House = true)
    (po_House : PySem.W.plainOver K C_House = true)
    (sa_House : PySem.W.findIn K (.ref C_House) "__setattr__" = some (some (.builtin "object.__setattr__")))
    (a_House___init__ : PySem.W.findIn K (.ref C_House) "__init__" = some (some (.ref f_House___init__)))
    (l_House___init__ : K.lookup f_House___init__ = some ⟨oc_House___init__, od_House___init__, .func (PySem.W.fnOf "__init__" "House.__init__" (defArgs s_House___init__) (defBody s_House___init__) (defScope s_House___init__) .none kV_House___init__ dc_House___init__ pm_House___init__ an_House___init__ cd_House___init__ ct_House___init__), sl_House___init__⟩)
    (c_House___init__ : PySem.W.codeIn K cd_House___init__ "House.__init__" = true)
    (k_House___init__ : PySem.W.keepIn K (.ref f_House___init__) = true)
    (fn_House___init__ : PySem.W.isFn K (.ref f_House___init__) = true)
    (a_House_need_hand : PySem.W.findIn K (.ref C_House) "need_hand" = some (some (.ref f_House_need_hand)))
    (l_House_need_hand : K.lookup f_House_need_hand = some ⟨oc_House_need_hand, od_House_need_hand, .func (PySem.W.fnOf "need_hand" "House.need_hand" (defArgs s_House_need_hand) (defBody s_House_need_hand) (defScope s_House_need_hand) .none kV_House_need_hand dc_House_need_hand pm_House_need_hand an_House_need_hand cd_House_need_hand ct_House_need_hand), sl_House_need_hand⟩)
    (c_House_need_hand : PySem.W.codeIn K cd_House_need_hand "House.need_hand" = true)
    (k_House_need_hand : PySem.W.keepIn K (.ref f_House_need_hand) = true)
    (fn_House_need_hand : PySem.W.isFn K (.ref f_House_need_hand) = true)
    (a_House_need_letter : PySem.W.findIn K (.ref C_House) "need_letter" = some (some (.ref f_House_need_letter)))
    (l_House_need_letter : K.lookup f_House_need_letter = some ⟨oc_House_need_letter, od_House_need_letter, .func (PySem.W.fnOf "need_letter" "House.need_letter" (defArgs s_House_need_letter) (defBody s_House_need_letter) (defScope s_House_need_letter) .none kV_House_need_letter dc_House_need_letter pm_House_need_letter an_House_need_letter cd_House_need_letter ct_House_need_letter), sl_House_need_letter⟩)
    (c_House_need_letter : PySem.W.codeIn K cd_House_need_letter "House.need_letter" = true)
    (k_House_need_letter : PySem.W.keepIn K (.ref f_House_need_letter) = true)
    (fn_House_need_letter : PySem.W.isFn K (.ref f_House_need_letter) = true)
    (a_House_send : PySem.W.findIn K (.ref C_House) "send" = some (some (.ref f_House_send)))
    (l_House_send : K.lookup f_House_send = some ⟨oc_House_send, od_House_send, .func (PySem.W.fnOf "send" "House.send" (defArgs s_House_send) (defBody s_House_send) (defScope s_House_send) .none kV_House_send dc_House_send pm_House_send an_House_send cd_House_send ct_House_send), sl_House_send⟩)
    (c_House_send : PySem.W.codeIn K cd_House_send "House.send" = true)
    (k_House_send : PySem.W.keepIn K (.ref f_House_send) = true)
    (fn_House_send : PySem.W.isFn K (.ref f_House_send) = true)
    (a_House_to_others : PySem.W.findIn K (.ref C_House) "to_others" = some (some (.ref f_House_to_others)))
    (l_House_to_others : K.lookup f_House_to_others = some ⟨oc_House_to_others, od_House_to_others, .func (PySem.W.fnOf "to_others" "House.to_others" (defArgs s_House_to_others) (defBody s_House_to_others) (defScope s_House_to_others) .none kV_House_to_others dc_House_to_others pm_House_to_others an_House_to_others cd_House_to_others ct_House_to_others), sl_House_to_others⟩)
    (c_House_to_others : PySem.W.codeIn K cd_House_to_others "House.to_others" = true)
    (k_House_to_others : PySem.W.keepIn K (.ref f_House_to_others) = true)
    (fn_House_to_others : PySem.W.isFn K (.ref f_House_to_others) = true)
    (a_House_look : PySem.W.findIn K (.ref C_House) "look" = some (some (.ref f_House_look)))
    (l_House_look : K.lookup f_House_look = some ⟨oc_House_look, od_House_look, .func (PySem.W.fnOf "look" "House.look" (defArgs s_House_look) (defBody s_House_look) (defScope s_House_look) .none kV_House_look dc_House_look pm_House_look an_House_look cd_House_look ct_House_look), sl_House_look⟩)
    (c_House_look : PySem.W.codeIn K cd_House_look "House.look" = true)
    (k_House_look : PySem.W.keepIn K (.ref f_House_look) = true)
    (fn_House_look : PySem.W.isFn K (.ref f_House_look) = true)
    (a_House_mails : PySem.W.findIn K (.ref C_House) "mails" = some (some (.ref f_House_mails)))
    (l_House_mails : K.lookup f_House_mails = some ⟨oc_House_mails, od_House_mails, .func (PySem.W.fnOf "mails" "House.mails" (defArgs s_House_mails) (defBody s_House_mails) (defScope s_House_mails) .none kV_House_mails dc_House_mails pm_House_mails an_House_mails cd_House_mails ct_House_mails), sl_House_mails⟩)
    (c_House_mails : PySem.W.codeIn K cd_House_mails "House.mails" = true)
    (k_House_mails : PySem.W.keepIn K (.ref f_House_mails) = true)
    (fn_House_mails : PySem.W.isFn K (.ref f_House_mails) = true)
    (a_House_bring : PySem.W.findIn K (.ref C_House) "bring" = some (some (.ref f_House_bring)))
    (l_House_bring : K.lookup f_House_bring = some ⟨oc_House_bring, od_House_bring, .func (PySem.W.fnOf "bring" "House.bring" (defArgs s_House_bring) (defBody s_House_bring) (defScope s_House_bring) .none kV_House_bring dc_House_bring pm_House_bring an_House_bring cd_House_bring ct_House_bring), sl_House_bring⟩)
    (c_House_bring : PySem.W.codeIn K cd_House_bring "House.bring" = true)
    (k_House_bring : PySem.W.keepIn K (.ref f_House_bring) = true)
    (fn_House_bring : PySem.W.isFn K (.ref f_House_bring) = true)
    (a_House_rest : PySem.W.findIn K (.ref C_House) "rest" = some (some (.ref f_House_rest)))
    (l_House_rest : K.lookup f_House_rest = some ⟨oc_House_rest, od_House_rest, .func (PySem.W.fnOf "rest" "House.rest" (defArgs s_House_rest) (defBody s_House_rest) (defScope s_House_rest) .none kV_House_rest dc_House_rest pm_House_rest an_House_rest cd_House_rest ct_House_rest), sl_House_rest⟩)
    (c_House_rest : PySem.W.codeIn K cd_House_rest "House.rest" = true)
    (k_House_rest : PySem.W.keepIn K (.ref f_House_rest) = true)
    (fn_House_rest : PySem.W.isFn K (.ref f_House_rest) = true)
    (a_House_letters : PySem.W.findIn K (.ref C_House) "letters" = some (some (.ref f_House_letters)))
    (l_House_letters : K.lookup f_House_letters = some ⟨oc_House_letters, od_House_letters, .func (PySem.W.fnOf "letters" "House.letters" (defArgs s_House_letters) (defBody s_House_letters) (defScope s_House_letters) .none kV_House_letters dc_House_letters pm_House_letters an_House_letters cd_House_letters ct_House_letters), sl_House_letters⟩)
    (c_House_letters : PySem.W.codeIn K cd_House_letters "House.letters" = true)
    (k_House_letters : PySem.W.keepIn K (.ref f_House_letters) = true)
    (fn_House_letters : PySem.W.isFn K (.ref f_House_letters) = true)
    (a_House_sender : PySem.W.findIn K (.ref C_House) "sender" = some (some (.ref f_House_sender)))
    (l_House_sender : K.lookup f_House_sender = some ⟨oc_House_sender, od_House_sender, .func (PySem.W.fnOf "sender" "House.sender" (defArgs s_House_sender) (defBody s_House_sender) (defScope s_House_sender) .none kV_House_sender dc_House_sender pm_House_sender an_House_sender cd_House_sender ct_House_sender), sl_House_sender⟩)
    (c_House_sender : PySem.W.codeIn K cd_House_sender "House.sender" = true)
    (k_House_sender : PySem.W.keepIn K (.ref f_House_sender) = true)
    (fn_House_sender : PySem.W.isFn K (.ref f_House_sender) = true)
    (a_House_text : PySem.W.findIn K (.ref C_House) "text" = some (some (.ref f_House_text)))
    (l_House_text : K.lookup f_House_text = some ⟨oc_House_text, od_House_text, .func (PySem.W.fnOf "text" "House.text" (defArgs s_House_text) (defBody s_House_text) (defScope s_House_text) .none kV_House_text dc_House_text pm_House_text an_House_text cd_House_text ct_House_text), sl_House_text⟩)
    (c_House_text : PySem.W.codeIn K cd_House_text "House.text" = true)
    (k_House_text : PySem.W.keepIn K (.ref f_House_text) = true)
    (fn_House_text : PySem.W.isFn K (.ref f_House_text) = true)
    (a_House_mark : PySem.W.findIn K (.ref C_House) "mark" = some (some (.ref f_House_mark)))
    (l_House_mark : K.lookup f_House_mark = some ⟨oc_House_mark, od_House_mark, .func (PySem.W.fnOf "mark" "House.mark" (defArgs s_House_mark) (defBody s_House_mark) (defScope s_House_mark) .none kV_House_mark dc_House_mark pm_House_mark an_House_mark cd_House_mark ct_House_mark), sl_House_mark⟩)
    (c_House_mark : PySem.W.codeIn K cd_House_mark "House.mark" = true)
    (k_House_mark : PySem.W.keepIn K (.ref f_House_mark) = true)
    (fn_House_mark : PySem.W.isFn K (.ref f_House_mark) = true)
    (a_House_handed : PySem.W.findIn K (.ref C_House) "handed" = some (some (.ref f_House_handed)))
    (l_House_handed : K.lookup f_House_handed = some ⟨oc_House_handed, od_House_handed, .func (PySem.W.fnOf "handed" "House.handed" (defArgs s_House_handed) (defBody s_House_handed) (defScope s_House_handed) .none kV_House_handed dc_House_handed pm_House_handed an_House_handed cd_House_handed ct_House_handed), sl_House_handed⟩)
    (c_House_handed : PySem.W.codeIn K cd_House_handed "House.handed" = true)
    (k_House_handed : PySem.W.keepIn K (.ref f_House_handed) = true)
    (fn_House_handed : PySem.W.isFn K (.ref f_House_handed) = true)
    (a_House_clock : PySem.W.findIn K (.ref C_House) "clock" = some (some (.ref f_House_clock)))
    (l_House_clock : K.lookup f_House_clock = some ⟨oc_House_clock, od_House_clock, .func (PySem.W.fnOf "clock" "House.clock" (defArgs s_House_clock) (defBody s_House_clock) (defScope s_House_clock) .none kV_House_clock dc_House_clock pm_House_clock an_House_clock cd_House_clock ct_House_clock), sl_House_clock⟩)
    (c_House_clock : PySem.W.codeIn K cd_House_clock "House.clock" = true)
    (k_House_clock : PySem.W.keepIn K (.ref f_House_clock) = true)
    (fn_House_clock : PySem.W.isFn K (.ref f_House_clock) = true)
    (mk_House : PySem.W.makesIn K C_House = true)
    (na_House_desks : PySem.W.findIn K (.ref C_House) "desks" = some none)
    (na_House_sent : PySem.W.findIn K (.ref C_House) "sent" = some none)
    (na_House_post : PySem.W.findIn K (.ref C_House) "post" = some none)
    (i_hn : PySem.W.specialIn K (.builtin "object.__class__") "__get__" = some (some (.builtin "getset_descriptor.__get__")))
    (i_ht : PySem.W.takesIn K (.builtin "object.__class__") = some true)
    (hd_BellError : PySem.W.hasDictIn K C_BellError = true)
    (hd_BadCount : PySem.W.hasDictIn K C_BadCount = true)
    (hd_NoHand : PySem.W.hasDictIn K C_NoHand = true)
    (hd_NoLetter : PySem.W.hasDictIn K C_NoLetter = true)
    (hd_NoMail : PySem.W.hasDictIn K C_NoMail = true)
    (hd_Twice : PySem.W.hasDictIn K C_Twice = true)
    (hd_NotOpen : PySem.W.hasDictIn K C_NotOpen = true)
    (hd_BadMark : PySem.W.hasDictIn K C_BadMark = true)
    (i_NoMail_hg : PySem.W.findIn K (.ref C_NoMail) "__getattribute__" = some (some (.builtin "BaseException.__getattribute__")))
    (i_NoMail_hk : PySem.W.findIn K (.ref C_NoMail) "__getattr__" = some none)
    (i_NoMail_ha : PySem.W.findIn K (.ref C_NoMail) "__class__" = some (some (.builtin "object.__class__")))
    (i_NoMail_hm : PySem.W.mroIn K C_NoMail (.type "object") = some true)
    (i_NoMail_v : PySem.W.subIn K (.ref C_NoMail) (.type "ValueError") = some true)
    (i_NoMail_b : PySem.W.subIn K (.ref C_NoMail) (.ref C_BellError) = some true)
    (i_NoMail_BadCount : PySem.W.subIn K (.ref C_NoMail) (.ref C_BadCount) = some false)
    (n_NoMail_BadCount : (C_NoMail == C_BadCount) = false)
    (i_NoMail_NoHand : PySem.W.subIn K (.ref C_NoMail) (.ref C_NoHand) = some false)
    (n_NoMail_NoHand : (C_NoMail == C_NoHand) = false)
    (i_NoMail_NoLetter : PySem.W.subIn K (.ref C_NoMail) (.ref C_NoLetter) = some false)
    (n_NoMail_NoLetter : (C_NoMail == C_NoLetter) = false)
    (i_NoMail_Twice : PySem.W.subIn K (.ref C_NoMail) (.ref C_Twice) = some false)
    (n_NoMail_Twice : (C_NoMail == C_Twice) = false)
    (i_NoMail_NotOpen : PySem.W.subIn K (.ref C_NoMail) (.ref C_NotOpen) = some false)
    (n_NoMail_NotOpen : (C_NoMail == C_NotOpen) = false)
    (i_NoMail_BadMark : PySem.W.subIn K (.ref C_NoMail) (.ref C_BadMark) = some false)
    (n_NoMail_BadMark : (C_NoMail == C_BadMark) = false)
    (z_max : PySem.W.nsIn K mainGlobals "max" = some none)
    (z_list : PySem.W.nsIn K mainGlobals "list" = some none)
    (z_isinstance : PySem.W.nsIn K mainGlobals "isinstance" = some none)
    (z_int : PySem.W.nsIn K mainGlobals "int" = some none)
    (z_bool : PySem.W.nsIn K mainGlobals "bool" = some none)
    (z_range : PySem.W.nsIn K mainGlobals "range" = some none)
    (z_len : PySem.W.nsIn K mainGlobals "len" = some none)
    (z_tuple : PySem.W.nsIn K mainGlobals "tuple" = some none)
    (z_str : PySem.W.nsIn K mainGlobals "str" = some none)
    (z_ValueError : PySem.W.nsIn K mainGlobals "ValueError" = some none)
    (z_min : PySem.W.nsIn K mainGlobals "min" = some none)
    (y_MOST_HANDS : PySem.W.nsIn K mainGlobals "MOST_HANDS" = some (some (.int 40 tk_MOST_HANDS))) :
    ∃ fd : FuncData, (∀ (s : Shared) (v : Value), BindsTo s fd ⟨[v], []⟩ [("_law_script", v)]) ∧ ∀ base : Heap, K.In base → base.Ns mainGlobals mg → FnOk l.prog w K mg base CX0 10 fa fd ["_law_script"] (sp_law K) := by
  have e := hfa.symm.trans (PySem.W.mg_of X G a24)
  cases e
  have F0 := fun_mk (st := s_less) l0 c0 k0
  have b0 := F0.binds (ps := ["one", "other"]) fun _ _ _ _ _ _ us hl => match us, hl with | [_, _], _ => rfl
  have F1 := fun_mk (st := s_greatest) l1 c1 k1
  have b1 := F1.binds (ps := ["marks"]) fun _ _ _ _ _ _ us hl => match us, hl with | [_], _ => rfl
  have F2 := fun_mk (st := s_is_place) l2 c2 k2
  have b2 := F2.binds (ps := ["thing", "many"]) fun _ _ _ _ _ _ us hl => match us, hl with | [_, _], _ => rfl
  have F3 := fun_mk (st := s_law_whole) l3 c3 k3
  have b3 := F3.binds (ps := ["_law_found"]) fun _ _ _ _ _ _ us hl => match us, hl with | [_], _ => rfl
  have F4 := fun_mk (st := s_law_cell_at) l4 c4 k4
  have b4 := F4.binds (ps := ["_law_script", "_law_k"]) fun _ _ _ _ _ _ us hl => match us, hl with | [_, _], _ => rfl
  have F5 := fun_mk (st := s_law_mark) l5 c5 k5
  have b5 := F5.binds (ps := ["_law_found"]) fun _ _ _ _ _ _ us hl => match us, hl with | [_], _ => rfl
  have F6 := fun_mk (st := s_law_mail) l6 c6 k6
  have b6 := F6.binds (ps := ["_law_found"]) fun _ _ _ _ _ _ us hl => match us, hl with | [_], _ => rfl
  have F7 := fun_mk (st := s_law_sign) l7 c7 k7
  have b7 := F7.binds (ps := ["_law_cell"]) fun _ _ _ _ _ _ us hl => match us, hl with | [_], _ => rfl
  have F8 := fun_mk (st := s_law_desk) l8 c8 k8
  have b8 := F8.binds (ps := ["_law_hand_here"]) fun _ _ _ _ _ _ us hl => match us, hl with | [_], _ => rfl
  have F9 := fun_mk (st := s_law_first) l9 c9 k9
  have b9 := F9.binds (ps := ["_law_d"]) fun _ _ _ _ _ _ us hl => match us, hl with | [_], _ => rfl
  have F10 := fun_mk (st := s_law_proposed) l10 c10 k10
  have b10 := F10.binds (ps := ["_law_d", "_law_letter_here"]) fun _ _ _ _ _ _ us hl => match us, hl with | [_, _], _ => rfl
  have F11 := fun_mk (st := s_law_settled) l11 c11 k11
  have b11 := F11.binds (ps := ["_law_d", "_law_letter_here", "_law_mark_here"]) fun _ _ _ _ _ _ us hl => match us, hl with | [_, _, _], _ => rfl
  have F12 := fun_mk (st := s_law_house) l12 c12 k12
  have b12 := F12.binds (ps := ["_law_many"]) fun _ _ _ _ _ _ us hl => match us, hl with | [_], _ => rfl
  have F13 := fun_mk (st := s_law_to_others) l13 c13 k13
  have b13 := F13.binds (ps := ["_law_h", "_law_word", "_law_letter_here", "_law_mark_here"]) fun _ _ _ _ _ _ us hl => match us, hl with | [_, _, _, _], _ => rfl
  have F14 := fun_mk (st := s_law_look) l14 c14 k14
  have b14 := F14.binds (ps := ["_law_h", "_law_letter_here"]) fun _ _ _ _ _ _ us hl => match us, hl with | [_, _], _ => rfl
  have F15 := fun_mk (st := s_law_sent) l15 c15 k15
  have b15 := F15.binds (ps := ["_law_h", "_law_hand_here", "_law_text"]) fun _ _ _ _ _ _ us hl => match us, hl with | [_, _, _], _ => rfl
  have F16 := fun_mk (st := s_law_brought) l16 c16 k16
  have b16 := F16.binds (ps := ["_law_h", "_law_place"]) fun _ _ _ _ _ _ us hl => match us, hl with | [_, _], _ => rfl
  have F17 := fun_mk (st := s_law_mails) l17 c17 k17
  have b17 := F17.binds (ps := ["_law_found", "_law_due"]) fun _ _ _ _ _ _ us hl => match us, hl with | [_, _], _ => rfl
  have F18 := fun_mk (st := s_law_row) l18 c18 k18
  have b18 := F18.binds (ps := ["_law_found", "_law_due"]) fun _ _ _ _ _ _ us hl => match us, hl with | [_, _], _ => rfl
  have F19 := fun_mk (st := s_law_hand) l19 c19 k19
  have b19 := F19.binds (ps := ["_law_house_here", "_law_h", "_law_hand_here"]) fun _ _ _ _ _ _ us hl => match us, hl with | [_, _, _], _ => rfl
  have F20 := fun_mk (st := s_law_missing) l20 c20 k20
  have b20 := F20.binds (ps := ["_law_house_here", "_law_place"]) fun _ _ _ _ _ _ us hl => match us, hl with | [_, _], _ => rfl
  have F21 := fun_mk (st := s_law_letter) l21 c21 k21
  have b21 := F21.binds (ps := ["_law_house_here", "_law_h", "_law_letter_here"]) fun _ _ _ _ _ _ us hl => match us, hl with | [_, _, _], _ => rfl
  have F22 := fun_mk (st := s_law_rested) l22 c22 k22
  have b22 := F22.binds (ps := ["_law_house_here", "_law_h"]) fun _ _ _ _ _ _ us hl => match us, hl with | [_, _], _ => rfl
  have F23 := fun_mk (st := s_law_step) l23 c23 k23
  have b23 := F23.binds (ps := ["_law_house_here", "_law_h", "_law_kind", "_law_cell"]) fun _ _ _ _ _ _ us hl => match us, hl with | [_, _, _, _], _ => rfl
  have F24 := fun_mk (st := s_law) l24 c24 k24
  have F_Desk___init__ := fun_mk (st := s_Desk___init__) l_Desk___init__ c_Desk___init__ k_Desk___init__
  have b_Desk___init__ := F_Desk___init__.binds (ps := ["self", "hand"]) fun _ _ _ _ _ _ us hl => match us, hl with | [_, _], _ => rfl
  have F_Desk_clock := fun_mk (st := s_Desk_clock) l_Desk_clock c_Desk_clock k_Desk_clock
  have b_Desk_clock := F_Desk_clock.binds (ps := ["self"]) fun _ _ _ _ _ _ us hl => match us, hl with | [_], _ => rfl
  have F_Desk_propose := fun_mk (st := s_Desk_propose) l_Desk_propose c_Desk_propose k_Desk_propose
  have b_Desk_propose := F_Desk_propose.binds (ps := ["self", "letter"]) fun _ _ _ _ _ _ us hl => match us, hl with | [_, _], _ => rfl
  have F_Desk_settle := fun_mk (st := s_Desk_settle) l_Desk_settle c_Desk_settle k_Desk_settle
  have b_Desk_settle := F_Desk_settle.binds (ps := ["self", "letter", "mark"]) fun _ _ _ _ _ _ us hl => match us, hl with | [_, _, _], _ => rfl
  have F_Desk_first := fun_mk (st := s_Desk_first) l_Desk_first c_Desk_first k_Desk_first
  have b_Desk_first := F_Desk_first.binds (ps := ["self"]) fun _ _ _ _ _ _ us hl => match us, hl with | [_], _ => rfl
  have F_Desk_hand_over := fun_mk (st := s_Desk_hand_over) l_Desk_hand_over c_Desk_hand_over k_Desk_hand_over
  have b_Desk_hand_over := F_Desk_hand_over.binds (ps := ["self"]) fun _ _ _ _ _ _ us hl => match us, hl with | [_], _ => rfl
  have F_Desk_handed := fun_mk (st := s_Desk_handed) l_Desk_handed c_Desk_handed k_Desk_handed
  have b_Desk_handed := F_Desk_handed.binds (ps := ["self"]) fun _ _ _ _ _ _ us hl => match us, hl with | [_], _ => rfl
  have F_Letter___init__ := fun_mk (st := s_Letter___init__) l_Letter___init__ c_Letter___init__ k_Letter___init__
  have b_Letter___init__ := F_Letter___init__.binds (ps := ["self", "writer", "words"]) fun _ _ _ _ _ _ us hl => match us, hl with | [_, _, _], _ => rfl
  have F_House___init__ := fun_mk (st := s_House___init__) l_House___init__ c_House___init__ k_House___init__
  have b_House___init__ := F_House___init__.binds (ps := ["self", "many"]) fun _ _ _ _ _ _ us hl => match us, hl with | [_, _], _ => rfl
  have F_House_need_hand := fun_mk (st := s_House_need_hand) l_House_need_hand c_House_need_hand k_House_need_hand
  have b_House_need_hand := F_House_need_hand.binds (ps := ["self", "hand"]) fun _ _ _ _ _ _ us hl => match us, hl with | [_, _], _ => rfl
  have F_House_need_letter := fun_mk (st := s_House_need_letter) l_House_need_letter c_House_need_letter k_House_need_letter
  have b_House_need_letter := F_House_need_letter.binds (ps := ["self", "letter"]) fun _ _ _ _ _ _ us hl => match us, hl with | [_, _], _ => rfl
  have F_House_send := fun_mk (st := s_House_send) l_House_send c_House_send k_House_send
  have b_House_send := F_House_send.binds (ps := ["self", "hand", "text"]) fun _ _ _ _ _ _ us hl => match us, hl with | [_, _, _], _ => rfl
  have F_House_to_others := fun_mk (st := s_House_to_others) l_House_to_others c_House_to_others k_House_to_others
  have b_House_to_others := F_House_to_others.binds (ps := ["self", "word", "letter", "mark"]) fun _ _ _ _ _ _ us hl => match us, hl with | [_, _, _, _], _ => rfl
  have F_House_look := fun_mk (st := s_House_look) l_House_look c_House_look k_House_look
  have b_House_look := F_House_look.binds (ps := ["self", "letter"]) fun _ _ _ _ _ _ us hl => match us, hl with | [_, _], _ => rfl
  have F_House_mails := fun_mk (st := s_House_mails) l_House_mails c_House_mails k_House_mails
  have b_House_mails := F_House_mails.binds (ps := ["self"]) fun _ _ _ _ _ _ us hl => match us, hl with | [_], _ => rfl
  have F_House_bring := fun_mk (st := s_House_bring) l_House_bring c_House_bring k_House_bring
  have b_House_bring := F_House_bring.binds (ps := ["self", "place"]) fun _ _ _ _ _ _ us hl => match us, hl with | [_, _], _ => rfl
  have F_House_rest := fun_mk (st := s_House_rest) l_House_rest c_House_rest k_House_rest
  have b_House_rest := F_House_rest.binds (ps := ["self"]) fun _ _ _ _ _ _ us hl => match us, hl with | [_], _ => rfl
  have F_House_letters := fun_mk (st := s_House_letters) l_House_letters c_House_letters k_House_letters
  have b_House_letters := F_House_letters.binds (ps := ["self"]) fun _ _ _ _ _ _ us hl => match us, hl with | [_], _ => rfl
  have F_House_sender := fun_mk (st := s_House_sender) l_House_sender c_House_sender k_House_sender
  have b_House_sender := F_House_sender.binds (ps := ["self", "letter"]) fun _ _ _ _ _ _ us hl => match us, hl with | [_, _], _ => rfl
  have F_House_text := fun_mk (st := s_House_text) l_House_text c_House_text k_House_text
  have b_House_text := F_House_text.binds (ps := ["self", "letter"]) fun _ _ _ _ _ _ us hl => match us, hl with | [_, _], _ => rfl
  have F_House_mark := fun_mk (st := s_House_mark) l_House_mark c_House_mark k_House_mark
  have b_House_mark := F_House_mark.binds (ps := ["self", "letter"]) fun _ _ _ _ _ _ us hl => match us, hl with | [_, _], _ => rfl
  have F_House_handed := fun_mk (st := s_House_handed) l_House_handed c_House_handed k_House_handed
  have b_House_handed := F_House_handed.binds (ps := ["self", "hand"]) fun _ _ _ _ _ _ us hl => match us, hl with | [_, _], _ => rfl
  have F_House_clock := fun_mk (st := s_House_clock) l_House_clock c_House_clock k_House_clock
  have b_House_clock := F_House_clock.binds (ps := ["self", "hand"]) fun _ _ _ _ _ _ us hl => match us, hl with | [_, _], _ => rfl
  have T : Tx K mg ⟨C_BellError, C_BadCount, C_NoHand, C_NoLetter, C_NoMail, C_Twice, C_NotOpen, C_BadMark, C_Desk, C_Letter, C_House⟩ := ⟨⟨PySem.W.mg_of X G g_BellError, e_BellError, x_BellError, s_BellError, t_BellError⟩, ⟨PySem.W.mg_of X G g_BadCount, e_BadCount, x_BadCount, s_BadCount, t_BadCount⟩, ⟨PySem.W.mg_of X G g_NoHand, e_NoHand, x_NoHand, s_NoHand, t_NoHand⟩, ⟨PySem.W.mg_of X G g_NoLetter, e_NoLetter, x_NoLetter, s_NoLetter, t_NoLetter⟩, ⟨PySem.W.mg_of X G g_NoMail, e_NoMail, x_NoMail, s_NoMail, t_NoMail⟩, ⟨PySem.W.mg_of X G g_Twice, e_Twice, x_Twice, s_Twice, t_Twice⟩, ⟨PySem.W.mg_of X G g_NotOpen, e_NotOpen, x_NotOpen, s_NotOpen, t_NotOpen⟩, ⟨PySem.W.mg_of X G g_BadMark, e_BadMark, x_BadMark, s_BadMark, t_BadMark⟩, ⟨⟨i_NoMail_hg, i_NoMail_hk, s_NoMail, hd_NoMail, i_NoMail_ha, i_hn, i_ht, i_NoMail_hm⟩, kitV i_NoMail_v, PySem.W.exm_ref s_BellError hd_BellError t_BellError i_NoMail_b, kitF hd_BadCount t_BadCount i_NoMail_BadCount (kitN n_NoMail_BadCount), kitF hd_NoHand t_NoHand i_NoMail_NoHand (kitN n_NoMail_NoHand), kitF hd_NoLetter t_NoLetter i_NoMail_NoLetter (kitN n_NoMail_NoLetter), kitR, kitF hd_Twice t_Twice i_NoMail_Twice (kitN n_NoMail_Twice), kitF hd_NotOpen t_NotOpen i_NoMail_NotOpen (kitN n_NoMail_NotOpen), kitF hd_BadMark t_BadMark i_NoMail_BadMark (kitN n_NoMail_BadMark)⟩, ⟨_, _, F0, PySem.W.mg_of X G a0, b0⟩, ⟨_, _, F1, PySem.W.mg_of X G a1, b1⟩, ⟨_, _, F2, PySem.W.mg_of X G a2, b2⟩, ⟨_, _, F3, PySem.W.mg_of X G a3, b3⟩, ⟨_, _, F4, PySem.W.mg_of X G a4, b4⟩, ⟨_, _, F5, PySem.W.mg_of X G a5, b5⟩, ⟨_, _, F6, PySem.W.mg_of X G a6, b6⟩, ⟨_, _, F7, PySem.W.mg_of X G a7, b7⟩, ⟨_, _, F8, PySem.W.mg_of X G a8, b8⟩, ⟨_, _, F9, PySem.W.mg_of X G a9, b9⟩, ⟨_, _, F10, PySem.W.mg_of X G a10, b10⟩, ⟨_, _, F11, PySem.W.mg_of X G a11, b11⟩, ⟨_, _, F12, PySem.W.mg_of X G a12, b12⟩, ⟨_, _, F13, PySem.W.mg_of X G a13, b13⟩, ⟨_, _, F14, PySem.W.mg_of X G a14, b14⟩, ⟨_, _, F15, PySem.W.mg_of X G a15, b15⟩, ⟨_, _, F16, PySem.W.mg_of X G a16, b16⟩, ⟨_, _, F17, PySem.W.mg_of X G a17, b17⟩, ⟨_, _, F18, PySem.W.mg_of X G a18, b18⟩, ⟨_, _, F19, PySem.W.mg_of X G a19, b19⟩, ⟨_, _, F20, PySem.W.mg_of X G a20, b20⟩, ⟨_, _, F21, PySem.W.mg_of X G a21, b21⟩, ⟨_, _, F22, PySem.W.mg_of X G a22, b22⟩, ⟨_, _, F23, PySem.W.mg_of X G a23, b23⟩, PySem.W.mg_of X G g_Desk, ⟨pg_Desk, hd_Desk, po_Desk, sa_Desk⟩, ⟨_, _, ⟨mk_Desk, a_Desk___init__, fn_Desk___init__, e_Desk⟩, F_Desk___init__, b_Desk___init__⟩, ⟨_, _, F_Desk_clock, ⟨a_Desk_clock, fn_Desk_clock, k_Desk_clock⟩, b_Desk_clock⟩, ⟨_, _, F_Desk_propose, ⟨a_Desk_propose, fn_Desk_propose, k_Desk_propose⟩, b_Desk_propose⟩, ⟨_, _, F_Desk_settle, ⟨a_Desk_settle, fn_Desk_settle, k_Desk_settle⟩, b_Desk_settle⟩, ⟨_, _, F_Desk_first, ⟨a_Desk_first, fn_Desk_first, k_Desk_first⟩, b_Desk_first⟩, ⟨_, _, F_Desk_hand_over, ⟨a_Desk_hand_over, fn_Desk_hand_over, k_Desk_hand_over⟩, b_Desk_hand_over⟩, ⟨_, _, F_Desk_handed, ⟨a_Desk_handed, fn_Desk_handed, k_Desk_handed⟩, b_Desk_handed⟩, na_Desk_hand, na_Desk_time, na_Desk_known, na_Desk_marked, na_Desk_done, na_Desk_row, PySem.W.mg_of X G g_Letter, ⟨pg_Letter, hd_Letter, po_Letter, sa_Letter⟩, ⟨_, _, ⟨mk_Letter, a_Letter___init__, fn_Letter___init__, e_Letter⟩, F_Letter___init__, b_Letter___init__⟩, na_Letter_writer, na_Letter_words, na_Letter_numbers, na_Letter_final, PySem.W.mg_of X G g_House, ⟨pg_House, hd_House, po_House, sa_House⟩, ⟨_, _, ⟨mk_House, a_House___init__, fn_House___init__, e_House⟩, F_House___init__, b_House___init__⟩, ⟨_, _, F_House_need_hand, ⟨a_House_need_hand, fn_House_need_hand, k_House_need_hand⟩, b_House_need_hand⟩, ⟨_, _, F_House_need_letter, ⟨a_House_need_letter, fn_House_need_letter, k_House_need_letter⟩, b_House_need_letter⟩, ⟨_, _, F_House_send, ⟨a_House_send, fn_House_send, k_House_send⟩, b_House_send⟩, ⟨_, _, F_House_to_others, ⟨a_House_to_others, fn_House_to_others, k_House_to_others⟩, b_House_to_others⟩, ⟨_, _, F_House_look, ⟨a_House_look, fn_House_look, k_House_look⟩, b_House_look⟩, ⟨_, _, F_House_mails, ⟨a_House_mails, fn_House_mails, k_House_mails⟩, b_House_mails⟩, ⟨_, _, F_House_bring, ⟨a_House_bring, fn_House_bring, k_House_bring⟩, b_House_bring⟩, ⟨_, _, F_House_rest, ⟨a_House_rest, fn_House_rest, k_House_rest⟩, b_House_rest⟩, ⟨_, _, F_House_letters, ⟨a_House_letters, fn_House_letters, k_House_letters⟩, b_House_letters⟩, ⟨_, _, F_House_sender, ⟨a_House_sender, fn_House_sender, k_House_sender⟩, b_House_sender⟩, ⟨_, _, F_House_text, ⟨a_House_text, fn_House_text, k_House_text⟩, b_House_text⟩, ⟨_, _, F_House_mark, ⟨a_House_mark, fn_House_mark, k_House_mark⟩, b_House_mark⟩, ⟨_, _, F_House_handed, ⟨a_House_handed, fn_House_handed, k_House_handed⟩, b_House_handed⟩, ⟨_, _, F_House_clock, ⟨a_House_clock, fn_House_clock, k_House_clock⟩, b_House_clock⟩, na_House_desks, na_House_sent, na_House_post, PySem.W.mg_none_of X G z_max, PySem.W.mg_none_of X G z_list, PySem.W.mg_none_of X G z_isinstance, PySem.W.mg_none_of X G z_int, PySem.W.mg_none_of X G z_bool, PySem.W.mg_none_of X G z_range, PySem.W.mg_none_of X G z_len, PySem.W.mg_none_of X G z_tuple, PySem.W.mg_none_of X G z_str, PySem.W.mg_none_of X G z_ValueError, PySem.W.mg_none_of X G z_min, ⟨_, PySem.W.mg_of X G y_MOST_HANDS⟩⟩
  exact ⟨PySem.W.fnOf "law" "law" (defArgs s_law) (defBody s_law) (defScope s_law) .none kV24 dc24 pm24 an24 cd24 ct24, fun s v => .of_eq rfl, fun base _ _ => ok_law T F24⟩
theorem walk {l : PySem.W.OpenLaw} {q : Program} {loose : List Str} {XP : (Str → Option Value) → Heap → Prop} {YP : World → Heap → Prop} {d : DefRec} {K : Params → PySem.W.Frag} (hn : l.most = some 63) (hdf : d.params.defaults = [])
    (hY : ∀ (w : World) (h : Heap), YP w h → (K w.params).In h)
    (F : ∀ (w : World) (mg : Str → Option Value) (fa : Addr) (h : Heap), (K w.params).In h → h.Ns mainGlobals mg → mg d.name = some (.ref fa) →
      ∃ fd : FuncData, (∀ (s : Shared) (u : Value), BindsTo s fd ⟨[u], []⟩ [("_law_script", u)]) ∧ ∀ base : Heap, (K w.params).In base → base.Ns mainGlobals mg → FnOk l.prog w (K w.params) mg base CX0 10 fa fd ["_law_script"] (sp_law (K w.params))) :
    PySem.W.WalkO q loose XP YP l.row.toRowW d [] (fun f vs => PySem.call f vs) :=
  L2.walk_of (n := 63) (k := 10) (x := "_law_script") (CX := fun _ => CX0) (sp := fun w => sp_law (K w.params)) hn (by decide) hdf ⟨rfl, by decide, by decide⟩ hY F (fun _ _ a ns hl _ hS => ⟨a, ns, rfl, hS, hl, fun _ => rfl⟩) fun _ _ _ _ _ z => z
end K8
open PySem PySem.W PyProof.Rows
set_option maxRecDepth 100000 in
set_option maxHeartbeats 0 in
theorem PySem.Challenge.cw_onebell_k08_whole_every_history_holds : PySem.Challenge.rw_onebell_k08_whole_every_history.Holds := by
  w_on; o_law; k_head; (case hw => w_witness2)
  k_fill
  refine K8.walk (l := PySem.Challenge.rw_onebell_k08_whole_every_history) rfl rfl (fun w h Y => PySem.W.kIn_of Y) ?F
  case F =>
    intro w mg fa h KX G hmg
    refine' K8.all_mk KX G hmg ?a0 ?l0 ?c0 ?k0 ?a1 ?l1 ?c1 ?k1 ?a2 ?l2 ?c2 ?k2 ?a3 ?l3 ?c3 ?k3 ?a4 ?l4 ?c4 ?k4 ?a5 ?l5 ?c5 ?k5 ?a6 ?l6 ?c6 ?k6 ?a7 ?l7 ?c7 ?k7 ?a8 ?l8 ?c8 ?k8 ?a9 ?l9 ?c9 ?k9 ?a10 ?l10 ?c10 ?k10 ?a11 ?l11 ?c11 ?k11 ?a12 ?l12 ?c12 ?k12 ?a13 ?l13 ?c13 ?k13 ?a14 ?l14 ?c14 ?k14 ?a15 ?l15 ?c15 ?k15 ?a16 ?l16 ?c16 ?k16 ?a17 ?l17 ?c17 ?k17 ?a18 ?l18 ?c18 ?k18 ?a19 ?l19 ?c19 ?k19 ?a20 ?l20 ?c20 ?k20 ?a21 ?l21 ?c21 ?k21 ?a22 ?l22 ?c22 ?k22 ?a23 ?l23 ?c23 ?k23 ?a24 ?l24 ?c24 ?k24 ?g_BellError ?e_BellError ?x_BellError ?s_BellError ?t_BellError ?g_BadCount ?e_BadCount ?x_BadCount ?s_BadCount ?t_BadCount ?g_NoHand ?e_NoHand ?x_NoHand ?s_NoHand ?t_NoHand ?g_NoLetter ?e_NoLetter ?x_NoLetter ?s_NoLetter ?t_NoLetter ?g_NoMail ?e_NoMail ?x_NoMail ?s_NoMail ?t_NoMail ?g_Twice ?e_Twice ?x_Twice ?s_Twice ?t_Twice ?g_NotOpen ?e_NotOpen ?x_NotOpen ?s_NotOpen ?t_NotOpen ?g_BadMark ?e_BadMark ?x_BadMark ?s_BadMark ?t_BadMark ?g_Desk ?e_Desk ?g_Letter ?e_Letter ?g_House ?e_House ?pg_Desk ?hd_Desk ?po_Desk ?sa_Desk ?a_Desk___init__ ?l_Desk___init__ ?c_Desk___init__ ?k_Desk___init__ ?fn_Desk___init__ ?a_Desk_clock ?l_Desk_clock ?c_Desk_clock ?k_Desk_clock ?fn_Desk_clock ?a_Desk_propose ?l_Desk_propose ?c_Desk_propose ?k_Desk_propose ?fn_Desk_propose ?a_Desk_settle ?l_Desk_settle ?c_Desk_settle ?k_Desk_settle ?fn_Desk_settle ?a_Desk_first ?l_Desk_first ?c_Desk_first ?k_Desk_first ?fn_Desk_first ?a_Desk_hand_over ?l_Desk_hand_over ?c_Desk_hand_over ?k_Desk_hand_over ?fn_Desk_hand_over ?a_Desk_handed ?l_Desk_handed ?c_Desk_handed ?k_Desk_handed ?fn_Desk_handed ?mk_Desk ?na_Desk_hand ?na_Desk_time ?na_Desk_known ?na_Desk_marked ?na_Desk_done ?na_Desk_row ?pg_Letter ?hd_Letter ?po_Letter ?sa_Letter ?a_Letter___init__ ?l_Letter___init__ ?c_Letter___init__ ?k_Letter___init__ ?fn_Letter___init__ ?mk_Letter ?na_Letter_writer ?na_Letter_words ?na_Letter_numbers ?na_Letter_final ?pg_House ?hd_House ?po_House ?sa_House ?a_House___init__ ?l_House___init__ ?c_House___init__ ?k_House___init__ ?fn_House___init__ ?a_House_need_hand ?l_House_need_hand ?c_House_need_hand ?k_House_need_hand ?fn_House_need_hand ?a_House_need_letter ?l_House_need_letter ?c_House_need_letter ?k_House_need_letter ?fn_House_need_letter ?a_House_send ?l_House_send ?c_House_send ?k_House_send ?fn_House_send ?a_House_to_others ?l_House_to_others ?c_House_to_others ?k_House_to_others ?fn_House_to_others ?a_House_look ?l_House_look ?c_House_look ?k_House_look ?fn_House_look ?a_House_mails ?l_House_mails ?c_House_mails ?k_House_mails ?fn_House_mails ?a_House_bring ?l_House_bring ?c_House_bring ?k_House_bring ?fn_House_bring ?a_House_rest ?l_House_rest ?c_House_rest ?k_House_rest ?fn_House_rest ?a_House_letters ?l_House_letters ?c_House_letters ?k_House_letters ?fn_House_letters ?a_House_sender ?l_House_sender ?c_House_sender ?k_House_sender ?fn_House_sender ?a_House_text ?l_House_text ?c_House_text ?k_House_text ?fn_House_text ?a_House_mark ?l_House_mark ?c_House_mark ?k_House_mark ?fn_House_mark ?a_House_handed ?l_House_handed ?c_House_handed ?k_House_handed ?fn_House_handed ?a_House_clock ?l_House_clock ?c_House_clock ?k_House_clock ?fn_House_clock ?mk_House ?na_House_desks ?na_House_sent ?na_House_post ?i_hn ?i_ht ?hd_BellError ?hd_BadCount ?hd_NoHand ?hd_NoLetter ?hd_NoMail ?hd_Twice ?hd_NotOpen ?hd_BadMark ?i_NoMail_hg ?i_NoMail_hk ?i_NoMail_ha ?i_NoMail_hm ?i_NoMail_v ?i_NoMail_b ?i_NoMail_BadCount ?n_NoMail_BadCount ?i_NoMail_NoHand ?n_NoMail_NoHand ?i_NoMail_NoLetter ?n_NoMail_NoLetter ?i_NoMail_Twice ?n_NoMail_Twice ?i_NoMail_NotOpen ?n_NoMail_NotOpen ?i_NoMail_BadMark ?n_NoMail_BadMark ?z_max ?z_list ?z_isinstance ?z_int ?z_bool ?z_range ?z_len ?z_tuple ?z_str ?z_ValueError ?z_min ?y_MOST_HANDS
    (case a0 => k_is)
    (case l0 => k_is)
    (case c0 => k_is)
    (case k0 => k_is)
    (case a1 => k_is)
    (case l1 => k_is)
    (case c1 => k_is)
    (case k1 => k_is)
    (case a2 => k_is)
    (case l2 => k_is)
    (case c2 => k_is)
    (case k2 => k_is)
    (case a3 => k_is)
    (case l3 => k_is)
    (case c3 => k_is)
    (case k3 => k_is)
    (case a4 => k_is)
    (case l4 => k_is)
    (case c4 => k_is)
    (case k4 => k_is)
    (case a5 => k_is)
    (case l5 => k_is)
    (case c5 => k_is)
    (case k5 => k_is)
    (case a6 => k_is)
    (case l6 => k_is)
    (case c6 => k_is)
    (case k6 => k_is)
    (case a7 => k_is)
    (case l7 => k_is)
    (case c7 => k_is)
    (case k7 => k_is)
    (case a8 => k_is)
    (case l8 => k_is)
    (case c8 => k_is)
    (case k8 => k_is)
    (case a9 => k_is)
    (case l9 => k_is)
    (case c9 => k_is)
    (case k9 => k_is)
    (case a10 => k_is)
    (case l10 => k_is)
    (case c10 => k_is)
    (case k10 => k_is)
    (case a11 => k_is)
    (case l11 => k_is)
    (case c11 => k_is)
    (case k11 => k_is)
    (case a12 => k_is)
    (case l12 => k_is)
    (case c12 => k_is)
    (case k12 => k_is)
    (case a13 => k_is)
    (case l13 => k_is)
    (case c13 => k_is)
    (case k13 => k_is)
    (case a14 => k_is)
    (case l14 => k_is)
    (case c14 => k_is)
    (case k14 => k_is)
    (case a15 => k_is)
    (case l15 => k_is)
    (case c15 => k_is)
    (case k15 => k_is)
    (case a16 => k_is)
    (case l16 => k_is)
    (case c16 => k_is)
    (case k16 => k_is)
    (case a17 => k_is)
    (case l17 => k_is)
    (case c17 => k_is)
    (case k17 => k_is)
    (case a18 => k_is)
    (case l18 => k_is)
    (case c18 => k_is)
    (case k18 => k_is)
    (case a19 => k_is)
    (case l19 => k_is)
    (case c19 => k_is)
    (case k19 => k_is)
    (case a20 => k_is)
    (case l20 => k_is)
    (case c20 => k_is)
    (case k20 => k_is)
    (case a21 => k_is)
    (case l21 => k_is)
    (case c21 => k_is)
    (case k21 => k_is)
    (case a22 => k_is)
    (case l22 => k_is)
    (case c22 => k_is)
    (case k22 => k_is)
    (case a23 => k_is)
    (case l23 => k_is)
    (case c23 => k_is)
    (case k23 => k_is)
    (case a24 => k_is)
    (case l24 => k_is)
    (case c24 => k_is)
    (case k24 => k_is)
    (case g_BellError => k_is)
    (case e_BellError => k_is)
    (case x_BellError => k_exc)
    (case s_BellError => k_is)
    (case t_BellError => k_is)
    (case g_BadCount => k_is)
    (case e_BadCount => k_is)
    (case x_BadCount => k_exc)
    (case s_BadCount => k_is)
    (case t_BadCount => k_is)
    (case g_NoHand => k_is)
    (case e_NoHand => k_is)
    (case x_NoHand => k_exc)
    (case s_NoHand => k_is)
    (case t_NoHand => k_is)
    (case g_NoLetter => k_is)
    (case e_NoLetter => k_is)
    (case x_NoLetter => k_exc)
    (case s_NoLetter => k_is)
    (case t_NoLetter => k_is)
    (case g_NoMail => k_is)
    (case e_NoMail => k_is)
    (case x_NoMail => k_exc)
    (case s_NoMail => k_is)
    (case t_NoMail => k_is)
    (case g_Twice => k_is)
    (case e_Twice => k_is)
    (case x_Twice => k_exc)
    (case s_Twice => k_is)
    (case t_Twice => k_is)
    (case g_NotOpen => k_is)
    (case e_NotOpen => k_is)
    (case x_NotOpen => k_exc)
    (case s_NotOpen => k_is)
    (case t_NotOpen => k_is)
    (case g_BadMark => k_is)
    (case e_BadMark => k_is)
    (case x_BadMark => k_exc)
    (case s_BadMark => k_is)
    (case t_BadMark => k_is)
    (case g_Desk => k_is)
    (case e_Desk => k_is)
    (case g_Letter => k_is)
    (case e_Letter => k_is)
    (case g_House => k_is)
    (case e_House => k_is)
    (case pg_Desk => k_is)
    (case hd_Desk => k_is)
    (case po_Desk => k_is)
    (case sa_Desk => k_is)
    (case a_Desk___init__ => k_is)
    (case l_Desk___init__ => k_is)
    (case c_Desk___init__ => k_is)
    (case k_Desk___init__ => k_is)
    (case fn_Desk___init__ => k_is)
    (case a_Desk_clock => k_is)
    (case l_Desk_clock => k_is)
    (case c_Desk_clock => k_is)
    (case k_Desk_clock => k_is)
    (case fn_Desk_clock => k_is)
    (case a_Desk_propose => k_is)
    (case l_Desk_propose => k_is)
    (case c_Desk_propose => k_is)
    (case k_Desk_propose => k_is)
    (case fn_Desk_propose => k_is)
    (case a_Desk_settle => k_is)
    (case l_Desk_settle => k_is)
    (case c_Desk_settle => k_is)
    (case k_Desk_settle => k_is)
    (case fn_Desk_settle => k_is)
    (case a_Desk_first => k_is)
    (case l_Desk_first => k_is)
    (case c_Desk_first => k_is)
    (case k_Desk_first => k_is)
    (case fn_Desk_first => k_is)
    (case a_Desk_hand_over => k_is)
    (case l_Desk_hand_over => k_is)
    (case c_Desk_hand_over => k_is)
    (case k_Desk_hand_over => k_is)
    (case fn_Desk_hand_over => k_is)
    (case a_Desk_handed => k_is)
    (case l_Desk_handed => k_is)
    (case c_Desk_handed => k_is)
    (case k_Desk_handed => k_is)
    (case fn_Desk_handed => k_is)
    (case mk_Desk => k_is)
    (case na_Desk_hand => k_is)
    (case na_Desk_time => k_is)
    (case na_Desk_known => k_is)
    (case na_Desk_marked => k_is)
    (case na_Desk_done => k_is)
    (case na_Desk_row => k_is)
    (case pg_Letter => k_is)
    (case hd_Letter => k_is)
    (case po_Letter => k_is)
    (case sa_Letter => k_is)
    (case a_Letter___init__ => k_is)
    (case l_Letter___init__ => k_is)
    (case c_Letter___init__ => k_is)
    (case k_Letter___init__ => k_is)
    (case fn_Letter___init__ => k_is)
    (case mk_Letter => k_is)
    (case na_Letter_writer => k_is)
    (case na_Letter_words => k_is)
    (case na_Letter_numbers => k_is)
    (case na_Letter_final => k_is)
    (case pg_House => k_is)
    (case hd_House => k_is)
    (case po_House => k_is)
    (case sa_House => k_is)
    (case a_House___init__ => k_is)
    (case l_House___init__ => k_is)
    (case c_House___init__ => k_is)
    (case k_House___init__ => k_is)
    (case fn_House___init__ => k_is)
    (case a_House_need_hand => k_is)
    (case l_House_need_hand => k_is)
    (case c_House_need_hand => k_is)
    (case k_House_need_hand => k_is)
    (case fn_House_need_hand => k_is)
    (case a_House_need_letter => k_is)
    (case l_House_need_letter => k_is)
    (case c_House_need_letter => k_is)
    (case k_House_need_letter => k_is)
    (case fn_House_need_letter => k_is)
    (case a_House_send => k_is)
    (case l_House_send => k_is)
    (case c_House_send => k_is)
    (case k_House_send => k_is)
    (case fn_House_send => k_is)
    (case a_House_to_others => k_is)
    (case l_House_to_others => k_is)
    (case c_House_to_others => k_is)
    (case k_House_to_others => k_is)
    (case fn_House_to_others => k_is)
    (case a_House_look => k_is)
    (case l_House_look => k_is)
    (case c_House_look => k_is)
    (case k_House_look => k_is)
    (case fn_House_look => k_is)
    (case a_House_mails => k_is)
    (case l_House_mails => k_is)
    (case c_House_mails => k_is)
    (case k_House_mails => k_is)
    (case fn_House_mails => k_is)
    (case a_House_bring => k_is)
    (case l_House_bring => k_is)
    (case c_House_bring => k_is)
    (case k_House_bring => k_is)
    (case fn_House_bring => k_is)
    (case a_House_rest => k_is)
    (case l_House_rest => k_is)
    (case c_House_rest => k_is)
    (case k_House_rest => k_is)
    (case fn_House_rest => k_is)
    (case a_House_letters => k_is)
    (case l_House_letters => k_is)
    (case c_House_letters => k_is)
    (case k_House_letters => k_is)
    (case fn_House_letters => k_is)
    (case a_House_sender => k_is)
    (case l_House_sender => k_is)
    (case c_House_sender => k_is)
    (case k_House_sender => k_is)
    (case fn_House_sender => k_is)
    (case a_House_text => k_is)
    (case l_House_text => k_is)
    (case c_House_text => k_is)
    (case k_House_text => k_is)
    (case fn_House_text => k_is)
    (case a_House_mark => k_is)
    (case l_House_mark => k_is)
    (case c_House_mark => k_is)
    (case k_House_mark => k_is)
    (case fn_House_mark => k_is)
    (case a_House_handed => k_is)
    (case l_House_handed => k_is)
    (case c_House_handed => k_is)
    (case k_House_handed => k_is)
    (case fn_House_handed => k_is)
    (case a_House_clock => k_is)
    (case l_House_clock => k_is)
    (case c_House_clock => k_is)
    (case k_House_clock => k_is)
    (case fn_House_clock => k_is)
    (case mk_House => k_is)
    (case na_House_desks => k_is)
    (case na_House_sent => k_is)
    (case na_House_post => k_is)
    (case i_hn => k_is)
    (case i_ht => k_is)
    (case hd_BellError => k_is)
    (case hd_BadCount => k_is)
    (case hd_NoHand => k_is)
    (case hd_NoLetter => k_is)
    (case hd_NoMail => k_is)
    (case hd_Twice => k_is)
    (case hd_NotOpen => k_is)
    (case hd_BadMark => k_is)
    (case i_NoMail_hg => k_is)
    (case i_NoMail_hk => k_is)
    (case i_NoMail_ha => k_is)
    (case i_NoMail_hm => k_is)
    (case i_NoMail_v => k_is)
    (case i_NoMail_b => k_is)
    (case i_NoMail_BadCount => k_is)
    (case n_NoMail_BadCount => rfl)
    (case i_NoMail_NoHand => k_is)
    (case n_NoMail_NoHand => rfl)
    (case i_NoMail_NoLetter => k_is)
    (case n_NoMail_NoLetter => rfl)
    (case i_NoMail_Twice => k_is)
    (case n_NoMail_Twice => rfl)
    (case i_NoMail_NotOpen => k_is)
    (case n_NoMail_NotOpen => rfl)
    (case i_NoMail_BadMark => k_is)
    (case n_NoMail_BadMark => rfl)
    (case z_max => k_is)
    (case z_list => k_is)
    (case z_isinstance => k_is)
    (case z_int => k_is)
    (case z_bool => k_is)
    (case z_range => k_is)
    (case z_len => k_is)
    (case z_tuple => k_is)
    (case z_str => k_is)
    (case z_ValueError => k_is)
    (case z_min => k_is)
    (case y_MOST_HANDS => k_is)
#print axioms PySem.Challenge.cw_onebell_k08_whole_every_history_holds

