import PyProof.Rows.All
import Wide.All
import OpenK.AllK
import Wide.FinOn
import HandS.ForMost
import HandS.Evl
import HandS.Walk
import HandS.Codes
import HandS.Deep
import HandS.TupAny
import HandS.Conv
import HandS.Strs
import HandS.ExcOwn
import HandS.IsInst
import HandS.DictComp
import HandS.Style
import HandS.WideBits
import HandS.Replace
import HandS.StrMore
import PyProof.ListStr
import PyProof.Rows.SortStr
import KE.GoesMore
import KE.GoesEnum
import PyProof.ReprRoads
import PySem.Challenge.RW_webreckon_k44_whole_heaps_in_debt
set_option Elab.async false
set_option linter.all false
set_option maxRecDepth 100000
set_option maxHeartbeats 4000000
/-! KxBase -/
/-! The known part of the heap (B) beside the heap (H); what evaluates to what, told over the known part. -/
namespace Kx
open PySem L2 Evl

/-- a watched object: known now, it may be changed -/
def wat (u : HO) : HO := .frz { cls := .none, data := .fields #[] } u
def untag : HO → HO
  | .frz _ u => u
  | u => u
/-- what is known of a heap -/
def Sub (B H : Hp) : Prop := ∀ a u, B a = some u → H a = some (untag u)
theorem _root_.Evl.Ex.su {B B1 H : Hp} (a : Ex B B1) (b : Sub B1 H) : Sub B H := fun x u q => b x u (a x u q)
theorem Sub.trans {B H H' : Hp} (a : Sub B H) (b : Ex H H') : Sub B H' := fun x u q => b x _ (a x u q)
theorem sub_back {H H' : Hp} {p : Addr} (e : Sub H H') (h : H' p = none) : H p = none := by
  cases h1 : H p with
  | none => rfl
  | some o =>
    rw [e p o h1] at h
    cases h
/-- from known B in heap H to known B' in heap H': nothing is lost, and what the heap had beside the known part stays unknown -/
structure Gr (B H B' H' : Hp) : Prop where
  b : Ex B B'
  h : Ex H H'
  s : Sub B' H'
  n : ∀ a, B a = none → H a ≠ none → B' a = none
theorem Gr.refl {B H : Hp} (e : Sub B H) : Gr B H B H := ⟨Ex.refl _, Ex.refl _, e, fun _ h _ => h⟩
theorem Gr.tr {B H B1 H1 B2 H2 : Hp} (a : Gr B H B1 H1) (b : Gr B1 H1 B2 H2) : Gr B H B2 H2 :=
  ⟨a.b.trans b.b, a.h.trans b.h, b.s, fun x h1 h2 => b.n x (a.n x h1 h2) (fun z => by
    cases q : H x with
    | none => exact h2 q
    | some o => rw [a.h x o q] at z; cases z)⟩
theorem ex_upd {B H : Hp} {p : Addr} {o : HO} (e : Sub B H) (ho : untag o = o := by rfl) : Sub (upd B p o) (upd H p o) := fun a u q => by
  by_cases z : a = p
  · subst z; rw [upd_same] at q ⊢; cases q; rw [ho]
  · rw [upd_ne z] at q ⊢; exact e a u q
theorem Gr.new {B H : Hp} {p : Addr} {o : HO} (e : Sub B H) (hp : H p = none) (ho : untag o = o := by rfl) : Gr B H (upd B p o) (upd H p o) :=
  ⟨Ex.new (sub_back e hp), Ex.new hp, ex_upd e ho, fun a h1 h2 => by
    have z : a ≠ p := fun q => h2 (by rw [q]; exact hp)
    rw [upd_ne z]; exact h1⟩
/-- the heap grows, nothing more is known -/
theorem Gr.more {B H H' : Hp} (e : Sub B H) (h : Ex H H') : Gr B H B H' := ⟨Ex.refl _, h, e.trans h, fun _ q _ => q⟩
/-- a cell of the heap that is not known may change -/
theorem ex_off {B H : Hp} {p : Addr} {o : HO} (e : Sub B H) (hp : B p = none) : Sub B (upd H p o) := fun a u q => by
  have z : a ≠ p := fun k => by rw [k, hp] at q; cases q
  rw [upd_ne z]; exact e a u q
theorem Gr.off {B H B' H' : Hp} {p : Addr} (g : Gr B H B' H') (hp : B p = none) {o : HO} (ho : H p = some o) : B' p = none ∧ H' p = some o :=
  ⟨g.n p hp (by rw [ho]; exact fun z => nomatch z), g.h p o ho⟩

mutual
/-- data that stands in lists and tuples of the call's own -/
inductive Dq (H : Hp) : V → PyData → Prop
  | non : Dq H .non .none
  | bl (b : Bool) : Dq H (.bl b) (.bool b)
  | int (i : Int) : Dq H (.int i) (.int i)
  | str (x : Str) : Dq H (.str x) (.str x)
  | lst {a : Addr} {xs : List V} {ds : List PyData} : H a = some (.lst xs) → DqAll H xs ds → Dq H (.ref a) (.list ds)
  | tup {a : Addr} {xs : List V} {ds : List PyData} : H a = some (.tup xs) → DqAll H xs ds → Dq H (.ref a) (.tuple ds)
inductive DqAll (H : Hp) : List V → List PyData → Prop
  | nil : DqAll H [] []
  | cons {v : V} {vs : List V} {d : PyData} {ds : List PyData} : Dq H v d → DqAll H vs ds → DqAll H (v :: vs) (d :: ds)
end
mutual
theorem dp_ex {H H' : Hp} (e : Ex H H') {v : V} : ∀ {d : PyData}, Dq H v d → Dq H' v d
  | _, .non => .non
  | _, .bl b => .bl b
  | _, .int i => .int i
  | _, .str x => .str x
  | _, .lst hs ha => .lst (e _ _ hs) (dpa_ex e ha)
  | _, .tup hs ha => .tup (e _ _ hs) (dpa_ex e ha)
theorem dpa_ex {H H' : Hp} (e : Ex H H') : ∀ {vs : List V} {ds : List PyData}, DqAll H vs ds → DqAll H' vs ds
  | _, _, .nil => .nil
  | _, _, .cons h t => .cons (dp_ex e h) (dpa_ex e t)
end
mutual
theorem dp_su {H H' : Hp} (e : Sub H H') {v : V} : ∀ {d : PyData}, Dq H v d → Dq H' v d
  | _, .non => .non
  | _, .bl b => .bl b
  | _, .int i => .int i
  | _, .str x => .str x
  | _, .lst hs ha => .lst (e _ _ hs) (dpa_su e ha)
  | _, .tup hs ha => .tup (e _ _ hs) (dpa_su e ha)
theorem dpa_su {H H' : Hp} (e : Sub H H') : ∀ {vs : List V} {ds : List PyData}, DqAll H vs ds → DqAll H' vs ds
  | _, _, .nil => .nil
  | _, _, .cons h t => .cons (dp_su e h) (dpa_su e t)
end
mutual
theorem dq_dp {K : PySem.W.Frag} {H : Hp} {v : V} : ∀ {d : PyData}, Dq H v d → Dp K H v d
  | _, .non => .non
  | _, .bl b => .bl b
  | _, .int i => .int i
  | _, .str x => .str x
  | _, .lst hs ha => .lst (SqL.of hs) (dqa_dpa ha)
  | _, .tup hs ha => .tup (SqT.of hs) (dqa_dpa ha)
theorem dqa_dpa {K : PySem.W.Frag} {H : Hp} : ∀ {vs : List V} {ds : List PyData}, DqAll H vs ds → DpAll K H vs ds
  | _, _, .nil => .nil
  | _, _, .cons h t => .cons (dq_dp h) (dqa_dpa t)
end

section
variable {K : PySem.W.Frag} {σ : L2.St} {B B' H H' : Hp}

/-! ### data -/
theorem dpa_len : ∀ {vs : List V} {ds : List PyData}, DqAll B vs ds → vs.length = ds.length
  | _, _, .nil => rfl
  | _, _, .cons _ t => by rw [List.length_cons, List.length_cons, dpa_len t]
theorem dpa_get : ∀ {vs : List V} {ds : List PyData} {i : Nat} {d : PyData}, DqAll B vs ds → ds[i]? = some d → ∃ v, vs[i]? = some v ∧ Dq B v d
  | _, _, _, _, .nil, h => by simp at h
  | _, _, 0, d, .cons h t, e => by simp at e; subst e; exact ⟨_, rfl, h⟩
  | _, _, i + 1, d, .cons h t, e => by
    obtain ⟨v, a, b⟩ := dpa_get (i := i) t (by simpa using e)
    exact ⟨v, by simpa using a, b⟩
theorem dpa_getV : ∀ {vs : List V} {ds : List PyData} {i : Nat} {v : V}, DqAll B vs ds → vs[i]? = some v → ∃ d, ds[i]? = some d ∧ Dq B v d
  | _, _, _, _, .nil, h => by simp at h
  | _, _, 0, d, .cons h t, e => by simp at e; subst e; exact ⟨_, rfl, h⟩
  | _, _, i + 1, d, .cons h t, e => by
    obtain ⟨v, a, b⟩ := dpa_getV (i := i) t (by simpa using e)
    exact ⟨v, by simpa using a, b⟩
theorem dpa_app : ∀ {vs ws : List V} {ds es : List PyData}, DqAll B vs ds → DqAll B ws es → DqAll B (vs ++ ws) (ds ++ es)
  | _, _, _, _, .nil, h => h
  | _, _, _, _, .cons h t, q => .cons h (dpa_app t q)
theorem dpa_take : ∀ {vs : List V} {ds : List PyData} (n : Nat), DqAll B vs ds → DqAll B (vs.take n) (ds.take n)
  | _, _, 0, _ => .nil
  | _, _, _ + 1, .nil => .nil
  | _, _, n + 1, .cons h t => .cons h (dpa_take n t)
theorem dpa_drop : ∀ {vs : List V} {ds : List PyData} (n : Nat), DqAll B vs ds → DqAll B (vs.drop n) (ds.drop n)
  | _, _, 0, h => h
  | _, _, _ + 1, .nil => .nil
  | _, _, n + 1, .cons h t => dpa_drop n t
theorem dpa_set : ∀ {vs : List V} {ds : List PyData} {v : V} {d : PyData} (n : Nat), DqAll B vs ds → Dq B v d → DqAll B (vs.set n v) (ds.set n d)
  | _, _, _, _, _, .nil, _ => .nil
  | _, _, _, _, 0, .cons h t, q => .cons q t
  | _, _, _, _, n + 1, .cons h t, q => .cons h (dpa_set n t q)
theorem dpa_erase : ∀ {vs : List V} {ds : List PyData} (n : Nat), DqAll B vs ds → DqAll B (vs.eraseIdx n) (ds.eraseIdx n)
  | _, _, _, .nil => .nil
  | _, _, 0, .cons h t => t
  | _, _, n + 1, .cons h t => .cons h (dpa_erase n t)
theorem dpa_ints : ∀ {vs : List V} {ns : List Int}, DqAll B vs (ns.map PyData.int) → vs = ns.map V.int
  | [], [], .nil => rfl
  | _ :: _, n :: ns, .cons h t => by
    cases h
    rw [dpa_ints t]; rfl
theorem ints_dpa : ∀ (ns : List Int), DqAll B (ns.map V.int) (ns.map PyData.int)
  | [] => .nil
  | n :: ns => .cons (.int n) (ints_dpa ns)
theorem dpa_bls : ∀ {vs : List V} {ns : List Bool}, DqAll B vs (ns.map PyData.bool) → vs = ns.map V.bl
  | [], [], .nil => rfl
  | _ :: _, n :: ns, .cons h t => by
    cases h
    rw [dpa_bls t]; rfl
theorem dpa_strs : ∀ {vs : List V} {ns : List Str}, DqAll B vs (ns.map PyData.str) → vs = ns.map V.str
  | [], [], .nil => rfl
  | _ :: _, n :: ns, .cons h t => by
    cases h
    rw [dpa_strs t]; rfl
theorem strs_dpa : ∀ (ns : List Str), DqAll B (ns.map V.str) (ns.map PyData.str)
  | [] => .nil
  | n :: ns => .cons (.str n) (strs_dpa ns)

/-! ### what evaluates to what -/
def Ep (te : TE) (σ : L2.St) (B : Hp) (P : V → Hp → Prop) : Prop := ∀ B1 H1, Ex B B1 → Sub B1 H1 → ∀ Q : VK, (∀ v B2 H2, Gr B1 H1 B2 H2 → P v B2 → Q v H2) → te σ H1 Q
abbrev Ed (te : TE) (σ : L2.St) (B : Hp) (d : PyData) : Prop := Ep te σ B fun v B' => Dq B' v d
/-- a plain value -/
abbrev Ev (te : TE) (σ : L2.St) (B : Hp) (v : V) : Prop := Ep te σ B fun u _ => u = v
def EpT (tt : TT) (σ : L2.St) (B : Hp) (b : Bool) : Prop := ∀ B1 H1, Ex B B1 → Sub B1 H1 → ∀ Q : Bool → Hp → Prop, (∀ B2 H2, Gr B1 H1 B2 H2 → Q b H2) → tt σ H1 Q
def EpA (ta : TA) (σ : L2.St) (B : Hp) (P : List V → Hp → Prop) : Prop := ∀ B1 H1, Ex B B1 → Sub B1 H1 → ∀ Q : List V → Hp → Prop, (∀ vs B2 H2, Gr B1 H1 B2 H2 → P vs B2 → Q vs H2) → ta σ H1 Q
/-- known for good -/
def Stb (P : V → Hp → Prop) : Prop := ∀ v B B', Ex B B' → P v B → P v B'
theorem stb_dp (d : PyData) : Stb fun v B => Dq B v d := fun _ _ _ e h => dp_ex e h
theorem stb_eq (u : V) : Stb fun v _ => v = u := fun _ _ _ _ h => h

variable {ta tb te tx : TE} {t u : TT} {x y z v : V} {r : R2} {P P' R : V → Hp → Prop} {d e : PyData}
theorem Ep.mono (h : Ep te σ B P) (e : Ex B B') : Ep te σ B' P := fun B1 H1 a b Q q => h B1 H1 (e.trans a) b Q q
theorem EpT.mono {b : Bool} (h : EpT t σ B b) (e : Ex B B') : EpT t σ B' b := fun B1 H1 a b Q q => h B1 H1 (e.trans a) b Q q
theorem Ep.imp (h : Ep te σ B P) (i : ∀ v B', Ex B B' → P v B' → P' v B') : Ep te σ B P' := fun B1 H1 a b Q q => h B1 H1 a b Q fun v B2 H2 g p => q v B2 H2 g (i v B2 (a.trans g.b) p)
theorem Ep.and (h : Ep te σ B P) (i : ∀ v B', Ex B B' → P v B' → P' v B') : Ep te σ B P' := h.imp i
theorem ev_d (h : Ev te σ B v) (k : Dq B v d) : Ed te σ B d := h.imp fun u B' e q => by rw [q]; exact dp_ex e k
theorem ed_int {i : Int} (h : Ed te σ B (.int i)) : Ev te σ B (.int i) := h.imp fun u B' e q => by cases q; rfl
theorem ed_bl {i : Bool} (h : Ed te σ B (.bool i)) : Ev te σ B (.bl i) := h.imp fun u B' e q => by cases q; rfl
theorem ed_str {i : Str} (h : Ed te σ B (.str i)) : Ev te σ B (.str i) := h.imp fun u B' e q => by cases q; rfl
theorem ed_non (h : Ed te σ B .none) : Ev te σ B .non := h.imp fun u B' e q => by cases q; rfl
theorem int_ed {i : Int} (h : Ev te σ B (.int i)) : Ed te σ B (.int i) := ev_d h (.int i)
theorem bl_ed {i : Bool} (h : Ev te σ B (.bl i)) : Ed te σ B (.bool i) := ev_d h (.bl i)
theorem str_ed {i : Str} (h : Ev te σ B (.str i)) : Ed te σ B (.str i) := ev_d h (.str i)
theorem ev_is {w : V} (h : Ev te σ B v) (e : v = w) : Ev te σ B w := by rw [← e]; exact h
theorem ed_is (h : Ed te σ B d) (q : d = e) : Ed te σ B e := by rw [← q]; exact h
theorem et_is {a b : Bool} (h : EpT t σ B a) (e : a = b) : EpT t σ B b := by rw [← e]; exact h

theorem ev_var (i : Nat) (h : σ[i]? = some (some v)) : Ev (tVar i) σ B v := fun B1 H1 a b Q q => ⟨v, h, q v B1 H1 (Gr.refl b) rfl⟩
theorem ep_var (i : Nat) (h : σ[i]? = some (some v)) (p : P v B) (s : Stb P) : Ep (tVar i) σ B P := (ev_var i h).imp fun u B' e q => by rw [q]; exact s _ _ _ e p
theorem ed_var (i : Nat) (h : σ[i]? = some (some v)) (p : Dq B v d) : Ed (tVar i) σ B d := ep_var i h p (stb_dp d)
theorem ev_c : Ev (tC v) σ B v := fun B1 H1 a b Q q => q v B1 H1 (Gr.refl b) rfl

/-- two operands, told by what is known of them; the operation from the known part -/
def Op2 (r : R2) (x y : V) (B : Hp) (P : V → Hp → Prop) : Prop := ∀ B1 H1, Ex B B1 → Sub B1 H1 → ∀ Q : VK, (∀ v B2 H2, Gr B1 H1 B2 H2 → P v B2 → Q v H2) → r x y H1 Q
theorem ep_op (ha : Ep ta σ B P) (hb : Ep tb σ B P') (s : Stb P) (hr : ∀ x y B', Ex B B' → P x B' → P' y B' → Op2 r x y B' R) : Ep (tOp r ta tb) σ B R := fun B1 H1 a b Q q =>
  ha B1 H1 a b _ fun x B2 H2 g2 p2 => hb B2 H2 (a.trans g2.b) g2.s _ fun y B3 H3 g3 p3 =>
    hr x y B3 ((a.trans g2.b).trans g3.b) (s _ _ _ g3.b p2) p3 B3 H3 (Ex.refl _) g3.s Q fun v B4 H4 g4 p4 => q v B4 H4 ((g2.tr g3).tr g4) p4
theorem ev_op (ha : Ev ta σ B x) (hb : Ev tb σ B y) (hr : Op2 r x y B P) : Ep (tOp r ta tb) σ B P :=
  ep_op ha hb (stb_eq x) fun x' y' B' e e1 e2 => by
    subst e1; subst e2
    exact fun B1 H1 a b Q q => hr B1 H1 (e.trans a) b Q q
theorem op2_val (h : ∀ H1 (Q : VK), Sub B H1 → Q z H1 → r x y H1 Q) : Op2 r x y B (fun v _ => v = z) := fun B1 H1 a b Q q => h H1 Q (a.su b) (q z B1 H1 (Gr.refl b) rfl)
theorem o_I0 {g : Int → Int → V} {i j : Int} : Op2 (rI0 g) (.int i) (.int j) B (fun v _ => v = g i j) := op2_val fun _ _ _ q => ⟨i, j, rfl, rfl, q⟩
theorem o_I {C : Int → Int → Prop} {g : Int → Int → V} {i j : Int} (hc : C i j) : Op2 (rI C g) (.int i) (.int j) B (fun v _ => v = g i j) := op2_val fun _ _ _ q => ⟨i, j, rfl, rfl, hc, q⟩
theorem o_eq (h : scal x y = true) : Op2 rEq x y B (fun v _ => v = .bl (decide (x = y))) := op2_val fun _ _ _ q => ⟨h, q⟩
theorem o_ne (h : scal x y = true) : Op2 rNe x y B (fun v _ => v = .bl (!decide (x = y))) := op2_val fun _ _ _ q => ⟨h, q⟩
/-- by two ints -/
theorem ev_I0 {g : Int → Int → V} {i j : Int} (ha : Ev ta σ B (.int i)) (hb : Ev tb σ B (.int j)) : Ev (tOp (rI0 g) ta tb) σ B (g i j) := ev_op ha hb o_I0
theorem ev_I {C : Int → Int → Prop} {g : Int → Int → V} {i j : Int} (ha : Ev ta σ B (.int i)) (hb : Ev tb σ B (.int j)) (hc : C i j) : Ev (tOp (rI C g) ta tb) σ B (g i j) := ev_op ha hb (o_I hc)
theorem ev_eq (ha : Ev ta σ B x) (hb : Ev tb σ B y) (h : scal x y = true) : Ev (tOp rEq ta tb) σ B (.bl (decide (x = y))) := ev_op ha hb (o_eq h)
theorem ev_ne (ha : Ev ta σ B x) (hb : Ev tb σ B y) (h : scal x y = true) : Ev (tOp rNe ta tb) σ B (.bl (!decide (x = y))) := ev_op ha hb (o_ne h)
theorem ev_un {g : Int → V} {i : Int} (ha : Ev ta σ B (.int i)) : Ev (tUn (rU g) ta) σ B (g i) := fun B1 H1 a b Q q =>
  ha B1 H1 a b _ fun x B2 H2 g2 p2 => by subst p2; exact ⟨i, rfl, q _ B2 H2 g2 rfl⟩
theorem ev_addS {a b : Str} (ha : Ev ta σ B (.str a)) (hb : Ev tb σ B (.str b)) (h : a.length + b.length ≤ 100000) :
    Ev (tOp (fun x y H Q => ∃ i j, x = .str i ∧ y = .str j ∧ i.length + j.length ≤ sizeLine ∧ Q (.str (i ++ j)) H) ta tb) σ B (.str (a ++ b)) :=
  ev_op ha hb (op2_val fun _ _ _ q => ⟨a, b, rfl, rfl, sz_of h, q⟩)
theorem ev_isN (ha : Ep ta σ B P) (n : Bool) (h : ∀ v B', P v B' → decide (v = .non) = n) : Ev (tOp (fun x y H Q => y = .non ∧ Q (.bl (decide (x = .non))) H) ta (tC .non)) σ B (.bl n) := fun B1 H1 a b Q q =>
  ha B1 H1 a b _ fun x B2 H2 g2 p2 => ⟨rfl, by rw [h x B2 p2]; exact q _ B2 H2 g2 rfl⟩
theorem ev_notN (ha : Ep ta σ B P) (n : Bool) (h : ∀ v B', P v B' → decide (v = .non) = n) : Ev (tOp (fun x y H Q => y = .non ∧ Q (.bl (!decide (x = .non))) H) ta (tC .non)) σ B (.bl (!n)) := fun B1 H1 a b Q q =>
  ha B1 H1 a b _ fun x B2 H2 g2 p2 => ⟨rfl, by rw [h x B2 p2]; exact q _ B2 H2 g2 rfl⟩

/-! ### lists, tuples read -/
theorem dp_lst {v : V} {ds : List PyData} (h : Dq B v (.list ds)) : ∃ a xs, v = .ref a ∧ B a = some (.lst xs) ∧ DqAll B xs ds := by
  cases h with
  | lst hs ha => exact ⟨_, _, rfl, hs, ha⟩
theorem dp_tup {v : V} {ds : List PyData} (h : Dq B v (.tuple ds)) : ∃ a xs, v = .ref a ∧ B a = some (.tup xs) ∧ DqAll B xs ds := by
  cases h with
  | tup hs ha => exact ⟨_, _, rfl, hs, ha⟩
theorem at_nat {α : Type} {xs : List α} {i : Int} {n : Nat} {v : α} (hi : i = (n : Int)) (h : xs[n]? = some v) : atI xs i = some v := by
  rw [hi]; exact atI_nat h
theorem dpa_atI {vs : List V} {ds : List PyData} {i : Int} {d : PyData} (h : DqAll B vs ds) (hd : atI ds i = some d) : ∃ v, atI vs i = some v ∧ Dq B v d := by
  unfold atI at hd ⊢
  rw [dpa_len h]
  cases q : ixN ds.length i with
  | none => rw [q] at hd; simp at hd
  | some j =>
    rw [q] at hd
    exact dpa_get h hd
theorem ed_ixL {ds : List PyData} {i : Int} (ha : Ed ta σ B (.list ds)) (hb : Ev tb σ B (.int i)) (hd : atI ds i = some d) : Ed (tOp (rIxL K) ta tb) σ B d :=
  ep_op ha hb (stb_dp _) fun x y B' e p q => by
    obtain ⟨a, xs, rfl, hs, hda⟩ := dp_lst p
    subst q
    obtain ⟨v, h1, h2⟩ := dpa_atI hda hd
    exact fun B1 H1 a1 b1 Q k => ⟨a, xs, i, v, rfl, rfl, SqL.of ((a1.su b1) _ _ hs), h1, k v B1 H1 (Gr.refl b1) (dp_ex a1 h2)⟩
theorem ed_ixT {ds : List PyData} {i : Int} (ha : Ed ta σ B (.tuple ds)) (hb : Ev tb σ B (.int i)) (hd : atI ds i = some d) : Ed (tOp (rIxT K) ta tb) σ B d :=
  ep_op ha hb (stb_dp _) fun x y B' e p q => by
    obtain ⟨a, xs, rfl, hs, hda⟩ := dp_tup p
    subst q
    obtain ⟨v, h1, h2⟩ := dpa_atI hda hd
    exact fun B1 H1 a1 b1 Q k => ⟨a, xs, i, v, rfl, rfl, SqT.of ((a1.su b1) _ _ hs), h1, k v B1 H1 (Gr.refl b1) (dp_ex a1 h2)⟩
theorem ev_ixS {w : Str} {i : Int} {c : Nat} (ha : Ev ta σ B (.str w)) (hb : Ev tb σ B (.int i)) (h : w.length ≤ 100000) (hc : atI w.cps.toList i = some c) : Ev (tOp rIxS ta tb) σ B (.str ⟨#[c]⟩) :=
  ev_op ha hb (op2_val fun _ _ _ q => ⟨w, i, c, rfl, rfl, sz_of h, hc, q⟩)

/-! ### new lists, tuples -/
theorem Dp.newL {p : Addr} {xs : List V} {ds : List PyData} (h : DqAll B xs ds) (hp : B p = none) : Dq (upd B p (.lst xs)) (.ref p) (.list ds) := .lst upd_same (dpa_ex (Ex.new hp) h)
theorem Dp.newT {p : Addr} {xs : List V} {ds : List PyData} (h : DqAll B xs ds) (hp : B p = none) : Dq (upd B p (.tup xs)) (.ref p) (.tuple ds) := .tup upd_same (dpa_ex (Ex.new hp) h)
theorem gr_newL {p : Addr} {xs : List V} {ds : List PyData} {Q : VK} (b : Sub B H) (h : DqAll B xs ds) (k : ∀ v B2 H2, Gr B H B2 H2 → Dq B2 v (.list ds) → Q v H2) (hp : H p = none) : Q (.ref p) (upd H p (.lst xs)) :=
  k _ _ _ (Gr.new b hp) (Dp.newL h (sub_back b hp))
theorem gr_newT {p : Addr} {xs : List V} {ds : List PyData} {Q : VK} (b : Sub B H) (h : DqAll B xs ds) (k : ∀ v B2 H2, Gr B H B2 H2 → Dq B2 v (.tuple ds) → Q v H2) (hp : H p = none) : Q (.ref p) (upd H p (.tup xs)) :=
  k _ _ _ (Gr.new b hp) (Dp.newT h (sub_back b hp))
abbrev EdA (ta : TA) (σ : L2.St) (B : Hp) (ds : List PyData) : Prop := EpA ta σ B fun vs B' => DqAll B' vs ds
theorem ea_nil : EdA tNil σ B [] := fun B1 H1 a b Q q => q [] B1 H1 (Gr.refl b) .nil
theorem ea_cons {tr : TA} {ds : List PyData} (h : Ed te σ B d) (hr : EdA tr σ B ds) : EdA (tCons te tr) σ B (d :: ds) := fun B1 H1 a b Q q =>
  h B1 H1 a b _ fun v B2 H2 g p => hr B2 H2 (a.trans g.b) g.s _ fun vs B3 H3 g3 ps => q _ B3 H3 (g.tr g3) (.cons (dp_ex g3.b p) ps)
/-- arguments of any kind -/
theorem eap_nil : EpA tNil σ B fun vs _ => vs = [] := fun B1 H1 a b Q q => q [] B1 H1 (Gr.refl b) rfl
theorem eap_cons {tr : TA} {A : List V → Hp → Prop} (h : Ep te σ B P) (s : Stb P) (hr : EpA tr σ B A) : EpA (tCons te tr) σ B (fun vs B' => ∃ v ws, vs = v :: ws ∧ P v B' ∧ A ws B') := fun B1 H1 a b Q q =>
  h B1 H1 a b _ fun v B2 H2 g p => hr B2 H2 (a.trans g.b) g.s _ fun vs B3 H3 g3 ps => q _ B3 H3 (g.tr g3) ⟨v, vs, rfl, s _ _ _ g3.b p, ps⟩
theorem ed_tup {ta : TA} {ds : List PyData} (h : EdA ta σ B ds) (hl : ds.length ≤ 100000) : Ed (tTup ta) σ B (.tuple ds) := fun B1 H1 a b Q q =>
  h B1 H1 a b _ fun vs B2 H2 g p => ⟨by rw [dpa_len p]; exact sz_of hl, fun c hc => gr_newT g.s p (fun v B3 H3 g3 p3 => q v B3 H3 (g.tr g3) p3) hc⟩
theorem ed_lst {ta : TA} {ds : List PyData} (h : EdA ta σ B ds) (hl : ds.length ≤ 100000) : Ed (tLst ta) σ B (.list ds) := fun B1 H1 a b Q q =>
  h B1 H1 a b _ fun vs B2 H2 g p => ⟨by rw [dpa_len p]; exact sz_of hl, fun c hc => gr_newL g.s p (fun v B3 H3 g3 p3 => q v B3 H3 (g.tr g3) p3) hc⟩

/-! ### tests -/
theorem et_test {b : Bool} (h : Ev te σ B (.bl b)) : EpT (tTest te) σ B b := fun B1 H1 a c Q q => h B1 H1 a c _ fun v B2 H2 g p => by subst p; exact ⟨b, rfl, q B2 H2 g⟩
theorem et_B {b : Bool} (h : Ev te σ B (.bl b)) : EpT (tB te) σ B b := fun B1 H1 a c Q q => h B1 H1 a c _ fun v B2 H2 g p => by subst p; exact ⟨b, rfl, q B2 H2 g⟩
theorem et_and {a b : Bool} (h1 : EpT t σ B a) (h2 : a = true → EpT u σ B b) : EpT (tAnd t u) σ B (a && b) := fun B1 H1 e c Q q => h1 B1 H1 e c _ fun B2 H2 g => by
  cases a with
  | true =>
    show u σ H2 Q
    exact h2 rfl B2 H2 (e.trans g.b) g.s Q fun B3 H3 g3 => q B3 H3 (g.tr g3)
  | false =>
    show Q false H2
    exact q B2 H2 g
theorem et_or {a b : Bool} (h1 : EpT t σ B a) (h2 : a = false → EpT u σ B b) : EpT (tOr t u) σ B (a || b) := fun B1 H1 e c Q q => h1 B1 H1 e c _ fun B2 H2 g => by
  cases a with
  | true =>
    show Q true H2
    exact q B2 H2 g
  | false =>
    show u σ H2 Q
    exact h2 rfl B2 H2 (e.trans g.b) g.s Q fun B3 H3 g3 => q B3 H3 (g.tr g3)
theorem et_not {a : Bool} (h1 : EpT t σ B a) : EpT (tNot t) σ B (!a) := fun B1 H1 e c Q q => h1 B1 H1 e c _ fun B2 H2 g => q B2 H2 g
theorem et_yes : EpT tYes σ B true := fun B1 H1 a b Q q => q B1 H1 (Gr.refl b)
theorem ev_andV {a b : Bool} (h1 : Ev ta σ B (.bl a)) (h2 : a = true → Ev tb σ B (.bl b)) : Ev (tAndV ta tb) σ B (.bl (a && b)) := fun B1 H1 e c Q q => h1 B1 H1 e c _ fun v B2 H2 g p => ⟨a, p, by
  cases a with
  | true =>
    show tb σ H2 Q
    exact h2 rfl B2 H2 (e.trans g.b) g.s Q fun v B3 H3 g3 p3 => q v B3 H3 (g.tr g3) p3
  | false =>
    show Q (.bl false) H2
    exact q _ B2 H2 g rfl⟩
theorem ev_orV {a b : Bool} (h1 : Ev ta σ B (.bl a)) (h2 : a = false → Ev tb σ B (.bl b)) : Ev (tOrV ta tb) σ B (.bl (a || b)) := fun B1 H1 e c Q q => h1 B1 H1 e c _ fun v B2 H2 g p => ⟨a, p, by
  cases a with
  | true =>
    show Q (.bl true) H2
    exact q _ B2 H2 g rfl
  | false =>
    show tb σ H2 Q
    exact h2 rfl B2 H2 (e.trans g.b) g.s Q fun v B3 H3 g3 p3 => q v B3 H3 (g.tr g3) p3⟩
theorem ev_notV {a : Bool} (h1 : Ev ta σ B (.bl a)) : Ev (tNotV ta) σ B (.bl (!a)) := fun B1 H1 e c Q q => h1 B1 H1 e c _ fun v B2 H2 g p => ⟨a, p, q _ B2 H2 g rfl⟩
theorem ep_if {b : Bool} (h : EpT t σ B b) (h1 : b = true → Ep ta σ B P) (h2 : b = false → Ep tb σ B P) : Ep (tIf t ta tb) σ B P := fun B1 H1 e c Q q => h B1 H1 e c _ fun B2 H2 g => by
  cases b with
  | true =>
    show ta σ H2 Q
    exact h1 rfl B2 H2 (e.trans g.b) g.s Q fun v B3 H3 g3 p3 => q v B3 H3 (g.tr g3) p3
  | false =>
    show tb σ H2 Q
    exact h2 rfl B2 H2 (e.trans g.b) g.s Q fun v B3 H3 g3 p3 => q v B3 H3 (g.tr g3) p3

/-! ### calls -/
/-- a promise: what is asked of the arguments over the known part, what is known of the answer -/
def Pr (pre : List V → Hp → (V → Hp → Prop) → Prop) : Sp := fun vs H Q _ => ∃ B P, Sub B H ∧ pre vs B P ∧ ∀ v B' H', Gr B H B' H' → P v B' → Q v H'
theorem ep_call {pre : List V → Hp → (V → Hp → Prop) → Prop} {E : XK} {ta : TA} {A : List V → Hp → Prop} (ha : EpA ta σ B A) (hp : ∀ vs B', Ex B B' → A vs B' → pre vs B' P) : Ep (tCall (Pr pre) [] E ta) σ B P := fun B1 H1 a b Q q =>
  ha B1 H1 a b _ fun vs B2 H2 g p => by
    show Pr pre (vs ++ []) H2 Q E
    rw [List.append_nil]
    exact ⟨B2, P, g.s, hp vs B2 (a.trans g.b) p, fun v B3 H3 g3 p3 => q v B3 H3 (g.tr g3) p3⟩
/-- a builtin's call -/
theorem ep_cb {rc : List V → Hp → VK → Prop} {ta : TA} {A : List V → Hp → Prop} (ha : EpA ta σ B A)
    (hp : ∀ vs B1 H1, Ex B B1 → Sub B1 H1 → A vs B1 → ∀ Q : VK, (∀ v B2 H2, Gr B1 H1 B2 H2 → P v B2 → Q v H2) → rc vs H1 Q) : Ep (tCB rc ta) σ B P := fun B1 H1 a b Q q =>
  ha B1 H1 a b _ fun vs B2 H2 g p => hp vs B2 H2 (a.trans g.b) g.s p Q fun v B3 H3 g3 p3 => q v B3 H3 (g.tr g3) p3
theorem dpa_nilE {vs : List V} (h : DqAll B vs []) : vs = [] := by cases h; rfl
theorem dpa_consE {vs : List V} {ds : List PyData} (h : DqAll B vs (d :: ds)) : ∃ v ws, vs = v :: ws ∧ Dq B v d ∧ DqAll B ws ds := by
  cases h with
  | cons a b => exact ⟨_, _, rfl, a, b⟩
theorem dpa_one {vs : List V} (h : DqAll B vs [d]) : ∃ v, vs = [v] ∧ Dq B v d := by
  obtain ⟨v, ws, rfl, h1, h2⟩ := dpa_consE h
  rw [dpa_nilE h2]
  exact ⟨v, rfl, h1⟩
theorem dpa_two {vs : List V} (h : DqAll B vs [d, e]) : ∃ v w, vs = [v, w] ∧ Dq B v d ∧ Dq B w e := by
  obtain ⟨v, ws, rfl, h1, h2⟩ := dpa_consE h
  obtain ⟨w, rfl, h3⟩ := dpa_one h2
  exact ⟨v, w, rfl, h1, h3⟩
abbrev rLenS (K : PySem.W.Frag) : List V → Hp → VK → Prop := fun xs H Q => ∃ p ys, xs = [.ref p] ∧ (SqL K H p ys ∨ SqT K H p ys) ∧ Q (.int ys.length) H
theorem ev_lenL {ds : List PyData} (h : Ed te σ B (.list ds)) : Ev (tCB (rLenS K) (tCons te tNil)) σ B (.int (ds.length : Int)) :=
  ep_cb (ea_cons h ea_nil) fun vs B1 H1 a b p Q q => by
    obtain ⟨v, rfl, h⟩ := dpa_one p
    obtain ⟨c, xs, rfl, hs, hd⟩ := dp_lst h
    refine ⟨c, xs, rfl, .inl (SqL.of (b _ _ hs)), ?_⟩
    exact q _ B1 H1 (Gr.refl b) (by rw [dpa_len hd])
theorem ev_lenT {ds : List PyData} (h : Ed te σ B (.tuple ds)) : Ev (tCB (rLenS K) (tCons te tNil)) σ B (.int (ds.length : Int)) :=
  ep_cb (ea_cons h ea_nil) fun vs B1 H1 a b p Q q => by
    obtain ⟨v, rfl, h⟩ := dpa_one p
    obtain ⟨c, xs, rfl, hs, hd⟩ := dp_tup h
    refine ⟨c, xs, rfl, .inr (SqT.of (b _ _ hs)), ?_⟩
    exact q _ B1 H1 (Gr.refl b) (by rw [dpa_len hd])
theorem ev_lenS {z : Str} (h : Ev te σ B (.str z)) (hz : z.length ≤ 100000) : Ev (tCB (fun xs H Q => ∃ z, xs = [.str z] ∧ z.length ≤ sizeLine ∧ Q (.int z.length) H) (tCons te tNil)) σ B (.int (z.length : Int)) :=
  ep_cb (eap_cons h (stb_eq _) eap_nil) fun vs B1 H1 a b ⟨v, ws, e1, e2, e3⟩ Q q => by
    subst e1; subst e2; subst e3
    exact ⟨z, rfl, sz_of hz, q _ B1 H1 (Gr.refl b) rfl⟩
abbrev rListOf (K : PySem.W.Frag) : List V → Hp → VK → Prop := fun xs H Q => ∃ p ys, xs = [.ref p] ∧ (SqL K H p ys ∨ SqT K H p ys) ∧ ∀ l, H l = none → Q (.ref l) (upd H l (.lst ys))
theorem ed_listL {ds : List PyData} (h : Ed te σ B (.list ds)) : Ed (tCB (rListOf K) (tCons te tNil)) σ B (.list ds) :=
  ep_cb (ea_cons h ea_nil) fun vs B1 H1 a b p Q q => by
    obtain ⟨v, rfl, h⟩ := dpa_one p
    obtain ⟨c, xs, rfl, hs, hd⟩ := dp_lst h
    exact ⟨c, xs, rfl, .inl (SqL.of (b _ _ hs)), fun l hl => gr_newL b hd q hl⟩
theorem ed_listT {ds : List PyData} (h : Ed te σ B (.tuple ds)) : Ed (tCB (rListOf K) (tCons te tNil)) σ B (.list ds) :=
  ep_cb (ea_cons h ea_nil) fun vs B1 H1 a b p Q q => by
    obtain ⟨v, rfl, h⟩ := dpa_one p
    obtain ⟨c, xs, rfl, hs, hd⟩ := dp_tup h
    exact ⟨c, xs, rfl, .inr (SqT.of (b _ _ hs)), fun l hl => gr_newL b hd q hl⟩
abbrev rTupOf (K : PySem.W.Frag) : List V → Hp → VK → Prop := fun xs H Q => ∃ p ys, xs = [.ref p] ∧ ((SqL K H p ys ∧ ∀ l, H l = none → Q (.ref l) (upd H l (.tup ys))) ∨ (SqT K H p ys ∧ Q (.ref p) H))
theorem ed_tupL {ds : List PyData} (h : Ed te σ B (.list ds)) : Ed (tCB (rTupOf K) (tCons te tNil)) σ B (.tuple ds) :=
  ep_cb (ea_cons h ea_nil) fun vs B1 H1 a b p Q q => by
    obtain ⟨v, rfl, h⟩ := dpa_one p
    obtain ⟨c, xs, rfl, hs, hd⟩ := dp_lst h
    exact ⟨c, xs, rfl, .inl ⟨SqL.of (b _ _ hs), fun l hl => gr_newT b hd q hl⟩⟩
theorem ev_abs {i : Int} (h : Ev te σ B (.int i)) : Ev (tCB (fun xs H Q => ∃ i, xs = [.int i] ∧ Q (.int (if i < 0 then -i else i)) H) (tCons te tNil)) σ B (.int (if i < 0 then -i else i)) :=
  ep_cb (eap_cons h (stb_eq _) eap_nil) fun vs B1 H1 a b ⟨v, ws, e1, e2, e3⟩ Q q => by
    subst e1; subst e2; subst e3
    exact ⟨i, rfl, q _ B1 H1 (Gr.refl b) rfl⟩
abbrev rInt1 : List V → Hp → VK → Prop := fun xs H Q => (∃ i, xs = [.int i] ∧ Q (.int i) H) ∨ ∃ k, xs = [.bl k] ∧ Q (.int (if k then 1 else 0)) H
theorem ev_int {i : Int} (h : Ev te σ B (.int i)) : Ev (tCB rInt1 (tCons te tNil)) σ B (.int i) :=
  ep_cb (eap_cons h (stb_eq _) eap_nil) fun vs B1 H1 a b ⟨v, ws, e1, e2, e3⟩ Q q => by
    subst e1; subst e2; subst e3
    exact .inl ⟨i, rfl, q _ B1 H1 (Gr.refl b) rfl⟩
theorem ev_intB {k : Bool} (h : Ev te σ B (.bl k)) : Ev (tCB rInt1 (tCons te tNil)) σ B (.int (if k then 1 else 0)) :=
  ep_cb (eap_cons h (stb_eq _) eap_nil) fun vs B1 H1 a b ⟨v, ws, e1, e2, e3⟩ Q q => by
    subst e1; subst e2; subst e3
    exact .inr ⟨k, rfl, q _ B1 H1 (Gr.refl b) rfl⟩
theorem dp_ints {a : Addr} {xs : List V} {ns : List Int} (hs : B a = some (.lst xs)) (h : DqAll B xs (ns.map PyData.int)) : B a = some (.lst (ns.map V.int)) := by
  rw [← dpa_ints h]; exact hs
theorem ev_sumL {ns : List Int} (h : Ed te σ B (.list (ns.map .int))) : Ev (tCB (rSum K) (tCons te tNil)) σ B (.int ns.sum) :=
  ep_cb (ea_cons h ea_nil) fun vs B1 H1 a b p Q q => by
    obtain ⟨v, rfl, h⟩ := dpa_one p
    obtain ⟨c, xs, rfl, hs, hd⟩ := dp_lst h
    exact ⟨c, ns, rfl, SqL.of (b _ _ (dp_ints hs hd)), q _ B1 H1 (Gr.refl b) rfl⟩
theorem ep_maxL {ns : List Int} (h : Ed te σ B (.list (ns.map .int))) (h0 : 0 < ns.length) : Ep (tCB (rMax K) (tCons te tNil)) σ B (fun v _ => ∃ m, v = .int m ∧ m ∈ ns ∧ ∀ y ∈ ns, y ≤ m) :=
  ep_cb (ea_cons h ea_nil) fun vs B1 H1 a b p Q q => by
    obtain ⟨v, rfl, h⟩ := dpa_one p
    obtain ⟨c, xs, rfl, hs, hd⟩ := dp_lst h
    exact ⟨c, ns, rfl, SqL.of (b _ _ (dp_ints hs hd)), h0, fun m hm hle => q _ B1 H1 (Gr.refl b) ⟨m, rfl, hm, hle⟩⟩
theorem ev_allL {bs : List Bool} (h : Ed te σ B (.list (bs.map .bool))) : Ev (tCB (rAll K) (tCons te tNil)) σ B (.bl (bs.all id)) :=
  ep_cb (ea_cons h ea_nil) fun vs B1 H1 a b p Q q => by
    obtain ⟨v, rfl, h⟩ := dpa_one p
    obtain ⟨c, xs, rfl, hs, hd⟩ := dp_lst h
    rw [dpa_bls hd] at hs
    exact ⟨c, bs, rfl, SqL.of (b _ _ hs), q _ B1 H1 (Gr.refl b) rfl⟩
theorem ev_anyL {bs : List Bool} (h : Ed te σ B (.list (bs.map .bool))) : Ev (tCB (rAny K) (tCons te tNil)) σ B (.bl (bs.any id)) :=
  ep_cb (ea_cons h ea_nil) fun vs B1 H1 a b p Q q => by
    obtain ⟨v, rfl, h⟩ := dpa_one p
    obtain ⟨c, xs, rfl, hs, hd⟩ := dp_lst h
    rw [dpa_bls hd] at hs
    exact ⟨c, bs, rfl, SqL.of (b _ _ hs), q _ B1 H1 (Gr.refl b) rfl⟩

/-! ### equality, membership of data -/
theorem ev_eqD {d e : PyData} (ha : Ed ta σ B d) (hb : Ed tb σ B e) (sd : SeqAt.shaped d = true) (se : SeqAt.shaped e = true) : Ev (tOp (rEqD K) ta tb) σ B (.bl (PyData.eqv d e)) :=
  ep_op ha hb (stb_dp _) fun x y B' _ p q B1 H1 a b Q k => ⟨d, e, dq_dp (dp_su (a.su b) p), dq_dp (dp_su (a.su b) q), sd, se, k _ B1 H1 (Gr.refl b) rfl⟩
theorem ev_neD {d e : PyData} (ha : Ed ta σ B d) (hb : Ed tb σ B e) (sd : SeqAt.shaped d = true) (se : SeqAt.shaped e = true) : Ev (tOp (rNeD K) ta tb) σ B (.bl (!PyData.eqv d e)) :=
  ep_op ha hb (stb_dp _) fun x y B' _ p q B1 H1 a b Q k => ⟨d, e, dq_dp (dp_su (a.su b) p), dq_dp (dp_su (a.su b) q), sd, se, k _ B1 H1 (Gr.refl b) rfl⟩
theorem ev_notInD {d : PyData} {ds : List PyData} (ha : Ed ta σ B d) (hb : Ed tb σ B (.list ds)) (sd : SeqAt.shaped d = true) (se : SeqAt.shaped (.list ds) = true) : Ev (tOp (rNotInD K) ta tb) σ B (.bl (!ds.any fun z => PyData.eqv z d)) :=
  ep_op ha hb (stb_dp _) fun x y B' _ p q B1 H1 a b Q k => ⟨d, ds, dq_dp (dp_su (a.su b) p), dq_dp (dp_su (a.su b) q), sd, se, k _ B1 H1 (Gr.refl b) rfl⟩
theorem inV_strs (x : Str) (ys : List Str) : inV (.str x) (ys.map V.str) = decide (x ∈ ys) := by
  unfold inV
  rw [List.any_map, Bool.eq_iff_iff, List.any_eq_true, decide_eq_true_eq]
  constructor
  · rintro ⟨y, hy, h⟩
    have e : y = x := by simpa [eqV] using h
    rw [← e]; exact hy
  · intro h
    exact ⟨x, h, by simp [eqV]⟩
theorem flat_strs' (ys : List Str) : (ys.map V.str).all flatV = true := by
  rw [List.all_map, List.all_eq_true]; intro y _; rfl
theorem ev_inSs {neg : Bool} {x : Str} {ys : List Str} (ha : Ev ta σ B (.str x)) (hb : Ed tb σ B (.list (ys.map .str))) : Ev (tOp (rIn K neg) ta tb) σ B (.bl (if neg then !decide (x ∈ ys) else decide (x ∈ ys))) :=
  ep_op ha hb (stb_eq _) fun x' y B' _ p q B1 H1 a b Q k => by
    subst p
    obtain ⟨c, xs, rfl, hs, hd⟩ := dp_lst q
    rw [dpa_strs hd] at hs
    refine ⟨c, ys.map V.str, rfl, .inl (SqL.of ((a.su b) _ _ hs)), rfl, flat_strs' ys, ?_⟩
    rw [inV_strs]
    exact k _ B1 H1 (Gr.refl b) rfl
end
end Kx

/-! KxIter -/
/-! What a for walks, comprehensions, loops, statements, over the known part. -/
namespace Kx
open PySem L2

theorem Gr.pub {B H B' H' : Hp} {p : Addr} {o : HO} (g : Gr B H B' H') (hp : H p = none) (ho : H' p = some o) (hb : B' p = none) (hu : untag o = o := by rfl) : Gr B H (upd B' p o) H' :=
  ⟨g.b.trans (Evl.Ex.new hb), g.h, fun a u q => by
    by_cases z : a = p
    · subst z; rw [upd_same] at q; cases q; rw [hu]; exact ho
    · rw [upd_ne z] at q; exact g.s a u q, fun a h1 h2 => by
    have z : a ≠ p := fun q => h2 (by rw [q]; exact hp)
    rw [upd_ne z]; exact g.n a h1 h2⟩
/-- a cell that stood beside the known part is changed -/
theorem Gr.mut {B H B' H' : Hp} {p : Addr} {o : HO} (g : Gr B H B' H') (hp : H p = none) (hb : B' p = none) : Gr B H B' (upd H' p o) :=
  ⟨g.b, Evl.Ex.mut g.h hp, ex_off g.s hb, g.n⟩

structure Wk {α : Type} (J : It) (B : Hp) (xs : List α) (Iy : α → V → Hp → Prop) : Prop where
  goes : ∀ i H, i < xs.length → Sub B H → J.go i H
  stops : ∀ H, Sub B H → J.stop xs.length H
  yields : ∀ i a B1 H x H', xs[i]? = some a → Evl.Ex B B1 → Sub B1 H → J.yld i H x H' → ∃ B', Gr B1 H B' H' ∧ Iy a x B'
def EpI {α : Type} (wi : TI) (σ : L2.St) (B : Hp) (xs : List α) (Iy : α → V → Hp → Prop) : Prop :=
  ∀ B1 H1, Evl.Ex B B1 → Sub B1 H1 → ∀ R : It → Hp → Prop, (∀ J B2 H2, Gr B1 H1 B2 H2 → Wk J B2 xs Iy → R J H2) → wi σ H1 R
/-- the item is that data -/
abbrev IyD {α : Type} (φ : α → PyData) : α → V → Hp → Prop := fun a v B => Dq B v (φ a)
abbrev IyV {α : Type} (φ : α → V) : α → V → Hp → Prop := fun a v _ => v = φ a
/-- the item is a new pair -/
abbrev IyP {α β : Type} (φ : α → V → Hp → Prop) (ψ : β → V → Hp → Prop) : α × β → V → Hp → Prop := fun ab v B => ∃ T x y, v = .ref T ∧ B T = some (.tup [x, y]) ∧ φ ab.1 x B ∧ ψ ab.2 y B
section
variable {K : PySem.W.Frag} {σ : L2.St} {B B' H H' : Hp} {ta tb te tx tl : TE} {t u : TT} {x y z v : V} {P P' R : V → Hp → Prop} {d e : PyData} {α β : Type}
theorem ei_list {xs : List α} {φ : α → PyData} (h : Ed tl σ B (.list (xs.map φ))) : EpI (iList K tl) σ B xs (IyD φ) := fun B1 H1 a b R q =>
  h B1 H1 a b _ fun v B2 H2 g p => by
    obtain ⟨c, ys, rfl, hs, hd⟩ := dp_lst p
    have hl : ys.length = xs.length := by rw [dpa_len hd, List.length_map]
    refine ⟨c, rfl, ⟨ys, SqL.of (g.s _ _ hs)⟩, q _ B2 H2 g ⟨fun i H3 hi e => ?_, fun H3 e => ⟨ys, SqL.of (e _ _ hs), by omega⟩, fun i a B3 H3 x H4 ha e1 e2 y => ?_⟩⟩
    · exact ⟨ys, ys[i], SqL.of (e _ _ hs), by simp⟩
    · obtain ⟨rfl, y⟩ := y
      have y2 := y ys (SqL.of (e2 _ _ (e1 _ _ hs)))
      refine ⟨B3, Gr.refl e2, ?_⟩
      obtain ⟨w, h1, h2⟩ := dpa_get (i := i) (d := φ a) hd (by rw [List.getElem?_map, ha]; rfl)
      rw [h1] at y2
      cases y2
      exact dp_ex e1 h2
theorem ei_tup {xs : List α} {φ : α → PyData} (h : Ed tl σ B (.tuple (xs.map φ))) : EpI (iTup K tl) σ B xs (IyD φ) := fun B1 H1 a b R q =>
  h B1 H1 a b _ fun v B2 H2 g p => by
    obtain ⟨c, ys, rfl, hs, hd⟩ := dp_tup p
    have hl : ys.length = xs.length := by rw [dpa_len hd, List.length_map]
    refine ⟨c, rfl, ⟨ys, SqT.of (g.s _ _ hs)⟩, q _ B2 H2 g ⟨fun i H3 hi e => ?_, fun H3 e => ⟨ys, SqT.of (e _ _ hs), by omega⟩, fun i a B3 H3 x H4 ha e1 e2 y => ?_⟩⟩
    · exact ⟨ys, ys[i], SqT.of (e _ _ hs), by simp⟩
    · obtain ⟨rfl, y⟩ := y
      have y2 := y ys (SqT.of (e2 _ _ (e1 _ _ hs)))
      refine ⟨B3, Gr.refl e2, ?_⟩
      obtain ⟨w, h1, h2⟩ := dpa_get (i := i) (d := φ a) hd (by rw [List.getElem?_map, ha]; rfl)
      rw [h1] at y2
      cases y2
      exact dp_ex e1 h2
theorem ei_str {w : Str} (h : Ev tl σ B (.str w)) : EpI (iStr tl) σ B w.cps.toList (IyV fun c => .str ⟨#[c]⟩) := fun B1 H1 a b R q =>
  h B1 H1 a b _ fun v B2 H2 g p => by
    subst p
    refine ⟨w, rfl, q _ B2 H2 g ⟨fun i H3 hi e => ?_, fun H3 e => ?_, fun i a B3 H3 x H4 ha e1 e2 y => ?_⟩⟩
    · show i < w.cps.size
      simpa using hi
    · show w.cps.size ≤ w.cps.toList.length
      simp
    · obtain ⟨rfl, c, hc, rfl⟩ := y
      refine ⟨B3, Gr.refl e2, ?_⟩
      have : w.cps[i]? = some a := by simpa using ha
      rw [this] at hc
      cases hc
      rfl
theorem ei_rng1 {ta : TA} {n : Int} (h : EdA ta σ B [.int n]) (h1 : -1000000000 ≤ n) (h2 : n ≤ 1000000000) : EpI (iRng1 ta) σ B (List.range n.toNat) (IyV fun k => .int ((k : Nat) : Int)) := fun B1 H1 a b R q =>
  h B1 H1 a b _ fun vs B2 H2 g p => by
    obtain ⟨v, rfl, hv⟩ := dpa_one p
    cases hv
    refine ⟨n, rfl, by omega, by omega, q _ B2 H2 g ⟨fun i H3 hi e => (show i < n.toNat by rw [List.length_range] at hi; exact hi), fun H3 e => ?_, fun i a B3 H3 x H4 ha e1 e2 y => ?_⟩⟩
    · show n.toNat ≤ (List.range n.toNat).length
      simp
    · obtain ⟨rfl, rfl⟩ := y
      refine ⟨B3, Gr.refl e2, ?_⟩
      have : a = i := by
        have := List.getElem?_eq_some_iff.mp ha
        obtain ⟨h3, h4⟩ := this
        rw [← h4]; simp
      subst this
      show V.int (0 + _) = _
      rw [Int.zero_add]
theorem ei_rng2 {ta : TA} {lo n : Int} (h : EdA ta σ B [.int lo, .int n]) (h1 : -1000000000 ≤ lo ∧ lo ≤ 1000000000) (h2 : -1000000000 ≤ n ∧ n ≤ 1000000000) : EpI (iRng2 ta) σ B (List.range (n - lo).toNat) (IyV fun k => .int (lo + ((k : Nat) : Int))) := fun B1 H1 a b R q =>
  h B1 H1 a b _ fun vs B2 H2 g p => by
    obtain ⟨v, w, rfl, hv, hw⟩ := dpa_two p
    cases hv
    cases hw
    refine ⟨lo, n, rfl, ⟨by omega, by omega, by omega, by omega⟩, q _ B2 H2 g ⟨fun i H3 hi e => (show i < (n - lo).toNat by rw [List.length_range] at hi; exact hi), fun H3 e => ?_, fun i a B3 H3 x H4 ha e1 e2 y => ?_⟩⟩
    · show (n - lo).toNat ≤ (List.range (n - lo).toNat).length
      simp
    · obtain ⟨rfl, rfl⟩ := y
      refine ⟨B3, Gr.refl e2, ?_⟩
      have : a = i := by
        have := List.getElem?_eq_some_iff.mp ha
        obtain ⟨h3, h4⟩ := this
        rw [← h4]; simp
      subst this
      rfl
theorem ei_down {ta : TA} {n : Int} (h : EdA ta σ B [.int n, .int 0, .int (-1)]) (h1 : -1000000 ≤ n) (h2 : n ≤ 1000000) : EpI (iRng3 ta) σ B (List.range n.toNat) (IyV fun k => .int (n - ((k : Nat) : Int))) := fun B1 H1 a b R q =>
  h B1 H1 a b _ fun vs B2 H2 g p => by
    obtain ⟨v, ws, rfl, hv, hws⟩ := dpa_consE p
    obtain ⟨w, w2, rfl, hw, hw2⟩ := dpa_two hws
    cases hv
    cases hw
    cases hw2
    have hc := RgC.neg (i := n) (j := 0) (by omega) (by omega) (by omega) (by omega)
    rw [show n - 0 = n by omega] at hc
    refine ⟨n, 0, -1, n.toNat, rfl, hc, q _ B2 H2 g ⟨fun i H3 hi e => (show i < n.toNat by rw [List.length_range] at hi; exact hi), fun H3 e => ?_, fun i a B3 H3 x H4 ha e1 e2 y => ?_⟩⟩
    · show n.toNat ≤ (List.range n.toNat).length
      simp
    · obtain ⟨rfl, rfl⟩ := y
      refine ⟨B3, Gr.refl e2, ?_⟩
      have : a = i := by
        have := List.getElem?_eq_some_iff.mp ha
        obtain ⟨h3, h4⟩ := this
        rw [← h4]; simp
      subst this
      show V.int _ = V.int _
      congr 1
      omega
theorem ei_zip {ta : TA} {xs : List α} {ys : List β} {φ : α → PyData} {ψ : β → PyData} (h : EdA ta σ B [.list (xs.map φ), .list (ys.map ψ)]) : EpI (iZip K ta) σ B (xs.zip ys) (IyP (IyD φ) (IyD ψ)) := fun B1 H1 a b R q =>
  h B1 H1 a b _ fun vs B2 H2 g p => by
    obtain ⟨v, w, rfl, hv, hw⟩ := dpa_two p
    obtain ⟨c, us, rfl, hs, hd⟩ := dp_lst hv
    obtain ⟨c2, us2, rfl, hs2, hd2⟩ := dp_lst hw
    have hl : us.length = xs.length := by rw [dpa_len hd, List.length_map]
    have hl2 : us2.length = ys.length := by rw [dpa_len hd2, List.length_map]
    have hz : (xs.zip ys).length = min xs.length ys.length := List.length_zip
    refine ⟨c, c2, us, us2, rfl, SqL.of (g.s _ _ hs), SqL.of (g.s _ _ hs2), q _ B2 H2 g ⟨fun i H3 hi e => ?_, fun H3 e => ⟨us, us2, SqL.of (e _ _ hs), SqL.of (e _ _ hs2), by omega⟩, fun i a B3 H3 x H4 ha e1 e2 y => ?_⟩⟩
    · exact ⟨us, us2, us[i], us2[i], SqL.of (e _ _ hs), SqL.of (e _ _ hs2), by simp, by simp⟩
    · obtain ⟨T, x1, x2, rfl, hT, rfl, f1, f2⟩ := y
      have y1 := f1 us (SqL.of (e2 _ _ (e1 _ _ hs)))
      have y2 := f2 us2 (SqL.of (e2 _ _ (e1 _ _ hs2)))
      obtain ⟨h3, h4⟩ := List.getElem?_eq_some_iff.mp ha
      have k1 : xs[i]? = some a.1 := by
        rw [← h4]; simp [List.getElem_zip]
      have k2 : ys[i]? = some a.2 := by
        rw [← h4]; simp [List.getElem_zip]
      obtain ⟨w1, p1, p2⟩ := dpa_get (i := i) (d := φ a.1) hd (by rw [List.getElem?_map, k1]; rfl)
      obtain ⟨w2, p3, p4⟩ := dpa_get (i := i) (d := ψ a.2) hd2 (by rw [List.getElem?_map, k2]; rfl)
      obtain rfl : w1 = x1 := Option.some.inj (p1.symm.trans y1)
      obtain rfl : w2 = x2 := Option.some.inj (p3.symm.trans y2)
      have gn := Gr.new (o := .tup [w1, w2]) e2 hT
      exact ⟨_, gn, T, w1, w2, rfl, upd_same, dp_ex (e1.trans gn.b) p2, dp_ex (e1.trans gn.b) p4⟩
theorem ei_enum {ta : TA} {xs : List α} {φ : α → PyData} (h : EdA ta σ B [.list (xs.map φ)]) : EpI (iEnum K ta) σ B xs.zipIdx (fun ab v B => ∃ T x, v = .ref T ∧ B T = some (.tup [.int ((ab.2 : Nat) : Int), x]) ∧ Dq B x (φ ab.1)) := fun B1 H1 a b R q =>
  h B1 H1 a b _ fun vs B2 H2 g p => by
    obtain ⟨v, rfl, hv⟩ := dpa_one p
    obtain ⟨c, us, rfl, hs, hd⟩ := dp_lst hv
    have hl : us.length = xs.length := by rw [dpa_len hd, List.length_map]
    have hz : xs.zipIdx.length = xs.length := List.length_zipIdx
    refine ⟨c, us, rfl, SqL.of (g.s _ _ hs), q _ B2 H2 g ⟨fun i H3 hi e => ?_, fun H3 e => ⟨us, SqL.of (e _ _ hs), by omega⟩, fun i a B3 H3 x H4 ha e1 e2 y => ?_⟩⟩
    · exact ⟨us, us[i], SqL.of (e _ _ hs), by simp⟩
    · obtain ⟨T, x1, rfl, hT, rfl, f1⟩ := y
      have y1 := f1 us (SqL.of (e2 _ _ (e1 _ _ hs)))
      have ha' : xs[i]? = some a.1 ∧ a.2 = i := by
        rw [List.getElem?_zipIdx] at ha
        cases q : xs[i]? with
        | none => rw [q] at ha; simp at ha
        | some z => rw [q] at ha; simp at ha; rw [← ha]; simp
      obtain ⟨w1, p1, p2⟩ := dpa_get (i := i) (d := φ a.1) hd (by rw [List.getElem?_map, ha'.1]; rfl)
      obtain rfl : w1 = x1 := Option.some.inj (p1.symm.trans y1)
      have gn := Gr.new (o := .tup [.int ((i : Nat) : Int), w1]) e2 hT
      refine ⟨_, gn, T, w1, rfl, ?_, dp_ex (e1.trans gn.b) p2⟩
      rw [ha'.2]
      exact upd_same

/-! ### comprehensions -/
theorem ed_lc {xs : List α} {Iy : α → V → Hp → Prop} {wi : TI} {g : TG} {tt : TT} {vs : List Nat} (hi : EpI wi σ B xs Iy) (p : α → Bool) (r : α → PyData) (hn : xs.length ≤ 90000)
    (turn : ∀ a x B1, a ∈ xs → Evl.Ex B B1 → Iy a x B1 → ∃ σ2, (∀ H1 (Q : L2.St → Hp → Prop), Sub B1 H1 → Q σ2 H1 → g x (wipe σ vs) H1 Q) ∧ wipe σ2 vs = wipe σ vs ∧ EpT tt σ2 B1 (p a) ∧ (p a = true → Ed te σ2 B1 (r a))) :
    Ed (tLc wi g tt te vs) σ B (.list ((xs.filter p).map r)) := fun B1 H1 a b Q q =>
  hi B1 H1 a b _ fun J B2 H2 g2 wk D hD => by
    refine ⟨fun i m H => m = xs.length - i ∧ i ≤ xs.length ∧ ∃ B3 acc, Gr B2 H2 B3 H ∧ B3 D = none ∧ H D = some (.lst acc) ∧ DqAll B3 acc (((xs.take i).filter p).map r), ⟨xs.length, by simp, Nat.zero_le _, B2, [], Gr.more g2.s (Evl.Ex.new hD), sub_back g2.s hD, upd_same, .nil⟩, ?_⟩
    rintro i m H ⟨rfl, hil, B3, acc, g3, hB3, hDH, hacc⟩
    by_cases hlt : i < xs.length
    · refine .inr ⟨wk.goes i H hlt (g3.b.su g3.s), fun H => i + 1 ≤ xs.length ∧ ∃ B3 acc, Gr B2 H2 B3 H ∧ B3 D = none ∧ H D = some (.lst acc) ∧ DqAll B3 acc (((xs.take (i + 1)).filter p).map r), fun H' p' => ⟨xs.length - (i + 1), by omega, rfl, p'⟩, fun x H' y => ?_⟩
      have hxi : xs[i]? = some xs[i] := List.getElem?_eq_getElem hlt
      obtain ⟨B4, g4, hI⟩ := wk.yields i xs[i] B3 H x H' hxi g3.b g3.s y
      obtain ⟨hB4, hD4⟩ := g4.off hB3 hDH
      obtain ⟨σ2, k1, k2, k3, k4⟩ := turn xs[i] x B4 (List.getElem_mem hlt) (a.trans (g2.b.trans (g3.b.trans g4.b))) hI
      refine k1 H' _ g4.s ⟨k2, k3 B4 H' (Evl.Ex.refl _) g4.s _ fun B5 H5 g5 => ?_⟩
      obtain ⟨hB5, hD5⟩ := g5.off hB4 hD4
      have etake : (xs.take (i + 1)).filter p = (xs.take i).filter p ++ (if p xs[i] = true then [xs[i]] else []) := by
        rw [List.take_add_one, hxi, List.filter_append]
        congr 1
        show List.filter p [xs[i]] = _
        by_cases hp : p xs[i] = true
        · rw [if_pos hp, List.filter_cons_of_pos hp]; rfl
        · rw [if_neg hp, List.filter_cons_of_neg hp]; rfl
      by_cases hp : p xs[i] = true
      · rw [if_pos hp]
        refine k4 hp B5 H5 g5.b g5.s _ fun v B6 H6 g6 hv => ?_
        obtain ⟨hB6, hD6⟩ := g6.off hB5 hD5
        have hlen : acc.length ≤ xs.length := by
          rw [dpa_len hacc, List.length_map]
          refine Nat.le_trans (List.length_filter_le _ _) ?_
          rw [List.length_take]; omega
        have g36 : Gr B2 H2 B6 H6 := ((g3.tr g4).tr g5).tr g6
        refine ⟨acc, hD6, Evl.sz_lt (by omega), hlt, B6, _, g36.mut hD hB6, hB6, upd_same, ?_⟩
        rw [etake, if_pos hp, List.map_append]
        exact dpa_app (dpa_ex ((g4.b.trans g5.b).trans g6.b) hacc) (.cons hv .nil)
      · rw [if_neg hp]
        refine ⟨hlt, B5, acc, (g3.tr g4).tr g5, hB5, hD5, ?_⟩
        rw [etake, if_neg hp, List.append_nil]
        exact dpa_ex (g4.b.trans g5.b) hacc
    · have e : i = xs.length := by omega
      subst e
      refine .inl ⟨wk.stops H (g3.b.su g3.s), ?_⟩
      rw [List.take_length] at hacc
      have hD1 : H1 D = none := Evl.fresh_back g2.h hD
      exact q _ _ H ((g2.tr g3).pub hD1 hDH hB3) (.lst upd_same (dpa_ex (Evl.Ex.new hB3) hacc))
/-- the target of a comprehension: one name; two -/
theorem tg_name {σ0 : L2.St} (i : Nat) : ∀ H1 (Q : L2.St → Hp → Prop), Sub B H1 → Q (σ0.set i (some x)) H1 → gName i x σ0 H1 Q := fun H1 Q _ q => q
theorem tg_two {σ0 : L2.St} {T : Addr} (i j : Nat) (h : B T = some (.tup [x, y])) : ∀ H1 (Q : L2.St → Hp → Prop), Sub B H1 → Q ((σ0.set i (some x)).set j (some y)) H1 → gTup K 2 (gCons (gName i) (gCons (gName j) gNil)) (.ref T) σ0 H1 Q :=
  fun H1 Q e q => ⟨T, [x, y], rfl, SqT.of (e _ _ h), rfl, x, [y], rfl, y, [], rfl, rfl, q⟩

/-! ### statements -/
variable {D : Ends} {tu tw : TS} {g : TG}
theorem s_set {i : Nat} (h : Ep te σ B P) (e : Sub B H) (k : ∀ v B' H', Gr B H B' H' → P v B' → D.nx (σ.set i (some v)) H') : tAsg te (gName i) D σ H := h B H (Evl.Ex.refl _) e _ k
theorem s_ret (h : Ep te σ B P) (e : Sub B H) (k : ∀ v B' H', Gr B H B' H' → P v B' → D.rt v H') : tRet te D σ H := h B H (Evl.Ex.refl _) e _ k
theorem s_expr (h : Ep te σ B P) (e : Sub B H) (k : ∀ v B' H', Gr B H B' H' → P v B' → D.nx σ H') : tDrop te D σ H := h B H (Evl.Ex.refl _) e _ k
theorem s_if {b : Bool} (h : EpT t σ B b) (e : Sub B H) (h1 : b = true → ∀ B' H', Gr B H B' H' → tu D σ H') (h2 : b = false → ∀ B' H', Gr B H B' H' → tw D σ H') : tIfS t tu tw D σ H := h B H (Evl.Ex.refl _) e _ fun B' H' g => by
  cases b with
  | true =>
    show tu D σ H'
    exact h1 rfl B' H' g
  | false =>
    show tw D σ H'
    exact h2 rfl B' H' g
theorem s_par {i j : Nat} {ta : TA} {A : List V → Hp → Prop} (h : EpA ta σ B A) (e : Sub B H) (k : ∀ vs B' H', Gr B H B' H' → A vs B' → ∃ v w, vs = [v, w] ∧ D.nx ((σ.set i (some v)).set j (some w)) H') : tPar i j ta D σ H :=
  h B H (Evl.Ex.refl _) e _ fun vs B' H' g p => k vs B' H' g p
theorem s_app {l : Addr} {xs : List V} (ha : Ev ta σ B (.ref l)) (h : Ep te σ B P) (e : Sub B H) (hl : H l = some (.lst xs)) (hb : B l = none) (hz : xs.length < 100000)
    (k : ∀ v B' H', Gr B H B' H' → P v B' → B' l = none → H' l = some (.lst xs) → D.nx σ (upd H' l (.lst (xs ++ [v])))) : tDrop (tBM K "list" rAppend ta (tCons te tNil)) D σ H :=
  ha B H (Evl.Ex.refl _) e _ fun v B1 H1 g1 p1 => by
    subst p1
    obtain ⟨hb1, hl1⟩ := g1.off hb hl
    refine ⟨Or.inl ⟨rfl, xs, Evl.sq_of hl1⟩, h B1 H1 g1.b g1.s _ fun w B2 H2 g2 p2 => ?_⟩
    obtain ⟨hb2, hl2⟩ := g2.off hb1 hl1
    exact ⟨l, xs, w, rfl, rfl, hl2, Evl.sz_lt hz, k w B2 H2 (g1.tr g2) p2 hb2 hl2⟩
/-- xs[j] = e -/
theorem s_setL {l : Addr} {xs : List V} {j : Nat} (h : Ep te σ B P) (ho : Ev ta σ B (.ref l)) (hi : Ev tb σ B (.int (j : Int))) (e : Sub B H) (hl : H l = some (.lst xs)) (hb : B l = none) (hj : j < xs.length)
    (hs : Stb P) (k : ∀ v B' H', Gr B H B' H' → P v B' → B' l = none → H' l = some (.lst xs) → D.nx σ (upd H' l (.lst (xs.set j v)))) : tAsg te (gSub ta tb rSetL) D σ H :=
  h B H (Evl.Ex.refl _) e _ fun v B1 H1 g1 p1 => ho B1 H1 g1.b g1.s _ fun v2 B2 H2 g2 p2 => hi B2 H2 (g1.b.trans g2.b) g2.s _ fun v3 B3 H3 g3 p3 => by
    subst p2
    subst p3
    obtain ⟨hb3, hl3⟩ := ((g1.tr g2).tr g3).off hb hl
    exact ⟨l, xs, (j : Int), j, rfl, rfl, hl3, Evl.ixN_nat hj, k v B3 H3 ((g1.tr g2).tr g3) (hs _ _ _ (g2.b.trans g3.b) p1) hb3 hl3⟩
theorem s_for {xs : List α} {Iy : α → V → Hp → Prop} {wi : TI} (hi : EpI wi σ B xs Iy) (e : Sub B H)
    (k : ∀ B2 H2, Gr B H B2 H2 → ∃ Pv : List α → L2.St → Hp → Hp → Prop, Pv [] σ B2 H2 ∧ (∀ pre σ' B' H', Pv pre σ' B' H' → Evl.Ex B2 B' ∧ Sub B' H') ∧
      (∀ pre a post, xs = pre ++ a :: post → ∀ σ' B' H', Pv pre σ' B' H' → ∀ x B3 H3, Gr B' H' B3 H3 → Iy a x B3 → g x σ' H3 fun σ2 H4 => tu { D with nx := fun σ5 H5 => ∃ B5, Pv (pre ++ [a]) σ5 B5 H5, ct := fun σ5 H5 => ∃ B5, Pv (pre ++ [a]) σ5 B5 H5, bk := D.nx } σ2 H4) ∧
      ∀ σ' B' H', Pv xs σ' B' H' → D.nx σ' H') : tFor wi g tu D σ H :=
  hi B H (Evl.Ex.refl _) e _ fun J B2 H2 g2 wk => by
    obtain ⟨Pv, h0, hp, hs, hd⟩ := k B2 H2 g2
    refine ⟨fun i m σ' H' => m = xs.length - i ∧ i ≤ xs.length ∧ ∃ B', Pv (xs.take i) σ' B' H', ⟨xs.length, by simp, Nat.zero_le _, B2, by rw [List.take_zero]; exact h0⟩, ?_⟩
    rintro i m σ' H' ⟨rfl, hil, B', p⟩
    obtain ⟨e1, e2⟩ := hp _ _ _ _ p
    by_cases hlt : i < xs.length
    · refine .inr ⟨wk.goes i H' hlt (e1.su e2), fun σ5 H5 => ∃ B5, Pv (xs.take i ++ [xs[i]]) σ5 B5 H5, fun σ'' H'' ⟨B5, p'⟩ => ⟨xs.length - (i + 1), by omega, rfl, hlt, B5, (by rw [List.take_add_one, List.getElem?_eq_getElem hlt]; exact p')⟩, fun x H'' y => ?_⟩
      · have hxi : xs[i]? = some xs[i] := List.getElem?_eq_getElem hlt
        obtain ⟨B4, g4, hI⟩ := wk.yields i xs[i] B' H' x H'' hxi e1 e2 y
        refine hs (xs.take i) xs[i] (xs.drop (i + 1)) ?_ σ' B' H' p x B4 H'' g4 hI
        rw [← List.drop_eq_getElem_cons hlt, List.take_append_drop]
    · have z : i = xs.length := by omega
      subst z
      rw [List.take_length] at p
      exact .inl ⟨wk.stops H' (e1.su e2), hd σ' B' H' p⟩

/-! ### slices, sums of lists and tuples -/
theorem dpa_cut {vs : List V} {ds : List PyData} (lo hi : Option Int) (h : DqAll B vs ds) : DqAll B (cutV vs lo hi) ((ds.drop (HT.sIx ds.length 0 lo)).take (HT.sIx ds.length ds.length hi - HT.sIx ds.length 0 lo)) := by
  unfold cutV
  rw [dpa_len h]
  exact dpa_take _ (dpa_drop _ h)
def EpO (to : TO) (σ : L2.St) (B : Hp) (o : Option Int) : Prop := ∀ B1 H1, Evl.Ex B B1 → Sub B1 H1 → ∀ Q : Option Int → Hp → Prop, (∀ B2 H2, Gr B1 H1 B2 H2 → Q o H2) → to σ H1 Q
theorem eo_no : EpO tNoPart σ B none := fun B1 H1 a b Q q => q B1 H1 (Gr.refl b)
theorem eo_some {i : Int} (h : Ev te σ B (.int i)) : EpO (tPart te) σ B (some i) := fun B1 H1 a b Q q => h B1 H1 a b _ fun v B2 H2 g p => ⟨i, p, q B2 H2 g⟩
theorem ed_slL {ds es : List PyData} {tl th : TO} {lo hi : Option Int} (h : Ed te σ B (.list ds)) (hl : EpO tl σ B lo) (hh : EpO th σ B hi) (he : (ds.drop (HT.sIx ds.length 0 lo)).take (HT.sIx ds.length ds.length hi - HT.sIx ds.length 0 lo) = es) : Ed (tSl (rSlL K) te tl th) σ B (.list es) := fun B1 H1 a b Q q =>
  h B1 H1 a b _ fun v B2 H2 g2 p2 => hl B2 H2 (a.trans g2.b) g2.s _ fun B3 H3 g3 => hh B3 H3 (a.trans (g2.b.trans g3.b)) g3.s _ fun B4 H4 g4 => by
    obtain ⟨c, xs, rfl, hs, hd⟩ := dp_lst p2
    refine ⟨c, xs, rfl, SqL.of (g4.s _ _ (g4.b _ _ (g3.b _ _ hs))), fun p hp => ?_⟩
    refine gr_newL g4.s (dpa_ex (g3.b.trans g4.b) (dpa_cut lo hi hd)) (fun v B5 H5 g5 p5 => q v B5 H5 (((g2.tr g3).tr g4).tr g5) ?_) hp
    rw [← he]; exact p5
theorem ed_slT {ds es : List PyData} {tl th : TO} {lo hi : Option Int} (h : Ed te σ B (.tuple ds)) (hl : EpO tl σ B lo) (hh : EpO th σ B hi) (he : (ds.drop (HT.sIx ds.length 0 lo)).take (HT.sIx ds.length ds.length hi - HT.sIx ds.length 0 lo) = es) : Ed (tSl (rSlA K) te tl th) σ B (.tuple es) := fun B1 H1 a b Q q =>
  h B1 H1 a b _ fun v B2 H2 g2 p2 => hl B2 H2 (a.trans g2.b) g2.s _ fun B3 H3 g3 => hh B3 H3 (a.trans (g2.b.trans g3.b)) g3.s _ fun B4 H4 g4 => by
    obtain ⟨c, xs, rfl, hs, hd⟩ := dp_tup p2
    have hlen := dpa_len hd
    refine ⟨c, xs, rfl, SqT.of (g4.s _ _ (g4.b _ _ (g3.b _ _ hs))), fun w => ?_, fun _ p hp => ?_⟩
    · refine q _ B4 H4 ((g2.tr g3).tr g4) (dp_ex (g3.b.trans g4.b) (.tup hs ?_))
      rw [← he, ← hlen, w.1, w.2, List.drop_zero, Nat.sub_zero, hlen, List.take_length]
      exact hd
    · refine gr_newT g4.s (dpa_ex (g3.b.trans g4.b) (dpa_cut lo hi hd)) (fun v B5 H5 g5 p5 => q v B5 H5 (((g2.tr g3).tr g4).tr g5) ?_) hp
      rw [← he]; exact p5
theorem ed_cat {ds es : List PyData} (ha : Ed ta σ B (.list ds)) (hb : Ed tb σ B (.list es)) (hz : ds.length + es.length ≤ 100000) : Ed (tOp rCat ta tb) σ B (.list (ds ++ es)) :=
  ep_op ha hb (stb_dp _) fun x y B' _ p q B1 H1 a b Q k => by
    obtain ⟨c, xs, rfl, hs, hd⟩ := dp_lst p
    obtain ⟨c2, xs2, rfl, hs2, hd2⟩ := dp_lst q
    refine ⟨c, c2, xs, xs2, rfl, rfl, b _ _ (a _ _ hs), b _ _ (a _ _ hs2), by rw [dpa_len hd, dpa_len hd2]; exact Evl.sz_of hz, fun p hp => ?_⟩
    exact gr_newL b (dpa_ex a (dpa_app hd hd2)) k hp
theorem ed_catT {ds es : List PyData} (ha : Ed ta σ B (.tuple ds)) (hb : Ed tb σ B (.tuple es)) (hz : ds.length + es.length ≤ 100000) : Ed (tOp (rCatA K) ta tb) σ B (.tuple (ds ++ es)) :=
  ep_op ha hb (stb_dp _) fun x y B' _ p q B1 H1 a b Q k => by
    obtain ⟨c, xs, rfl, hs, hd⟩ := dp_tup p
    obtain ⟨c2, xs2, rfl, hs2, hd2⟩ := dp_tup q
    have l1 := dpa_len hd
    have l2 := dpa_len hd2
    refine ⟨c, c2, xs, xs2, rfl, rfl, SqT.of (b _ _ (a _ _ hs)), SqT.of (b _ _ (a _ _ hs2)), by rw [l1, l2]; exact Evl.sz_of hz, fun z => ?_, fun _ z => ?_, fun _ _ p hp => ?_⟩
    · subst z
      have : ds = [] := List.length_eq_zero_iff.mp (by rw [← l1]; rfl)
      subst this
      exact k _ B1 H1 (Gr.refl b) (dp_ex a (.tup hs2 hd2))
    · subst z
      have : es = [] := List.length_eq_zero_iff.mp (by rw [← l2]; rfl)
      subst this
      rw [List.append_nil] at k
      exact k _ B1 H1 (Gr.refl b) (dp_ex a (.tup hs hd))
    · exact gr_newT b (dpa_ex a (dpa_app hd hd2)) k hp
theorem ed_rep {ds : List PyData} {n : Int} (ha : Ed ta σ B (.list ds)) (hb : Ev tb σ B (.int n)) (h1 : -1000000 ≤ n) (h2 : n ≤ 1000000) (hz : ds.length * n.toNat ≤ 100000) : Ed (tOp rRep ta tb) σ B (.list (List.replicate n.toNat ds).flatten) :=
  ep_op ha hb (stb_dp _) fun x y B' _ p q B1 H1 a b Q k => by
    obtain ⟨c, xs, rfl, hs, hd⟩ := dp_lst p
    subst q
    have l1 := dpa_len hd
    refine ⟨c, n, xs, rfl, rfl, b _ _ (a _ _ hs), by omega, by omega, by rw [l1]; exact Evl.sz_of hz, fun p hp => ?_⟩
    refine gr_newL b (dpa_ex a ?_) k hp
    generalize n.toNat = m
    induction m with
    | zero => exact .nil
    | succ m ih => rw [List.replicate_succ, List.replicate_succ, List.flatten_cons, List.flatten_cons]; exact dpa_app hd ih
end
end Kx

/-! KxRules -/
/-! Rules of the machine that the hand layer has not: list and sorted of a text, a text unpacked, enumerate of a tuple, sum of a tuple, repr of data, a call by keywords alone. -/
namespace Kx
open PySem PySem.Spec PyProof.Rows L2

section
variable {X : Cx}

/-! ### the signs of a text as values -/
def sgs (x : Str) : List V := x.cps.toList.map fun c => V.str ⟨#[c]⟩
theorem vals_signs {x : Str} {acc : Array Value} (h : ItemsOf (SignAt x) acc x.cps.size) : Vals (sgs x) acc.toList := by
  refine vals_of_at (by simp [sgs, h.1]) fun j v u hv hu => ?_
  obtain ⟨c, t, hc, rfl⟩ := h.2 j u (by simpa using hu)
  unfold sgs at hv
  rw [List.getElem?_map] at hv
  have e : x.cps.toList[j]? = some c := by simpa using hc
  rw [e] at hv
  have e2 : V.str ⟨#[c]⟩ = v := Option.some.inj hv
  rw [← e2]
  exact ⟨t, rfl⟩
theorem strs_signs {x : Str} {acc : Array Value} (h : ItemsOf (SignAt x) acc x.cps.size) : StrsAre acc.toList (x.cps.toList.map fun c => (⟨#[c]⟩ : Str)) :=
  strsAre_of (ys := x.cps.toList.map fun c => (⟨#[c]⟩ : Str)) (by
    have := vals_signs h
    unfold sgs at this
    rw [List.map_map]
    exact this)

/-- list(text) -/
def rListT : List V → Hp → VK → Prop := fun vs H Q => ∃ x : Str, vs = [.str x] ∧ x.length ≤ 100000 ∧ ∀ l, H l = none → Q (.ref l) (upd H l (.lst (sgs x)))
theorem call_listT (hc : X.calm = true) : CallR X (.type "list") rListT := by
  intro pins s σ H vs us Q I r h
  obtain ⟨x, rfl, hz, q⟩ := h
  obtain ⟨u, rfl, t, rfl⟩ := vals1 r
  have hz' : x.cps.size ≤ sizeLine := Evl.sz_of hz
  refine call_list_str (I.ok.hd hc) x t (fun h' tk acc c' kp e hi => ?_) hz'
  have rv := vals_signs hi
  refine ⟨.ref s.heap.objs.size, _, I.laid (t' := tk) kp (Nat.le_refl _) (show ObjOk X.prog X.w _ h' _ (.lst (sgs x)) from ⟨?_, acc.toList, c', rv, by simpa using e⟩), rfl, q _ (I.hok.fresh (Nat.le_refl _))⟩
  have e1 : (sgs x).length = x.cps.size := by simp [sgs]
  rw [e1]; exact hz'

/-- sorted(text) -/
def rSortT : List V → Hp → VK → Prop := fun vs H Q => ∃ x : Str, vs = [.str x] ∧ x.length < 64 ∧
  ∀ (ys : List Str) (p : Addr), ys.Perm (x.cps.toList.map fun c => (⟨#[c]⟩ : Str)) → sortedS ys = true → H p = none → Q (.ref p) (upd H p (.lst (ys.map V.str)))
theorem sort_new {prog : Program} {w : World} {A : Around} {E : Value → Shared → Prop} {s1 : Shared} {acc : Array Value} {ss : List Str} {P : Value → Shared → Prop} (hS : StrsAre acc.toList ss) (hlen : acc.toList.length < 64)
    (h : ∀ (h' : Heap) (out : Array Value) (ys : List Str) (ep : Nat), (∀ b o, s1.heap.get? b = some o → h'.get? b = some o) →
      h'.get? s1.heap.objs.size = some (seqObj "list" out ep) → StrsAre out.toList ys → ys.Perm ss → sortedS ys = true → P .none { s1 with heap := h' }) :
    wpAny (model prog w) A (holding [.ref s1.heap.objs.size] (call (.builtin "list.sort") [.ref s1.heap.objs.size] [])) P E { s1 with heap := s1.heap.push (seqObj "list" acc.toList.toArray 0) } := by
  have hoL : (s1.heap.push (seqObj "list" acc.toList.toArray 0)).get? s1.heap.objs.size = some (seqObj "list" acc.toList.toArray 0) := Heap.get?_push_size _ rfl
  refine wpAny_holding (wpAny_call_entry slot_list_sort ⟨_, hoL, rfl⟩ entry_list_sort ?_ (args_list_sort _))
  refine list_sort_treeK (κ := strKind) (vs := acc.toList) (n := 0) strKind_oneLt hoL hS.keysOf (fun v1 v2 rest e => keyKind_strs (by rw [← e]; exact hS)) hlen fun st' a1 a2 => ?_
  obtain ⟨ys, b1, b2, b3⟩ := sorted_out_str hS a1 a2
  obtain ⟨ep, he⟩ := sortedHeap_at (out := Array.map (·.2) (arrOf st')) hoL
  refine ⟨_, rfl, h _ _ ys ep (fun b o e => ?_) he b1 b2 b3⟩
  have hlt := Heap.lt_size e
  rw [sortedHeap_old (Nat.ne_of_lt hlt) (by rw [size_push']; exact Nat.lt_succ_of_lt hlt)]
  exact Heap.get?_push_of_some _ e
theorem sorted_text {prog : Program} {w : World} {A : Around} {E : Value → Shared → Prop} {s : Shared} {Q : Value → Shared → Prop} (hh : A.handled = none) (x : Str) (t : Tok) (h64 : x.cps.size < 64)
    (h : ∀ (h1 h' : Heap) (tk : Nat) (out : Array Value) (ys : List Str) (ep : Nat), (∀ b o, s.heap.get? b = some o → h1.get? b = some o) → (∀ b o, h1.get? b = some o → h'.get? b = some o) →
      h'.get? h1.objs.size = some (seqObj "list" out ep) → StrsAre out.toList ys → ys.Perm (x.cps.toList.map fun c => (⟨#[c]⟩ : Str)) → sortedS ys = true → Q (.ref h1.objs.size) { s with heap := h', toks := tk }) :
    wpAny (model prog w) A (call (.builtin "sorted") [.str x t]) Q E s := by
  refine Calls.call_function_entry kind_sorted plain_sorted entry_sorted (args_sorted1 _) ?_
  unfold Builtin.«sorted»
  refine wpAny_bind (m := checkCount "sorted" 1 1 _) (wpAny_pure ?_)
  refine wpAny_bind (wpAny_collect_str (A := A.in1) hh x t (fun s1 acc hk hg hd ho hi => ?_) (by rw [sizeLine_eq]; omega))
  have hsz : acc.toList.length ≤ sizeLine := by rw [Array.length_toList, hi.1, sizeLine_eq]; omega
  refine wpAny_bind (wpAny_newList ?_ hsz)
  refine wpAny_bind (sort_new (strs_signs hi) (by rw [Array.length_toList, hi.1]; exact h64) fun h' out ys ep kp he b1 b2 b3 => ?_)
  refine wpAny_pure ⟨_, rfl, ?_⟩
  have fin := h s1.heap h' s1.toks out ys ep hk kp he b1 b2 b3
  rw [← hg, ← hd, ← ho] at fin
  exact fin
theorem cr_sortT (hc : X.calm = true) : CallR X (.builtin "sorted") rSortT := by
  intro pins s σ H vs us Q I r h
  obtain ⟨x, rfl, h64, q⟩ := h
  obtain ⟨u, rfl, t, rfl⟩ := vals1 r
  refine sorted_text (I.ok.hd hc) x t h64 fun h1 h' tk out ys ep k1 k2 ho hs hperm hsort => ?_
  have hlen : (ys.map V.str).length ≤ sizeLine := by
    rw [List.length_map, hperm.length_eq, List.length_map, Array.length_toList]; exact small64 h64
  have I1 : Inv X pins σ H { s with heap := h1, toks := tk } := I.kept (t' := tk) k1
  exact ⟨.ref _, _, I1.laid (t' := tk) k2 (Nat.le_refl _) (show ObjOk X.prog X.w _ h' h1.objs.size (.lst (ys.map V.str)) from ⟨hlen, out.toList, ep, vals_of_strs hs, by simpa using ho⟩), rfl, q ys _ hperm hsort (I1.hok.fresh (Nat.le_refl _))⟩
end
end Kx

/-! KxRules2 -/
namespace Kx
open PySem PySem.Spec PyProof.Rows L2

/-! ### a text of two signs unpacked into two targets -/
section
variable {prog : Program} {w : World} {A : Around} {E : Value → Shared → Prop} {s : Shared}
theorem draw_text {it : Addr} {x : Str} {t : Tok} : ∀ (n i : Nat) (s : Shared) (Q : List Value → Shared → Prop), A.handled = none → s.heap.IsStrIter it "str_ascii_iterator" x t i → i + n ≤ x.cps.size →
    (∀ h' tk (vs : List Value), h'.IsStrIter it "str_ascii_iterator" x t (i + n) → (∀ b o, b ≠ it → s.heap.get? b = some o → h'.get? b = some o) → Vals (((x.cps.toList.drop i).take n).map fun c => V.str ⟨#[c]⟩) vs → Q vs { s with heap := h', toks := tk }) →
    wpAny (model prog w) A (draw (.ref it) n) Q E s
  | 0, i, s, Q, _, hit, _, hQ => by
    show wpAny _ _ (pure []) Q E s
    exact wpAny_pure (by simpa using hQ s.heap s.toks [] hit (fun _ _ _ e => e) .nil)
  | n + 1, i, s, Q, hh, hit, hle, hQ => by
    have hlt : i < x.cps.size := by omega
    have W : Walks prog w A it [it] [it] x.cps.size (SignAt x) (fun i h => h.IsStrIter it "str_ascii_iterator" x t i) := Walks.strAscii hh it x t
    show wpAny _ _ (pyNext (.ref it) >>= _) Q E s
    refine wpAny_bind (W.item i s _ _ hlt hit fun v h1 tk hv hit1 k1 => ?_)
    refine wpAny_bind (wpAny_holding (draw_text n (i + 1) _ _ hh hit1 (by omega) fun h2 tk2 vs hit2 k2 hvs => wpAny_pure ?_))
    obtain ⟨c, u, hc, rfl⟩ := hv
    have e1 : x.cps.toList.drop i = c :: x.cps.toList.drop (i + 1) := by
      have : x.cps.toList[i]? = some c := by simpa using hc
      rw [List.drop_eq_getElem?_toList_append, this]; rfl
    refine hQ h2 tk2 (.str ⟨#[c]⟩ u :: vs) (by rw [show i + (n + 1) = i + 1 + n by omega]; exact hit2) (fun b o hb e => k2 b o hb (k1 b o (by simpa using hb) e)) ?_
    rw [e1, List.take_succ_cons, List.map_cons]
    exact .cons ⟨u, rfl⟩ hvs
theorem unpack_text {x : Str} {t : Tok} {Q : List Value → Shared → Prop} (hh : A.handled = none) (ha : x.cps.all (· < 128) = true)
    (hQ : ∀ h' tk (vs : List Value), (∀ b o, s.heap.get? b = some o → h'.get? b = some o) → Vals (x.cps.toList.map fun c => V.str ⟨#[c]⟩) vs → Q vs { s with heap := h', toks := tk }) :
    wpAny (model prog w) A (unpackItems (.str x t) x.cps.size none) Q E s := by
  unfold unpackItems
  refine wpAny_bind ?_
  · unfold notIterableAtAll
    refine wpAny_bind (wpAny_specialOf (T := "str") (v := .str x t) rfl F.slot_str_iter.lookup ?_)
    refine wpAny_pure ?_
    simp only [Bool.false_eq_true, if_false]
    refine wpAny_bind (wpAny_holding (wpAny_pyIter_ascii ha ?_))
    refine wpAny_bind (wpAny_holding (draw_text (x := x) (t := t) x.cps.size 0 _ _ hh ⟨_, Heap.get?_push_size _ rfl, rfl, rfl⟩ (by omega) fun h1 tk vs hit k1 hvs => ?_))
    have hl := hvs.length
    have hlen : vs.length = x.cps.size := by
      rw [← hl, List.length_map, List.length_take, List.length_drop, Array.length_toList]; omega
    rw [if_neg (by omega)]
    refine wpAny_bind (wpAny_holding (wpAny_pyNext_ascii_end hh (by simpa using hit) (by simp) fun h2 he => ?_))
    simp only [Option.isSome_none, Bool.false_eq_true, if_false]
    refine wpAny_pure (hQ h2 tk vs (fun b o e => ?_) ?_)
    · have hb : b ≠ s.heap.objs.size := Nat.ne_of_lt (Heap.lt_size e)
      exact he b o hb (k1 b o hb (Heap.get?_push_of_some _ e))
    · have e0 : (x.cps.toList.drop 0).take x.cps.size = x.cps.toList := by
        rw [List.drop_zero]; exact List.take_of_length_le (by simp)
      rw [e0] at hvs
      exact hvs
end
section
variable {X : Cx} {pos : Pos}
def gTxt (n : Nat) (t : TGs) : TG := fun v σ H Q => ∃ x : Str, v = .str x ∧ x.cps.all (· < 128) = true ∧ x.cps.size = n ∧ t (sgs x) σ H Q
theorem pg_txt {es : List Expr} {k : Nat} {t : TGs} {n : Nat} (hc : X.calm = true) (h : PGs X es t)
    (hn : (assignEach es X.env).length = n := by rfl) (hst : (assignEach es X.env).findIdx? (·.1) = none := by rfl) : PG X (.Tuple es k pos) (gTxt n t) := by
  refine ⟨fun pins s σ H v u Q I r hw => ?_⟩
  obtain ⟨x, rfl, ha, hl, hw⟩ := hw
  obtain ⟨tk, rfl⟩ := r
  rw [assign_Tuple]
  refine wpAny_bind (wpAny_standAt ?_)
  unfold unpack
  rw [hn, hst, ← hl]
  refine wpAny_bind (wpAny_holding (unpack_text (I.ok.hd hc) ha fun h' tk' vs kp hvs => ?_))
  have I1 : Inv X pins σ H { s with heap := h', toks := tk' } := I.kept (t' := tk') kp
  exact h.run pins _ σ H _ _ Q I1 hvs hw

/-! ### sum of a tuple of ints -/
def rSumT (K : PySem.W.Frag) : List V → Hp → VK → Prop := fun vs H Q => ∃ (a : Addr) (ns : List Int), vs = [V.ref a] ∧ SqT K H a (ns.map V.int) ∧ Q (.int ns.sum) H
theorem cr_sumT (hc : X.calm = true) : CallR X (.builtin "sum") (rSumT X.K) := by
  intro pins s σ H vs us Q I r h
  obtain ⟨a, ns, rfl, hs, q⟩ := h
  obtain ⟨its, rv, hl, _⟩ := I.tuple hs
  rw [Vals.ref1 r]
  have hi := rv.ints
  obtain ⟨xs, e⟩ := hi.allInts.items
  have hn : numsOf (intItems xs).toList = ns := by rw [← e]; exact hi.numsOf
  rw [nums_intItems] at hn
  rw [e] at hl
  have hT : s.heap.IsTuple a (intItems xs) := hl
  have hlt : a < s.heap.objs.size := by obtain ⟨_, e, _⟩ := hl; exact Heap.lt_size e
  refine call_sum_walkG (wpAny_pyIter_tuple hT ?_)
  refine ⟨_, [s.heap.objs.size, a], [s.heap.objs.size], _, _, _, numAt xs, rfl, Walks.tuple (A := X.A.in1) (I.ok.hd hc) s.heap.objs.size a (Nat.ne_of_lt hlt) (intItems xs), ⟨⟨_, Heap.get?_push_size _ rfl, rfl, rfl⟩, hT.push _⟩, fun c hc => ?_, (fun _ _ => intItems_at), fun h' tk t' hk => ?_⟩
  · show c < (s.heap.push _).objs.size
    rw [Heap.size_push]
    rcases List.mem_cons.mp hc with rfl | hc
    · exact Nat.lt_succ_self _
    · rw [List.mem_singleton.mp hc]; exact Nat.lt_succ_of_lt hlt
  · have I1 : Inv X pins σ H { s with heap := h', toks := tk } := I.kept (t' := tk) fun b o e => hk b o (fun z => absurd (Heap.lt_size e) (by rw [List.mem_singleton.mp z]; exact Nat.lt_irrefl _)) (Heap.get?_push_of_some _ e)
    refine ⟨.int _, H, I1, ⟨_, rfl⟩, ?_⟩
    have ez : preSum (numAt xs) (intItems xs).size = ns.sum := by
      rw [preSum_eq, List.take_of_length_le (by simp [intItems]), hn]
    rw [ez]
    exact q

/-! ### repr of lists and tuples of data -/
def rReprD (K : PySem.W.Frag) : List V → Hp → VK → Prop := fun vs H Q => ∃ (a : Addr) (d : PyData), vs = [.ref a] ∧ Dp K H (.ref a) d ∧ d.showable = true ∧ d.hasDict = false ∧ d.depth ≤ 60 ∧ d.shown.length ≤ sizeLine ∧ Q (.str d.shown) H
theorem cr_reprD (hg : X.A.guards = some []) (hu : X.A.units + 64 < cLine) : CallR X (.builtin "repr") (rReprD X.K) := by
  intro pins s σ H vs us Q I r h
  obtain ⟨a, d, rfl, hd, hs, hnd, hdp, hz, q⟩ := h
  rw [Vals.ref1 r]
  obtain ⟨as, r1⟩ := Dp.reads I d (.ref a) (.ref a) hd rfl
  refine repr_of_reads' r1 hs (PyData.noDict_hsm hnd) hg (by omega) (fun _ _ e => e) (fun h' u tk hk => ?_) hz
  exact ⟨.str d.shown, H, I.kept (t' := tk) hk, ⟨_, rfl⟩, q⟩

/-! ### a call by keywords alone -/
section
variable {CX : CXT} {k : Nat} {f : Addr} {fd : FuncData} {ps ks : List Str} {sp : Sp} {E : XK} {x : Str} {p pos' : Pos} {kws : List Keyword} {tk : TA} {g : List Value → List Value → List Value} {gV : List V → List V → List V}
theorem pe_callKW (F : FnOk X.prog X.w X.K X.mg X.base CX k f fd ps sp) (hr : Room k X.A) (hg : Gl X x) (hm : X.mg x = some (.ref f)) (hk : PySem.W.keepIn X.K (.ref f) = true) (hb : KBinds X.K fd ps ks g gV) (hx : Passes CX X E)
    (hkw : PK X kws tk) (hall : (backToKw pos' (keywordEach kws X.env)).all (·.1.isSome) = true := by rfl) (hks : (backToKw pos' (keywordEach kws X.env)).filterMap (·.1) = ks := by rfl)
    (hdb : (x == ("__debug__" : Str)) = false := by decide)
    (hpl : ((backTo pos' (starEach [] X.env)).any (·.1) || (backToKw pos' (keywordEach kws X.env)).any (·.1.isNone)) = false := by rfl) :
    PE X (.Call (.Name x p) [] kws pos') (tCallK sp gV E tNil tk) := by
  refine ⟨fun pins s σ H Q I h => ?_⟩
  refine wpAny_Call_Name_kw (ld_glob I hg hm ?_ hdb)
  refine PySem.W.callWith_KW0 (h₀ := X.base) I.ok.mod.kin hk hall ?_ hpl
  refine thn (hkw.run pos' pins s σ H _ I h) fun ws s2 ⟨zs, H2, I2, rz, q2⟩ => ⟨I2.kIn, ?_⟩
  rw [hks]
  exact run_fnk (us := []) F hr hb hx I2 .nil rz q2
end
end
end Kx

/-! KxRules3 -/
namespace Kx
open PySem PySem.Spec PyProof.Rows L2
open AutoSeq1 (wpAny_loadPart')

/-! ### enumerate of a tuple -/
theorem meets_enumerate_newT (l : Addr) (items : Array Value) (n : Nat) (dct : Option Addr) (sl : Array (Option Value)) :
    Meets (Builtin.«enumerate.__new__» ⟨[.type "enumerate", .ref l], []⟩) (fun _ R s => s.heap.get? l = some { cls := .type "tuple", dict := dct, data := .seq items n, slots := sl } ∧
      R (.ok (.ret (.ref (s.heap.push { cls := .type "tuple_iterator", data := .fields #[.ref l, .int 0 0] }).objs.size)))
        { s with heap := (s.heap.push { cls := .type "tuple_iterator", data := .fields #[.ref l, .int 0 0] }).push { cls := .type "enumerate", data := .fields #[.none, .bool false, .ref s.heap.objs.size, rawInt 0, .none, .none] } }) :=
  .of_wp fun prog w A R s h => by
    obtain ⟨hp, g, d, tk, os⟩ := s; obtain ⟨hl, h⟩ := h
    have hsub := sub_enumerate
    have hT : Heap.IsTuple (Shared.heap ⟨hp, g, d, tk, os⟩) l items := ⟨_, hl, rfl, n, rfl⟩
    wp_walk using wpAny_loadPart' hl
    refine wpAny_stack_any fun st => wpAny_pure ?_
    split
    · rename_i c _ _ _ _ _
      cases (c == Value.type "enumerate")
      · wp_walk using wpAny_loadPart' hl, wpAny_pyIter_tuple hT
        exact ⟨_, rfl, h⟩
      · wp_walk using wpAny_loadPart' hl, wpAny_pyIter_tuple hT
        exact ⟨_, rfl, h⟩
    · wp_walk using wpAny_loadPart' hl, wpAny_pyIter_tuple hT
      exact ⟨_, rfl, h⟩
section
variable {prog : Program} {w : World} {A : Around} {E : Value → Shared → Prop} {s : Shared}
theorem call_enumerate_tuple {l : Addr} {items : Array Value} {Q : Value → Shared → Prop} (hL : IsTup s.heap l items)
    (h : ∀ h', IsEnum h' (s.heap.objs.size + 1) s.heap.objs.size 0 .none → h'.IsTupleIter s.heap.objs.size l 0 → h'.objs.size = s.heap.objs.size + 2 →
      (∀ b o, s.heap.get? b = some o → h'.get? b = some o) → Q (.ref (s.heap.objs.size + 1)) { s with heap := h' }) :
    wpAny (model prog w) A (call (.type "enumerate") [.ref l]) Q E s := by
  obtain ⟨⟨c, dct, dt, sl⟩, hl, hc, n, hd⟩ := hL
  replace hc : c = .type "tuple" := hc
  replace hd : dt = .seq items n := hd
  subst hc hd
  refine callType_new F.called_enumerate (by decide) (F.typeCall_enumerate_1 _) (F.newCall_enumerate_1 _) (fun obj => F.args_object_init_2 obj _) F.entry_enumerate_new
    (meets_enumerate_newT l items n dct sl) ⟨hl, ?_⟩
  have hz : (s.heap.push { cls := .type "tuple_iterator", data := .fields #[.ref l, .int 0 0] }).objs.size = s.heap.objs.size + 1 := Heap.size_push ..
  show _ ∧ _
  rw [hz]
  have he : IsEnum ((s.heap.push { cls := .type "tuple_iterator", data := .fields #[.ref l, .int 0 0] }).push
      { cls := .type "enumerate", data := .fields #[.none, .bool false, .ref s.heap.objs.size, rawInt 0, .none, .none] }) (s.heap.objs.size + 1) s.heap.objs.size 0 .none := by
    have := Heap.get?_push_size (s.heap.push { cls := .type "tuple_iterator", data := .fields #[.ref l, .int 0 0] })
      (o := { cls := .type "enumerate", data := .fields #[.none, .bool false, .ref s.heap.objs.size, rawInt 0, .none, .none] }) rfl
    rw [hz] at this; exact this
  refine ⟨⟨_, he, rfl⟩, h _ he ⟨_, Heap.get?_push_of_some _ (Heap.get?_push_size _ rfl), rfl, rfl⟩ (by rw [Heap.size_push, hz]) fun b o x => Heap.get?_push_of_some _ (Heap.get?_push_of_some _ x)⟩
end
def IteT (K : PySem.W.Frag) (a : Addr) : L2.It :=
  ⟨fun i H => ∃ (xs : List V) (x : V), SqT K H a xs ∧ xs[i]? = some x, fun i H v H' => ∃ T x, v = .ref T ∧ H T = none ∧ H' = upd H T (.tup [.int (i : Nat), x]) ∧ ∀ xs, SqT K H a xs → xs[i]? = some x, fun i H => ∃ xs : List V, SqT K H a xs ∧ xs.length = i⟩
theorem turn_enumT {P : Program} {w : World} {K : PySem.W.Frag} {elts : List Expr} {kk : Nat} {tpos : Pos} (a e it : Addr) :
    Turn P w K (.Tuple elts kk tpos) (IteT K a) [e, it] e (fun i h => (∃ old, IsEnum h e it ((i : Nat) : Int) old) ∧ h.IsTupleIter it a i ∧ e ≠ it ∧ it ≠ a) where
  mem := by simp
  obj := fun i h st b hb => by
    obtain ⟨⟨old, he⟩, ⟨o, ho, hc, hd⟩, _⟩ := st
    have e' : b = e ∨ b = it := by simpa using hb
    rcases e' with z | z
    · rw [z]; exact ⟨_, he, fun v q => nomatch q⟩
    · rw [z]; exact ⟨o, ho, fun v q => by rw [hd] at q; cases q⟩
  keep := fun i h h' st k => let ⟨⟨old, he⟩, hi, hne⟩ := st; ⟨⟨old, k e (by simp) _ he⟩, hi.at fun o q => k it (by simp) o q, hne⟩
  item := by
    intro X hP hw hK hc i pins s σ H E I hf st hg
    subst hP hw hK
    obtain ⟨⟨old, he⟩, hit, hne, hia⟩ := st
    obtain ⟨xs, x, hq, hx⟩ := hg
    obtain ⟨its, rv, p, hz⟩ := I.tuple hq
    obtain ⟨u, hu, ru⟩ := rv.get hx
    have hel : e < s.heap.objs.size := Heap.lt_size he
    have hil : it < s.heap.objs.size := by obtain ⟨_, q, _⟩ := hit; exact Heap.lt_size q
    have hlt : i < its.toArray.size := by rw [List.size_toArray]; exact (List.getElem?_eq_some_iff.mp hu).1
    have hTa : s.heap.IsTuple a its.toArray := p
    have eH : H e = none := (hf e (by simp)).1
    have hea : e ≠ a := fun z => by
      subst z
      obtain ⟨o1, h1, h2, _⟩ := p
      rw [show s.heap.get? e = _ from he] at h1
      cases h1
      have h3 : Value.type "enumerate" = Value.type "tuple" := h2
      injection h3 with h4
      exact absurd h4 (by decide)
    refine wpAny_pyNext_enum_itemD (Draws.tuple (A := X.A.in1) (I.ok.hd hc) it a (Ne.symm hia) its.toArray) he ⟨hit, hTa⟩ hlt hne (by simp [hne, hea]) fun x' h' tk hx' ho hst' hT hsz hk => ?_
    have hxx : x' = u := by
      have e1 : its[i]? = some x' := by simpa using hx'
      rw [hu] at e1
      exact (Option.some.inj e1).symm
    subst hxx
    refine ⟨_, rfl, wpAny_letOwnedTupleGo_enum (s := { s with heap := h', toks := tk + 1 }) ho fun h'' he' sb => ?_⟩
    have hT2 : h''.get? s.heap.objs.size = some { cls := .type "tuple", data := .seq #[.int i tk, x'] } := (sb.2 _ (Nat.ne_of_gt hel)).trans hT
    have new : ObjOk X.prog X.w (upd H s.heap.objs.size (.tup [.int (i : Nat), x])) h'' s.heap.objs.size (.tup [.int (i : Nat), x]) :=
      ⟨by show 2 ≤ sizeLine; decide, [.int i tk, x'], .cons ⟨_, rfl⟩ (.cons ru .nil), ⟨_, hT2, rfl, _, rfl⟩⟩
    have I1 : Inv X pins σ (upd H s.heap.objs.size (.tup [.int (i : Nat), x])) { s with heap := h'', toks := tk + 1 } :=
      I.turnedNew (ch := [e, it]) (fun b ob hb q => (sb.2 b (fun z => hb (by simp [z]))).trans (hk b ob (fun z => hb (by simp [z])) (fun z => hb (by simp [z])) q)) hf (Nat.le_refl _) new
    refine ⟨.ref s.heap.objs.size, _, I1, rfl, ⟨_, x, rfl, I.hok.fresh (Nat.le_refl _), rfl, fun ys hy => by rw [I.tuple_inj hy hq]; exact hx⟩, ⟨⟨x', ?_⟩, hst'.1.at fun o q => (sb.2 it (Ne.symm hne)).trans q, hne, hia⟩, fun b hb => ?_⟩
    · have e1 : ((i + 1 : Nat) : Int) = (i : Int) + 1 := by omega
      rw [e1]; exact he'
    · have hb' : b < s.heap.objs.size := by
        have e' : b = e ∨ b = it := by simpa using hb
        rcases e' with z | z
        · rw [z]; exact hel
        · rw [z]; exact hil
      rw [upd_ne (Nat.ne_of_lt hb')]
      exact (hf b hb).1
  done := by
    intro X hP hw hK hc i pins s σ H E I hf st hg
    subst hP hw hK
    obtain ⟨⟨old, he⟩, hit, hne, hia⟩ := st
    obtain ⟨xs, hq, hx⟩ := hg
    obtain ⟨its, rv, p, hz⟩ := I.tuple hq
    obtain ⟨f0, f1, f2, f3, f4, f5⟩ := hf it (by simp)
    have hl := rv.length
    have hi : i = its.toArray.size := by rw [List.size_toArray]; omega
    subst hi
    exact wpAny_pyNext_enum_endD (Draws.tuple (A := X.A.in1) (I.ok.hd hc) it a (Ne.symm hia) its.toArray) he ⟨hit, p⟩ fun h' eb => ⟨rfl, I.turned (t' := s.toks) (fun b o hb q => eb b o hb q) f0 f1 f3 f4 f5⟩
  self := fun A i s Q E st h => let ⟨⟨_, he⟩, _⟩ := st; wpAny_pyIter_enum he h
def iEnumT (K : PySem.W.Frag) (ta : TA) : TI := fun σ H R => ta σ H fun vs H1 => ∃ a xs, vs = [.ref a] ∧ SqT K H1 a xs ∧ R (IteT K a) H1
theorem pi_enumT {X : Cx} {e : Expr} {ta : TA} {p pos tpos : Pos} {elts : List Expr} {kk : Nat} (hg : Gl X "enumerate") (hm : X.mg "enumerate" = none) (ha : PA X [e] ta) (hs : starEach [e] X.env = [(false, eval e X.env)] := by rfl) :
    PI X (.Tuple elts kk tpos) (.Call (.Name "enumerate" p) [e] [] pos) (iEnumT X.K ta) := by
  refine ⟨fun pins s σ H R I h => ?_⟩
  refine Call_ (ld_blt I hg hm boot_enumerate (PyProof.Rows.callWith_type1 (thn (ha.run pos pins s σ H _ I h) fun us s1 ⟨vs, H1, I1, r1, q1⟩ => ?_) hs rfl))
  obtain ⟨a, xs, ex, hq, q⟩ := q1
  subst ex
  rw [Vals.ref1 r1]
  obtain ⟨its, rv, p', hz⟩ := I1.tuple hq
  have hal : a < s1.heap.objs.size := p'.lt
  refine call_enumerate_tuple p' fun h' he hit hsz hk => wpAny_pyIter_enum he ?_
  have I2 : Inv X pins σ H1 { s1 with heap := h' } := I1.kept (t' := s1.toks) hk
  refine ⟨s1.heap.objs.size + 1, [s1.heap.objs.size + 1, s1.heap.objs.size], _, _, H1, rfl, I2, turn_enumT a (s1.heap.objs.size + 1) s1.heap.objs.size, ⟨⟨.none, he⟩, hit, Nat.succ_ne_self _, Nat.ne_of_gt hal⟩, fun b hb => ?_, q⟩
  have e' : b = s1.heap.objs.size + 1 ∨ b = s1.heap.objs.size := by simpa using hb
  have hle : s1.heap.objs.size ≤ b := by
    rcases e' with z | z
    · rw [z]; exact Nat.le_add_right _ _
    · rw [z]; exact Nat.le_refl _
  exact I1.fpOk hle (I1.hok.fresh hle)
end Kx

/-! KxRules4 -/
namespace Kx
open PySem PySem.Spec PyProof.Rows L2
open AutoSeq1 (wpAny_loadPart')

/-! ### enumerate of a text -/
theorem meets_enumerate_newS (x : Str) (t : Tok) (ha : x.cps.all (· < 128) = true) :
    Meets (Builtin.«enumerate.__new__» ⟨[.type "enumerate", .str x t], []⟩) (fun _ R s =>
      R (.ok (.ret (.ref (s.heap.push { cls := .type "str_ascii_iterator", data := .fields #[.str x t, .int 0 0] }).objs.size)))
        { s with heap := (s.heap.push { cls := .type "str_ascii_iterator", data := .fields #[.str x t, .int 0 0] }).push { cls := .type "enumerate", data := .fields #[.none, .bool false, .ref s.heap.objs.size, rawInt 0, .none, .none] } }) :=
  .of_wp fun prog w A R s h => by
    obtain ⟨hp, g, d, tk, os⟩ := s
    have hsub := sub_enumerate
    wp_walk using wpAny_pyIter_ascii ha
    refine wpAny_stack_any fun st => wpAny_pure ?_
    split
    · rename_i c _ _ _ _ _
      cases (c == Value.type "enumerate")
      · wp_walk using wpAny_pyIter_ascii ha
        exact ⟨_, rfl, h⟩
      · wp_walk using wpAny_pyIter_ascii ha
        exact ⟨_, rfl, h⟩
    · wp_walk using wpAny_pyIter_ascii ha
      exact ⟨_, rfl, h⟩
section
variable {prog : Program} {w : World} {A : Around} {E : Value → Shared → Prop} {s : Shared}
theorem call_enumerate_text {x : Str} {t : Tok} (ha : x.cps.all (· < 128) = true) {Q : Value → Shared → Prop}
    (h : ∀ h', IsEnum h' (s.heap.objs.size + 1) s.heap.objs.size 0 .none → h'.IsStrIter s.heap.objs.size "str_ascii_iterator" x t 0 → h'.objs.size = s.heap.objs.size + 2 →
      (∀ b o, s.heap.get? b = some o → h'.get? b = some o) → Q (.ref (s.heap.objs.size + 1)) { s with heap := h' }) :
    wpAny (model prog w) A (call (.type "enumerate") [.str x t]) Q E s := by
  refine callType_new F.called_enumerate (by decide) (F.typeCall_enumerate_1 _) (F.newCall_enumerate_1 _) (fun obj => F.args_object_init_2 obj _) F.entry_enumerate_new
    (meets_enumerate_newS x t ha) ?_
  have hz : (s.heap.push { cls := .type "str_ascii_iterator", data := .fields #[.str x t, .int 0 0] }).objs.size = s.heap.objs.size + 1 := Heap.size_push ..
  show _ ∧ _
  rw [hz]
  have he : IsEnum ((s.heap.push { cls := .type "str_ascii_iterator", data := .fields #[.str x t, .int 0 0] }).push
      { cls := .type "enumerate", data := .fields #[.none, .bool false, .ref s.heap.objs.size, rawInt 0, .none, .none] }) (s.heap.objs.size + 1) s.heap.objs.size 0 .none := by
    have := Heap.get?_push_size (s.heap.push { cls := .type "str_ascii_iterator", data := .fields #[.str x t, .int 0 0] })
      (o := { cls := .type "enumerate", data := .fields #[.none, .bool false, .ref s.heap.objs.size, rawInt 0, .none, .none] }) rfl
    rw [hz] at this; exact this
  refine ⟨⟨_, he, rfl⟩, h _ he ⟨_, Heap.get?_push_of_some _ (Heap.get?_push_size _ rfl), rfl, rfl⟩ (by rw [Heap.size_push, hz]) fun b o x => Heap.get?_push_of_some _ (Heap.get?_push_of_some _ x)⟩
end
def IteS (x : Str) : L2.It :=
  ⟨fun i H => i < x.cps.size, fun i H v H' => ∃ T c, v = .ref T ∧ H T = none ∧ x.cps[i]? = some c ∧ H' = upd H T (.tup [.int (i : Nat), .str ⟨#[c]⟩]), fun i H => x.cps.size = i⟩
theorem turn_enumS {P : Program} {w : World} {K : PySem.W.Frag} {elts : List Expr} {kk : Nat} {tpos : Pos} (x : Str) (t : Tok) (e it : Addr) :
    Turn P w K (.Tuple elts kk tpos) (IteS x) [e, it] e (fun i h => (∃ old, IsEnum h e it ((i : Nat) : Int) old) ∧ h.IsStrIter it "str_ascii_iterator" x t i ∧ e ≠ it) where
  mem := by simp
  obj := fun i h st b hb => by
    obtain ⟨⟨old, he⟩, ⟨o, ho, hc, hd⟩, _⟩ := st
    have e' : b = e ∨ b = it := by simpa using hb
    rcases e' with z | z
    · rw [z]; exact ⟨_, he, fun v q => nomatch q⟩
    · rw [z]; exact ⟨o, ho, fun v q => by rw [hd] at q; cases q⟩
  keep := fun i h h' st k => let ⟨⟨old, he⟩, ⟨o, ho, r⟩, hne⟩ := st; ⟨⟨old, k e (by simp) _ he⟩, ⟨o, k it (by simp) o ho, r⟩, hne⟩
  item := by
    intro X hP hw hK hc i pins s σ H E I hf st hg
    subst hP hw hK
    obtain ⟨⟨old, he⟩, hit, hne⟩ := st
    have hlt : i < x.cps.size := hg
    have hel : e < s.heap.objs.size := Heap.lt_size he
    have hil : it < s.heap.objs.size := by obtain ⟨_, q, _⟩ := hit; exact Heap.lt_size q
    refine wpAny_pyNext_enum_itemD (Draws.strAscii (A := X.A.in1) (I.ok.hd hc) it x t) he hit hlt hne (by simp [hne]) fun x' h' tk hx' ho hst' hT hsz hk => ?_
    obtain ⟨c, u, hcx, rfl⟩ := hx'
    refine ⟨_, rfl, wpAny_letOwnedTupleGo_enum (s := { s with heap := h', toks := tk + 1 }) ho fun h'' he' sb => ?_⟩
    have hT2 : h''.get? s.heap.objs.size = some { cls := .type "tuple", data := .seq #[.int i tk, .str ⟨#[c]⟩ u] } := (sb.2 _ (Nat.ne_of_gt hel)).trans hT
    have new : ObjOk X.prog X.w (upd H s.heap.objs.size (.tup [.int (i : Nat), .str ⟨#[c]⟩])) h'' s.heap.objs.size (.tup [.int (i : Nat), .str ⟨#[c]⟩]) :=
      ⟨by show 2 ≤ sizeLine; decide, [.int i tk, .str ⟨#[c]⟩ u], .cons ⟨_, rfl⟩ (.cons ⟨_, rfl⟩ .nil), ⟨_, hT2, rfl, _, rfl⟩⟩
    have I1 : Inv X pins σ (upd H s.heap.objs.size (.tup [.int (i : Nat), .str ⟨#[c]⟩])) { s with heap := h'', toks := tk + 1 } :=
      I.turnedNew (ch := [e, it]) (fun b ob hb q => (sb.2 b (fun z => hb (by simp [z]))).trans (hk b ob (fun z => hb (by simp [z])) (fun z => hb (by simp [z])) q)) hf (Nat.le_refl _) new
    refine ⟨.ref s.heap.objs.size, _, I1, rfl, ⟨_, c, rfl, I.hok.fresh (Nat.le_refl _), hcx, rfl⟩, ⟨⟨.str ⟨#[c]⟩ u, ?_⟩, ?_, hne⟩, fun b hb => ?_⟩
    · have e1 : ((i + 1 : Nat) : Int) = (i : Int) + 1 := by omega
      rw [e1]; exact he'
    · obtain ⟨o, ho2, r⟩ := hst'
      exact ⟨o, (sb.2 it (Ne.symm hne)).trans ho2, r⟩
    · have hb' : b < s.heap.objs.size := by
        have e' : b = e ∨ b = it := by simpa using hb
        rcases e' with z | z
        · rw [z]; exact hel
        · rw [z]; exact hil
      rw [upd_ne (Nat.ne_of_lt hb')]
      exact (hf b hb).1
  done := by
    intro X hP hw hK hc i pins s σ H E I hf st hg
    subst hP hw hK
    obtain ⟨⟨old, he⟩, hit, hne⟩ := st
    obtain ⟨f0, f1, f2, f3, f4, f5⟩ := hf it (by simp)
    have hi : x.cps.size = i := hg
    subst hi
    exact wpAny_pyNext_enum_endD (Draws.strAscii (A := X.A.in1) (I.ok.hd hc) it x t) he hit fun h' eb => ⟨rfl, I.turned (t' := s.toks) (fun b o hb q => eb b o hb q) f0 f1 f3 f4 f5⟩
  self := fun A i s Q E st h => let ⟨⟨_, he⟩, _⟩ := st; wpAny_pyIter_enum he h
def iEnumS (ta : TA) : TI := fun σ H R => ta σ H fun vs H1 => ∃ x : Str, vs = [.str x] ∧ x.cps.all (· < 128) = true ∧ R (IteS x) H1
theorem pi_enumS {X : Cx} {e : Expr} {ta : TA} {p pos tpos : Pos} {elts : List Expr} {kk : Nat} (hg : Gl X "enumerate") (hm : X.mg "enumerate" = none) (ha : PA X [e] ta) (hs : starEach [e] X.env = [(false, eval e X.env)] := by rfl) :
    PI X (.Tuple elts kk tpos) (.Call (.Name "enumerate" p) [e] [] pos) (iEnumS ta) := by
  refine ⟨fun pins s σ H R I h => ?_⟩
  refine Call_ (ld_blt I hg hm boot_enumerate (PyProof.Rows.callWith_type1 (thn (ha.run pos pins s σ H _ I h) fun us s1 ⟨vs, H1, I1, r1, q1⟩ => ?_) hs rfl))
  obtain ⟨x, ex, hq, q⟩ := q1
  subst ex
  obtain ⟨u, rfl, t, rfl⟩ := vals1 r1
  refine call_enumerate_text hq fun h' he hit hsz hk => wpAny_pyIter_enum he ?_
  have I2 : Inv X pins σ H1 { s1 with heap := h' } := I1.kept (t' := s1.toks) hk
  refine ⟨s1.heap.objs.size + 1, [s1.heap.objs.size + 1, s1.heap.objs.size], _, _, H1, rfl, I2, turn_enumS x t (s1.heap.objs.size + 1) s1.heap.objs.size, ⟨⟨.none, he⟩, hit, Nat.succ_ne_self _⟩, fun b hb => ?_, q⟩
  have e' : b = s1.heap.objs.size + 1 ∨ b = s1.heap.objs.size := by simpa using hb
  have hle : s1.heap.objs.size ≤ b := by
    rcases e' with z | z
    · rw [z]; exact Nat.le_add_right _ _
    · rw [z]; exact Nat.le_refl _
  exact I1.fpOk hle (I1.hok.fresh hle)
end Kx

/-! KxOps -/
namespace Kx
open PySem PySem.Spec PyProof.Rows L2

abbrev Sx (l : List Nat) : Str := ⟨l.toArray⟩
abbrev sg (c : Nat) : Str := ⟨#[c]⟩
theorem sx_len (l : List Nat) : (Sx l).length = l.length := by show l.toArray.size = _; simp
theorem sx_inj {a b : List Nat} (h : Sx a = Sx b) : a = b := by
  have := congrArg Str.cps h
  simpa using this
theorem sx_list (z : Str) : Sx z.cps.toList = z := by cases z; rfl

theorem joinL_nil : ∀ ys : List (List Nat), TL.joinL [] ys = ys.flatten
  | [] => rfl
  | [x] => by simp [TL.joinL]
  | x :: z :: r => by
    have ih := joinL_nil (z :: r)
    rw [List.flatten_cons, ← ih]; simp [TL.joinL]
section
variable {K : PySem.W.Frag} {σ : L2.St} {B B' H H' : Hp} {ta tb tc te tx tl : TE} {t u : TT} {x y z v : V} {P P' R : V → Hp → Prop} {d e : PyData} {α β : Type}

theorem ev_chain {f g : Int → Int → Bool} {i j k : Int} (ha : Ev ta σ B (.int i)) (hb : Ev tb σ B (.int j)) (hc : Ev tc σ B (.int k)) :
    Ev (tChain (rI0 fun a b => .bl (f a b)) (rI0 fun a b => .bl (g a b)) ta tb tc) σ B (.bl (f i j && g j k)) := fun B1 H1 a b Q q =>
  ha B1 H1 a b _ fun v B2 H2 g2 p2 => hb B2 H2 (a.trans g2.b) g2.s _ fun w B3 H3 g3 p3 => by
    subst p2
    subst p3
    refine ⟨i, j, rfl, rfl, f i j, rfl, ?_⟩
    cases hf : f i j with
    | false =>
      rw [if_neg (by decide)]
      exact q _ B3 H3 (g2.tr g3) (by rw [hf]; rfl)
    | true =>
      rw [if_pos rfl]
      refine hc B3 H3 ((a.trans g2.b).trans g3.b) g3.s _ fun u B4 H4 g4 p4 => ?_
      subst p4
      exact ⟨j, k, rfl, rfl, q _ B4 H4 ((g2.tr g3).tr g4) (by rw [hf]; rfl)⟩
theorem ev_inSign {c : Nat} {z : Str} (ha : Ev ta σ B (.str (sg c))) (hb : Ev tb σ B (.str z)) :
    Ev (tOp (fun x y H Q => ∃ (c : Nat) (z : Str), x = .str ⟨#[c]⟩ ∧ y = .str z ∧ Q (.bl (decide (c ∈ z.cps.toList))) H) ta tb) σ B (.bl (decide (c ∈ z.cps.toList))) :=
  ev_op ha hb (op2_val fun _ _ _ q => ⟨c, z, rfl, rfl, q⟩)
theorem ev_notInSign {c : Nat} {z : Str} (ha : Ev ta σ B (.str (sg c))) (hb : Ev tb σ B (.str z)) :
    Ev (tOp (fun x y H Q => ∃ (c : Nat) (z : Str), x = .str ⟨#[c]⟩ ∧ y = .str z ∧ Q (.bl (!decide (c ∈ z.cps.toList))) H) ta tb) σ B (.bl (!decide (c ∈ z.cps.toList))) :=
  ev_op ha hb (op2_val fun _ _ _ q => ⟨c, z, rfl, rfl, q⟩)
theorem ev_isi {v : V} {T1 T2 : String} {b : Bool} (ha : Ev ta σ B v) (ht : ∀ H, Sub B H → TyX K H v (.type T1)) (hk : kitB T1 T2 = some b) : Ev (tCB (rIsi K) (tCons ta (tCons (tC (.ty T2)) tNil))) σ B (.bl b) :=
  ep_cb (eap_cons ha (stb_eq _) (eap_cons ev_c (stb_eq _) eap_nil)) fun vs B1 H1 a c ⟨v1, w1, e1, e2, v2, w2, e3, e4, e5⟩ Q q => by
    subst e1; subst e2; subst e3; subst e4; subst e5
    exact ⟨v1, .ty T2, .type T1, .type T2, b, rfl, .ty T2, ht H1 (a.su c), kit_ty hk, q _ B1 H1 (Gr.refl c) rfl⟩
theorem ed_join {ys : List (List Nat)} {zl : List Nat} (h : Ed te σ B (.list (ys.map fun l => .str (Sx l)))) (hz : (ys.map List.length).sum ≤ 100000) (e : zl = ys.flatten) :
    Ev (tM1 (fun x xs H Q => ∃ a p, ∃ ys : List Str, x = .str a ∧ xs = [.ref p] ∧ (SqL K H p (ys.map V.str) ∨ SqT K H p (ys.map V.str)) ∧ (ys.map (·.length)).sum + ys.length * a.length ≤ 16777216 ∧ Q (.str (Txt.join a ys)) H) (tC (.str "")) te) σ B (.str (Sx zl)) := fun B1 H1 a b Q q =>
  ⟨⟨_, rfl⟩, h B1 H1 a b _ fun v B2 H2 g p => by
    obtain ⟨c, xs, rfl, hs, hd⟩ := dp_lst p
    have e1 : ys.map (fun l => PyData.str (Sx l)) = (ys.map Sx).map PyData.str := by rw [List.map_map]; rfl
    rw [e1] at hd
    have e2 := dpa_strs hd
    subst e2
    refine ⟨_, c, ys.map Sx, rfl, rfl, .inl (SqL.of (g.s _ _ hs)), ?_, ?_⟩
    · have e3 : ((ys.map Sx).map (·.length)) = ys.map List.length := by rw [List.map_map]; exact List.map_congr_left fun l _ => sx_len l
      have e4 : ("" : Str).length = 0 := by decide
      rw [e3, e4]; omega
    · have e5 : Txt.join "" (ys.map Sx) = Sx zl := by
        apply TL.ext_tl
        have e6 : Txt.join "" (ys.map Sx) = Str.join "" (ys.map Sx) := StrLaws.glued_eq_join _ _
        rw [e6, TL.tl_join]
        show TL.joinL _ ((ys.map Sx).map TL.tl) = TL.tl (Sx zl)
        have e7 : (ys.map Sx).map TL.tl = ys := by
          rw [List.map_map]
          conv => rhs; rw [← List.map_id ys]
          exact List.map_congr_left fun l _ => by show (l.toArray).toList = l; simp
        rw [e7, e]
        show TL.joinL [] ys = (ys.flatten.toArray).toList
        rw [List.toList_toArray, joinL_nil]
      rw [e5]
      exact q _ B2 H2 g rfl⟩
theorem ev_sindex {pl : List Nat} {c : Nat} {n : Nat} (ha : Ev ta σ B (.str (Sx pl))) (hb : Ev tb σ B (.str (sg c))) (hn : pl[n]? = some c) (hf : ∀ k, k < n → pl[k]? ≠ some c) :
    Ev (tM1 (fun x xs H Q => ∃ a b i rest, x = .str a ∧ xs = [.str b] ∧ Builtin.Str.occurrences a b 0 a.length 1 = i :: rest ∧ Q (.int (i : Nat)) H) ta tb) σ B (.int ((n : Nat) : Int)) := fun B1 H1 a b Q q =>
  ha B1 H1 a b _ fun v B2 H2 g2 p2 => ⟨⟨_, p2⟩, hb B2 H2 (a.trans g2.b) g2.s _ fun w B3 H3 g3 p3 => by
    subst p2
    subst p3
    have key : ∃ r, Builtin.Str.occurrences (Sx pl) (sg c) 0 (Sx pl).length 1 = n :: r := by
      rcases StrLaws.occ_head (Sx pl) (sg c) 1 (Nat.le_refl _) with ⟨_, h2⟩ | ⟨i, r, h1, h2, h3⟩
      · exact absurd ((StrLaws.subAt_one (Sx pl) c n).mpr (by simpa using hn)) (h2 n)
      · have hi : pl[i]? = some c := by simpa using (StrLaws.subAt_one (Sx pl) c i).mp h2
        have : i = n := by
          rcases Nat.lt_trichotomy i n with z | z | z
          · exact absurd hi (hf i z)
          · exact z
          · exact absurd ((StrLaws.subAt_one (Sx pl) c n).mpr (by simpa using hn)) (h3 n z)
        subst this
        exact ⟨r, h1⟩
    obtain ⟨r, hr⟩ := key
    exact ⟨_, _, n, r, rfl, rfl, hr, q _ B3 H3 (g2.tr g3) rfl⟩⟩
theorem ed_listT' {x : Str} (h : Ev te σ B (.str x)) (hz : x.length ≤ 100000) : Ed (tCB rListT (tCons te tNil)) σ B (.list (x.cps.toList.map fun c => .str (sg c))) :=
  ep_cb (eap_cons h (stb_eq _) eap_nil) fun vs B1 H1 a b ⟨v, ws, e1, e2, e3⟩ Q q => by
    subst e1; subst e2; subst e3
    refine ⟨x, rfl, hz, fun l hl => gr_newL b (xs := sgs x) ?_ q hl⟩
    unfold sgs
    have e1 : (x.cps.toList.map fun c => V.str ⟨#[c]⟩) = (x.cps.toList.map sg).map V.str := by rw [List.map_map]; rfl
    have e2 : (x.cps.toList.map fun c => PyData.str (sg c)) = (x.cps.toList.map sg).map PyData.str := by rw [List.map_map]; rfl
    rw [e1, e2]
    exact strs_dpa _
theorem ep_sortT {x : Str} (h : Ev te σ B (.str x)) (hz : x.length < 64) : Ep (tCB rSortT (tCons te tNil)) σ B (fun v B' => ∃ ys : List Str, ys.Perm (x.cps.toList.map sg) ∧ sortedS ys = true ∧ Dq B' v (.list (ys.map .str))) :=
  ep_cb (eap_cons h (stb_eq _) eap_nil) fun vs B1 H1 a b ⟨v, ws, e1, e2, e3⟩ Q q => by
    subst e1; subst e2; subst e3
    refine ⟨x, rfl, hz, fun ys p hp hs hn => ?_⟩
    exact q _ _ _ (Gr.new b hn) ⟨ys, hp, hs, Dp.newL (strs_dpa ys) (sub_back b hn)⟩
theorem ep_sortL {xs : List Str} (h : Ed te σ B (.list (xs.map .str))) (hz : xs.length < 64) : Ep (tCB (rSortedS K) (tCons te tNil)) σ B (fun v B' => ∃ ys : List Str, ys.Perm xs ∧ sortedS ys = true ∧ Dq B' v (.list (ys.map .str))) :=
  ep_cb (ea_cons h ea_nil) fun vs B1 H1 a b p Q q => by
    obtain ⟨v, rfl, h⟩ := dpa_one p
    obtain ⟨c, us, rfl, hs, hd⟩ := dp_lst h
    rw [dpa_strs hd] at hs
    refine ⟨c, xs, rfl, SqL.of (b _ _ hs), hz, fun ys p hp hss hn => ?_⟩
    exact q _ _ _ (Gr.new b hn) ⟨ys, hp, hss, Dp.newL (strs_dpa ys) (sub_back b hn)⟩
theorem ev_sumT {ns : List Int} (h : Ed te σ B (.tuple (ns.map .int))) : Ev (tCB (rSumT K) (tCons te tNil)) σ B (.int ns.sum) :=
  ep_cb (ea_cons h ea_nil) fun vs B1 H1 a b p Q q => by
    obtain ⟨v, rfl, h⟩ := dpa_one p
    obtain ⟨c, xs, rfl, hs, hd⟩ := dp_tup h
    rw [dpa_ints hd] at hs
    exact ⟨c, ns, rfl, SqT.of (b _ _ hs), q _ B1 H1 (Gr.refl b) rfl⟩
theorem ev_repr {d : PyData} (h : Ed te σ B d) (hr : ∃ ds, d = .list ds ∨ d = .tuple ds) (h1 : d.showable = true) (h2 : d.hasDict = false) (h3 : d.depth ≤ 60) (h4 : d.shown.length ≤ 100000) : Ev (tCB (rReprD K) (tCons te tNil)) σ B (.str d.shown) :=
  ep_cb (ea_cons h ea_nil) fun vs B1 H1 a b p Q q => by
    obtain ⟨v, rfl, h⟩ := dpa_one p
    have hv : ∃ c, v = .ref c := by
      obtain ⟨ds, e | e⟩ := hr
      · subst e; cases h; exact ⟨_, rfl⟩
      · subst e; cases h; exact ⟨_, rfl⟩
    obtain ⟨c, rfl⟩ := hv
    exact ⟨c, d, rfl, dq_dp (dp_su b h), h1, h2, h3, Evl.sz_of h4, q _ B1 H1 (Gr.refl b) rfl⟩
theorem ev_max2 {i j : Int} (ha : Ev ta σ B (.int i)) (hb : Ev tb σ B (.int j)) : Ev (tCB (fun xs H Q => ∃ i j, xs = [.int i, .int j] ∧ Q (.int (if j > i then j else i)) H) (tCons ta (tCons tb tNil))) σ B (.int (if j > i then j else i)) :=
  ep_cb (ea_cons (int_ed ha) (ea_cons (int_ed hb) ea_nil)) fun vs B1 H1 a b p Q q => by
    obtain ⟨v, w, rfl, hv, hw⟩ := dpa_two p
    cases hv; cases hw
    exact ⟨i, j, rfl, q _ B1 H1 (Gr.refl b) rfl⟩
theorem ev_min2 {i j : Int} (ha : Ev ta σ B (.int i)) (hb : Ev tb σ B (.int j)) : Ev (tCB (fun xs H Q => ∃ i j, xs = [.int i, .int j] ∧ Q (.int (if j < i then j else i)) H) (tCons ta (tCons tb tNil))) σ B (.int (if j < i then j else i)) :=
  ep_cb (ea_cons (int_ed ha) (ea_cons (int_ed hb) ea_nil)) fun vs B1 H1 a b p Q q => by
    obtain ⟨v, w, rfl, hv, hw⟩ := dpa_two p
    cases hv; cases hw
    exact ⟨i, j, rfl, q _ B1 H1 (Gr.refl b) rfl⟩
theorem ei_enumT {ta : TA} {xs : List α} {φ : α → PyData} (h : EdA ta σ B [.tuple (xs.map φ)]) : EpI (iEnumT K ta) σ B xs.zipIdx (fun ab v B => ∃ T x, v = .ref T ∧ B T = some (.tup [.int ((ab.2 : Nat) : Int), x]) ∧ Dq B x (φ ab.1)) := fun B1 H1 a b R q =>
  h B1 H1 a b _ fun vs B2 H2 g p => by
    obtain ⟨v, rfl, hv⟩ := dpa_one p
    obtain ⟨c, us, rfl, hs, hd⟩ := dp_tup hv
    have hl : us.length = xs.length := by rw [dpa_len hd, List.length_map]
    have hz : xs.zipIdx.length = xs.length := List.length_zipIdx
    refine ⟨c, us, rfl, SqT.of (g.s _ _ hs), q _ B2 H2 g ⟨fun i H3 hi e => ?_, fun H3 e => ⟨us, SqT.of (e _ _ hs), by omega⟩, fun i a B3 H3 x H4 ha e1 e2 y => ?_⟩⟩
    · exact ⟨us, us[i], SqT.of (e _ _ hs), by simp⟩
    · obtain ⟨T, x1, rfl, hT, rfl, f1⟩ := y
      have y1 := f1 us (SqT.of (e2 _ _ (e1 _ _ hs)))
      have ha' : xs[i]? = some a.1 ∧ a.2 = i := by
        rw [List.getElem?_zipIdx] at ha
        cases q : xs[i]? with
        | none => rw [q] at ha; simp at ha
        | some z => rw [q] at ha; simp at ha; rw [← ha]; simp
      obtain ⟨w1, p1, p2⟩ := dpa_get (i := i) (d := φ a.1) hd (by rw [List.getElem?_map, ha'.1]; rfl)
      obtain rfl : w1 = x1 := Option.some.inj (p1.symm.trans y1)
      have gn := Gr.new (o := .tup [.int ((i : Nat) : Int), w1]) e2 hT
      refine ⟨_, gn, T, w1, rfl, ?_, dp_ex (e1.trans gn.b) p2⟩
      rw [ha'.2]
      exact upd_same
/-- the target: two signs of a text -/
theorem tg_txt {σ0 : L2.St} {a b : Nat} (i j : Nat) (ha : a < 128) (hb : b < 128) : ∀ H1 (Q : L2.St → Hp → Prop), Sub B H1 → Q ((σ0.set i (some (.str (sg a)))).set j (some (.str (sg b)))) H1 → gTxt 2 (gCons (gName i) (gCons (gName j) gNil)) (.str (Sx [a, b])) σ0 H1 Q :=
  fun H1 Q _ q => ⟨Sx [a, b], rfl, by simp [ha, hb], rfl, _, _, rfl, _, _, rfl, rfl, q⟩

/-! ### a web -/
def tieD (t : Nat × Nat) : PyData := .str (Sx [t.1, t.2])
def wFs (pl : List Nat) (t : Addr) : List (Str × V) := [("places", .str (Sx pl)), ("ties", .ref t)]
structure WebAt (C : Addr) (B : Hp) (v : V) (pl : List Nat) (ts : List (Nat × Nat)) : Prop where
  ex : ∃ p dx t, v = .ref p ∧ B p = some (.ins C dx (wFs pl t)) ∧ Dq B (.ref t) (.tuple (ts.map tieD))
theorem WebAt.mono {C : Addr} {pl : List Nat} {ts : List (Nat × Nat)} (h : WebAt C B v pl ts) (e : Evl.Ex B B') : WebAt C B' v pl ts := by
  obtain ⟨p, dx, t, h1, h2, h3⟩ := h.ex
  exact ⟨p, dx, t, h1, e _ _ h2, dp_ex e h3⟩
structure WebC (K : PySem.W.Frag) (C : Addr) : Prop where
  cl : Cls K C
  nP : NoAttr K C "places"
  nT : NoAttr K C "ties"
theorem stb_web {C : Addr} {pl : List Nat} {ts : List (Nat × Nat)} : Stb fun v B => WebAt C B v pl ts := fun _ _ _ e h => h.mono e
theorem ev_places {C : Addr} {pl : List Nat} {ts : List (Nat × Nat)} (T : WebC K C) (h : Ep te σ B fun v B => WebAt C B v pl ts) : Ev (tFld K te "places") σ B (.str (Sx pl)) := fun B1 H1 a b Q q =>
  h B1 H1 a b _ fun v B2 H2 g w => by
    obtain ⟨p, dx, t, h1, h2, h3⟩ := w.ex
    exact ⟨p, C, dx, _, _, h1, g.s _ _ h2, T.cl, T.nP, rfl, q _ B2 H2 g rfl⟩
theorem ed_ties {C : Addr} {pl : List Nat} {ts : List (Nat × Nat)} (T : WebC K C) (h : Ep te σ B fun v B => WebAt C B v pl ts) : Ed (tFld K te "ties") σ B (.tuple (ts.map tieD)) := fun B1 H1 a b Q q =>
  h B1 H1 a b _ fun v B2 H2 g w => by
    obtain ⟨p, dx, t, h1, h2, h3⟩ := w.ex
    refine ⟨p, C, dx, _, .ref t, h1, g.s _ _ h2, T.cl, T.nT, ?_, q _ B2 H2 g h3⟩
    have h0 : (("ties" : Str) == ("places" : Str)) = false := by decide +kernel
    have h00 : (("ties" : Str) == ("ties" : Str)) = true := by decide +kernel
    unfold wFs
    rw [List.lookup_cons, h0, List.lookup_cons, h00]
end
end Kx

/-! KxDef -/
namespace Kx
open PySem PySem.Spec PyProof.Rows L2

def topS (i : Nat) : Stmt := PySem.Challenge.pw_webreckon_k44_whole_heaps_in_debt.main.body.getD i (.Pass ⟨0, 0, 0, 0⟩)
/-- a def of the text that may be called by its name -/
structure Cl (K : PySem.W.Frag) (mg : Str → Option Value) (x : Str) (st : Stmt) (ps : List Str) : Prop where
  ex : ∃ (f : Addr) (fd : FuncData), C8.Def K mg x st f fd ∧ Binds K fd ps []
abbrev PrT := List V → Hp → (V → Hp → Prop) → Prop
section
variable {P : Program} {w : World} {K : PySem.W.Frag} {mg : Str → Option Value} {base : Heap}
theorem mk_cal {x : Str} {st : Stmt} {N ps : List Str} {k : Nat} {pre : PrT} (F : Cl K mg x st ps) (S : FnScope N ps (C8.fnScope st)) (len : ∀ vs B R, pre vs B R → vs.length = ps.length)
    (body : ∀ (f : Addr) (cdv : Value) (A : Around) (outer : List Env) (s : Shared) (H : Hp) (vs : List V) (Q : VK) (E : XK) (B : Hp) (R : V → Hp → Prop), Room k (A.deeper (envOfC x (C8.fnScope st) s.heap.objs.size f cdv)) → Sub B H → pre vs B R →
      (∀ v B' H', Gr B H B' H' → R v B' → Q v H') → ∃ t, PSs (cxOf C8.CX0 P w K mg base N x (C8.fnScope st) f cdv A outer s H E).nox (C8.fnBody st) t ∧ t { nx := fun _ H' => Q .non H', rt := Q } (start N vs) H) :
    C8.Cal P w K mg base (k + 1) x (Pr pre) [] := by
  obtain ⟨f, fd, D, b⟩ := F.ex
  refine C8.cal0 D b .nil S (fun vs H Q E h => ?_) (fun cdv A outer s H vs Q E hr h => ?_)
  · obtain ⟨B, R, _, h, _⟩ := h
    exact len _ _ _ h
  · obtain ⟨B, R, e, h, q⟩ := h
    exact body f cdv A outer s H vs Q E B R hr e h q
end
section
variable {σ : L2.St} {B B' H H' : Hp} {ta tb tc td te : TE} {Pa Pb Pc Pd P : V → Hp → Prop} {pre : PrT} {E : XK}
theorem ep_call1 (ha : Ep ta σ B Pa) (hp : ∀ x B', Evl.Ex B B' → Pa x B' → pre [x] B' P) : Ep (tCall (Pr pre) [] E (tCons ta tNil)) σ B P := fun B1 H1 a b Q q =>
  ha B1 H1 a b _ fun x B2 H2 g2 p2 => ⟨B2, P, g2.s, hp x B2 (a.trans g2.b) p2, fun v B3 H3 g3 p3 => q v B3 H3 (g2.tr g3) p3⟩
theorem ep_call2 (ha : Ep ta σ B Pa) (sa : Stb Pa) (hb : Ep tb σ B Pb) (hp : ∀ x y B', Evl.Ex B B' → Pa x B' → Pb y B' → pre [x, y] B' P) : Ep (tCall (Pr pre) [] E (tCons ta (tCons tb tNil))) σ B P := fun B1 H1 a b Q q =>
  ha B1 H1 a b _ fun x B2 H2 g2 p2 => hb B2 H2 (a.trans g2.b) g2.s _ fun y B3 H3 g3 p3 =>
    ⟨B3, P, g3.s, hp x y B3 ((a.trans g2.b).trans g3.b) (sa _ _ _ g3.b p2) p3, fun v B4 H4 g4 p4 => q v B4 H4 ((g2.tr g3).tr g4) p4⟩
theorem ep_call3 (ha : Ep ta σ B Pa) (sa : Stb Pa) (hb : Ep tb σ B Pb) (sb : Stb Pb) (hc : Ep tc σ B Pc) (hp : ∀ x y z B', Evl.Ex B B' → Pa x B' → Pb y B' → Pc z B' → pre [x, y, z] B' P) : Ep (tCall (Pr pre) [] E (tCons ta (tCons tb (tCons tc tNil)))) σ B P := fun B1 H1 a b Q q =>
  ha B1 H1 a b _ fun x B2 H2 g2 p2 => hb B2 H2 (a.trans g2.b) g2.s _ fun y B3 H3 g3 p3 => hc B3 H3 ((a.trans g2.b).trans g3.b) g3.s _ fun z B4 H4 g4 p4 =>
    ⟨B4, P, g4.s, hp x y z B4 (((a.trans g2.b).trans g3.b).trans g4.b) (sa _ _ _ (g3.b.trans g4.b) p2) (sb _ _ _ g4.b p3) p4, fun v B5 H5 g5 p5 => q v B5 H5 (((g2.tr g3).tr g4).tr g5) p5⟩
theorem ep_call4 (ha : Ep ta σ B Pa) (sa : Stb Pa) (hb : Ep tb σ B Pb) (sb : Stb Pb) (hc : Ep tc σ B Pc) (sc : Stb Pc) (hd : Ep td σ B Pd) (hp : ∀ x y z u B', Evl.Ex B B' → Pa x B' → Pb y B' → Pc z B' → Pd u B' → pre [x, y, z, u] B' P) : Ep (tCall (Pr pre) [] E (tCons ta (tCons tb (tCons tc (tCons td tNil))))) σ B P := fun B1 H1 a b Q q =>
  ha B1 H1 a b _ fun x B2 H2 g2 p2 => hb B2 H2 (a.trans g2.b) g2.s _ fun y B3 H3 g3 p3 => hc B3 H3 ((a.trans g2.b).trans g3.b) g3.s _ fun z B4 H4 g4 p4 => hd B4 H4 (((a.trans g2.b).trans g3.b).trans g4.b) g4.s _ fun u B5 H5 g5 p5 =>
    ⟨B5, P, g5.s, hp x y z u B5 ((((a.trans g2.b).trans g3.b).trans g4.b).trans g5.b) (sa _ _ _ ((g3.b.trans g4.b).trans g5.b) p2) (sb _ _ _ (g4.b.trans g5.b) p3) (sc _ _ _ g5.b p4) p5, fun v B6 H6 g6 p6 => q v B6 H6 ((((g2.tr g3).tr g4).tr g5).tr g6) p6⟩
end

/-- what stands behind the top -/
structure Tx (K : PySem.W.Frag) (mg : Str → Option Value) (C : Addr) : Prop where
  web : WebC K C
  ins : C8.InsC K C
  mgW : mg "Web" = some (.ref C)
  mP : ∃ u, mg "MOST_PLACES" = some u ∧ RelV (.int 7) u
  mT : ∃ u, mg "MOST_TIES" = some u ∧ RelV (.int 11) u
  mH : ∃ u, mg "MOST_HEAP" = some u ∧ RelV (.int 1000000) u
  mS : ∃ u, mg "MOST_SUM" = some u ∧ RelV (.int 8) u
  mL : ∃ u, mg "LETTERS" = some u ∧ RelV (.str "abcdefgh") u
  b_len : mg "len" = none
  b_isinstance : mg "isinstance" = none
  b_int : mg "int" = none
  b_bool : mg "bool" = none
  b_str : mg "str" = none
  b_tuple : mg "tuple" = none
  b_list : mg "list" = none
  b_dict : mg "dict" = none
  b_all : mg "all" = none
  b_any : mg "any" = none
  b_sorted : mg "sorted" = none
  b_enumerate : mg "enumerate" = none
  b_zip : mg "zip" = none
  b_range : mg "range" = none
  b_max : mg "max" = none
  b_min : mg "min" = none
  b_sum : mg "sum" = none
  b_abs : mg "abs" = none
  b_divmod : mg "divmod" = none
  b_repr : mg "repr" = none
  is_integer : Cl K mg "is_integer" (topS 18) ["value"]
  is_between : Cl K mg "is_between" (topS 19) ["value", "least", "most"]
  are_letters : Cl K mg "are_letters" (topS 22) ["value"]
  are_places : Cl K mg "are_places" (topS 23) ["value"]
  is_tie : Cl K mg "is_tie" (topS 24) ["places", "value"]
  wrong_tie : Cl K mg "wrong_tie" (topS 25) ["places", "ties"]
  check_web : Cl K mg "check_web" (topS 27) ["web"]
  is_place : Cl K mg "is_place" (topS 28) ["web", "value"]
  check_place : Cl K mg "check_place" (topS 29) ["web", "place"]
  herds_of : Cl K mg "herds_of" (topS 30) ["places", "ties"]
  is_one : Cl K mg "is_one" (topS 31) ["web"]
  check_heap : Cl K mg "check_heap" (topS 33) ["web", "heap"]
  check_heaped : Cl K mg "check_heaped" (topS 34) ["web"]
  between : Cl K mg "between" (topS 35) ["web", "one", "other"]
  ties_at : Cl K mg "ties_at" (topS 36) ["web", "place"]
  gift_rows : Cl K mg "gift_rows" (topS 37) ["web"]
  after : Cl K mg "after" (topS 38) ["web", "heap", "gives"]
  solved : Cl K mg "solved" (topS 39) ["rows", "due"]
  small_rows : Cl K mg "small_rows" (topS 40) ["web", "bank"]
  near_heap : Cl K mg "near_heap" (topS 41) ["web", "heap", "bank"]
  layers_from : Cl K mg "layers_from" (topS 42) ["web", "bank"]
  lifted : Cl K mg "lifted" (topS 43) ["web", "heap", "bank"]
  burnt : Cl K mg "burnt" (topS 44) ["web", "heap", "bank"]
  lowered : Cl K mg "lowered" (topS 45) ["web", "heap", "bank"]
  least_of : Cl K mg "least_of" (topS 46) ["web", "heap", "bank"]
  check_both : Cl K mg "check_both" (topS 47) ["web", "heap", "bank"]
  least_heap : Cl K mg "least_heap" (topS 48) ["web", "heap", "bank"]
  check_ranked : Cl K mg "check_ranked" (topS 50) ["web", "heap"]
  without_debt : Cl K mg "without_debt" (topS 51) ["web", "heap"]
  is_free : Cl K mg "is_free" (topS 52) ["web", "heap"]
  free_heap : Cl K mg "free_heap" (topS 53) ["web", "heap"]
  well : Cl K mg "_law_well" (topS 55) ["_law_script", "_law_k"]
  dip : Cl K mg "_law_dip" (topS 56) ["_law_well_here", "_law_size"]
  one_of : Cl K mg "_law_one_of" (topS 57) ["_law_well_here", "_law_some"]
  mixed : Cl K mg "_law_mixed" (topS 58) ["_law_well_here", "_law_some"]
  net : Cl K mg "_law_net" (topS 59) ["_law_well_here", "_law_many", "_law_more"]
  lat : Cl K mg "_law_at" (topS 60) ["_law_joins", "_law_a"]
  lshared : Cl K mg "_law_shared" (topS 61) ["_law_joins", "_law_a", "_law_b"]
  ldet : Cl K mg "_law_det" (topS 62) ["_law_rows_here"]
  lrows : Cl K mg "_law_rows" (topS 63) ["_law_signs", "_law_joins"]
  ldoings : Cl K mg "_law_doings" (topS 64) ["_law_signs", "_law_joins", "_law_pile_here", "_law_goal"]
  lpile : Cl K mg "_law_pile" (topS 65) ["_law_well_here", "_law_many", "_law_low", "_law_high"]
  lrests : Cl K mg "_law_rests" (topS 66) ["_law_signs", "_law_joins"]
  lkey : Cl K mg "_law_key" (topS 67) ["_law_rests_here", "_law_whole", "_law_pile_here"]
  lheaps : Cl K mg "_law_heaps_of" (topS 68) ["_law_many", "_law_whole"]
end Kx

/-! KxText -/
namespace Kx
open PySem PySem.Spec PyProof.Rows L2

theorem sg_inj {a b : Nat} (h : sg a = sg b) : a = b := by
  have := congrArg Str.cps h
  simpa using this
theorem map_sg_inj {a b : List Nat} (h : a.map sg = b.map sg) : a = b := by
  induction a generalizing b with
  | nil => cases b with
    | nil => rfl
    | cons y r => simp at h
  | cons x r ih => cases b with
    | nil => simp at h
    | cons y s =>
      rw [List.map_cons, List.map_cons] at h
      injection h with h1 h2
      rw [sg_inj h1, ih h2]
theorem perm_signs : ∀ {l : List Nat} {ys : List Str}, ys.Perm (l.map sg) → ∃ cs : List Nat, ys = cs.map sg ∧ cs.Perm l := by
  intro l ys h
  have hm : ∀ y ∈ ys, ∃ c, y = sg c := fun y hy => by
    obtain ⟨c, _, e⟩ := List.mem_map.mp (h.mem_iff.mp hy)
    exact ⟨c, e.symm⟩
  have : ∃ cs : List Nat, ys = cs.map sg := by
    clear h
    induction ys with
    | nil => exact ⟨[], rfl⟩
    | cons y r ih =>
      obtain ⟨cs, e⟩ := ih fun z hz => hm z (List.mem_cons_of_mem _ hz)
      obtain ⟨c, e2⟩ := hm y List.mem_cons_self
      exact ⟨c :: cs, by rw [e, e2]; rfl⟩
  obtain ⟨cs, rfl⟩ := this
  refine ⟨cs, rfl, ?_⟩
  have h2 := h.map (fun y : Str => y.cps.getD 0 0)
  rw [List.map_map, List.map_map] at h2
  have e : ∀ q : List Nat, q.map ((fun y : Str => y.cps.getD 0 0) ∘ sg) = q := fun q => by
    conv => rhs; rw [← List.map_id q]
    exact List.map_congr_left fun c _ => rfl
  rw [e, e] at h2
  exact h2
theorem ltCps_one (a b : Nat) : ltCps (sg a).cps.toList (sg b).cps.toList = decide (a < b) := by
  show ltCps [a] [b] = _
  simp [ltCps]
theorem rising_le : ∀ (a : Nat) (cs : List Nat), risingS (sg a) (cs.map sg) = true → (a :: cs).Pairwise (· ≤ ·)
  | a, [], _ => by simp
  | a, b :: r, h => by
    rw [List.map_cons, risingS, Bool.and_eq_true, ltCps_one] at h
    have h1 : a ≤ b := by
      have := h.1
      simp at this
      exact this
    have ih := rising_le b r h.2
    refine List.pairwise_cons.mpr ⟨fun c hc => ?_, ih⟩
    rcases List.mem_cons.mp hc with e | hc
    · rw [e]; exact h1
    · exact Nat.le_trans h1 ((List.pairwise_cons.mp ih).1 c hc)
theorem sorted_le {cs : List Nat} (h : sortedS (cs.map sg) = true) : cs.Pairwise (· ≤ ·) := by
  cases cs with
  | nil => exact List.Pairwise.nil
  | cons a r => exact rising_le a r h
theorem sort_signs {l : List Nat} {ys : List Str} (h : ys.Perm (l.map sg)) (hs : sortedS ys = true) : ∃ cs : List Nat, ys = cs.map sg ∧ cs.Perm l ∧ cs.Pairwise (· ≤ ·) := by
  obtain ⟨cs, rfl, hp⟩ := perm_signs h
  exact ⟨cs, rfl, hp, sorted_le hs⟩
theorem sort_same {l : List Nat} {ys : List Str} (hl : l.Pairwise (· < ·)) (h : ys.Perm (l.map sg)) (hs : sortedS ys = true) : ys = l.map sg := by
  obtain ⟨cs, rfl, hp, hle⟩ := sort_signs h hs
  have : cs = l := hp.eq_of_pairwise (le := (· ≤ ·)) (fun a b _ _ h1 h2 => Nat.le_antisymm h1 h2) hle (hl.imp Nat.le_of_lt)
  rw [this]
theorem lt_nodup {l : List Nat} (h : l.Pairwise (· < ·)) : l.Nodup := h.imp (fun h => Nat.ne_of_lt h)

/-- data that may be compared at once -/
theorem lay_strs : ∀ l : List Str, (∀ z ∈ l, PyData.strOk z = true) → PyData.canLayAll0 (l.map PyData.str) = true
  | [], _ => by simp [PyData.canLayAll0]
  | z :: r, h => by simp [PyData.canLayAll0, PyData.canLay0, lay_strs r fun y hy => h y (List.mem_cons_of_mem _ hy), h z List.mem_cons_self]
theorem ok_sg {c : Nat} (h : c < 1000) : PyData.strOk (sg c) = true := by
  simp [PyData.strOk]; omega
theorem depth_strs : ∀ l : List Str, PyData.depthAll (l.map PyData.str) = 0
  | [] => by simp [PyData.depthAll]
  | z :: r => by simp [PyData.depthAll, PyData.depth, depth_strs r]
theorem lay_ints : ∀ l : List Int, PyData.canLayAll0 (l.map PyData.int) = true
  | [] => by simp [PyData.canLayAll0]
  | z :: r => by simp [PyData.canLayAll0, PyData.canLay0, lay_ints r]
theorem depth_ints : ∀ l : List Int, PyData.depthAll (l.map PyData.int) = 0
  | [] => by simp [PyData.depthAll]
  | z :: r => by simp [PyData.depthAll, PyData.depth, depth_ints r]
theorem shaped_by {d : PyData} (h1 : d.canLay0 = true) (h2 : d.depth ≤ 64) : SeqAt.shaped d = true := by
  show (d.canLay0 && decide (d.depth ≤ 64)) = true
  rw [Bool.and_eq_true]
  exact ⟨h1, decide_eq_true h2⟩
theorem shaped_strs (l : List Str) (h : ∀ z ∈ l, PyData.strOk z = true) : SeqAt.shaped (.list (l.map PyData.str)) = true := shaped_by (by simp [PyData.canLay0, lay_strs l h]) (by simp [PyData.depth, depth_strs])
theorem shaped_ints (l : List Int) : SeqAt.shaped (.list (l.map PyData.int)) = true := shaped_by (by simp [PyData.canLay0, lay_ints]) (by simp [PyData.depth, depth_ints])
theorem shaped_intsT (l : List Int) : SeqAt.shaped (.tuple (l.map PyData.int)) = true := shaped_by (by simp [PyData.canLay0, lay_ints]) (by simp [PyData.depth, depth_ints])
theorem lay_tups : ∀ l : List (List Int), PyData.canLayAll0 (l.map fun x => PyData.tuple (x.map PyData.int)) = true
  | [] => by simp [PyData.canLayAll0]
  | z :: r => by simp [PyData.canLayAll0, PyData.canLay0, lay_tups r, lay_ints]
theorem depth_tups : ∀ l : List (List Int), PyData.depthAll (l.map fun x => PyData.tuple (x.map PyData.int)) ≤ 1
  | [] => by simp [PyData.depthAll]
  | z :: r => by
    have := depth_tups r
    simp only [List.map_cons, PyData.depthAll, PyData.depth, depth_ints]
    omega
theorem shaped_tups (l : List (List Int)) : SeqAt.shaped (.list (l.map fun x => PyData.tuple (x.map PyData.int))) = true := shaped_by (by simp [PyData.canLay0, lay_tups]) (by
  have := depth_tups l
  simp only [PyData.depth]; omega)
theorem lay_lists : ∀ l : List (List Int), PyData.canLayAll0 (l.map fun x => PyData.list (x.map PyData.int)) = true
  | [] => by simp [PyData.canLayAll0]
  | z :: r => by simp [PyData.canLayAll0, PyData.canLay0, lay_lists r, lay_ints]
theorem depth_lists : ∀ l : List (List Int), PyData.depthAll (l.map fun x => PyData.list (x.map PyData.int)) ≤ 1
  | [] => by simp [PyData.depthAll]
  | z :: r => by
    have := depth_lists r
    simp only [List.map_cons, PyData.depthAll, PyData.depth, depth_ints]
    omega
theorem shaped_lists (l : List (List Int)) : SeqAt.shaped (.list (l.map fun x => PyData.list (x.map PyData.int))) = true := shaped_by (by simp [PyData.canLay0, lay_lists]) (by
  have := depth_lists l
  simp only [PyData.depth]; omega)
theorem eqvAll_strs : ∀ a b : List Str, PyData.eqvAll (a.map PyData.str) (b.map PyData.str) = decide (a = b)
  | [], [] => by simp [PyData.eqvAll]
  | [], _ :: _ => by simp [PyData.eqvAll]
  | _ :: _, [] => by simp [PyData.eqvAll]
  | x :: r, y :: s => by
    rw [List.map_cons, List.map_cons, PyData.eqvAll, PyData.eqv, eqvAll_strs r s, Bool.eq_iff_iff]
    simp
theorem eqvAll_ints : ∀ a b : List Int, PyData.eqvAll (a.map PyData.int) (b.map PyData.int) = decide (a = b)
  | [], [] => by simp [PyData.eqvAll]
  | [], _ :: _ => by simp [PyData.eqvAll]
  | _ :: _, [] => by simp [PyData.eqvAll]
  | x :: r, y :: s => by
    rw [List.map_cons, List.map_cons, PyData.eqvAll, PyData.eqv, eqvAll_ints r s, Bool.eq_iff_iff]
    simp
theorem eqv_strs (a b : List Str) : PyData.eqv (.list (a.map .str)) (.list (b.map .str)) = decide (a = b) := by rw [PyData.eqv, eqvAll_strs]
theorem eqv_intsL (a b : List Int) : PyData.eqv (.list (a.map .int)) (.list (b.map .int)) = decide (a = b) := by rw [PyData.eqv, eqvAll_ints]
theorem eqv_intsT (a b : List Int) : PyData.eqv (.tuple (a.map .int)) (.tuple (b.map .int)) = decide (a = b) := by rw [PyData.eqv, eqvAll_ints]
/-- a list against the empty one -/
theorem eqv_nilL (ds : List PyData) : PyData.eqv (.list ds) (.list []) = ds.isEmpty := by
  cases ds <;> simp [PyData.eqv, PyData.eqvAll]

/-- the places of a web; its ties -/
structure OkPl (pl : List Nat) : Prop where
  inc : pl.Pairwise (· < ·)
  rng : ∀ c ∈ pl, 97 ≤ c ∧ c ≤ 104
  pos : 0 < pl.length
  few : pl.length ≤ 4
theorem OkPl.nd {pl : List Nat} (h : OkPl pl) : pl.Nodup := lt_nodup h.inc
structure OkTs (pl : List Nat) (ts : List (Nat × Nat)) : Prop where
  few : ts.length ≤ 6
  mem : ∀ t ∈ ts, t.1 ∈ pl ∧ t.2 ∈ pl ∧ t.1 < t.2
structure Wb (C : Addr) (B : Hp) (v : V) (pl : List Nat) (ts : List (Nat × Nat)) : Prop where
  wa : WebAt C B v pl ts
  op : OkPl pl
  ot : OkTs pl ts
theorem stb_wb {C : Addr} {pl : List Nat} {ts : List (Nat × Nat)} : Stb fun v B => Wb C B v pl ts := fun _ _ _ e h => ⟨h.wa.mono e, h.op, h.ot⟩

/-- a tie has a place at an end; how many ties -/
def hit (t : Nat × Nat) (p : Nat) : Bool := t.1 == p || t.2 == p
def btw (ts : List (Nat × Nat)) (u v : Nat) : Nat := (ts.filter fun t => hit t u && hit t v).length
def deg (ts : List (Nat × Nat)) (u : Nat) : Nat := (ts.filter fun t => hit t u).length
/-- what a place o gets when p gives once -/
def gr (ts : List (Nat × Nat)) (p o : Nat) : Int := if o = p then -((deg ts p : Nat) : Int) else ((btw ts p o : Nat) : Int)
def aft (pl : List Nat) (ts : List (Nat × Nat)) (D g : Nat → Int) (u : Nat) : Int := D u + (pl.map fun p => g p * gr ts p u).sum
abbrev hpL (pl : List Nat) (D : Nat → Int) : PyData := .list (pl.map fun u => .int (D u))
abbrev hpT (pl : List Nat) (D : Nat → Int) : PyData := .tuple (pl.map fun u => .int (D u))
theorem mem_tie (t : Nat × Nat) (p : Nat) : decide (p ∈ (Sx [t.1, t.2]).cps.toList) = hit t p := by
  have : (Sx [t.1, t.2]).cps.toList = [t.1, t.2] := by simp
  rw [this, Bool.eq_iff_iff, decide_eq_true_eq]
  unfold hit
  rw [Bool.or_eq_true, beq_iff_eq, beq_iff_eq, List.mem_cons, List.mem_cons]
  constructor
  · rintro (h | h | h)
    · exact .inl h.symm
    · exact .inr h.symm
    · cases h
  · rintro (h | h)
    · exact .inl h.symm
    · exact .inr (.inl h.symm)
theorem filter_id_len {α : Type} (l : List α) (p : α → Bool) (h : ∀ a ∈ l, p a = true) : l.filter p = l := List.filter_eq_self.mpr h
end Kx

/-! Ka1 -/
namespace Kx
open PySem PySem.Spec PyProof.Rows L2
section
variable {σ : L2.St} {B B' H H' : Hp} {ta tb tl te : TE}
theorem ep_dcT {w : Str} {j : Nat} {vs : List Nat} (h : Ev tl σ B (.str w)) (hn : w.cps.toList.Nodup) (hz : w.cps.toList.length ≤ 1000) (hw : ∀ x, wipe ((wipe σ vs).set j (some x)) vs = wipe σ vs) (hj : j < (wipe σ vs).length) :
    Ep (tDc (iStr tl) (gName j) tYes (tVar j) (tC (.bl true)) vs) σ B (fun v B' => ∃ p kvs, v = .ref p ∧ B' p = some (.dK kvs) ∧ kvs.length = w.cps.toList.length) := fun B1 H1 a b Q q =>
  ei_str h B1 H1 a b _ fun J B2 H2 g2 wk D hD => by
    refine ⟨fun i m H => m = w.cps.toList.length - i ∧ i ≤ w.cps.toList.length ∧ Gr B2 H2 B2 H ∧ H D = some (.dK ((w.cps.toList.take i).map fun c => (Sum.inr (sg c), V.bl true))), ⟨w.cps.toList.length, by simp, Nat.zero_le _, Gr.more g2.s (Evl.Ex.new hD), by rw [List.take_zero]; exact upd_same⟩, ?_⟩
    rintro i m H ⟨rfl, hil, g3, hDH⟩
    have hB2 : B2 D = none := sub_back g2.s hD
    by_cases hlt : i < w.cps.toList.length
    · refine .inr ⟨wk.goes i H hlt (g3.b.su g3.s), fun H => i + 1 ≤ w.cps.toList.length ∧ Gr B2 H2 B2 H ∧ H D = some (.dK ((w.cps.toList.take (i + 1)).map fun c => (Sum.inr (sg c), V.bl true))), fun H' p' => ⟨w.cps.toList.length - (i + 1), by omega, rfl, p'⟩, fun x H' y => ?_⟩
      have hxi : w.cps.toList[i]? = some w.cps.toList[i] := List.getElem?_eq_getElem hlt
      obtain ⟨B4, g4, hI⟩ := wk.yields i w.cps.toList[i] B2 H x H' hxi g3.b g3.s y
      obtain ⟨hB4, hD4⟩ := g4.off hB2 hDH
      subst hI
      refine ⟨hw _, ?_⟩
      dsimp only [tYes]
      rw [if_pos rfl]
      refine ⟨.str (sg w.cps.toList[i]), by rw [List.getElem?_set_self hj], _, Sum.inr (sg w.cps.toList[i]), rfl, hD4, ?_, hlt, ?_, ?_⟩
      · rw [List.length_map, List.length_take]; exact small1000 (by omega)
      · exact (Gr.mut (g3.tr (Gr.more g3.s g4.h)) hD hB2)
      · have hv : valV ((w.cps.toList.take i).map fun c => ((Sum.inr (sg c) : Key), V.bl true)) (Sum.inr (sg w.cps.toList[i])) = none := by
          cases q : valV ((w.cps.toList.take i).map fun c => ((Sum.inr (sg c) : Key), V.bl true)) (Sum.inr (sg w.cps.toList[i])) with
          | none => rfl
          | some v =>
            have hm := valV_in q
            rw [List.map_map] at hm
            obtain ⟨c, hc, e⟩ := List.mem_map.mp hm
            have e2 : sg c = sg w.cps.toList[i] := Sum.inr.inj e
            have e3 := sg_inj e2
            subst e3
            exact absurd hc (by
              intro hc
              obtain ⟨k, hk, ek⟩ := List.getElem_of_mem hc
              rw [List.length_take] at hk
              rw [List.getElem_take] at ek
              have := (List.getElem_inj hn).mp ek
              omega)
        rw [upd_same, putK_new _ hv, List.take_add_one, hxi, List.map_append]
        rfl
    · have e : i = w.cps.toList.length := by omega
      subst e
      refine .inl ⟨wk.stops H (g3.b.su g3.s), ?_⟩
      have hD1 : H1 D = none := Evl.fresh_back g2.h hD
      exact q _ _ H ((g2.tr g3).pub hD1 hDH hB2) ⟨D, _, rfl, upd_same, by rw [List.length_map, List.take_length]⟩
theorem ev_lenD {n : Nat} (h : Ep te σ B fun v B' => ∃ p kvs, v = .ref p ∧ B' p = some (.dK kvs) ∧ kvs.length = n) : Ev (tCB (fun xs H Q => ∃ a kvs, xs = [V.ref a] ∧ H a = some (.dK kvs) ∧ Q (.int kvs.length) H) (tCons te tNil)) σ B (.int ((n : Nat) : Int)) := fun B1 H1 a b Q q =>
  h B1 H1 a b _ fun v B2 H2 g ⟨p, kvs, e1, e2, e3⟩ => by
    subst e1
    subst e3
    exact ⟨p, kvs, rfl, g.s _ _ e2, q _ B2 H2 g rfl⟩
end
section
variable {P : Program} {w : World} {K : PySem.W.Frag} {mg : Str → Option Value} {base : Heap} {C : Addr}
theorem letters_mem {c : Nat} (h : 97 ≤ c ∧ c ≤ 104) : decide (c ∈ ("abcdefgh" : Str).cps.toList) = true := by
  have e : ("abcdefgh" : Str).cps.toList = [97, 98, 99, 100, 101, 102, 103, 104] := by decide +kernel
  rw [e, decide_eq_true_eq]
  have : c = 97 ∨ c = 98 ∨ c = 99 ∨ c = 100 ∨ c = 101 ∨ c = 102 ∨ c = 103 ∨ c = 104 := by omega
  rcases this with h | h | h | h | h | h | h | h <;> simp [h]
theorem all_true : ∀ n : Nat, (List.replicate n true).all id = true
  | 0 => rfl
  | n + 1 => by rw [List.replicate_succ, List.all_cons, all_true n]; rfl

def spInt : PrT := fun vs _ R => ∃ i : Int, vs = [.int i] ∧ R = fun v _ => v = .bl true
theorem sc_is_integer : FnScope ["value"] ["value"] (C8.fnScope (topS 18)) := C8.fnScope_by (by decide +kernel)
theorem ok_is_integer (T : Tx K mg C) : C8.Cal P w K mg base 1 "is_integer" (Pr spInt) [] := by
  refine mk_cal T.is_integer sc_is_integer (by rintro vs B R ⟨i, rfl, _⟩; rfl) fun f cdv A outer s H vs Q E B R hr e h q => ?_
  obtain ⟨i, rfl, rfl⟩ := h
  refine ⟨_, pss_one (ps_ret (pe_and (pe_callB call_isi (by rfl) T.b_isinstance boot_isinstance (pa_cons (pv 0) (pa_cons (pe_bltn (v := .ty "int") (by rfl) T.b_int boot_int rfl) pa_nil)))
    (pe_one (pe_not (pe_callB call_isi (by rfl) T.b_isinstance boot_isinstance (pa_cons (pv 0) (pa_cons (pe_bltn (v := .ty "bool") (by rfl) T.b_bool boot_bool rfl) pa_nil))))))), ?_⟩
  refine s_ret (ev_andV (ev_isi (b := true) (ev_var 0 rfl) (fun _ _ => .base (.int i)) (by decide +kernel)) fun _ => ev_notV (ev_isi (b := false) (ev_var 0 rfl) (fun _ _ => .base (.int i)) (by decide +kernel))) e fun v B' H' g p => ?_
  exact q v B' H' g p

def spBetw : PrT := fun vs _ R => ∃ i a b : Int, vs = [.int i, .int a, .int b] ∧ R = fun v _ => v = .bl (decide (a ≤ i) && decide (i ≤ b))
theorem sc_is_between : FnScope ["value", "least", "most"] ["value", "least", "most"] (C8.fnScope (topS 19)) := C8.fnScope_by (by decide +kernel)
theorem ok_is_between (T : Tx K mg C) : C8.Cal P w K mg base 2 "is_between" (Pr spBetw) [] := by
  refine mk_cal T.is_between sc_is_between (by rintro vs B R ⟨i, a, b, rfl, _⟩; rfl) fun f cdv A outer s H vs Q E B R hr e h q => ?_
  obtain ⟨i, a, b, rfl, rfl⟩ := h
  refine ⟨_, pss_one (ps_ret (pe_and (C8.pe_c (ok_is_integer T) hr (by decide) (by rfl) (pa_cons (pv 0) pa_nil)) (pe_one (pe_chain op_le op_le (pv 1) (pv 0) (pv 2))))), ?_⟩
  refine s_ret (ev_andV (a := true) (ep_call1 (ev_var 0 rfl) fun x B' _ hx => ⟨i, by rw [hx], rfl⟩) fun _ => ev_chain (ev_var 1 rfl) (ev_var 0 rfl) (ev_var 2 rfl)) e fun v B' H' g p => ?_
  exact q v B' H' g p

def spLetters : PrT := fun vs _ R => ∃ pl, vs = [.str (Sx pl)] ∧ OkPl pl ∧ R = fun v _ => v = .bl true
theorem sc_are_letters : FnScope ["value", "letter"] ["value"] (C8.fnScope (topS 22)) := C8.fnScope_by (by decide +kernel)
theorem ok_are_letters (T : Tx K mg C) : C8.Cal P w K mg base 1 "are_letters" (Pr spLetters) [] := by
  refine mk_cal T.are_letters sc_are_letters (by rintro vs B R ⟨pl, rfl, _⟩; rfl) fun f cdv A outer s H vs Q E B R hr e h q => ?_
  obtain ⟨pl, rfl, O, rfl⟩ := h
  have nd := sc_are_letters.nd
  refine ⟨_, pss_cons (ps_if (PW.pt (pw_or (pt_not (pt_val (pe_callB call_isi (by rfl) T.b_isinstance boot_isinstance (pa_cons (pv 0) (pa_cons (pe_bltn (v := .ty "str") (by rfl) T.b_str boot_str rfl) pa_nil)))))
      (pw_or1 (pt_cmpR op_ne (pe_callB call_lenD (by rfl) T.b_len boot_len (pa_cons (pe_dc (own := [("letter", 1)]) (g := gName 1) (tt := tYes) rfl nd (pi_str (pv 0)) (blkOk_by (own := [("letter", 1)]) (N := ["value", "letter"]) (sc := C8.fnScope (topS 22)) (by decide +kernel)) (fun _ _ _ _ _ => pg_name (i := 1) nd rfl (Or.inl rfl)) (fun _ _ _ _ _ => pts_nil) (fun _ _ _ _ _ => pv 1) (fun _ _ _ _ _ => pe_bl)) pa_nil))
        (pe_callB call_len_str (by rfl) T.b_len boot_len (pa_cons (pv 0) pa_nil)) (nomark _)))))
      (pss_one (ps_ret pe_bl)) pss_nil)
    (pss_one (ps_ret (pe_callB (cr_all rfl) (by rfl) T.b_all boot_all (pa_cons (pe_lc (own := [("letter", 1)]) (g := gName 1) (tt := tYes) rfl nd (pi_str (pv 0)) (blkOk_by (own := [("letter", 1)]) (N := ["value", "letter"]) (sc := C8.fnScope (topS 22)) (by decide +kernel)) (fun _ _ _ _ _ => pg_name (i := 1) nd rfl (Or.inl rfl)) (fun _ _ _ _ _ => pts_nil) (fun _ _ _ _ _ => pe_cmpR op_in_sign (pv 1) (C8.pe_gc (by rfl) T.mL) (by rfl))) pa_nil)))), ?_⟩
  have hl : (Sx pl).cps.toList = pl := by simp
  have hlen : (Sx pl).length = pl.length := sx_len pl
  have few := O.few
  refine s_if (b := false) (et_is (et_or (et_not (et_B (ev_isi (b := true) (ev_var 0 rfl) (fun _ _ => .base (.str _)) (by decide +kernel)))) fun _ => et_test (ev_ne (ev_lenD (ep_dcT (ev_var 0 rfl) (by rw [hl]; exact O.nd) (by rw [hl]; omega) (fun _ => rfl) (show 1 < 2 by decide))) (ev_lenS (ev_var 0 rfl) (by rw [hlen]; omega)) rfl)) ?_) e (fun z => nomatch z) fun _ B1 H1 g1 => ?_
  · rw [hl, hlen]; simp
  refine s_ret (ev_is (ev_allL (bs := List.replicate pl.length true) (ed_is (ed_lc (ei_str (ev_var 0 rfl)) (fun _ => true) (fun _ => .bool true) (by rw [hl]; omega) fun c x B2 hc _ hx => ⟨_, tg_name 1, rfl, et_yes, fun _ => ?_⟩) ?_)) (by rw [all_true])) g1.s fun v B' H' g p => ?_
  · subst hx
    rw [hl] at hc
    exact bl_ed (ev_is (ev_inSign (c := c) (ev_var 1 rfl) ev_c) (by rw [letters_mem (O.rng c hc)]))
  · rw [hl, List.filter_eq_self.mpr (fun _ _ => rfl), List.map_replicate, ← List.map_const']
  exact q v B' H' (g1.tr g) p
end
end Kx

/-! Ka2 -/
namespace Kx
open PySem PySem.Spec PyProof.Rows L2
section
variable {P : Program} {w : World} {K : PySem.W.Frag} {mg : Str → Option Value} {base : Heap} {C : Addr}
theorem sx_toList (l : List Nat) : (Sx l).cps.toList = l := by simp

def spPlaces : PrT := fun vs _ R => ∃ pl, vs = [.str (Sx pl)] ∧ OkPl pl ∧ R = fun v _ => v = .bl true
abbrev n23 : List Str := ["value"]
theorem sc_are_places : FnScope n23 ["value"] (C8.fnScope (topS 23)) := C8.fnScope_by (by decide +kernel)
theorem ok_are_places (T : Tx K mg C) : C8.Cal P w K mg base 2 "are_places" (Pr spPlaces) [] := by
  refine mk_cal T.are_places sc_are_places (by rintro vs B R ⟨pl, rfl, _⟩; rfl) fun f cdv A outer s H vs Q E B R hr e h q => ?_
  obtain ⟨pl, rfl, O, rfl⟩ := h
  have few := O.few
  have pos := O.pos
  refine ⟨_, pss_one (ps_ret (pe_and (C8.pe_c (ok_are_letters T) hr (by decide) (by rfl) (pa_cons (pv 0) pa_nil)) (pe_and (pe_chain op_lt op_le pe_int (pe_callB call_len_str (by rfl) T.b_len boot_len (pa_cons (pv 0) pa_nil)) (C8.pe_gc (by rfl) T.mP))
    (pe_one (pe_cmpR (op_eqD hr.units) (pe_callTy (call_listT rfl) (by rfl) T.b_list PyProof.Rows.boot_list (pa_cons (pv 0) pa_nil)) (pe_callB (cr_sortT rfl) (by rfl) T.b_sorted PyProof.Rows.boot_sorted (pa_cons (pv 0) pa_nil)) (nomark _)))))), ?_⟩
  have hs : ∀ z ∈ pl.map sg, PyData.strOk z = true := fun z hz => by
    obtain ⟨c, hc, rfl⟩ := List.mem_map.mp hz
    exact ok_sg (by have := O.rng c hc; omega)
  have e1 : (Sx pl).cps.toList.map (fun c => PyData.str (sg c)) = (pl.map sg).map PyData.str := by rw [sx_toList, List.map_map]; rfl
  refine s_ret (ev_andV (a := true) (b := true) (ep_call1 (ev_var 0 rfl) fun x B' _ hx => ⟨pl, by rw [hx], O, rfl⟩) fun _ => ev_is (ev_andV (a := true) (ev_is (ev_chain ev_c (ev_lenS (ev_var 0 rfl) (by rw [sx_len]; omega)) ev_c) ?_) fun _ =>
    ev_eqD (ed_is (ed_listT' (ev_var 0 rfl) (by rw [sx_len]; omega)) (congrArg PyData.list e1)) ((ep_sortT (ev_var 0 rfl) (by rw [sx_len]; omega)).imp fun v B' _ ⟨ys, hp, hss, hd⟩ => ?_) (shaped_strs _ hs) (shaped_strs _ hs)) ?_) e fun v B' H' g p => ?_
  · rw [sx_len]; simp; omega
  · rw [sx_toList] at hp
    rw [sort_same O.inc hp hss] at hd
    exact hd
  · rw [eqv_strs]; simp
  exact q v B' H' g p

def spIsTie : PrT := fun vs _ R => ∃ pl a b, vs = [.str (Sx pl), .str (Sx [a, b])] ∧ a ∈ pl ∧ b ∈ pl ∧ a ≤ b ∧ R = fun v _ => v = .bl true
abbrev n24 : List Str := ["places", "value"]
theorem sc_is_tie : FnScope n24 ["places", "value"] (C8.fnScope (topS 24)) := C8.fnScope_by (by decide +kernel)
theorem ok_is_tie (T : Tx K mg C) : C8.Cal P w K mg base 1 "is_tie" (Pr spIsTie) [] := by
  refine mk_cal T.is_tie sc_is_tie (by rintro vs B R ⟨pl, a, b, rfl, _⟩; rfl) fun f cdv A outer s H vs Q E B R hr e h q => ?_
  obtain ⟨pl, a, b, rfl, ha, hb, hab, rfl⟩ := h
  refine ⟨_, pss_cons (ps_if (PW.pt (pw_or (pt_not (pt_val (pe_callB call_isi (by rfl) T.b_isinstance PyProof.Rows.boot_isinstance (pa_cons (pv 1) (pa_cons (pe_bltn (v := .ty "str") (by rfl) T.b_str PyProof.Rows.boot_str rfl) pa_nil)))))
      (pw_or1 (pt_cmpR op_ne (pe_callB call_len_str (by rfl) T.b_len boot_len (pa_cons (pv 1) pa_nil)) pe_int (nomark _))))) (pss_one (ps_ret pe_bl)) pss_nil)
    (pss_one (ps_ret (pe_and (pe_cmpR op_in_sign (pe_ix ix_str (pv 1) pe_int (fun _ _ => rfl)) (pv 0) (by rfl)) (pe_and (pe_cmpR op_in_sign (pe_ix ix_str (pv 1) pe_int (fun _ _ => rfl)) (pv 0) (by rfl))
      (pe_one (pe_cmpR op_le_str (pe_ix ix_str (pv 1) pe_int (fun _ _ => rfl)) (pe_ix ix_str (pv 1) pe_int (fun _ _ => rfl)) (nomark _))))))), ?_⟩
  refine s_if (b := false) (et_is (et_or (et_not (et_B (ev_isi (b := true) (ev_var 1 rfl) (fun _ _ => .base (.str _)) (by decide +kernel)))) fun _ => et_test (ev_ne (ev_lenS (ev_var 1 rfl) (by rw [sx_len]; simp)) ev_c rfl)) ?_) e (fun z => nomatch z) fun _ B1 H1 g1 => ?_
  · rw [sx_len]; rfl
  have i0 : Kx.Ev (tOp rIxS (tVar 1) (tC (.int 0))) (L2.start n24 [V.str (Sx pl), V.str (Sx [a, b])]) B1 (.str (sg a)) := ev_ixS (ev_var 1 rfl) ev_c (by rw [sx_len]; simp) (by rw [sx_toList]; rfl)
  have i1 : Kx.Ev (tOp rIxS (tVar 1) (tC (.int 1))) (L2.start n24 [V.str (Sx pl), V.str (Sx [a, b])]) B1 (.str (sg b)) := ev_ixS (ev_var 1 rfl) ev_c (by rw [sx_len]; simp) (by rw [sx_toList]; rfl)
  refine s_ret (ev_andV (a := true) (b := true) (ev_is (ev_inSign i0 (ev_var 0 rfl)) ?_) fun _ => ev_andV (a := true) (b := true) (ev_is (ev_inSign i1 (ev_var 0 rfl)) ?_) fun _ => ev_is (ev_op i0 i1 (op2_val fun _ _ _ q => ⟨sg a, sg b, rfl, rfl, q⟩)) ?_) g1.s fun v B' H' g p => ?_
  · rw [sx_toList]; simp [ha]
  · rw [sx_toList]; simp [hb]
  · have : ¬ ((sg b).cps.toList < (sg a).cps.toList) := by
      show ¬ ([b] < [a])
      rw [List.cons_lt_cons_iff]
      simp
      omega
    simp [this]
  exact q v B' H' (g1.tr g) p

def spWrong : PrT := fun vs B R => ∃ pl ts v, vs = [.str (Sx pl), v] ∧ Dq B v (.tuple (ts.map tieD)) ∧ OkPl pl ∧ OkTs pl ts ∧ R = fun v _ => v = .non
abbrev n25 : List Str := ["places", "ties", "index", "tie"]
theorem sc_wrong_tie : FnScope n25 ["places", "ties"] (C8.fnScope (topS 25)) := C8.fnScope_by (by decide +kernel)
theorem ok_wrong_tie (T : Tx K mg C) : C8.Cal P w K mg base 2 "wrong_tie" (Pr spWrong) [] := by
  refine mk_cal T.wrong_tie sc_wrong_tie (by rintro vs B R ⟨pl, ts, v, rfl, _⟩; rfl) fun f cdv A outer s H vs Q E B R hr e h q => ?_
  obtain ⟨pl, ts, v, rfl, hv, O, OT, rfl⟩ := h
  have nd := sc_wrong_tie.nd
  refine ⟨_, pss_cons (ps_for PassesOwn.never rfl (pi_enumT (by rfl) T.b_enumerate (pa_cons (pv 1) pa_nil)) (pg_tup (by rfl) (pgs_cons (pg_name (i := 2) nd rfl (.inl rfl)) (pgs_cons (pg_name (i := 3) nd rfl (.inl rfl)) pgs_nil)))
      (pss_one (ps_if (PW.pt (pw_or (pt_cmpR op_eq (pv 2) (C8.pe_gc (by rfl) T.mT) (nomark _)) (pw_or1 (pt_not (pt_val (C8.pe_c (ok_is_tie T) hr (by decide) (by rfl) (pa_cons (pv 0) (pa_cons (pv 3) pa_nil)))))))) (pss_one (ps_ret (pv 2))) pss_nil)))
    (pss_one (ps_ret pe_non)), ?_⟩
  refine s_for (ei_enumT (ea_cons (ed_var 1 rfl hv) ea_nil)) e fun B2 H2 g2 => ⟨fun _ σ' B' H' => (∃ x y, σ' = [some (.str (Sx pl)), some v, x, y]) ∧ Gr B2 H2 B' H', ⟨⟨none, none, rfl⟩, Gr.refl g2.s⟩, fun _ _ _ _ h => ⟨h.2.b, h.2.s⟩, ?_, ?_⟩
  · rintro pre ⟨t, i⟩ post hx σ' B' H' ⟨⟨x, y, rfl⟩, g3⟩ z B3 H3 g4 ⟨Ta, x2, rfl, hT, hd⟩
    cases hd
    have hti : ts[i]? = some t := by
      have : (t, i) ∈ ts.zipIdx := by rw [hx]; simp
      exact List.mem_zipIdx_iff_getElem?.mp this
    obtain ⟨hi, hte⟩ := List.getElem?_eq_some_iff.mp hti
    have few := OT.few
    obtain ⟨m1, m2, m3⟩ := OT.mem t (by rw [← hte]; exact List.getElem_mem hi)
    refine tg_two 2 3 hT H3 _ g4.s ?_
    refine s_if (b := false) (et_is (et_or (et_test (ev_eq (ev_var 2 rfl) ev_c rfl)) fun _ => et_not (a := true) (et_B (ep_call2 (ev_var 0 rfl) (stb_eq _) (ev_var 3 rfl) fun x y B' _ e1 e2 => ⟨pl, t.1, t.2, by rw [e1, e2], m1, m2, Nat.le_of_lt m3, rfl⟩))) ?_) g4.s (fun z => nomatch z) fun _ B5 H5 g5 => ?_
    · have : ¬ (V.int ((i : Nat) : Int) = V.int 11) := fun z => by injection z with z; omega
      simp [this]
    · exact ⟨B5, ⟨_, _, rfl⟩, (g3.tr g4).tr g5⟩
  · rintro σ' B' H' ⟨_, g3⟩
    show tRet (tC .non) { nx := fun _ H' => Q .non H', rt := Q } σ' H'
    refine s_ret ev_c g3.s fun v B4 H4 g4 p => ?_
    exact q v B4 H4 ((g2.tr g3).tr g4) p
end
end Kx

/-! Ka3 -/
namespace Kx
open PySem PySem.Spec PyProof.Rows L2
section
variable {P : Program} {w : World} {K : PySem.W.Frag} {mg : Str → Option Value} {base : Heap} {C : Addr}
theorem ev_isW {σ : L2.St} {B : Hp} {te : TE} {pl : List Nat} {ts : List (Nat × Nat)} (h : Ep te σ B fun v B => WebAt C B v pl ts) :
    Ev (tCB (fun xs H Q => ∃ a dx fs, xs = [.ref a, .ref C] ∧ H a = some (.ins C dx fs) ∧ Q (.bl true) H) (tCons te (tCons (tC (.ref C)) tNil))) σ B (.bl true) :=
  ep_cb (eap_cons h stb_web (eap_cons ev_c (stb_eq _) eap_nil)) fun vs B1 H1 a c ⟨v1, w1, e1, e2, v2, w2, e3, e4, e5⟩ Q q => by
    subst e1; subst e3; subst e4; subst e5
    obtain ⟨p, dx, t, h1, h2, h3⟩ := e2.ex
    exact ⟨p, dx, _, by rw [h1], c _ _ h2, q _ B1 H1 (Gr.refl c) rfl⟩
theorem ev_isTup {K : PySem.W.Frag} {σ : L2.St} {B : Hp} {te : TE} {ds : List PyData} (h : Ed te σ B (.tuple ds)) : Ev (tCB (rIsi K) (tCons te (tCons (tC (.ty "tuple")) tNil))) σ B (.bl true) :=
  ep_cb (eap_cons h (stb_dp _) (eap_cons ev_c (stb_eq _) eap_nil)) fun vs B1 H1 a b ⟨v1, w1, e1, e2, v2, w2, e3, e4, e5⟩ Q k => by
    subst e1; subst e3; subst e4; subst e5
    obtain ⟨c, xs, rfl, hs, hd⟩ := dp_tup e2
    exact ⟨.ref c, .ty "tuple", .type "tuple", .type "tuple", true, rfl, .ty "tuple", .base (.tup (b _ _ hs)), kit_ty (by decide +kernel), k _ B1 H1 (Gr.refl b) rfl⟩

def spWeb (C : Addr) : PrT := fun vs B R => ∃ pl ts v, vs = [v] ∧ Wb C B v pl ts ∧ R = fun v _ => v = .non
abbrev n27 : List Str := ["web"]
theorem sc_check_web : FnScope n27 ["web"] (C8.fnScope (topS 27)) := C8.fnScope_by (by decide +kernel)
theorem ok_check_web (T : Tx K mg C) : C8.Cal P w K mg base 1 "check_web" (Pr (spWeb C)) [] := by
  refine mk_cal T.check_web sc_check_web (by rintro vs B R ⟨pl, ts, v, rfl, _⟩; rfl) fun f cdv A outer s H vs Q E B R hr e h q => ?_
  obtain ⟨pl, ts, v, rfl, W, rfl⟩ := h
  refine ⟨_, pss_one (ps_if (pt_not (pt_val (pe_callB (C8.call_isC T.ins) (by rfl) T.b_isinstance PyProof.Rows.boot_isinstance (pa_cons (pv 0) (pa_cons (C8.pe_gc (v := .ref C) (by rfl) ⟨_, T.mgW, rfl⟩) pa_nil))))) pss_never pss_nil), ?_⟩
  refine s_if (b := false) (et_not (a := true) (et_B (ev_isW (ep_var 0 rfl W.wa stb_web)))) e (fun z => nomatch z) fun _ B1 H1 g1 => ?_
  exact q .non B1 H1 g1 rfl

def spIsPlace (C : Addr) : PrT := fun vs B R => ∃ pl ts v c, vs = [v, .str (sg c)] ∧ Wb C B v pl ts ∧ c ∈ pl ∧ R = fun v _ => v = .bl true
abbrev n28 : List Str := ["web", "value"]
theorem sc_is_place : FnScope n28 ["web", "value"] (C8.fnScope (topS 28)) := C8.fnScope_by (by decide +kernel)
theorem ok_is_place (T : Tx K mg C) : C8.Cal P w K mg base 1 "is_place" (Pr (spIsPlace C)) [] := by
  refine mk_cal T.is_place sc_is_place (by rintro vs B R ⟨pl, ts, v, c, rfl, _⟩; rfl) fun f cdv A outer s H vs Q E B R hr e h q => ?_
  obtain ⟨pl, ts, v, c, rfl, W, hc, rfl⟩ := h
  refine ⟨_, pss_one (ps_ret (pe_and (pe_callB call_isi (by rfl) T.b_isinstance PyProof.Rows.boot_isinstance (pa_cons (pv 1) (pa_cons (pe_bltn (v := .ty "str") (by rfl) T.b_str PyProof.Rows.boot_str rfl) pa_nil))) (pe_and (pe_cmpR op_eq (pe_callB call_len_str (by rfl) T.b_len boot_len (pa_cons (pv 1) pa_nil)) pe_int (nomark _))
    (pe_one (pe_cmpR op_in_sign (pv 1) (pe_fld (pv 0) (by rfl)) (by rfl)))))), ?_⟩
  refine s_ret (ev_andV (a := true) (b := true) (ev_isi (b := true) (ev_var 1 rfl) (fun _ _ => .base (.str _)) (by decide +kernel)) fun _ => ev_andV (a := true) (b := true) (ev_is (ev_eq (ev_lenS (ev_var 1 rfl) (by show 1 ≤ 100000; decide)) ev_c rfl) (by rfl)) fun _ => ev_is (ev_inSign (ev_var 1 rfl) (ev_places T.web (ep_var 0 rfl W.wa stb_web))) ?_) e fun v B' H' g p => ?_
  · rw [sx_toList]; simp [hc]
  exact q v B' H' g p

def spChPlace (C : Addr) : PrT := fun vs B R => ∃ pl ts v c, vs = [v, .str (sg c)] ∧ Wb C B v pl ts ∧ c ∈ pl ∧ R = fun v _ => v = .non
abbrev n29 : List Str := ["web", "place"]
theorem sc_check_place : FnScope n29 ["web", "place"] (C8.fnScope (topS 29)) := C8.fnScope_by (by decide +kernel)
theorem ok_check_place (T : Tx K mg C) : C8.Cal P w K mg base 2 "check_place" (Pr (spChPlace C)) [] := by
  refine mk_cal T.check_place sc_check_place (by rintro vs B R ⟨pl, ts, v, c, rfl, _⟩; rfl) fun f cdv A outer s H vs Q E B R hr e h q => ?_
  obtain ⟨pl, ts, v, c, rfl, W, hc, rfl⟩ := h
  refine ⟨_, pss_one (ps_if (pt_not (pt_val (C8.pe_c (ok_is_place T) hr (by decide) (by rfl) (pa_cons (pv 0) (pa_cons (pv 1) pa_nil))))) pss_never pss_nil), ?_⟩
  refine s_if (b := false) (et_not (a := true) (et_B (ep_call2 (ep_var 0 rfl W stb_wb) stb_wb (ev_var 1 rfl) fun x y B' _ e1 e2 => ⟨pl, ts, x, c, by rw [e2], e1, hc, rfl⟩))) e (fun z => nomatch z) fun _ B1 H1 g1 => ?_
  exact q .non B1 H1 g1 rfl

def spChHeap (C : Addr) : PrT := fun vs B R => ∃ pl ts v u D, vs = [v, u] ∧ Wb C B v pl ts ∧ Dq B u (hpT pl D) ∧ (∀ c ∈ pl, -1000000 ≤ D c ∧ D c ≤ 1000000) ∧ R = fun v _ => v = .non
abbrev n33 : List Str := ["web", "heap", "index", "number"]
theorem sc_check_heap : FnScope n33 ["web", "heap"] (C8.fnScope (topS 33)) := C8.fnScope_by (by decide +kernel)
theorem ok_check_heap (T : Tx K mg C) : C8.Cal P w K mg base 3 "check_heap" (Pr (spChHeap C)) [] := by
  refine mk_cal T.check_heap sc_check_heap (by rintro vs B R ⟨pl, ts, v, u, D, rfl, _⟩; rfl) fun f cdv A outer s H vs Q E B R hr e h q => ?_
  obtain ⟨pl, ts, v, u, D, rfl, W, hu, hD, rfl⟩ := h
  have nd := sc_check_heap.nd
  have few := W.op.few
  refine ⟨_, pss_cons (ps_if (PW.pt (pw_or (pt_not (pt_val (pe_callB call_isi (by rfl) T.b_isinstance PyProof.Rows.boot_isinstance (pa_cons (pv 1) (pa_cons (pe_bltn (v := .ty "tuple") (by rfl) T.b_tuple PyProof.Rows.boot_tuple rfl) pa_nil)))))
      (pw_or1 (pt_cmpR op_ne (pe_callB call_len_seq (by rfl) T.b_len boot_len (pa_cons (pv 1) pa_nil)) (pe_callB call_len_str (by rfl) T.b_len boot_len (pa_cons (pe_fld (pv 0) (by rfl)) pa_nil)) (nomark _))))) pss_never pss_nil)
    (pss_one (ps_for PassesOwn.never rfl (pi_enumT (by rfl) T.b_enumerate (pa_cons (pv 1) pa_nil)) (pg_tup (by rfl) (pgs_cons (pg_name (i := 2) nd rfl (.inl rfl)) (pgs_cons (pg_name (i := 3) nd rfl (.inl rfl)) pgs_nil)))
      (pss_one (ps_if (pt_not (pt_val (C8.pe_c (ok_is_between T) hr (by decide) (by rfl) (pa_cons (pv 3) (pa_cons (pe_un un_neg (C8.pe_gc (by rfl) T.mH)) (pa_cons (C8.pe_gc (by rfl) T.mH) pa_nil)))))) pss_never pss_nil)))), ?_⟩
  refine s_if (b := false) (et_is (et_or (et_not (a := true) (et_B (ev_isTup (ed_var 1 rfl hu)))) fun _ => et_test (ev_ne (ev_lenT (ed_var 1 rfl hu)) (ev_lenS (ev_places T.web (ep_var 0 rfl W.wa stb_web)) (by rw [sx_len]; omega)) rfl)) ?_) e (fun z => nomatch z) fun _ B1 H1 g1 => ?_
  · rw [sx_len]; simp
  refine s_for (ei_enumT (ea_cons (ed_var 1 rfl (dp_ex g1.b hu)) ea_nil)) g1.s fun B2 H2 g2 => ⟨fun _ σ' B' H' => (∃ x y, σ' = [some v, some u, x, y]) ∧ Gr B2 H2 B' H', ⟨⟨none, none, rfl⟩, Gr.refl g2.s⟩, fun _ _ _ _ h => ⟨h.2.b, h.2.s⟩, ?_, ?_⟩
  · rintro pre ⟨t, i⟩ post hx σ' B' H' ⟨⟨x, y, rfl⟩, g3⟩ z B3 H3 g4 ⟨Ta, x2, rfl, hT, hd⟩
    cases hd
    have hti : t ∈ pl := by
      have : (t, i) ∈ pl.zipIdx := by rw [hx]; simp
      exact (List.mem_zipIdx_iff_getElem?.mp this) |> List.mem_of_getElem?
    have hb := hD t hti
    refine tg_two 2 3 hT H3 _ g4.s ?_
    refine s_if (b := false) (et_is (et_not (et_B (ep_call3 (ev_var 3 rfl) (stb_eq _) (ev_un ev_c) (stb_eq _) ev_c fun x y z B' _ e1 e2 e3 => ⟨D t, -1000000, 1000000, by rw [e1, e2, e3], rfl⟩))) ?_) g4.s (fun z => nomatch z) fun _ B5 H5 g5 => ?_
    · simp [hb.1, hb.2]
    · exact ⟨B5, ⟨_, _, rfl⟩, (g3.tr g4).tr g5⟩
  · rintro σ' B' H' ⟨_, g3⟩
    exact q .non B' H' ((g1.tr g2).tr g3) rfl
end
end Kx

/-! KmHerd -/
namespace Kx
/-- no cut: what is alike at the ends of each tie is alike everywhere -/
def Conn (pl : List Nat) (ts : List (Nat × Nat)) : Prop := ∀ f : Nat → Bool, (∀ t ∈ ts, f t.1 = f t.2) → ∀ u ∈ pl, ∀ v ∈ pl, f u = f v
structure HInv (pl : List Nat) (done : List (Nat × Nat)) (L : List (List Nat)) : Prop where
  perm : L.flatten.Perm pl
  ne : ∀ l ∈ L, l ≠ []
  tie : ∀ t ∈ done, ∃ l ∈ L, t.1 ∈ l ∧ t.2 ∈ l
def hP (t : Nat × Nat) (l : List Nat) : Bool := decide (t.1 ∈ l) || decide (t.2 ∈ l)
theorem flat_single : ∀ l : List Nat, (l.map fun c => [c]).flatten = l
  | [] => rfl
  | c :: r => by rw [List.map_cons, List.flatten_cons, flat_single r]; rfl
theorem hinv0 (pl : List Nat) : HInv pl [] (pl.map fun c => [c]) := ⟨by rw [flat_single], fun l hl => by
  obtain ⟨c, _, rfl⟩ := List.mem_map.mp hl
  simp, fun _ h => nomatch h⟩
theorem hinv_step {pl : List Nat} {done : List (Nat × Nat)} {L : List (List Nat)} {t : Nat × Nat} {w : List Nat} (h : HInv pl done L) (h1 : t.1 ∈ pl) (h2 : t.2 ∈ pl) (hw : w.Perm (L.filter (hP t)).flatten) :
    HInv pl (done ++ [t]) (w :: L.filter fun l => !hP t l) := by
  have key : ∀ c, c ∈ pl → (c = t.1 ∨ c = t.2) → c ∈ w := fun c hc hct => by
    obtain ⟨l, hl, hcl⟩ := List.mem_flatten.mp (h.perm.mem_iff.mpr hc)
    refine hw.mem_iff.mpr (List.mem_flatten.mpr ⟨l, List.mem_filter.mpr ⟨hl, ?_⟩, hcl⟩)
    rcases hct with e | e
    · subst e; simp [hP, hcl]
    · subst e; simp [hP, hcl]
  refine ⟨?_, ?_, ?_⟩
  · rw [List.flatten_cons]
    refine (hw.append_right _).trans ?_
    rw [← List.flatten_append]
    exact ((List.filter_append_perm (hP t) L).flatten).trans h.perm
  · intro l hl
    rcases List.mem_cons.mp hl with e | hl
    · subst e
      intro z
      have := key t.1 h1 (.inl rfl)
      rw [z] at this; cases this
    · exact h.ne l (List.mem_filter.mp hl).1
  · intro s hs
    rcases List.mem_append.mp hs with hs | hs
    · obtain ⟨l, hl, a, b⟩ := h.tie s hs
      by_cases q : hP t l = true
      · exact ⟨w, List.mem_cons_self, hw.mem_iff.mpr (List.mem_flatten.mpr ⟨l, List.mem_filter.mpr ⟨hl, q⟩, a⟩), hw.mem_iff.mpr (List.mem_flatten.mpr ⟨l, List.mem_filter.mpr ⟨hl, q⟩, b⟩)⟩
      · exact ⟨l, List.mem_cons_of_mem _ (List.mem_filter.mpr ⟨hl, by simp [q]⟩), a, b⟩
    · rw [List.mem_singleton] at hs
      subst hs
      exact ⟨w, List.mem_cons_self, key _ h1 (.inl rfl), key _ h2 (.inr rfl)⟩
theorem len_flat : ∀ L : List (List Nat), (∀ l ∈ L, l ≠ []) → L.length ≤ L.flatten.length
  | [], _ => by simp
  | l :: r, h => by
    have := len_flat r fun x hx => h x (List.mem_cons_of_mem _ hx)
    have h2 := h l List.mem_cons_self
    have : 0 < l.length := List.length_pos_iff.mpr h2
    rw [List.flatten_cons, List.length_append, List.length_cons]; omega
theorem HInv.len {pl : List Nat} {done : List (Nat × Nat)} {L : List (List Nat)} (h : HInv pl done L) : L.length ≤ pl.length := by
  rw [← h.perm.length_eq]; exact len_flat L h.ne
theorem hinv_one {pl : List Nat} {ts : List (Nat × Nat)} {L : List (List Nat)} (h : HInv pl ts L) (hn : pl.Nodup) (hp : 0 < pl.length) (hc : Conn pl ts) : L.length = 1 := by
  cases L with
  | nil =>
    have := h.perm.length_eq
    simp at this; omega
  | cons l0 r =>
    cases r with
    | nil => rfl
    | cons l1 r =>
      exfalso
      have nf : (l0 ++ (l1 :: r).flatten).Nodup := by
        have := h.perm.nodup_iff.mpr hn
        rw [List.flatten_cons] at this; exact this
      have dis := (List.nodup_append.mp nf).2.2
      have out : ∀ l ∈ l1 :: r, ∀ c ∈ l, c ∉ l0 := fun l hl c hcl hc0 => dis c hc0 c (List.mem_flatten.mpr ⟨l, hl, hcl⟩) rfl
      have hf : ∀ t ∈ ts, decide (t.1 ∈ l0) = decide (t.2 ∈ l0) := fun t ht => by
        obtain ⟨l, hl, a, b⟩ := h.tie t ht
        rcases List.mem_cons.mp hl with e | hl
        · subst e; simp [a, b]
        · simp [out l hl _ a, out l hl _ b]
      obtain ⟨a, ha⟩ := List.exists_mem_of_ne_nil l0 (h.ne l0 List.mem_cons_self)
      obtain ⟨b, hb⟩ := List.exists_mem_of_ne_nil l1 (h.ne l1 (by simp))
      have ha' : a ∈ pl := h.perm.mem_iff.mp (List.mem_flatten.mpr ⟨l0, List.mem_cons_self, ha⟩)
      have hb' : b ∈ pl := h.perm.mem_iff.mp (List.mem_flatten.mpr ⟨l1, by simp, hb⟩)
      have := hc (fun c => decide (c ∈ l0)) hf a ha' b hb'
      simp [ha, out l1 List.mem_cons_self b hb] at this
end Kx

/-! Ka4 -/
namespace Kx
open PySem PySem.Spec PyProof.Rows L2
section
variable {P : Program} {w : World} {K : PySem.W.Frag} {mg : Str → Option Value} {base : Heap} {C : Addr}
theorem sx_maps {L : List (List Nat)} : L.map (fun l => PyData.str (Sx l)) = (L.map Sx).map PyData.str := by rw [List.map_map]; rfl
theorem mem_sx {L : List (List Nat)} {l : List Nat} : Sx l ∈ L.map Sx ↔ l ∈ L := by
  rw [List.mem_map]
  exact ⟨fun ⟨x, hx, e⟩ => sx_inj e ▸ hx, fun h => ⟨l, h, rfl⟩⟩
theorem flat_len (L : List (List Nat)) : (L.map List.length).sum = L.flatten.length := by rw [List.length_flatten]
theorem ep_joinR {σ : L2.St} {B : Hp} {te : TE} {Rr : List (List Nat) → Prop} (h : Ep te σ B fun v B' => ∃ ys : List (List Nat), Rr ys ∧ Dq B' v (.list (ys.map fun l => .str (Sx l)))) (hz : ∀ ys, Rr ys → (ys.map List.length).sum ≤ 100000) :
    Ep (tM1 (fun x xs H Q => ∃ a p, ∃ ys : List Str, x = .str a ∧ xs = [.ref p] ∧ (SqL K H p (ys.map V.str) ∨ SqT K H p (ys.map V.str)) ∧ (ys.map (·.length)).sum + ys.length * a.length ≤ 16777216 ∧ Q (.str (Txt.join a ys)) H) (tC (.str "")) te) σ B (fun v _ => ∃ ys : List (List Nat), Rr ys ∧ v = .str (Sx ys.flatten)) := fun B1 H1 a b Q q =>
  ⟨⟨_, rfl⟩, h B1 H1 a b _ fun v B2 H2 g ⟨ys, r, p⟩ => by
    have k := ed_join (K := K) (σ := σ) (te := tC v) (B := B2) (fun B1' H1' a' b' Q' q' => q' v B1' H1' (Gr.refl b') (dp_ex a' p)) (hz ys r) rfl B2 H2 (Evl.Ex.refl _) g.s Q fun v' B3 H3 g3 p3 => q v' B3 H3 (g.tr g3) ⟨ys, r, p3⟩
    exact k.2⟩

def spHerds (C : Addr) : PrT := fun vs B R => ∃ pl ts v, vs = [.str (Sx pl), v] ∧ Dq B v (.tuple (ts.map tieD)) ∧ OkPl pl ∧ OkTs pl ts ∧ Conn pl ts ∧ R = fun u B' => ∃ y : Str, Dq B' u (.list [.str y])
abbrev n30 : List Str := ["places", "ties", "found", "one", "other", "joined", "whole", "herd"]
theorem sc_herds_of : FnScope n30 ["places", "ties"] (C8.fnScope (topS 30)) := C8.fnScope_by (by decide +kernel)
theorem ok_herds_of (T : Tx K mg C) : C8.Cal P w K mg base 1 "herds_of" (Pr (spHerds C)) [] := by
  refine mk_cal T.herds_of sc_herds_of (by rintro vs B R ⟨pl, ts, v, rfl, _⟩; rfl) fun f cdv A outer s H vs Q E B R hr e h q => ?_
  obtain ⟨pl, ts, v, rfl, hv, O, OT, hconn, rfl⟩ := h
  have nd := sc_herds_of.nd
  have few := O.few
  refine ⟨_, pss_cons (ps_set (i := 2) nd rfl (.inl rfl) (pe_callTy (call_listT rfl) (by rfl) T.b_list PyProof.Rows.boot_list (pa_cons (pv 0) pa_nil)))
    (pss_cons (ps_for PassesOwn.never rfl (pi_tup (pv 1)) (pg_txt rfl (pgs_cons (pg_name (i := 3) nd rfl (.inr rfl)) (pgs_cons (pg_name (i := 4) nd rfl (.inr rfl)) pgs_nil)))
      (pss_cons (ps_set (i := 5) nd rfl (.inr rfl) (pe_lc (own := [("herd", 7)]) (g := gName 7) rfl nd (pi_list (pv 2)) (blkOk_by (own := [("herd", 7)]) (N := n30) (sc := C8.fnScope (topS 30)) (by decide +kernel)) (fun _ _ _ _ _ => pg_name (i := 7) nd rfl (Or.inl rfl)) (fun _ _ _ _ _ => pts_one (PW.pt (pw_or (pt_cmpR op_in_sign (pv 3) (pv 7) (by rfl)) (pw_or1 (pt_cmpR op_in_sign (pv 4) (pv 7) (by rfl)))))) (fun _ _ _ _ _ => pv 7)))
      (pss_cons (ps_set (i := 6) nd rfl (.inl rfl) (pe_join pe_str (pe_callB (cr_sortT rfl) (by rfl) T.b_sorted PyProof.Rows.boot_sorted (pa_cons (pe_join pe_str (pv 5)) pa_nil))))
      (pss_one (ps_set (i := 2) nd rfl (.inl rfl) (pe_op op_cat (pe_lst (pa_cons (pv 6) pa_nil)) (pe_lc (own := [("herd", 7)]) (g := gName 7) rfl nd (pi_list (pv 2)) (blkOk_by (own := [("herd", 7)]) (N := n30) (sc := C8.fnScope (topS 30)) (by decide +kernel)) (fun _ _ _ _ _ => pg_name (i := 7) nd rfl (Or.inl rfl)) (fun _ _ _ _ _ => pts_one (pt_cmpR (r := rIn K true) op_notIn_seq (pv 7) (pv 5) (by rfl))) (fun _ _ _ _ _ => pv 7))))))))
    (pss_one (ps_ret (pe_callB cr_sortedS (by rfl) T.b_sorted PyProof.Rows.boot_sorted (pa_cons (pv 2) pa_nil))))), ?_⟩
  have e1 : (Sx pl).cps.toList.map (fun c => PyData.str (sg c)) = (pl.map fun c => [c]).map (fun l => .str (Sx l)) := by rw [sx_toList, List.map_map]; rfl
  refine s_set (ed_is (ed_listT' (ev_var 0 rfl) (by rw [sx_len]; omega)) (congrArg PyData.list e1)) e fun fd0 B1 H1 g1 p1 => ?_
  refine s_for (ei_tup (φ := tieD) (ed_var 1 rfl (dp_ex g1.b hv))) g1.s fun B2 H2 g2 => ⟨fun pre σ' B' H' => (∃ fv x3 x4 x5 x6 L, σ' = [some (.str (Sx pl)), some v, some fv, x3, x4, x5, x6, none] ∧ Dq B' fv (.list (L.map fun l => .str (Sx l))) ∧ HInv pl pre L) ∧ Gr B2 H2 B' H', ⟨⟨fd0, none, none, none, none, _, rfl, dp_ex g2.b p1, hinv0 pl⟩, Gr.refl g2.s⟩, fun _ _ _ _ h => ⟨h.2.b, h.2.s⟩, ?_, ?_⟩
  · rintro pre t post hx σ' B' H' ⟨⟨fv, x3, x4, x5, x6, L, rfl, hfv, hI⟩, g3⟩ z B3 H3 g4 hz
    cases hz
    obtain ⟨m1, m2, m3⟩ := OT.mem t (by rw [hx]; simp)
    have r1 := O.rng _ m1
    have r2 := O.rng _ m2
    have hL := hI.len
    have hfl : L.flatten.length = pl.length := hI.perm.length_eq
    refine tg_txt 3 4 (by omega) (by omega) H3 _ g4.s ?_
    have hfv3 := dp_ex g4.b hfv
    refine s_set (ed_lc (ei_list (φ := fun l => .str (Sx l)) (ed_var 2 rfl hfv3)) (hP t) (fun l => .str (Sx l)) (by omega) fun l x B4 hl e4 hx4 => ⟨_, tg_name 7, rfl, ?_, fun _ => ed_var 7 rfl hx4⟩) g4.s fun jv B4 H4 g5 p5 => ?_
    · cases hx4
      refine et_is (et_or (et_test (ev_inSign (c := t.1) (ev_var 3 rfl) (ev_var 7 rfl))) fun _ => et_test (ev_inSign (c := t.2) (ev_var 4 rfl) (ev_var 7 rfl))) ?_
      rw [sx_toList]; rfl
    have hfl2 : (L.filter (hP t)).flatten.length ≤ pl.length := by
      have := ((List.filter_append_perm (hP t) L).flatten).length_eq
      rw [List.flatten_append, List.length_append] at this
      omega
    have j1 : Ep (tM1 _ (tC (.str "")) (tVar 5)) _ B4 _ := ed_join (K := K) (σ := [some (.str (Sx pl)), some v, some fv, some (.str (sg t.1)), some (.str (sg t.2)), some jv, x6, none]) (ed_var 5 rfl p5) (by rw [flat_len]; omega) rfl
    dsimp only [tSeq]
    refine s_set (P := fun v _ => ∃ w : List Nat, v = .str (Sx w) ∧ w.Perm (L.filter (hP t)).flatten) ?_ g5.s fun wv B5 H5 g6 p6 => ?_
    · refine (ep_joinR (Rr := fun ys => ∃ cs : List Nat, ys = cs.map (fun c => [c]) ∧ cs.Perm (L.filter (hP t)).flatten) ((ep_sortT (ed_join (ed_var 5 rfl p5) (by rw [flat_len]; omega) rfl) (by rw [sx_len]; omega)).imp fun v B' _ ⟨ys, hp, hss, hd⟩ => ?_) ?_).imp fun v B' _ ⟨ys, ⟨cs, e1, e2⟩, e3⟩ => ⟨cs, by rw [e3, e1, flat_single], e2⟩
      · rw [sx_toList] at hp
        obtain ⟨cs, rfl, hp2, _⟩ := sort_signs hp hss
        refine ⟨_, ⟨cs, rfl, hp2⟩, ?_⟩
        rw [List.map_map] at hd ⊢
        exact hd
      · rintro ys ⟨cs, rfl, h2⟩
        rw [flat_len, flat_single, h2.length_eq]; omega
    obtain ⟨w, rfl, hw⟩ := p6
    dsimp only
    refine s_set (ed_cat (ed_lst (ea_cons (d := .str (Sx w)) (str_ed (ev_var 6 rfl)) ea_nil) (by show 1 ≤ 100000; decide)) (ed_lc (ei_list (φ := fun l => .str (Sx l)) (ed_var 2 rfl (dp_ex (g5.b.trans g6.b) hfv3))) (fun l => !hP t l) (fun l => .str (Sx l)) (by omega) fun l x B6 hl e6 hx6 => ⟨_, tg_name 7, rfl, ?_, fun _ => ed_var 7 rfl hx6⟩) ?_) g6.s fun fv2 B6 H6 g7 p7 => ?_
    · cases hx6
      refine et_test (ev_is (ev_inSs (neg := true) (ys := (L.filter (hP t)).map Sx) (ev_var 7 rfl) (ed_is (ed_var 5 rfl (dp_ex (g6.b.trans e6) p5)) (congrArg PyData.list sx_maps))) ?_)
      have : (decide (Sx l ∈ (L.filter (hP t)).map Sx)) = hP t l := by
        rw [Bool.eq_iff_iff, decide_eq_true_eq, mem_sx, List.mem_filter]
        exact ⟨fun h => h.2, fun h => ⟨hl, h⟩⟩
      rw [if_pos rfl, this]
    · have := List.length_filter_le (fun l => !hP t l) L
      rw [List.length_map]
      show 1 + _ ≤ _
      omega
    exact ⟨B6, ⟨_, _, _, _, _, w :: L.filter (fun l => !hP t l), rfl, p7, hinv_step hI m1 m2 hw⟩, (g3.tr g4).tr ((g5.tr g6).tr g7)⟩
  · rintro σ' B' H' ⟨⟨fv, x3, x4, x5, x6, L, rfl, hfv, hI⟩, g3⟩
    have h1 := hinv_one hI O.nd O.pos hconn
    dsimp only
    refine s_ret ((ep_sortL (ed_is (ed_var 2 rfl hfv) (congrArg PyData.list sx_maps)) (by rw [List.length_map]; omega)).imp fun v B5 _ ⟨ys, hp, _, hd⟩ => ?_) g3.s fun v B5 H5 g5 p5 => q v B5 H5 ((g1.tr g2).tr (g3.tr g5)) p5
    have hl : ys.length = 1 := by rw [hp.length_eq, List.length_map, h1]
    obtain ⟨y, rfl⟩ := List.length_eq_one_iff.mp hl
    exact ⟨y, hd⟩
end
end Kx

/-! Ka5 -/
namespace Kx
open PySem PySem.Spec PyProof.Rows L2
section
variable {P : Program} {w : World} {K : PySem.W.Frag} {mg : Str → Option Value} {base : Heap} {C : Addr}
structure Wc (C : Addr) (B : Hp) (v : V) (pl : List Nat) (ts : List (Nat × Nat)) : Prop where
  wb : Wb C B v pl ts
  cn : Conn pl ts
theorem stb_wc {C : Addr} {pl : List Nat} {ts : List (Nat × Nat)} : Stb fun v B => Wc C B v pl ts := fun _ _ _ e h => ⟨stb_wb _ _ _ e h.wb, h.cn⟩
theorem Wc.wa {B : Hp} {v : V} {pl : List Nat} {ts : List (Nat × Nat)} (h : Wc C B v pl ts) : WebAt C B v pl ts := h.wb.wa
theorem Wc.mono {B B' : Hp} {v : V} {pl : List Nat} {ts : List (Nat × Nat)} (h : Wc C B v pl ts) (e : Evl.Ex B B') : Wc C B' v pl ts := stb_wc _ _ _ e h
theorem Wc.op {B : Hp} {v : V} {pl : List Nat} {ts : List (Nat × Nat)} (h : Wc C B v pl ts) : OkPl pl := h.wb.op
theorem Wc.ot {B : Hp} {v : V} {pl : List Nat} {ts : List (Nat × Nat)} (h : Wc C B v pl ts) : OkTs pl ts := h.wb.ot

def spIsOne (C : Addr) : PrT := fun vs B R => ∃ pl ts v, vs = [v] ∧ Wc C B v pl ts ∧ R = fun u _ => u = .bl true
abbrev n31 : List Str := ["web"]
theorem sc_is_one : FnScope n31 ["web"] (C8.fnScope (topS 31)) := C8.fnScope_by (by decide +kernel)
theorem ok_is_one (T : Tx K mg C) : C8.Cal P w K mg base 2 "is_one" (Pr (spIsOne C)) [] := by
  refine mk_cal T.is_one sc_is_one (by rintro vs B R ⟨pl, ts, v, rfl, _⟩; rfl) fun f cdv A outer s H vs Q E B R hr e h q => ?_
  obtain ⟨pl, ts, v, rfl, W, rfl⟩ := h
  refine ⟨_, pss_one (ps_ret (pe_cmpR op_eq (pe_callB call_len_seq (by rfl) T.b_len boot_len (pa_cons (C8.pe_c (ok_herds_of T) hr (by decide) (by rfl) (pa_cons (pe_fld (pv 0) (by rfl)) (pa_cons (pe_fld (pv 0) (by rfl)) pa_nil))) pa_nil)) pe_int (nomark _))), ?_⟩
  refine s_ret (ev_is (ev_eq (x := .int 1) (y := .int 1) (ep_cb (P := fun v _ => v = .int 1) (eap_cons (P := fun u B' => ∃ y : Str, Dq B' u (.list [.str y])) (ep_call2 (ev_places T.web (ep_var 0 rfl W.wa stb_web)) (stb_eq _) (ed_ties T.web (ep_var 0 rfl W.wa stb_web)) fun x y B' _ e1 e2 => ⟨pl, ts, y, by rw [e1], e2, W.op, W.ot, W.cn, rfl⟩) (fun _ _ _ e ⟨y, h⟩ => ⟨y, dp_ex e h⟩) eap_nil) ?_) ev_c rfl) (by rfl)) e fun v B' H' g p => q v B' H' g p
  rintro vs B1 H1 a b ⟨u, ws, rfl, ⟨y, hd⟩, rfl⟩ Q k
  obtain ⟨c, xs, rfl, hs, hd⟩ := dp_lst hd
  refine ⟨c, xs, rfl, .inl (SqL.of (b _ _ hs)), ?_⟩
  exact k _ B1 H1 (Gr.refl b) (by rw [dpa_len hd]; rfl)

def spChd (C : Addr) : PrT := fun vs B R => ∃ pl ts v, vs = [v] ∧ Wc C B v pl ts ∧ R = fun u _ => u = .non
abbrev n34 : List Str := ["web", "tie"]
theorem sc_check_heaped : FnScope n34 ["web"] (C8.fnScope (topS 34)) := C8.fnScope_by (by decide +kernel)
theorem ev_tieIx {σ : L2.St} {B : Hp} {te : TE} {t : Nat × Nat} (h : Kx.Ed te σ B (tieD t)) : Kx.Ev (tOp rIxS te (tC (.int 0))) σ B (.str (sg t.1)) ∧ Kx.Ev (tOp rIxS te (tC (.int 1))) σ B (.str (sg t.2)) :=
  ⟨ev_ixS (ed_str h) ev_c (by rw [sx_len]; simp) (by rw [sx_toList]; rfl), ev_ixS (ed_str h) ev_c (by rw [sx_len]; simp) (by rw [sx_toList]; rfl)⟩
theorem any_false {bs : List Bool} (h : ∀ b ∈ bs, b = false) : bs.any id = false := by
  rw [List.any_eq_false]; intro b hb; rw [h b hb]; decide
theorem ok_check_heaped (T : Tx K mg C) : C8.Cal P w K mg base 3 "check_heaped" (Pr (spChd C)) [] := by
  refine mk_cal T.check_heaped sc_check_heaped (by rintro vs B R ⟨pl, ts, v, rfl, _⟩; rfl) fun f cdv A outer s H vs Q E B R hr e h q => ?_
  obtain ⟨pl, ts, v, rfl, W, rfl⟩ := h
  have nd := sc_check_heaped.nd
  have few := W.ot.few
  refine ⟨_, pss_cons (ps_if (pt_not (pt_val (C8.pe_c (ok_is_one T) hr (by decide) (by rfl) (pa_cons (pv 0) pa_nil)))) pss_never pss_nil)
    (pss_one (ps_if (pt_val (pe_callB (cr_any rfl) (by rfl) T.b_any PyProof.Rows.boot_any (pa_cons (pe_lc (own := [("tie", 1)]) (g := gName 1) rfl nd (pi_tup (pe_fld (pv 0) (by rfl))) (blkOk_by (own := [("tie", 1)]) (N := n34) (sc := C8.fnScope (topS 34)) (by decide +kernel)) (fun _ _ _ _ _ => pg_name (i := 1) nd rfl (Or.inl rfl)) (fun _ _ _ _ _ => pts_nil) (fun _ _ _ _ _ => pe_cmpR op_eq (pe_ix ix_str (pv 1) pe_int (fun _ _ => rfl)) (pe_ix ix_str (pv 1) pe_int (fun _ _ => rfl)) (nomark _))) pa_nil))) pss_never pss_nil)), ?_⟩
  refine s_if (b := false) (et_not (a := true) (et_B (ep_call1 (ep_var 0 rfl W stb_wc) fun x B' _ e1 => ⟨pl, ts, x, rfl, e1, rfl⟩))) e (fun z => nomatch z) fun _ B1 H1 g1 => ?_
  refine s_if (b := false) (et_B (ev_is (ev_anyL (bs := ts.map fun t => decide (V.str (sg t.1) = V.str (sg t.2))) (ed_is (ed_lc (ei_tup (φ := tieD) (ed_ties T.web (ep_var 0 rfl (W.mono g1.b).wa stb_web))) (fun _ => true) (fun t => .bool (decide (V.str (sg t.1) = V.str (sg t.2)))) (by omega) fun t x B2 ht _ hx => ⟨_, tg_name 1, rfl, et_yes, fun _ => ?_⟩) ?_)) ?_)) g1.s (fun z => nomatch z) fun _ B2 H2 g2 => ?_
  · have k := ev_tieIx (te := tVar 1) (σ := [some v, some x]) (ed_var 1 rfl hx)
    exact bl_ed (ev_eq k.1 k.2 rfl)
  · rw [filter_id_len _ _ (fun _ _ => rfl), List.map_map]; rfl
  · rw [any_false]
    intro b hb
    obtain ⟨t, ht, rfl⟩ := List.mem_map.mp hb
    have := (W.ot.mem t ht).2.2
    simp only [decide_eq_false_iff_not]
    intro z
    have := sg_inj (V.str.inj z)
    omega
  exact q .non B2 H2 (g1.tr g2) rfl

def spBtw (C : Addr) : PrT := fun vs B R => ∃ pl ts v a b, vs = [v, .str (sg a), .str (sg b)] ∧ Wb C B v pl ts ∧ R = fun u _ => u = .int ((btw ts a b : Nat) : Int)
abbrev n35 : List Str := ["web", "one", "other", "tie"]
theorem sc_between : FnScope n35 ["web", "one", "other"] (C8.fnScope (topS 35)) := C8.fnScope_by (by decide +kernel)
theorem ok_between (T : Tx K mg C) : C8.Cal P w K mg base 1 "between" (Pr (spBtw C)) [] := by
  refine mk_cal T.between sc_between (by rintro vs B R ⟨pl, ts, v, a, b, rfl, _⟩; rfl) fun f cdv A outer s H vs Q E B R hr e h q => ?_
  obtain ⟨pl, ts, v, a, b, rfl, W, rfl⟩ := h
  have nd := sc_between.nd
  have few := W.ot.few
  refine ⟨_, pss_one (ps_ret (pe_callB call_len_seq (by rfl) T.b_len boot_len (pa_cons (pe_lc (own := [("tie", 3)]) (g := gName 3) rfl nd (pi_tup (pe_fld (pv 0) (by rfl))) (blkOk_by (own := [("tie", 3)]) (N := n35) (sc := C8.fnScope (topS 35)) (by decide +kernel)) (fun _ _ _ _ _ => pg_name (i := 3) nd rfl (Or.inl rfl)) (fun _ _ _ _ _ => pts_one (PW.pt (pw_and (pt_cmpR op_in_sign (pv 1) (pv 3) (by rfl)) (pw_and1 (pt_cmpR op_in_sign (pv 2) (pv 3) (by rfl)))))) (fun _ _ _ _ _ => pv 3)) pa_nil))), ?_⟩
  refine s_ret (ev_is (ev_lenL (ed_lc (ei_tup (φ := tieD) (ed_ties T.web (ep_var 0 rfl W.wa stb_web))) (fun t => hit t a && hit t b) tieD (by omega) fun t x B2 ht _ hx => ⟨_, tg_name 3, rfl, ?_, fun _ => ed_var 3 rfl hx⟩)) (by rw [List.length_map]; rfl)) e fun v B' H' g p => q v B' H' g p
  cases hx
  exact et_is (et_and (et_test (ev_inSign (c := a) (ev_var 1 rfl) (ev_var 3 rfl))) fun _ => et_test (ev_inSign (c := b) (ev_var 2 rfl) (ev_var 3 rfl))) (by rw [mem_tie, mem_tie])

def spDeg (C : Addr) : PrT := fun vs B R => ∃ pl ts v a, vs = [v, .str (sg a)] ∧ Wb C B v pl ts ∧ R = fun u _ => u = .int ((deg ts a : Nat) : Int)
abbrev n36 : List Str := ["web", "place", "tie"]
theorem sc_ties_at : FnScope n36 ["web", "place"] (C8.fnScope (topS 36)) := C8.fnScope_by (by decide +kernel)
theorem ok_ties_at (T : Tx K mg C) : C8.Cal P w K mg base 1 "ties_at" (Pr (spDeg C)) [] := by
  refine mk_cal T.ties_at sc_ties_at (by rintro vs B R ⟨pl, ts, v, a, rfl, _⟩; rfl) fun f cdv A outer s H vs Q E B R hr e h q => ?_
  obtain ⟨pl, ts, v, a, rfl, W, rfl⟩ := h
  have nd := sc_ties_at.nd
  have few := W.ot.few
  refine ⟨_, pss_one (ps_ret (pe_callB call_len_seq (by rfl) T.b_len boot_len (pa_cons (pe_lc (own := [("tie", 2)]) (g := gName 2) rfl nd (pi_tup (pe_fld (pv 0) (by rfl))) (blkOk_by (own := [("tie", 2)]) (N := n36) (sc := C8.fnScope (topS 36)) (by decide +kernel)) (fun _ _ _ _ _ => pg_name (i := 2) nd rfl (Or.inl rfl)) (fun _ _ _ _ _ => pts_one (pt_cmpR op_in_sign (pv 1) (pv 2) (by rfl))) (fun _ _ _ _ _ => pv 2)) pa_nil))), ?_⟩
  refine s_ret (ev_is (ev_lenL (ed_lc (ei_tup (φ := tieD) (ed_ties T.web (ep_var 0 rfl W.wa stb_web))) (fun t => hit t a) tieD (by omega) fun t x B2 ht _ hx => ⟨_, tg_name 2, rfl, ?_, fun _ => ed_var 2 rfl hx⟩)) (by rw [List.length_map]; rfl)) e fun v B' H' g p => q v B' H' g p
  cases hx
  exact et_is (et_test (ev_inSign (c := a) (ev_var 1 rfl) (ev_var 2 rfl))) (by rw [mem_tie])
end
end Kx

/-! KxMut -/
namespace Kx
open PySem PySem.Spec PyProof.Rows L2
/-- evaluates to a new list, which stays unknown (it will be changed) -/
def EpM (te : TE) (σ : L2.St) (B : Hp) (ds : List PyData) : Prop := ∀ B1 H1, Evl.Ex B B1 → Sub B1 H1 → ∀ Q : VK, (∀ l xs B2 H2, Gr B1 H1 B2 H2 → H1 l = none → B2 l = none → H2 l = some (.lst xs) → DqAll B2 xs ds → Q (.ref l) H2) → te σ H1 Q
section
variable {K : PySem.W.Frag} {σ : L2.St} {B B' H H' : Hp} {ta tb tc te tx tl : TE} {t u : TT} {x y z v : V} {P P' R : V → Hp → Prop} {d e : PyData} {α β : Type}
theorem Gr.newM {p : Addr} {o : HO} (e : Sub B H) (hp : H p = none) : Gr B H B (upd H p o) := Gr.more e (Evl.Ex.new hp)
theorem em_lst {ta : TA} {ds : List PyData} (h : EdA ta σ B ds) (hl : ds.length ≤ 100000) : EpM (tLst ta) σ B ds := fun B1 H1 a b Q q =>
  h B1 H1 a b _ fun vs B2 H2 g p => ⟨by rw [dpa_len p]; exact Evl.sz_of hl, fun c hc => q c vs B2 _ (g.tr (Gr.newM g.s hc)) (Evl.fresh_back g.h hc) (sub_back g.s hc) upd_same p⟩
theorem em_listL {ds : List PyData} (h : Ed te σ B (.list ds)) : EpM (tCB (rListOf K) (tCons te tNil)) σ B ds := fun B0 H0 a0 b0 Q q =>
  (ea_cons h ea_nil) B0 H0 a0 b0 _ fun vs B1 H1 g p => by
    obtain ⟨v, rfl, h⟩ := dpa_one p
    obtain ⟨c, xs, rfl, hs, hd⟩ := dp_lst h
    exact ⟨c, xs, rfl, .inl (SqL.of (g.s _ _ hs)), fun l hl => q l xs B1 _ (g.tr (Gr.newM g.s hl)) (Evl.fresh_back g.h hl) (sub_back g.s hl) upd_same hd⟩
theorem em_listT {x : Str} (h : Ev te σ B (.str x)) (hz : x.length ≤ 100000) : EpM (tCB rListT (tCons te tNil)) σ B (x.cps.toList.map fun c => .str (sg c)) := fun B0 H0 a0 b0 Q q =>
  (eap_cons h (stb_eq _) eap_nil) B0 H0 a0 b0 _ fun vs B1 H1 g ⟨v, ws, e1, e2, e3⟩ => by
    subst e1; subst e2; subst e3
    refine ⟨x, rfl, hz, fun l hl => q l (sgs x) B1 _ (g.tr (Gr.newM g.s hl)) (Evl.fresh_back g.h hl) (sub_back g.s hl) upd_same ?_⟩
    unfold sgs
    have e1 : (x.cps.toList.map fun c => V.str ⟨#[c]⟩) = (x.cps.toList.map sg).map V.str := by rw [List.map_map]; rfl
    have e2 : (x.cps.toList.map fun c => PyData.str (sg c)) = (x.cps.toList.map sg).map PyData.str := by rw [List.map_map]; rfl
    rw [e1, e2]
    exact strs_dpa _
theorem em_rep {ds : List PyData} {n : Int} (ha : Ed ta σ B (.list ds)) (hb : Ev tb σ B (.int n)) (h1 : -1000000 ≤ n) (h2 : n ≤ 1000000) (hz : ds.length * n.toNat ≤ 100000) : EpM (tOp rRep ta tb) σ B (List.replicate n.toNat ds).flatten := fun B0 H0 a0 b0 Q k =>
  ha B0 H0 a0 b0 _ fun x B2 H2 g2 p => hb B2 H2 (a0.trans g2.b) g2.s _ fun y B3 H3 g3 q => by
    obtain ⟨c, xs, rfl, hs, hd⟩ := dp_lst p
    subst q
    have l1 := dpa_len hd
    refine ⟨c, n, xs, rfl, rfl, g3.h _ _ (g2.s _ _ hs), by omega, by omega, by rw [l1]; exact Evl.sz_of hz, fun p hp => ?_⟩
    refine k p _ B3 _ ((g2.tr g3).tr (Gr.newM g3.s hp)) (Evl.fresh_back (g2.tr g3).h hp) (sub_back g3.s hp) upd_same (dpa_ex g3.b ?_)
    generalize n.toNat = m
    induction m with
    | zero => exact .nil
    | succ m ih => rw [List.replicate_succ, List.replicate_succ, List.flatten_cons, List.flatten_cons]; exact dpa_app hd ih
theorem em_lc {xs : List α} {Iy : α → V → Hp → Prop} {wi : TI} {g : TG} {tt : TT} {vs : List Nat} (hi : EpI wi σ B xs Iy) (p : α → Bool) (r : α → PyData) (hn : xs.length ≤ 90000)
    (turn : ∀ a x B1, a ∈ xs → Evl.Ex B B1 → Iy a x B1 → ∃ σ2, (∀ H1 (Q : L2.St → Hp → Prop), Sub B1 H1 → Q σ2 H1 → g x (wipe σ vs) H1 Q) ∧ wipe σ2 vs = wipe σ vs ∧ EpT tt σ2 B1 (p a) ∧ (p a = true → Ed te σ2 B1 (r a))) :
    EpM (tLc wi g tt te vs) σ B ((xs.filter p).map r) := fun B1 H1 a b Q q =>
  hi B1 H1 a b _ fun J B2 H2 g2 wk D hD => by
    refine ⟨fun i m H => m = xs.length - i ∧ i ≤ xs.length ∧ ∃ B3 acc, Gr B2 H2 B3 H ∧ B3 D = none ∧ H D = some (.lst acc) ∧ DqAll B3 acc (((xs.take i).filter p).map r), ⟨xs.length, by simp, Nat.zero_le _, B2, [], Gr.more g2.s (Evl.Ex.new hD), sub_back g2.s hD, upd_same, .nil⟩, ?_⟩
    rintro i m H ⟨rfl, hil, B3, acc, g3, hB3, hDH, hacc⟩
    by_cases hlt : i < xs.length
    · refine .inr ⟨wk.goes i H hlt (g3.b.su g3.s), fun H => i + 1 ≤ xs.length ∧ ∃ B3 acc, Gr B2 H2 B3 H ∧ B3 D = none ∧ H D = some (.lst acc) ∧ DqAll B3 acc (((xs.take (i + 1)).filter p).map r), fun H' p' => ⟨xs.length - (i + 1), by omega, rfl, p'⟩, fun x H' y => ?_⟩
      have hxi : xs[i]? = some xs[i] := List.getElem?_eq_getElem hlt
      obtain ⟨B4, g4, hI⟩ := wk.yields i xs[i] B3 H x H' hxi g3.b g3.s y
      obtain ⟨hB4, hD4⟩ := g4.off hB3 hDH
      obtain ⟨σ2, k1, k2, k3, k4⟩ := turn xs[i] x B4 (List.getElem_mem hlt) (a.trans (g2.b.trans (g3.b.trans g4.b))) hI
      refine k1 H' _ g4.s ⟨k2, k3 B4 H' (Evl.Ex.refl _) g4.s _ fun B5 H5 g5 => ?_⟩
      obtain ⟨hB5, hD5⟩ := g5.off hB4 hD4
      have etake : (xs.take (i + 1)).filter p = (xs.take i).filter p ++ (if p xs[i] = true then [xs[i]] else []) := by
        rw [List.take_add_one, hxi, List.filter_append]
        congr 1
        show List.filter p [xs[i]] = _
        by_cases hp : p xs[i] = true
        · rw [if_pos hp, List.filter_cons_of_pos hp]; rfl
        · rw [if_neg hp, List.filter_cons_of_neg hp]; rfl
      by_cases hp : p xs[i] = true
      · rw [if_pos hp]
        refine k4 hp B5 H5 g5.b g5.s _ fun v B6 H6 g6 hv => ?_
        obtain ⟨hB6, hD6⟩ := g6.off hB5 hD5
        have hlen : acc.length ≤ xs.length := by
          rw [dpa_len hacc, List.length_map]
          refine Nat.le_trans (List.length_filter_le _ _) ?_
          rw [List.length_take]; omega
        have g36 : Gr B2 H2 B6 H6 := ((g3.tr g4).tr g5).tr g6
        refine ⟨acc, hD6, Evl.sz_lt (by omega), hlt, B6, _, g36.mut hD hB6, hB6, upd_same, ?_⟩
        rw [etake, if_pos hp, List.map_append]
        exact dpa_app (dpa_ex ((g4.b.trans g5.b).trans g6.b) hacc) (.cons hv .nil)
      · rw [if_neg hp]
        refine ⟨hlt, B5, acc, (g3.tr g4).tr g5, hB5, hD5, ?_⟩
        rw [etake, if_neg hp, List.append_nil]
        exact dpa_ex (g4.b.trans g5.b) hacc
    · have e : i = xs.length := by omega
      subst e
      refine .inl ⟨wk.stops H (g3.b.su g3.s), ?_⟩
      rw [List.take_length] at hacc
      have hD1 : H1 D = none := Evl.fresh_back g2.h hD
      exact q D acc B3 H (g2.tr g3) hD1 hB3 hDH hacc
variable {D : Ends}
theorem s_setM {ds : List PyData} {i : Nat} (h : EpM te σ B ds) (e : Sub B H) (k : ∀ l xs B' H', Gr B H B' H' → H l = none → B' l = none → H' l = some (.lst xs) → DqAll B' xs ds → D.nx (σ.set i (some (.ref l))) H') : tAsg te (gName i) D σ H := h B H (Evl.Ex.refl _) e _ k
/-- a, b, c = new list, value, value -/
theorem s_asg3M {ds : List PyData} {i j n : Nat} (h : EpM te σ B ds) (h2 : Ev tb σ B x) (h3 : Ev tc σ B y) (e : Sub B H) (k : ∀ l xs B' H', Gr B H B' H' → H l = none → B' l = none → H' l = some (.lst xs) → DqAll B' xs ds → D.nx (((σ.set i (some (.ref l))).set j (some x)).set n (some y)) H') :
    tAsg (tTup (tCons te (tCons tb (tCons tc tNil)))) (gTup K 3 (gCons (gName i) (gCons (gName j) (gCons (gName n) gNil)))) D σ H :=
  h B H (Evl.Ex.refl _) e _ fun l xs B1 H1 g1 h0 hb1 hl1 hd1 => h2 B1 H1 g1.b g1.s _ fun v2 B2 H2 g2 p2 => h3 B2 H2 (g1.b.trans g2.b) g2.s _ fun v3 B3 H3 g3 p3 => by
    subst p2; subst p3
    obtain ⟨hb3, hl3⟩ := (g2.tr g3).off hb1 hl1
    refine ⟨Evl.sz_of (show 3 ≤ 100000 by decide), fun c hc => ?_⟩
    have g4 := Gr.newM (o := .tup [.ref l, v2, v3]) g3.s hc
    obtain ⟨hb4, hl4⟩ := g4.off hb3 hl3
    exact ⟨c, _, rfl, SqT.of upd_same, rfl, _, _, rfl, _, _, rfl, _, _, rfl, rfl, k l xs B3 _ (((g1.tr g2).tr g3).tr g4) h0 hb4 hl4 (dpa_ex (g2.b.trans g3.b) hd1)⟩
/-- a list that was changed is made known again -/
theorem Gr.fin {B H B' H' : Hp} {l : Addr} {xs : List V} {ds : List PyData} (g : Gr B H B' H') (h0 : H l = none) (hb : B' l = none) (hl : H' l = some (.lst xs)) (hd : DqAll B' xs ds) : ∃ B2, Gr B H B2 H' ∧ Dq B2 (.ref l) (.list ds) ∧ Evl.Ex B' B2 :=
  ⟨_, g.pub h0 hl hb, .lst upd_same (dpa_ex (Evl.Ex.new hb) hd), Evl.Ex.new hb⟩
/-! ### watched cells -/
def del (B : Hp) (l : Addr) : Hp := fun a => if a = l then none else B a
theorem del_same {B : Hp} {l : Addr} : del B l l = none := if_pos rfl
theorem del_ne {B : Hp} {l a : Addr} (h : a ≠ l) : del B l a = B a := if_neg h
mutual
theorem dq_del {B : Hp} {l : Addr} {u : HO} (hw : B l = some (wat u)) {v : V} : ∀ {d : PyData}, Dq B v d → Dq (del B l) v d
  | _, .non => .non
  | _, .bl b => .bl b
  | _, .int i => .int i
  | _, .str x => .str x
  | _, .lst hs ha => .lst (by rw [del_ne (fun z => by rw [z, hw] at hs; cases hs)]; exact hs) (dqa_del hw ha)
  | _, .tup hs ha => .tup (by rw [del_ne (fun z => by rw [z, hw] at hs; cases hs)]; exact hs) (dqa_del hw ha)
theorem dqa_del {B : Hp} {l : Addr} {u : HO} (hw : B l = some (wat u)) : ∀ {vs : List V} {ds : List PyData}, DqAll B vs ds → DqAll (del B l) vs ds
  | _, _, .nil => .nil
  | _, _, .cons h t => .cons (dq_del hw h) (dqa_del hw t)
end
theorem sub_wat {l : Addr} {u : HO} (e : Sub B H) (hl : H l = some u) : Sub (upd B l (wat u)) H := fun a o q => by
  by_cases z : a = l
  · subst z; rw [upd_same] at q; cases q; exact hl
  · rw [upd_ne z] at q; exact e a o q
theorem Gr.unw {l : Addr} {u : HO} (g : Gr (upd B l (wat u)) H B' H') (hb : B l = none) : Gr B H (del B' l) H' ∧ H' l = some u ∧ B' l = some (wat u) := by
  have h1 : B' l = some (wat u) := g.b l _ upd_same
  refine ⟨⟨fun a o q => ?_, g.h, fun a o q => ?_, fun a q1 q2 => ?_⟩, g.s l _ h1, h1⟩
  · have z : a ≠ l := fun z => by rw [z, hb] at q; cases q
    rw [del_ne z]
    exact g.b a o (by rw [upd_ne z]; exact q)
  · by_cases z : a = l
    · rw [z, del_same] at q; cases q
    · rw [del_ne z] at q; exact g.s a o q
  · by_cases z : a = l
    · rw [z, del_same]
    · rw [del_ne z]; exact g.n a (by rw [upd_ne z]; exact q1) q2
theorem ed_ixW {l : Addr} {xs : List V} {ds : List PyData} {i : Int} (hw : B l = some (wat (.lst xs))) (hd : DqAll B xs ds) (ha : Ev ta σ B (.ref l)) (hb : Ev tb σ B (.int i)) (hi : atI ds i = some d) : Ed (tOp (rIxL K) ta tb) σ B d :=
  ep_op ha hb (stb_eq _) fun x y B' e p q => by
    subst p; subst q
    obtain ⟨v, h1, h2⟩ := dpa_atI hd hi
    exact fun B1 H1 a1 b1 Q k => ⟨l, xs, i, v, rfl, rfl, SqL.of (b1 _ _ (a1 _ _ (e _ _ hw))), h1, k v B1 H1 (Gr.refl b1) (dp_ex (e.trans a1) h2)⟩
theorem ev_lenW {l : Addr} {xs : List V} (hw : B l = some (wat (.lst xs))) (h : Ev te σ B (.ref l)) : Ev (tCB (rLenS K) (tCons te tNil)) σ B (.int (xs.length : Int)) :=
  ep_cb (eap_cons h (stb_eq _) eap_nil) fun vs B1 H1 a b ⟨v, ws, e1, e2, e3⟩ Q q => by
    subst e1; subst e2; subst e3
    exact ⟨l, xs, rfl, .inl (SqL.of (b _ _ (a _ _ hw))), q _ B1 H1 (Gr.refl b) rfl⟩
theorem upd_twice {H : Hp} {l : Addr} {a b : HO} : upd (upd H l a) l b = upd H l b := by
  funext x
  by_cases z : x = l
  · subst z; rw [upd_same, upd_same]
  · rw [upd_ne z, upd_ne z, upd_ne z]
/-- xs[k], xs[k] = two, alike -/
theorem s_swap {l : Addr} {xs : List V} {k i a b : Nat} (h : EdA (tCons ta (tCons tb tNil)) σ (upd B l (wat (.lst xs))) [d, d]) (e : Sub B H) (hl : H l = some (.lst xs)) (hb : B l = none) (h1 : σ[i]? = some (some (.ref l))) (h2 : σ[a]? = some (some (.int (k : Int)))) (h3 : σ[b]? = some (some (.int (k : Int)))) (hk : k < xs.length)
    (kk : ∀ v1 v2 B' H', Gr B H B' H' → B' l = none → H' l = some (.lst xs) → Dq B' v1 d → Dq B' v2 d → D.nx σ (upd H' l (.lst ((xs.set k v1).set k v2)))) :
    tAsg (tTup (tCons ta (tCons tb tNil))) (gTup K 2 (gCons (gSub (tVar i) (tVar a) rSetL) (gCons (gSub (tVar i) (tVar b) rSetL) gNil))) D σ H := by
    unfold tAsg tTup
    refine h _ H (Evl.Ex.refl _) (sub_wat e hl) _ fun vs B1 H1 g1 p1 => ?_
    obtain ⟨v1, v2, rfl, d1, d2⟩ := dpa_two p1
    refine ⟨Evl.sz_of (show 2 ≤ 100000 by decide), fun c hc => ?_⟩
    obtain ⟨g2, hl2, hw⟩ := g1.unw hb
    have g3 := g2.tr (Gr.newM (o := .tup [v1, v2]) g2.s hc)
    have hc2 : l ≠ c := fun z => by rw [z, hc] at hl2; cases hl2
    have hl3 : upd H1 c (.tup [v1, v2]) l = some (.lst xs) := by rw [upd_ne hc2]; exact hl2
    refine ⟨c, _, rfl, SqT.of upd_same, rfl, _, _, rfl, ⟨_, h1, _, h2, l, xs, (k : Int), k, rfl, rfl, hl3, Evl.ixN_nat hk, _, _, rfl, _, h1, _, h3, l, _, (k : Int), k, rfl, rfl, upd_same, Evl.ixN_nat (by rw [List.length_set]; exact hk), rfl, ?_⟩⟩
    rw [upd_twice]
    exact kk v1 v2 _ _ g3 del_same hl3 (dq_del hw d1) (dq_del hw d2)
/-- xs[j] = e, where e may read xs -/
theorem s_setW {l : Addr} {xs : List V} {j a b : Nat} (h : Ed te σ (upd B l (wat (.lst xs))) d) (h1 : σ[a]? = some (some (.ref l))) (h2 : σ[b]? = some (some (.int (j : Int)))) (e : Sub B H) (hl : H l = some (.lst xs)) (hb : B l = none) (hj : j < xs.length)
    (k : ∀ v B' H', Gr B H B' H' → Dq B' v d → B' l = none → H' l = some (.lst xs) → D.nx σ (upd H' l (.lst (xs.set j v)))) : tAsg te (gSub (tVar a) (tVar b) rSetL) D σ H :=
  h _ H (Evl.Ex.refl _) (sub_wat e hl) _ fun v B1 H1 g1 p1 => by
    obtain ⟨g2, hl2, hw⟩ := g1.unw hb
    exact ⟨_, h1, _, h2, l, xs, (j : Int), j, rfl, rfl, hl2, Evl.ixN_nat hj, k v _ _ g2 (dq_del hw p1) del_same hl2⟩
/-- name = e, where e reads a list that is changed later -/
theorem s_setD {l : Addr} {u : HO} {i : Nat} (h : Ed te σ (upd B l (wat u)) d) (e : Sub B H) (hl : H l = some u) (hb : B l = none)
    (k : ∀ v B' H', Gr B H B' H' → Dq B' v d → B' l = none → H' l = some u → D.nx (σ.set i (some v)) H') : tAsg te (gName i) D σ H :=
  h _ H (Evl.Ex.refl _) (sub_wat e hl) _ fun v B1 H1 g1 p1 => by
    obtain ⟨g2, hl2, hw⟩ := g1.unw hb
    exact k v _ _ g2 (dq_del hw p1) del_same hl2
theorem dpa_one' {v : V} {d : PyData} (h : Dq B v d) : DqAll B [v] [d] := .cons h .nil
end
end Kx

/-! Ka6 -/
namespace Kx
open PySem PySem.Spec PyProof.Rows L2
section
variable {P : Program} {w : World} {K : PySem.W.Frag} {mg : Str → Option Value} {base : Heap} {C : Addr}
theorem sg_eq (a b : Nat) : decide (V.str (sg a) = V.str (sg b)) = decide (a = b) := by
  rw [Bool.eq_iff_iff, decide_eq_true_eq, decide_eq_true_eq]
  exact ⟨fun h => sg_inj (V.str.inj h), fun h => by rw [h]⟩
abbrev grD (pl : List Nat) (ts : List (Nat × Nat)) : PyData := .list (pl.map fun p => .list (pl.map fun o => .int (gr ts p o)))

def spGift (C : Addr) : PrT := fun vs B R => ∃ pl ts v, vs = [v] ∧ Wb C B v pl ts ∧ R = fun u B' => Dq B' u (grD pl ts)
abbrev n37 : List Str := ["web", "found", "place", "other"]
theorem sc_gift_rows : FnScope n37 ["web"] (C8.fnScope (topS 37)) := C8.fnScope_by (by decide +kernel)
theorem ok_gift_rows (T : Tx K mg C) : C8.Cal P w K mg base 2 "gift_rows" (Pr (spGift C)) [] := by
  refine mk_cal T.gift_rows sc_gift_rows (by rintro vs B R ⟨pl, ts, v, rfl, _⟩; rfl) fun f cdv A outer s H vs Q E B R hr e h q => ?_
  obtain ⟨pl, ts, v, rfl, W, rfl⟩ := h
  have nd := sc_gift_rows.nd
  have few := W.op.few
  refine ⟨_, pss_cons (ps_set (i := 1) nd rfl (.inl rfl) (pe_lst pa_nil))
    (pss_cons (ps_for PassesOwn.never rfl (pi_str (pe_fld (pv 0) (by rfl))) (pg_name (i := 2) nd rfl (.inr rfl))
      (pss_one (ps_expr (pe_bm PySem.F.plainAttrs_list PySem.F.slot_list_append PySem.F.type_list_append mt_append (pv 1) (pa_cons (pe_lc (own := [("other", 3)]) (g := gName 3) rfl nd (pi_str (pe_fld (pv 0) (by rfl))) (blkOk_by (own := [("other", 3)]) (N := n37) (sc := C8.fnScope (topS 37)) (by decide +kernel)) (fun _ _ _ _ _ => pg_name (i := 3) nd rfl (Or.inl rfl)) (fun _ _ _ _ _ => pts_nil)
        (fun _ _ _ _ _ => pe_ifExp (pt_cmpR op_eq (pv 3) (pv 2) (nomark _)) (pe_un un_neg (C8.pe_c (ok_ties_at T) hr (by decide) (by rfl) (pa_cons (pv 0) (pa_cons (pv 2) pa_nil)))) (C8.pe_c (ok_between T) hr (by decide) (by rfl) (pa_cons (pv 0) (pa_cons (pv 2) (pa_cons (pv 3) pa_nil)))))) pa_nil)))))
    (pss_one (ps_ret (pv 1)))), ?_⟩
  refine s_setM (em_lst ea_nil (by decide)) e fun l xs0 B1 H1 g1 h0 hb1 hl1 hd1 => ?_
  refine s_for (ei_str (ev_places T.web (ep_var 0 rfl (W.wa.mono g1.b) stb_web))) g1.s fun B2 H2 g2 => ⟨fun pre σ' B' H' => (∃ x, σ' = [some v, some (.ref l), x, none]) ∧ Gr B H B' H' ∧ Evl.Ex B2 B' ∧ B' l = none ∧ ∃ xs, H' l = some (.lst xs) ∧ DqAll B' xs (pre.map fun p => .list (pl.map fun o => .int (gr ts p o))), ⟨⟨none, rfl⟩, g1.tr g2, Evl.Ex.refl _, (g2.off hb1 hl1).1, xs0, (g2.off hb1 hl1).2, dpa_ex g2.b hd1⟩, fun _ _ _ _ h => ⟨h.2.2.1, h.2.1.s⟩, ?_, ?_⟩
  · rintro pre c post hx σ' B' H' ⟨⟨x, rfl⟩, g3, ex, hb, xs, hl, hd⟩ z B3 H3 g4 hz
    subst hz
    rw [sx_toList] at hx
    have hlen : xs.length ≤ pl.length := by rw [dpa_len hd, List.length_map, hx, List.length_append]; omega
    obtain ⟨hb3, hl3⟩ := g4.off hb hl
    refine s_app (ev_var 1 rfl) (ed_lc (ei_str (ev_places T.web (ep_var 0 rfl (W.wa.mono (g3.tr g4).b) stb_web))) (fun _ => true) (fun o => .int (gr ts c o)) (by rw [sx_toList]; omega) fun o x B4 ho e4 hx4 => ⟨_, tg_name 3, rfl, et_yes, fun _ => ?_⟩) g4.s hl3 hb3 (by omega) fun u B5 H5 g5 p5 hb5 hl5 => ?_
    · subst hx4
      have W4 := (stb_wb _ _ _ ((g3.tr g4).b.trans e4) W)
      refine int_ed (ep_if (b := decide (o = c)) (et_test (ev_is (ev_eq (ev_var 3 rfl) (ev_var 2 rfl) rfl) (by rw [sg_eq]))) (fun hoc => ev_is (ev_un (i := ((deg ts c : Nat) : Int)) (ep_call2 (ep_var 0 rfl W4 stb_wb) stb_wb (ev_var 2 rfl) fun x y B' _ e1 e2 => ⟨pl, ts, x, c, by rw [e2], e1, rfl⟩)) ?_) (fun hoc => ev_is (v := .int ((btw ts c o : Nat) : Int)) (ep_call3 (ep_var 0 rfl W4 stb_wb) stb_wb (ev_var 2 rfl) (stb_eq _) (ev_var 3 rfl) fun x y z B' _ e1 e2 e3 => ⟨pl, ts, x, c, o, by rw [e2, e3], e1, rfl⟩) ?_))
      · unfold gr; rw [if_pos (of_decide_eq_true hoc)]
      · unfold gr; rw [if_neg (of_decide_eq_false hoc)]
    · refine ⟨B5, ⟨_, rfl⟩, ((g3.tr g4).tr g5).mut h0 hb5, ex.trans (g4.b.trans g5.b), hb5, _, upd_same, ?_⟩
      rw [List.map_append]
      refine dpa_app (dpa_ex (g4.b.trans g5.b) hd) (dpa_one' ?_)
      rw [filter_id_len _ _ (fun _ _ => rfl), sx_toList] at p5
      exact p5
  · rintro σ' B' H' ⟨⟨x, rfl⟩, g3, ex, hb, xs, hl, hd⟩
    rw [sx_toList] at hd
    obtain ⟨B5, g5, p5, _⟩ := g3.fin h0 hb hl hd
    dsimp only
    refine s_ret (ed_var 1 rfl p5) g5.s fun u B6 H6 g6 p6 => ?_
    exact q u B6 H6 (g5.tr g6) p6
end
end Kx

/-! Ka7 -/
namespace Kx
open PySem PySem.Spec PyProof.Rows L2
section
variable {P : Program} {w : World} {K : PySem.W.Frag} {mg : Str → Option Value} {base : Heap} {C : Addr}
theorem zip_same {α β : Type} (h : α × α → β) : ∀ l : List α, (l.zip l).map h = l.map fun x => h (x, x)
  | [] => rfl
  | a :: r => by rw [List.zip_cons_cons, List.map_cons, List.map_cons, zip_same h r]
theorem zip_mem_same {α : Type} {l : List α} {a : α × α} (h : a ∈ l.zip l) : a.1 = a.2 ∧ a.1 ∈ l := by
  have : a ∈ (l.zip l).map fun x => x := by rw [List.map_id']; exact h
  rw [zip_same] at this
  obtain ⟨x, hx, rfl⟩ := List.mem_map.mp this
  exact ⟨rfl, hx⟩
theorem zip_len {α : Type} (l : List α) : (l.zip l).length = l.length := by rw [List.length_zip]; omega
theorem gr_bd {ts : List (Nat × Nat)} (h : ts.length ≤ 6) (p o : Nat) : -6 ≤ gr ts p o ∧ gr ts p o ≤ 6 := by
  have h1 : deg ts p ≤ ts.length := List.length_filter_le _ _
  have h2 : btw ts p o ≤ ts.length := List.length_filter_le _ _
  unfold gr
  split <;> omega

def spAfter (C : Addr) : PrT := fun vs B R => ∃ pl ts v u x D g, vs = [v, u, x] ∧ Wb C B v pl ts ∧ Dq B u (hpT pl D) ∧ Dq B x (hpL pl g) ∧ R = fun u B' => Dq B' u (hpT pl (aft pl ts D g))
abbrev n38 : List Str := ["web", "heap", "gives", "rows", "found", "row", "many", "own", "more"]
theorem sc_after : FnScope n38 ["web", "heap", "gives"] (C8.fnScope (topS 38)) := C8.fnScope_by (by decide +kernel)
theorem ok_after (T : Tx K mg C) : C8.Cal P w K mg base 3 "after" (Pr (spAfter C)) [] := by
  refine mk_cal T.after sc_after (by rintro vs B R ⟨pl, ts, v, u, x, D, g, rfl, _⟩; rfl) fun f cdv A outer s H vs Q E B R hr e h q => ?_
  obtain ⟨pl, ts, v, u, x, D, g, rfl, W, hu, hx, rfl⟩ := h
  have nd := sc_after.nd
  have few := W.op.few
  refine ⟨_, pss_cons (ps_par (i := 3) (j := 4) rfl nd rfl rfl (by decide) rfl rfl (pa_cons (C8.pe_c (ok_gift_rows T) hr (by decide) (by rfl) (pa_cons (pv 0) pa_nil)) (pa_cons (pe_callTy call_list_of (by rfl) T.b_list PyProof.Rows.boot_list (pa_cons (pv 1) pa_nil)) pa_nil)) (by rfl))
    (pss_cons (ps_for PassesOwn.never rfl (pi_zip (by rfl) T.b_zip (pa_cons (pv 3) (pa_cons (pv 2) pa_nil))) (pg_tup (by rfl) (pgs_cons (pg_name (i := 5) nd rfl (.inl rfl)) (pgs_cons (pg_name (i := 6) nd rfl (.inr rfl)) pgs_nil)))
      (pss_one (ps_setLc (own := [("own", 7), ("more", 8)]) (g := gTup K 2 (gCons (gName 7) (gCons (gName 8) gNil))) (i := 4) rfl nd rfl rfl (by rfl) (pi_zip (by rfl) T.b_zip (pa_cons (pv 4) (pa_cons (pv 5) pa_nil))) (blkOk_by (own := [("own", 7), ("more", 8)]) (N := n38) (sc := C8.fnScope (topS 38)) (by decide +kernel)) (fun _ _ _ _ _ => pg_tup (by rfl) (pgs_cons (pg_name (i := 7) nd rfl (Or.inl rfl)) (pgs_cons (pg_name (i := 8) nd rfl (Or.inl rfl)) pgs_nil))) (fun _ _ _ _ _ => pts_nil) (fun _ _ _ _ _ => pe_op op_add (pv 7) (pe_op op_mul (pv 6) (pv 8))))))
    (pss_one (ps_ret (pe_callTy call_tuple_of (by rfl) T.b_tuple PyProof.Rows.boot_tuple (pa_cons (pv 4) pa_nil))))), ?_⟩
  refine s_par (A := fun vs B' => ∃ rv fv, vs = [rv, fv] ∧ Dq B' rv (grD pl ts) ∧ Dq B' fv (hpL pl D)) ?_ e fun vs B1 H1 g1 ⟨rv, fv, e1, hr1, hf1⟩ => ⟨rv, fv, e1, ?_⟩
  · intro B1 H1 a b Q' k
    refine eap_cons (P := fun u B' => Dq B' u (grD pl ts)) (ep_call1 (ep_var 0 rfl W stb_wb) fun x B' _ e1 => ⟨pl, ts, x, rfl, e1, rfl⟩) (stb_dp _) (eap_cons (ed_listT (ed_var 1 rfl hu)) (stb_dp _) eap_nil) B1 H1 a b Q' fun vs B2 H2 g2 ⟨v1, w1, e1, p1, v2, w2, e2, p2, e3⟩ => ?_
    subst e1; subst e2; subst e3
    exact k _ B2 H2 g2 ⟨_, _, rfl, p1, p2⟩
  refine s_for (ei_zip (xs := pl) (ys := pl) (φ := fun p => .list (pl.map fun o => .int (gr ts p o))) (ψ := fun p => .int (g p)) (ea_cons (ed_var 3 rfl hr1) (ea_cons (ed_var 2 rfl (dp_ex g1.b hx)) ea_nil))) g1.s fun B2 H2 g2 => ⟨fun pre σ' B' H' => (∃ fv y5 y6, σ' = [some v, some u, some x, some rv, some fv, y5, y6, none, none] ∧ Dq B' fv (.list (pl.map fun o => .int (D o + (pre.map fun p => g p.1 * gr ts p.1 o).sum)))) ∧ Gr B2 H2 B' H', ⟨⟨fv, none, none, rfl, ?_⟩, Gr.refl g2.s⟩, fun _ _ _ _ h => ⟨h.2.b, h.2.s⟩, ?_, ?_⟩
  · refine dp_ex g2.b ?_
    simp only [List.map_nil, List.sum_nil, Int.add_zero]
    exact hf1
  · rintro pre ⟨p1, p2⟩ post hpre σ' B' H' ⟨⟨fv, y5, y6, rfl, hfv⟩, g3⟩ z B3 H3 g4 ⟨Ta, z1, z2, rfl, hT, hd1, hd2⟩
    have hm : (p1, p2) ∈ pl.zip pl := by rw [hpre]; simp
    obtain ⟨e12, hp⟩ := zip_mem_same hm
    have e12 : p1 = p2 := e12
    subst e12
    cases hd2
    refine tg_two 5 6 hT H3 _ g4.s ?_
    refine s_set (ed_lc (ei_zip (xs := pl) (ys := pl) (φ := fun o => .int (D o + (pre.map fun p => g p.1 * gr ts p.1 o).sum)) (ψ := fun o => .int (gr ts p1 o)) (ea_cons (ed_var 4 rfl (dp_ex g4.b hfv)) (ea_cons (ed_var 5 rfl hd1) ea_nil))) (fun _ => true) (fun a => .int (D a.1 + (pre.map fun p => g p.1 * gr ts p.1 a.1).sum + g p1 * gr ts p1 a.2)) (by rw [zip_len]; omega) fun a x B4 ho e4 hx4 => ?_) g4.s fun fv2 B5 H5 g5 p5 => ?_
    · obtain ⟨Tb, w1, w2, rfl, hTb, h1, h2⟩ := hx4
      cases h1
      cases h2
      exact ⟨_, tg_two 7 8 hTb, rfl, et_yes, fun _ => int_ed (ev_I0 (ev_var 7 rfl) (ev_I (ev_var 6 rfl) (ev_var 8 rfl) (.inr (by have := gr_bd W.ot.few p1 a.2; omega))))⟩
    · refine ⟨B5, ⟨fv2, _, _, rfl, ?_⟩, (g3.tr g4).tr g5⟩
      rw [filter_id_len _ _ (fun _ _ => rfl), zip_same] at p5
      have : (fun o => PyData.int (D o + ((pre ++ [(p1, p1)]).map fun p => g p.1 * gr ts p.1 o).sum)) = fun o => PyData.int (D o + (pre.map fun p => g p.1 * gr ts p.1 o).sum + g p1 * gr ts p1 o) := by
        funext o
        rw [List.map_append, List.sum_append]
        simp [Int.add_assoc]
      rw [this]
      exact p5
  · rintro σ' B' H' ⟨⟨fv, y5, y6, rfl, hfv⟩, g3⟩
    dsimp only
    refine s_ret (ed_tupL (ed_var 4 rfl hfv)) g3.s fun u B4 H4 g4 p4 => q u B4 H4 ((g1.tr g2).tr (g3.tr g4)) ?_
    show Dq B4 u (hpT pl (aft pl ts D g))
    unfold aft
    simp only [zip_same] at p4
    exact p4
end
end Kx

/-! KmSol -/
namespace Kx
open PySem L2
def stepR (p h l : Int) (row prow : List Int) : List Int := (row.zip prow).map fun a => (p * a.1 - h * a.2) / l
def stepM (k : Nat) (p l : Int) (prow : List Int) (M : List (List Int)) : List (List Int) := M.mapIdx fun i r => if i = k then r else stepR p (r.getD k 0) l r prow
def Good : Nat → Nat → Int → List (List Int) → Prop
  | 0, _, _, _ => True
  | n + 1, k, l, M => ∃ pr p, M[k]? = some pr ∧ pr[k]? = some p ∧ 0 < p ∧ p < 1073741824 ∧ (∀ r ∈ M, ∃ h, r[k]? = some h ∧ -(2 ^ 64) < h ∧ h < 2 ^ 64) ∧ Good n (k + 1) p (stepM k p l pr M)
structure Shp (m : Nat) (M : List (List Int)) : Prop where
  len : M.length = m
  row : ∀ r ∈ M, r.length = m + 1
abbrev rD (r : List Int) : PyData := .list (r.map .int)
theorem stepM_len (k : Nat) (p l : Int) (pr : List Int) (M : List (List Int)) : (stepM k p l pr M).length = M.length := by unfold stepM; simp
theorem stepM_at {k : Nat} {p l : Int} {pr : List Int} {M : List (List Int)} {i : Nat} {r : List Int} (h : M[i]? = some r) : (stepM k p l pr M)[i]? = some (if i = k then r else stepR p (r.getD k 0) l r pr) := by
  unfold stepM
  rw [List.getElem?_mapIdx, h]; rfl
theorem shp_step {m k : Nat} {p l : Int} {pr : List Int} {M : List (List Int)} (h : Shp m M) (hp : pr ∈ M) : Shp m (stepM k p l pr M) := by
  refine ⟨by rw [stepM_len]; exact h.len, fun r hr => ?_⟩
  obtain ⟨i, hi, e⟩ := List.getElem_of_mem hr
  rw [stepM_len] at hi
  have h1 := stepM_at (k := k) (p := p) (l := l) (pr := pr) (List.getElem?_eq_getElem hi)
  rw [List.getElem?_eq_getElem (by rw [stepM_len]; exact hi), e] at h1
  rw [Option.some.inj h1]
  have hr := h.row _ (List.getElem_mem hi)
  split
  · exact hr
  · unfold stepR
    rw [List.length_map, List.length_zip, hr, h.row _ hp]; omega
/-- part done -/
def part (S M : List (List Int)) (i : Nat) : List (List Int) := S.take i ++ M.drop i
theorem part_0 (S M : List (List Int)) : part S M 0 = M := by simp [part]
theorem part_all {S M : List (List Int)} {n : Nat} (h : S.length = n) (h2 : M.length = n) : part S M n = S := by
  unfold part
  rw [List.take_of_length_le (by omega), List.drop_of_length_le (by omega), List.append_nil]
theorem part_at {S M : List (List Int)} {i j : Nat} (h : S.length = M.length) (hj : j < M.length) : (part S M i)[j]? = if j < i then S[j]? else M[j]? := by
  unfold part
  by_cases hi : i ≤ S.length
  · rw [List.getElem?_append]
    rw [List.length_take, Nat.min_eq_left hi]
    split
    · rw [List.getElem?_take, if_pos ‹_›]
    · rw [List.getElem?_drop]; congr 1; omega
  · rw [List.take_of_length_le (by omega), List.drop_of_length_le (by omega), List.append_nil, if_pos (by omega)]
theorem part_len {S M : List (List Int)} {i : Nat} (h : S.length = M.length) : (part S M i).length = M.length := by
  unfold part
  rw [List.length_append, List.length_take, List.length_drop]; omega
theorem part_set {S M : List (List Int)} {i : Nat} {r : List Int} (h : S.length = M.length) (hi : i < M.length) (hr : S[i]? = some r) : (part S M i).set i r = part S M (i + 1) := by
  apply List.ext_getElem?
  intro j
  by_cases hj : j < M.length
  · rw [part_at h hj, List.getElem?_set]
    by_cases e : i = j
    · subst e
      rw [if_pos rfl, if_pos (by rw [part_len h]; exact hi), if_pos (by omega), hr]
    · rw [if_neg e, part_at h hj]
      by_cases e2 : j < i
      · rw [if_pos e2, if_pos (by omega)]
      · rw [if_neg e2, if_neg (by omega)]
  · rw [List.getElem?_eq_none (by rw [List.length_set, part_len h]; omega), List.getElem?_eq_none (by rw [part_len h]; omega)]
theorem part_skip {S M : List (List Int)} {i : Nat} (h : S.length = M.length) (hi : i < M.length) (hr : S[i]? = M[i]?) : part S M i = part S M (i + 1) := by
  apply List.ext_getElem?
  intro j
  by_cases hj : j < M.length
  · rw [part_at h hj, part_at h hj]
    by_cases e : j = i
    · subst e; rw [if_neg (by omega), if_pos (by omega), hr]
    · by_cases e2 : j < i
      · rw [if_pos e2, if_pos (by omega)]
      · rw [if_neg e2, if_neg (by omega)]
  · rw [List.getElem?_eq_none (by rw [part_len h]; omega), List.getElem?_eq_none (by rw [part_len h]; omega)]
theorem range_pre {n a : Nat} {pre post : List Nat} (h : List.range n = pre ++ a :: post) : a = pre.length ∧ a < n := by
  have h1 : (List.range n)[pre.length]? = some a := by rw [h]; simp
  obtain ⟨h2, h3⟩ := List.getElem?_eq_some_iff.mp h1
  rw [List.getElem_range] at h3
  rw [List.length_range] at h2
  omega
theorem at_map {α : Type} {l : List α} {φ : α → PyData} {n : Nat} {a : α} {i : Int} (hi : i = (n : Int)) (h : l[n]? = some a) : atI (l.map φ) i = some (φ a) := at_nat hi (by rw [List.getElem?_map, h]; rfl)
end Kx

/-! Ka8 -/
namespace Kx
open PySem PySem.Spec PyProof.Rows L2
section
variable {P : Program} {w : World} {K : PySem.W.Frag} {mg : Str → Option Value} {base : Heap} {C : Addr}
def spSolved : PrT := fun vs B R => ∃ (rows : List (List Int)) (due : List Int) (v u : V) (m : Nat), vs = [v, u] ∧ Dq B v (.list (rows.map rD)) ∧ Dq B u (.list (due.map .int)) ∧ rows.length = m ∧ due.length = m ∧ (∀ r ∈ rows, r.length = m) ∧ 0 < m ∧ m ≤ 10 ∧
  Good m 0 1 ((rows.zip due).map fun a => a.1 ++ [a.2]) ∧ R = fun z B' => ∃ (tops : List Int) (b : Int), Dq B' z (.tuple [.list (tops.map .int), .int b]) ∧ tops.length = m ∧ 0 < b ∧ b < 1073741824
abbrev n39 : List Str := ["rows", "due", "left", "last", "many", "k", "spot", "i", "head", "sign", "row", "own", "other"]
theorem sc_solved : FnScope n39 ["rows", "due"] (C8.fnScope (topS 39)) := C8.fnScope_by (by decide +kernel)
theorem ok_solved (T : Tx K mg C) : C8.Cal P w K mg base 1 "solved" (Pr spSolved) [] := by
  refine mk_cal T.solved sc_solved (by rintro vs B R ⟨rows, due, v, u, m, rfl, _⟩; rfl) fun f cdv A outer s H vs Q E B R hr e h q => ?_
  obtain ⟨rows, due, v, u, m, rfl, hv, hu, hm, hm2, hrow, hm0, hm1, hG, rfl⟩ := h
  have nd := sc_solved.nd
  refine ⟨_, pss_cons (ps_asg (pe_tup (pa_cons (pe_lc (own := [("row", 10), ("own", 11)]) (g := gTup K 2 (gCons (gName 10) (gCons (gName 11) gNil))) rfl nd (pi_zip (by rfl) T.b_zip (pa_cons (pv 0) (pa_cons (pv 1) pa_nil))) (blkOk_by (own := [("row", 10), ("own", 11)]) (N := n39) (sc := C8.fnScope (topS 39)) (by decide +kernel)) (fun _ _ _ _ _ => pg_tup (by rfl) (pgs_cons (pg_name (i := 10) nd rfl (Or.inl rfl)) (pgs_cons (pg_name (i := 11) nd rfl (Or.inl rfl)) pgs_nil))) (fun _ _ _ _ _ => pts_nil) (fun _ _ _ _ _ => pe_op op_cat (pe_callTy (r := rListOf K) call_list_of (by rfl) T.b_list PyProof.Rows.boot_list (pa_cons (pv 10) pa_nil)) (pe_lst (pa_cons (pv 11) pa_nil))))
        (pa_cons pe_int (pa_cons (pe_callB call_len_seq (by rfl) T.b_len boot_len (pa_cons (pv 0) pa_nil)) pa_nil)))) (pg_tup (by rfl) (pgs_cons (pg_name (i := 2) nd rfl (.inr rfl)) (pgs_cons (pg_name (i := 3) nd rfl (.inr rfl)) (pgs_cons (pg_name (i := 4) nd rfl (.inl rfl)) pgs_nil)))))
    (pss_cons (ps_for PassesOwn.never rfl (pi_range1 (by rfl) T.b_range (pa_cons (pv 4) pa_nil)) (pg_name (i := 5) nd rfl (.inr rfl))
      (pss_cons (ps_set (i := 6) nd rfl (.inl rfl) (pe_ix ix_list (pe_lc (own := [("i", 7)]) (g := gName 7) rfl nd (pi_range2 (by rfl) T.b_range (pa_cons (pv 5) (pa_cons (pv 4) pa_nil))) (blkOk_by (own := [("i", 7)]) (N := n39) (sc := C8.fnScope (topS 39)) (by decide +kernel)) (fun _ _ _ _ _ => pg_name (i := 7) nd rfl (Or.inl rfl)) (fun _ _ _ _ _ => pts_one (pt_cmpR op_ne (pe_ix (r := rIxL K) ix_list (pe_ix (r := rIxL K) ix_list (pv 2) (pv 7) (fun _ _ => rfl)) (pv 5) (fun _ _ => rfl)) pe_int (nomark _))) (fun _ _ _ _ _ => pv 7)) pe_int (fun _ _ => rfl)))
      (pss_cons (ps_asg (pe_tup (pa_cons (pe_ix ix_list (pv 2) (pv 6) (fun _ _ => rfl)) (pa_cons (pe_ix ix_list (pv 2) (pv 5) (fun _ _ => rfl)) pa_nil))) (pg_tup (by rfl) (pgs_cons (pg_sub (pv 2) (pv 5) set_list (fun _ => rfl)) (pgs_cons (pg_sub (pv 2) (pv 6) set_list (fun _ => rfl)) pgs_nil))))
      (pss_cons (ps_for PassesOwn.never rfl (pi_range1 (by rfl) T.b_range (pa_cons (pv 4) pa_nil)) (pg_name (i := 7) nd rfl (.inl rfl))
        (pss_one (ps_if (pt_cmpR op_ne (pv 7) (pv 5) (nomark _))
          (pss_cons (ps_set (i := 8) nd rfl (.inr rfl) (pe_ix ix_list (pe_ix ix_list (pv 2) (pv 7) (fun _ _ => rfl)) (pv 5) (fun _ _ => rfl)))
          (pss_one (ps_asg (pe_lc (own := [("own", 11), ("other", 12)]) (g := gTup K 2 (gCons (gName 11) (gCons (gName 12) gNil))) rfl nd (pi_zip (by rfl) T.b_zip (pa_cons (pe_ix ix_list (pv 2) (pv 7) (fun _ _ => rfl)) (pa_cons (pe_ix ix_list (pv 2) (pv 5) (fun _ _ => rfl)) pa_nil))) (blkOk_by (own := [("own", 11), ("other", 12)]) (N := n39) (sc := C8.fnScope (topS 39)) (by decide +kernel)) (fun _ _ _ _ _ => pg_tup (by rfl) (pgs_cons (pg_name (i := 11) nd rfl (Or.inl rfl)) (pgs_cons (pg_name (i := 12) nd rfl (Or.inl rfl)) pgs_nil))) (fun _ _ _ _ _ => pts_nil)
            (fun _ _ _ _ _ => pe_op op_fdiv (pe_op op_sub (pe_op op_mul (pe_ix (r := rIxL K) ix_list (pe_ix (r := rIxL K) ix_list (pv 2) (pv 5) (fun _ _ => rfl)) (pv 5) (fun _ _ => rfl)) (pv 11)) (pe_op op_mul (pv 8) (pv 12))) (pv 3))) (pg_sub (pv 2) (pv 7) set_list (fun _ => rfl))))) pss_nil)))
      (pss_one (ps_set (i := 3) nd rfl (.inr rfl) (pe_ix ix_list (pe_ix ix_list (pv 2) (pv 5) (fun _ _ => rfl)) (pv 5) (fun _ _ => rfl))))))))
    (pss_cons (ps_set (i := 9) nd rfl (.inr rfl) (pe_ifExp (pt_cmpR op_gt (pv 3) pe_int (nomark _)) pe_int (pe_un un_neg pe_int)))
    (pss_one (ps_ret (pe_tup (pa_cons (pe_lc (own := [("row", 10)]) (g := gName 10) rfl nd (pi_list (pv 2)) (blkOk_by (own := [("row", 10)]) (N := n39) (sc := C8.fnScope (topS 39)) (by decide +kernel)) (fun _ _ _ _ _ => pg_name (i := 10) nd rfl (Or.inl rfl)) (fun _ _ _ _ _ => pts_nil) (fun _ _ _ _ _ => pe_op op_mul (pv 9) (pe_ix (r := rIxL K) ix_list (pv 10) (pe_un un_neg pe_int) (fun _ _ => rfl))))
      (pa_cons (pe_callB call_abs (by rfl) T.b_abs PyProof.Rows.boot_abs (pa_cons (pv 3) pa_nil)) pa_nil))))))), ?_⟩
  refine s_asg3M (x := .int 1) (y := .int ((m : Nat) : Int)) (em_lc (ei_zip (xs := rows) (ys := due) (φ := rD) (ψ := fun d => .int d) (ea_cons (ed_var 0 rfl hv) (ea_cons (ed_var 1 rfl hu) ea_nil))) (fun _ => true) (fun a => rD (a.1 ++ [a.2])) (by rw [List.length_zip]; omega) fun a x B1 ha _ hx => ?_) ev_c (ev_is (ev_lenL (ed_var 0 rfl hv)) (by rw [List.length_map, hm])) e fun l xs B1 H1 g1 h0 hb1 hl1 hd1 => ?_
  · obtain ⟨Tb, w1, w2, rfl, hTb, h1, h2⟩ := hx
    refine ⟨_, tg_two 10 11 hTb, rfl, et_yes, fun _ => ed_is (ed_cat (ed_listL (ed_var 10 rfl h1)) (ed_lst (ea_cons (ed_var 11 rfl h2) ea_nil) (by show 1 ≤ 100000; decide)) ?_) ?_⟩
    · have := hrow a.1 (List.of_mem_zip ha).1
      rw [List.length_map]
      show _ + 1 ≤ 100000
      omega
    · show PyData.list _ = PyData.list _
      rw [List.map_append]; rfl
  rw [filter_id_len _ _ (fun _ _ => rfl)] at hd1
  have hM0 : ((rows.zip due).map fun a => rD (a.1 ++ [a.2])) = ((rows.zip due).map fun a => a.1 ++ [a.2]).map rD := by rw [List.map_map]; rfl
  rw [hM0] at hd1
  have hS0 : Shp m ((rows.zip due).map fun a => a.1 ++ [a.2]) := by
    refine ⟨by rw [List.length_map, List.length_zip]; omega, fun r hr => ?_⟩
    obtain ⟨a, ha, rfl⟩ := List.mem_map.mp hr
    have := hrow a.1 (List.of_mem_zip ha).1
    rw [List.length_append, this]; rfl
  generalize ((rows.zip due).map fun a => a.1 ++ [a.2]) = M0 at hd1 hS0 hG
  refine s_for (ei_rng1 (n := ((m : Nat) : Int)) (ea_cons (ed_var 4 rfl (.int _)) ea_nil) (by omega) (by omega)) g1.s fun B2 H2 g2 => ⟨fun pre σ' B' H' => (∃ (x5 x6 x7 x8 : Option V) (la : Int) (M : List (List Int)) (xs : List V), σ' = [some v, some u, some (.ref l), some (.int la), some (.int m), x5, x6, x7, x8, none, none, none, none] ∧ H' l = some (.lst xs) ∧ DqAll B' xs (M.map rD) ∧ Shp m M ∧ Good (m - pre.length) pre.length la M ∧ 0 < la ∧ la < 1073741824) ∧ Gr B H B' H' ∧ Evl.Ex B2 B' ∧ B' l = none, ?_, fun _ _ _ _ h => ⟨h.2.2.1, h.2.1.s⟩, ?_, ?_⟩
  · obtain ⟨hb2, hl2⟩ := g2.off hb1 hl1
    exact ⟨⟨none, none, none, none, 1, M0, xs, rfl, hl2, dpa_ex g2.b hd1, hS0, hG, by decide, by decide⟩, g1.tr g2, Evl.Ex.refl _, hb2⟩
  · rintro pre k post hpre σ' B' H' ⟨⟨x5, x6, x7, x8, la, M, xs, rfl, hl, hd, hS, hG, hla, hlb⟩, g3, ex, hb⟩ z B3 H3 g4 hz
    subst hz
    obtain ⟨hk, hkm⟩ := range_pre hpre
    rw [Int.toNat_natCast] at hkm
    subst hk
    obtain ⟨n, hn⟩ : ∃ n, m - pre.length = n + 1 := ⟨m - pre.length - 1, by omega⟩
    rw [hn] at hG
    obtain ⟨pr, p, hpr, hp, hp0, hp1, hh, hG⟩ := hG
    obtain ⟨hb3, hl3⟩ := g4.off hb hl
    have hd3 := dpa_ex g4.b hd
    have hcell : ∀ i, i < m → ∃ r c, M[i]? = some r ∧ r[pre.length]? = some c ∧ M.getD i [] = r ∧ r.getD pre.length 0 = c ∧ r.length = m + 1 := fun i hi => by
      have h1 : M[i]? = some (M[i]'(by rw [hS.len]; exact hi)) := List.getElem?_eq_getElem _
      have h2 := hS.row _ (List.mem_of_getElem? h1)
      have h3 : (M[i]'(by rw [hS.len]; exact hi))[pre.length]? = some _ := List.getElem?_eq_getElem (by omega)
      exact ⟨_, _, h1, h3, by rw [List.getD_eq_getElem?_getD, h1]; rfl, by rw [List.getD_eq_getElem?_getD, h3]; rfl, h2⟩
    show tSeq _ _ _ _ _
    dsimp only [tSeq, gName]
    refine s_setD (d := .int ((pre.length : Nat) : Int)) (u := .lst xs) (ed_ixL (ed_lc (ei_rng2 (lo := ((pre.length : Nat) : Int)) (n := ((m : Nat) : Int)) (ea_cons (ed_var 5 rfl (.int _)) (ea_cons (ed_var 4 rfl (.int _)) ea_nil)) (by omega) (by omega)) (fun i => !decide (V.int ((M.getD (pre.length + i) []).getD pre.length 0) = V.int 0)) (fun i => .int (((pre.length : Nat) : Int) + ((i : Nat) : Int))) (by rw [List.length_range]; omega) fun i x B4 hi e4 hx4 => ⟨_, tg_name 7, rfl, ?_, fun _ => ed_var 7 rfl (by rw [hx4]; exact .int _)⟩) ev_c ?_) g4.s hl3 hb3 fun v1 B4 H4 g5 p5 hb4 hl4 => ?_
    · subst hx4
      rw [List.mem_range] at hi
      obtain ⟨r, c, h1, h2, h3, h4, h5⟩ := hcell (pre.length + i) (by omega)
      rw [h3, h4]
      refine et_test (ev_ne (ed_int (ed_ixL (ds := r.map .int) (ed_ixW (e4 _ _ upd_same) (dpa_ex ((Evl.Ex.new hb3).trans e4) hd3) (ev_var 2 rfl) (ev_var 7 rfl) (at_map (n := pre.length + i) (by omega) h1)) (ev_var 5 rfl) (at_map rfl h2))) ev_c rfl)
    · obtain ⟨r, c, h1, h2, h3, h4, h5⟩ := hcell (pre.length + 0) (by omega)
      have hrg : ((((m : Nat) : Int)) - ((pre.length : Nat) : Int)).toNat = n + 1 := by omega
      have e1 : M.getD pre.length [] = pr := by rw [List.getD_eq_getElem?_getD, hpr]; rfl
      have e2 : pr.getD pre.length 0 = p := by rw [List.getD_eq_getElem?_getD, hp]; rfl
      rw [hrg, List.range_succ_eq_map, List.filter_cons_of_pos (by
        rw [Nat.add_zero, e1, e2]
        have : ¬ (V.int p = V.int 0) := fun z => by injection z with z; omega
        simp [this])]
      rw [List.map_cons]
      refine at_nat (n := 0) rfl ?_
      rw [List.getElem?_cons_zero]
      congr 2
    cases p5
    have hxl : xs.length = m := by rw [dpa_len hd3, List.length_map, hS.len]
    have hprm : pr ∈ M := List.mem_of_getElem? hpr
    have hprl := hS.row pr hprm
    have hd4 := dpa_ex g5.b hd3
    have ix : ∀ {σ0 : L2.St} {B0 : Hp} {te1 te2 : TE} {xs' : List V} {N : List (List Int)} {i : Nat} {r : List Int}, B0 l = some (wat (.lst xs')) → DqAll B0 xs' (N.map rD) → Kx.Ev te1 σ0 B0 (.ref l) → Kx.Ev te2 σ0 B0 (.int (i : Int)) → N[i]? = some r → Kx.Ed (tOp (rIxL K) te1 te2) σ0 B0 (rD r) := fun hw hdd ha hb' hi => ed_ixW hw hdd ha hb' (at_map rfl hi)
    dsimp only [tSeq]
    refine s_swap (d := rD pr) (k := pre.length) (ea_cons (ix upd_same (dpa_ex (Evl.Ex.new hb4) hd4) (ev_var 2 rfl) (ev_var 6 rfl) hpr) (ea_cons (ix upd_same (dpa_ex (Evl.Ex.new hb4) hd4) (ev_var 2 rfl) (ev_var 5 rfl) hpr) ea_nil)) g5.s hl4 hb4 rfl rfl rfl (by omega) fun w1 w2 B5 H5 g6 hb5 hl5 hw1 hw2 => ?_
    have hd5 : DqAll B5 ((xs.set pre.length w1).set pre.length w2) (M.map rD) := by
      have := dpa_set pre.length (dpa_set pre.length (dpa_ex g6.b hd4) hw1) hw2
      have e : ((M.map rD).set pre.length (rD pr)).set pre.length (rD pr) = M.map rD := by
        have e1 : (M.map rD).set pre.length (rD pr) = M.map rD := by
          have h1 : pre.length < (M.map rD).length := by rw [List.length_map, hS.len]; omega
          have h2 : (M.map rD)[pre.length]'h1 = rD pr := by
            rw [List.getElem_map]
            have := List.getElem?_eq_some_iff.mp hpr
            rw [this.2]
          rw [← h2, List.set_getElem_self]
        rw [e1, e1]
      rw [e] at this
      exact this
    have hxl5 : ((xs.set pre.length w1).set pre.length w2).length = m := by rw [List.length_set, List.length_set]; exact hxl
    have gA := ((g3.tr g4).tr (g5.tr g6)).mut (o := .lst ((xs.set pre.length w1).set pre.length w2)) h0 hb5
    generalize ((xs.set pre.length w1).set pre.length w2) = xs5 at hd5 gA hxl5
    generalize hH5 : upd H5 l (.lst xs5) = H6 at gA
    have hl6 : H6 l = some (.lst xs5) := by rw [← hH5]; exact upd_same
    have exA : Evl.Ex B2 B5 := ex.trans ((g4.b.trans g5.b).trans g6.b)
    let S := stepM pre.length p la pr M
    have hSM : S.length = M.length := stepM_len ..
    have hSk : S[pre.length]? = some pr := by
      have := stepM_at (k := pre.length) (p := p) (l := la) (pr := pr) hpr
      rw [if_pos rfl] at this
      exact this
    have hSp : Shp m S := shp_step hS hprm
    refine s_for (ei_rng1 (n := ((m : Nat) : Int)) (ea_cons (ed_var 4 rfl (.int _)) ea_nil) (by omega) (by omega)) gA.s fun B7 H7 g7 => ⟨fun pre' σ' B' H' => (∃ (x7 x8 : Option V) (xs : List V), σ' = [some v, some u, some (.ref l), some (.int la), some (.int m), some (.int ((pre.length : Nat) : Int)), some (.int ((pre.length : Nat) : Int)), x7, x8, none, none, none, none] ∧ H' l = some (.lst xs) ∧ DqAll B' xs ((part S M pre'.length).map rD)) ∧ Gr B H B' H' ∧ Evl.Ex B7 B' ∧ B' l = none, ?_, fun _ _ _ _ h => ⟨h.2.2.1, h.2.1.s⟩, ?_, ?_⟩
    · obtain ⟨hb7, hl7⟩ := g7.off hb5 hl6
      exact ⟨⟨x7, x8, xs5, rfl, hl7, by rw [List.length_nil, part_0]; exact dpa_ex g7.b hd5⟩, gA.tr g7, Evl.Ex.refl _, hb7⟩
    · rintro pre' i post' hpre' σ8 B8 H8 ⟨⟨y7, y8, xs8, rfl, hl8, hd8⟩, g8, ex8, hb8⟩ z9 B9 H9 g9 hz9
      subst hz9
      obtain ⟨hi, him⟩ := range_pre hpre'
      rw [Int.toNat_natCast] at him
      subst hi
      obtain ⟨hb9, hl9⟩ := g9.off hb8 hl8
      have hd9 := dpa_ex g9.b hd8
      obtain ⟨r, c, h1, h2, h3, h4, h5⟩ := hcell pre'.length him
      have hMl := hS.len
      have hpi : (part S M pre'.length)[pre'.length]? = some r := by rw [part_at hSM (by omega), if_neg (by omega)]; exact h1
      have hpk : (part S M pre'.length)[pre.length]? = some pr := by
        rw [part_at hSM (by omega)]
        split
        · exact hSk
        · exact hpr
      have hx9 : xs8.length = m := by rw [dpa_len hd9, List.length_map, part_len hSM, hMl]
      dsimp only [gName]
      refine s_if (b := !decide (pre'.length = pre.length)) (et_test (ev_is (ev_ne (ev_var 7 rfl) (ev_var 5 rfl) rfl) ?_)) g9.s (fun hne B10 H10 g10 => ?_) (fun heq B10 H10 g10 => ?_)
      · congr 2
        rw [decide_eq_decide]
        constructor
        · intro z; injection z with z; omega
        · intro z; rw [z]
      · have hne : pre'.length ≠ pre.length := by simpa using hne
        obtain ⟨hb10, hl10⟩ := g10.off hb9 hl9
        have hd10 := dpa_ex g10.b hd9
        dsimp only [tSeq]
        refine s_setD (d := .int c) (u := .lst xs8) (ed_ixL (ds := r.map .int) (ix upd_same (dpa_ex (Evl.Ex.new hb10) hd10) (ev_var 2 rfl) (ev_var 7 rfl) hpi) (ev_var 5 rfl) (at_map rfl h2)) g10.s hl10 hb10 fun cv B11 H11 g11 p11 hb11 hl11 => ?_
        cases p11
        have hd11 := dpa_ex g11.b hd10
        obtain ⟨hc, hc1, hc2, hc3⟩ := hh r (List.mem_of_getElem? h1)
        obtain rfl : hc = c := by rw [h2] at hc1; exact (Option.some.inj hc1).symm
        have hrl := h5
        refine s_setW (j := pre'.length) (d := rD (stepR p hc la r pr)) (ed_is (ed_lc (ei_zip (xs := r) (ys := pr) (φ := fun d => .int d) (ψ := fun d => .int d) (ea_cons (ix upd_same (dpa_ex (Evl.Ex.new hb11) hd11) (ev_var 2 rfl) (ev_var 7 rfl) hpi) (ea_cons (ix upd_same (dpa_ex (Evl.Ex.new hb11) hd11) (ev_var 2 rfl) (ev_var 5 rfl) hpk) ea_nil))) (fun _ => true) (fun a => .int ((p * a.1 - hc * a.2) / la)) (by rw [List.length_zip]; omega) fun a x B12 ha e12 hx12 => ?_) ?_) rfl rfl g11.s hl11 hb11 (by omega) fun nv B12 H12 g12 p12 hb12 hl12 => ?_
        · obtain ⟨Tb, w1, w2, rfl, hTb, k1, k2⟩ := hx12
          cases k1
          cases k2
          refine ⟨_, tg_two 11 12 hTb, rfl, et_yes, fun _ => int_ed (ev_I (ev_I0 (ev_I (ed_int (ed_ixL (ds := pr.map .int) (ix (e12 _ _ upd_same) (dpa_ex ((Evl.Ex.new hb11).trans e12) hd11) (ev_var 2 rfl) (ev_var 5 rfl) hpk) (ev_var 5 rfl) (at_map rfl hp))) (ev_var 11 rfl) (.inl ⟨by omega, by omega⟩)) (ev_I (ev_var 8 rfl) (ev_var 12 rfl) (.inl ⟨by omega, by omega⟩))) (ev_var 3 rfl) ⟨hla, hlb⟩)⟩
        · rw [filter_id_len _ _ (fun _ _ => rfl)]
          unfold stepR rD
          rw [List.map_map]; rfl
        · have gB := ((g8.tr (g9.tr g10)).tr (g11.tr g12)).mut (o := .lst (xs8.set pre'.length nv)) h0 hb12
          refine ⟨B12, ⟨_, _, xs8.set pre'.length nv, rfl, upd_same, ?_⟩, gB, ex8.trans (((g9.b.trans g10.b).trans g11.b).trans g12.b), hb12⟩
          have := dpa_set pre'.length (dpa_ex g12.b hd11) p12
          rw [← List.map_set, part_set hSM (by omega) (by
            have := stepM_at (k := pre.length) (p := p) (l := la) (pr := pr) h1
            rw [if_neg hne, h4] at this
            exact this)] at this
          rw [List.length_append]
          exact this
      · have heq : pre'.length = pre.length := by simpa using heq
        obtain ⟨hb10, hl10⟩ := g10.off hb9 hl9
        refine ⟨B10, ⟨_, _, xs8, rfl, hl10, ?_⟩, g8.tr (g9.tr g10), ex8.trans (g9.b.trans g10.b), hb10⟩
        rw [List.length_append]
        show DqAll B10 xs8 ((part S M (pre'.length + 1)).map rD)
        rw [← part_skip hSM (by omega) (by rw [heq, hSk, hpr])]
        exact dpa_ex g10.b hd9
    · rintro σ8 B8 H8 ⟨⟨y7, y8, xs8, rfl, hl8, hd8⟩, g8, ex8, hb8⟩
      rw [List.length_range, Int.toNat_natCast, part_all hSp.len hS.len] at hd8
      dsimp only
      refine s_setD (d := .int p) (u := .lst xs8) (ed_ixL (ds := pr.map .int) (ix upd_same (dpa_ex (Evl.Ex.new hb8) hd8) (ev_var 2 rfl) (ev_var 5 rfl) hSk) (ev_var 5 rfl) (at_map rfl hp)) g8.s hl8 hb8 fun pv' B9 H9 g9 p9 hb9 hl9 => ?_
      cases p9
      refine ⟨B9, ⟨_, _, _, _, p, S, xs8, rfl, hl9, dpa_ex g9.b hd8, hSp, ?_, hp0, hp1⟩, g8.tr g9, (exA.trans g7.b).trans (ex8.trans g9.b), hb9⟩
      rw [List.length_append]
      show Good (m - (pre.length + 1)) (pre.length + 1) p S
      have : m - (pre.length + 1) = n := by omega
      rw [this]
      exact hG
  · rintro σ' B' H' ⟨⟨x5, x6, x7, x8, la, M, xs, rfl, hl, hd, hS, hG, hla, hlb⟩, g3, ex, hb⟩
    dsimp only [tSeq]
    refine s_set (ep_if (b := true) (P := fun v _ => v = .int 1) (et_test (ev_is (ev_I0 (ev_var 3 rfl) ev_c) ?_)) (fun _ => ev_c) (fun z => nomatch z)) g3.s fun v4 B4 H4 g4 p4 => ?_
    · simp [hla]
    subst p4
    obtain ⟨hb4, hl4⟩ := g4.off hb hl
    obtain ⟨B5, g5, p5, _⟩ := (g3.tr g4).fin h0 hb4 hl4 (dpa_ex g4.b hd)
    have hMl := hS.len
    refine s_ret (ed_tup (ea_cons (ed_lc (ei_list (xs := M) (φ := rD) (ed_var 2 rfl p5)) (fun _ => true) (fun r => .int (r.getD m 0)) (by omega) fun r x B6 hr e6 hx6 => ⟨_, tg_name 10, rfl, et_yes, fun _ => ?_⟩) (ea_cons (int_ed (ev_is (ev_abs (ev_var 3 rfl)) (by rw [if_neg (by omega)]))) ea_nil)) (by show 2 ≤ 100000; decide)) g5.s fun v6 B6 H6 g6 p6 => q v6 B6 H6 (g5.tr g6) ⟨M.map (fun r => r.getD m 0), la, ?_, by rw [List.length_map, hMl], hla, hlb⟩
    · have hrl := hS.row r hr
      obtain ⟨r1, c, rfl⟩ : ∃ r1 c, r = r1 ++ [c] := ⟨r.dropLast, r.getLast (by intro z; rw [z] at hrl; simp at hrl), (List.dropLast_concat_getLast _).symm⟩
      have hr1 : r1.length = m := by rw [List.length_append] at hrl; simpa using hrl
      refine int_ed (ev_is (ev_I (ev_var 9 rfl) (ed_int (ed_ixL (ds := (r1 ++ [c]).map .int) (ed_var 10 rfl hx6) (ev_un ev_c) (d := .int c) ?_)) (.inl (by decide))) ?_)
      · rw [List.map_append]; exact atI_last _ _
      · rw [Int.one_mul, List.getD_eq_getElem?_getD, ← hr1]; simp
    · rw [filter_id_len _ _ (fun _ _ => rfl)] at p6
      rw [List.map_map]
      exact p6
end
end Kx

/-! Ka9 -/
namespace Kx
open PySem PySem.Spec PyProof.Rows L2
section
variable {P : Program} {w : World} {K : PySem.W.Frag} {mg : Str → Option Value} {base : Heap} {C : Addr}
theorem ei_enumS {σ : L2.St} {B : Hp} {ta : TA} {pl : List Nat} (h : EdA ta σ B [.str (Sx pl)]) (ha : ∀ c ∈ pl, c < 128) : EpI (iEnumS ta) σ B pl.zipIdx (fun ab v B => ∃ T, v = .ref T ∧ B T = some (.tup [.int ((ab.2 : Nat) : Int), .str (sg ab.1)])) := fun B1 H1 a b R q =>
  h B1 H1 a b _ fun vs B2 H2 g p => by
    obtain ⟨v, rfl, hv⟩ := dpa_one p
    cases hv
    have hz : pl.zipIdx.length = pl.length := List.length_zipIdx
    refine ⟨Sx pl, rfl, by simpa using ha, q _ B2 H2 g ⟨fun i H3 hi e => ?_, fun H3 e => ?_, fun i a B3 H3 x H4 ha e1 e2 y => ?_⟩⟩
    · show i < (Sx pl).cps.size
      simpa [hz] using hi
    · show (Sx pl).cps.size = _
      simp
    · obtain ⟨T, c, rfl, hT, hc, rfl⟩ := y
      have ha' : pl[i]? = some a.1 ∧ a.2 = i := by
        rw [List.getElem?_zipIdx] at ha
        cases q : pl[i]? with
        | none => rw [q] at ha; simp at ha
        | some z => rw [q] at ha; simp at ha; rw [← ha]; simp
      have hc' : pl[i]? = some c := by simpa using hc
      obtain rfl : c = a.1 := by rw [ha'.1] at hc'; exact (Option.some.inj hc').symm
      have gn := Gr.new (o := .tup [.int ((i : Nat) : Int), .str (sg a.1)]) e2 hT
      refine ⟨_, gn, T, rfl, ?_⟩
      rw [ha'.2]
      exact upd_same
/-- the indices of all places but one -/
def spots (pl : List Nat) (b : Nat) : List Nat := ((pl.zipIdx).filter fun a => decide (a.1 ≠ b)).map (·.2)
abbrev srow (pl : List Nat) (ts : List (Nat × Nat)) (b : Nat) : List (List Int) := (spots pl b).map fun own => (spots pl b).map fun other => -(gr ts (pl.getD other 0) (pl.getD own 0))
theorem spots_lt {pl : List Nat} {b i : Nat} (h : i ∈ spots pl b) : i < pl.length := by
  obtain ⟨a, ha, rfl⟩ := List.mem_map.mp h
  have := List.mem_zipIdx_iff_getElem?.mp (show (a.1, a.2) ∈ pl.zipIdx from (List.mem_filter.mp ha).1)
  exact (List.getElem?_eq_some_iff.mp this).1
theorem spots_len {pl : List Nat} {b : Nat} : (spots pl b).length ≤ pl.length := by
  unfold spots
  rw [List.length_map]
  exact Nat.le_trans (List.length_filter_le _ _) (by rw [List.length_zipIdx]; exact Nat.le_refl _)

def spSmall (C : Addr) : PrT := fun vs B R => ∃ pl ts v b, vs = [v, .str (sg b)] ∧ Wb C B v pl ts ∧ R = fun u B' => Dq B' u (.tuple [.list ((spots pl b).map fun i => .int ((i : Nat) : Int)), .list ((srow pl ts b).map rD)])
abbrev n40 : List Str := ["web", "bank", "spots", "rows", "index", "place", "own", "other"]
theorem sc_small_rows : FnScope n40 ["web", "bank"] (C8.fnScope (topS 40)) := C8.fnScope_by (by decide +kernel)
theorem ok_small_rows (T : Tx K mg C) : C8.Cal P w K mg base 3 "small_rows" (Pr (spSmall C)) [] := by
  refine mk_cal T.small_rows sc_small_rows (by rintro vs B R ⟨pl, ts, v, b, rfl, _⟩; rfl) fun f cdv A outer s H vs Q E B R hr e h q => ?_
  obtain ⟨pl, ts, v, b, rfl, W, rfl⟩ := h
  have nd := sc_small_rows.nd
  have few := W.op.few
  refine ⟨_, pss_cons (ps_set (i := 2) nd rfl (.inr rfl) (pe_lc (own := [("index", 4), ("place", 5)]) (g := gTup K 2 (gCons (gName 4) (gCons (gName 5) gNil))) rfl nd (pi_enumS (by rfl) T.b_enumerate (pa_cons (pe_fld (pv 0) (by rfl)) pa_nil)) (blkOk_by (own := [("index", 4), ("place", 5)]) (N := n40) (sc := C8.fnScope (topS 40)) (by decide +kernel)) (fun _ _ _ _ _ => pg_tup (by rfl) (pgs_cons (pg_name (i := 4) nd rfl (Or.inl rfl)) (pgs_cons (pg_name (i := 5) nd rfl (Or.inl rfl)) pgs_nil))) (fun _ _ _ _ _ => pts_one (pt_cmpR op_ne (pv 5) (pv 1) (nomark _))) (fun _ _ _ _ _ => pv 4)))
    (pss_cons (ps_set (i := 3) nd rfl (.inr rfl) (C8.pe_c (ok_gift_rows T) hr (by decide) (by rfl) (pa_cons (pv 0) pa_nil)))
    (pss_one (ps_ret (pe_tup (pa_cons (pv 2) (pa_cons (pe_lc (own := [("own", 6)]) (g := gName 6) rfl nd (te := tLc (iList K (tVar 2)) (gName 7) tYes (tUn (rU fun i => .int (-i)) (tOp (rIxL K) (tOp (rIxL K) (tVar 3) (tVar 7)) (tVar 6))) [7]) (pi_list (pv 2)) (blkOk_by (own := [("own", 6)]) (N := n40) (sc := C8.fnScope (topS 40)) (by decide +kernel)) (fun _ _ _ _ _ => pg_name (i := 6) nd rfl (Or.inr rfl)) (fun _ _ _ _ _ => pts_nil)
      (fun _ _ _ _ _ => pe_lc (own := [("other", 7)]) (g := gName 7) rfl nd (pi_list (pv 2)) (blkOk_by (own := [("other", 7)]) (by rfl)) (fun _ _ _ _ _ => pg_name (i := 7) nd rfl (Or.inl rfl)) (fun _ _ _ _ _ => pts_nil) (fun _ _ _ _ _ => pe_un un_neg (pe_ix (r := rIxL K) ix_list (pe_ix (r := rIxL K) ix_list (pv 3) (pv 7) (fun _ _ => rfl)) (pv 6) (fun _ _ => rfl))))) pa_nil)))))), ?_⟩
  have hlt : ∀ c ∈ pl, c < 128 := fun c hc => by have := W.op.rng c hc; omega
  refine s_set (ed_lc (ei_enumS (ea_cons (str_ed (ev_places T.web (ep_var 0 rfl W.wa stb_web))) ea_nil) hlt) (fun a => !decide (a.1 = b)) (fun a => .int ((a.2 : Nat) : Int)) (by rw [List.length_zipIdx]; omega) fun a x B1 ha _ hx => ?_) e fun sv B1 H1 g1 p1 => ?_
  · obtain ⟨Tb, rfl, hTb⟩ := hx
    exact ⟨_, tg_two 4 5 hTb, rfl, et_test (ev_is (ev_ne (ev_var 5 rfl) (ev_var 1 rfl) rfl) (by rw [sg_eq])), fun _ => int_ed (ev_var 4 rfl)⟩
  have es : ((pl.zipIdx).filter fun a => !decide (a.1 = b)).map (fun a => PyData.int ((a.2 : Nat) : Int)) = (spots pl b).map fun i => .int ((i : Nat) : Int) := by
    unfold spots
    rw [List.map_map]
    congr 2
    funext a
    simp
  rw [es] at p1
  dsimp only [tSeq]
  refine s_set (ep_call1 (pre := spGift C) (P := fun u B' => Dq B' u (grD pl ts)) (ep_var 0 rfl (stb_wb _ _ _ g1.b W) stb_wb) fun x B' _ e1 => ⟨pl, ts, x, rfl, e1, rfl⟩) g1.s fun rv B2 H2 g2 p2 => ?_
  have hsl := spots_len (pl := pl) (b := b)
  refine s_ret (ed_tup (ea_cons (ed_var 2 rfl (dp_ex g2.b p1)) (ea_cons (ed_lc (ei_list (xs := spots pl b) (φ := fun i => .int ((i : Nat) : Int)) (ed_var 2 rfl (dp_ex g2.b p1))) (fun _ => true) (fun i => rD ((spots pl b).map fun other => -(gr ts (pl.getD other 0) (pl.getD i 0)))) (by omega) fun i x B3 hi e3 hx => ⟨_, tg_name 6, rfl, et_yes, fun _ => ?_⟩) ea_nil)) (by show 2 ≤ 100000; decide)) g2.s fun v3 B3 H3 g3 p3 => q v3 B3 H3 ((g1.tr g2).tr g3) ?_
  · cases hx
    have e23 := e3
    refine ed_is (ed_lc (ei_list (xs := spots pl b) (φ := fun i => .int ((i : Nat) : Int)) (ed_var 2 rfl (dp_ex (g2.b.trans e3) p1))) (fun _ => true) (fun other => .int (-(gr ts (pl.getD other 0) (pl.getD i 0)))) (by omega) fun j x B4 hj e4 hx4 => ⟨_, tg_name 7, rfl, et_yes, fun _ => ?_⟩) ?_
    · cases hx4
      have hj' := List.getElem?_eq_getElem (spots_lt hj)
      have hi' := List.getElem?_eq_getElem (spots_lt hi)
      have ej : pl.getD j 0 = pl[j]'(spots_lt hj) := by rw [List.getD_eq_getElem?_getD, hj']; rfl
      have ei : pl.getD i 0 = pl[i]'(spots_lt hi) := by rw [List.getD_eq_getElem?_getD, hi']; rfl
      rw [ej, ei]
      exact int_ed (ev_un (ed_int (ed_ixL (ed_ixL (ed_var 3 rfl (dp_ex (e3.trans e4) p2)) (ev_var 7 rfl) (at_map rfl hj')) (ev_var 6 rfl) (at_map rfl hi'))))
    · rw [filter_id_len _ _ (fun _ _ => rfl)]
      unfold rD
      rw [List.map_map]; rfl
  · rw [filter_id_len _ _ (fun _ _ => rfl)] at p3
    have : (srow pl ts b).map rD = (spots pl b).map fun i => rD ((spots pl b).map fun other => -(gr ts (pl.getD other 0) (pl.getD i 0))) := by
      unfold srow; rw [List.map_map]; rfl
    rw [this]
    exact p3

/-- a, b = pair -/
theorem s_unp {σ : L2.St} {B H : Hp} {te : TE} {P : V → Hp → Prop} {D : Ends} {i j : Nat} (h : Ep te σ B P) (e : Sub B H) (k : ∀ v B' H', Gr B H B' H' → P v B' → ∃ a x y, v = .ref a ∧ B' a = some (.tup [x, y]) ∧ D.nx ((σ.set i (some x)).set j (some y)) H') :
    tAsg te (gTup K 2 (gCons (gName i) (gCons (gName j) gNil))) D σ H := h B H (Evl.Ex.refl _) e _ fun v B' H' g p => by
  obtain ⟨a, x, y, rfl, ha, kk⟩ := k v B' H' g p
  exact ⟨a, _, rfl, SqT.of (g.s _ _ ha), rfl, _, _, rfl, _, _, rfl, rfl, kk⟩
theorem dq_two {B : Hp} {v : V} {d1 d2 : PyData} (h : Dq B v (.tuple [d1, d2])) : ∃ a x y, v = .ref a ∧ B a = some (.tup [x, y]) ∧ Dq B x d1 ∧ Dq B y d2 := by
  obtain ⟨a, xs, rfl, ha, hd⟩ := dp_tup h
  obtain ⟨x, y, rfl, h1, h2⟩ := dpa_two hd
  exact ⟨a, x, y, rfl, ha, h1, h2⟩

def SolveOk (pl : List Nat) (ts : List (Nat × Nat)) (b : Nat) : Prop := ∀ due : List Int, due.length = (spots pl b).length → Good (spots pl b).length 0 1 (((srow pl ts b).zip due).map fun a => a.1 ++ [a.2])
theorem ints_as {pl : List Nat} {gs : List Int} (hn : pl.Nodup) (h : gs.length = pl.length) : ∃ g : Nat → Int, gs.map PyData.int = pl.map fun u => .int (g u) := by
  refine ⟨fun u => gs.getD (pl.idxOf u) 0, ?_⟩
  apply List.ext_getElem
  · rw [List.length_map, List.length_map, h]
  · intro i h1 h2
    rw [List.length_map] at h1 h2
    rw [List.getElem_map, List.getElem_map]
    congr 1
    show gs[i] = gs.getD (List.idxOf pl[i] pl) 0
    rw [hn.idxOf_getElem, List.getD_eq_getElem?_getD, List.getElem?_eq_getElem h1]; rfl

def spNear (C : Addr) : PrT := fun vs B R => ∃ pl ts v u b D, vs = [v, u, .str (sg b)] ∧ Wb C B v pl ts ∧ Dq B u (hpT pl D) ∧ SolveOk pl ts b ∧ R = fun u B' => ∃ g, Dq B' u (hpT pl (aft pl ts D g))
abbrev n41 : List Str := ["web", "heap", "bank", "spots", "rows", "tops", "bottom", "gives", "spot", "top"]
theorem sc_near_heap : FnScope n41 ["web", "heap", "bank"] (C8.fnScope (topS 41)) := C8.fnScope_by (by decide +kernel)
theorem ok_near_heap (T : Tx K mg C) : C8.Cal P w K mg base 4 "near_heap" (Pr (spNear C)) [] := by
  refine mk_cal T.near_heap sc_near_heap (by rintro vs B R ⟨pl, ts, v, u, b, D, rfl, _⟩; rfl) fun f cdv A outer s H vs Q E B R hr e h q => ?_
  obtain ⟨pl, ts, v, u, b, D, rfl, W, hu, hS, rfl⟩ := h
  have nd := sc_near_heap.nd
  have few := W.op.few
  refine ⟨_, pss_cons (ps_asg (C8.pe_c (ok_small_rows T) hr (by decide) (by rfl) (pa_cons (pv 0) (pa_cons (pv 2) pa_nil))) (pg_tup (by rfl) (pgs_cons (pg_name (i := 3) nd rfl (.inl rfl)) (pgs_cons (pg_name (i := 4) nd rfl (.inl rfl)) pgs_nil))))
    (pss_cons (ps_asg (pe_ifExp (pt_cmpR (op_neD hr.units) (pv 3) (pe_lst pa_nil) (nomark _)) (C8.pe_c (ok_solved T) hr (by decide) (by rfl) (pa_cons (pv 4) (pa_cons (pe_lc (own := [("spot", 8)]) (g := gName 8) rfl nd (pi_list (pv 3)) (blkOk_by (own := [("spot", 8)]) (N := n41) (sc := C8.fnScope (topS 41)) (by decide +kernel)) (fun _ _ _ _ _ => pg_name (i := 8) nd rfl (Or.inl rfl)) (fun _ _ _ _ _ => pts_nil) (fun _ _ _ _ _ => pe_ix (r := rIxT K) ix_tup (pv 1) (pv 8) (fun _ _ => rfl))) pa_nil))) (pe_tup (pa_cons (pe_lst pa_nil) (pa_cons pe_int pa_nil)))) (pg_tup (by rfl) (pgs_cons (pg_name (i := 5) nd rfl (.inl rfl)) (pgs_cons (pg_name (i := 6) nd rfl (.inl rfl)) pgs_nil))))
    (pss_cons (ps_set (i := 7) nd rfl (.inl rfl) (pe_op op_rep (pe_lst (pa_cons pe_int pa_nil)) (pe_callB call_len_seq (by rfl) T.b_len boot_len (pa_cons (pv 1) pa_nil))))
    (pss_cons (ps_for PassesOwn.never rfl (pi_zip (by rfl) T.b_zip (pa_cons (pv 3) (pa_cons (pv 5) pa_nil))) (pg_tup (by rfl) (pgs_cons (pg_name (i := 8) nd rfl (.inl rfl)) (pgs_cons (pg_name (i := 9) nd rfl (.inl rfl)) pgs_nil)))
      (pss_one (ps_asg (pe_op op_fdiv (pv 9) (pv 6)) (pg_sub (pv 7) (pv 8) set_list (fun _ => rfl)))))
    (pss_one (ps_ret (C8.pe_c (ok_after T) hr (by decide) (by rfl) (pa_cons (pv 0) (pa_cons (pv 1) (pa_cons (pv 7) pa_nil))))))))), ?_⟩
  refine s_unp (P := fun u B' => Dq B' u (.tuple [.list ((spots pl b).map fun i => .int ((i : Nat) : Int)), .list ((srow pl ts b).map rD)])) (ep_call2 (ep_var 0 rfl W stb_wb) stb_wb (ev_var 2 rfl) fun x y B' _ e1 e2 => ⟨pl, ts, x, b, by rw [e2], e1, rfl⟩) e fun sv B1 H1 g1 p1 => ?_
  obtain ⟨a1, x3, x4, rfl, ha1, p3, p4⟩ := dq_two p1
  refine ⟨a1, x3, x4, rfl, ha1, ?_⟩
  have hsl := spots_len (pl := pl) (b := b)
  have esp : (spots pl b).map (fun i => PyData.int ((i : Nat) : Int)) = ((spots pl b).map fun i => ((i : Nat) : Int)).map PyData.int := by rw [List.map_map]; rfl
  dsimp only [tSeq]
  refine s_unp (P := fun z B' => ∃ (tops : List Int) (b : Int), Dq B' z (.tuple [.list (tops.map .int), .int b]) ∧ tops.length ≤ 4 ∧ 0 < b ∧ b < 1073741824) (ep_if (b := decide (spots pl b ≠ [])) (et_test (ev_is (ev_neD (ed_is (ed_var 3 rfl p3) (congrArg PyData.list esp)) (ed_lst ea_nil (by decide)) (shaped_ints _) (by decide +kernel)) ?_)) (fun hne => ?_) (fun hne => ?_)) g1.s fun sv B2 H2 g2 ⟨tops, bt, p2, htl, hb0, hb1⟩ => ?_
  · rw [eqv_nilL]
    congr 1
    cases spots pl b <;> simp
  · have hne := of_decide_eq_true hne
    have hdl : ((spots pl b).map fun i => D (pl.getD i 0)).length = (spots pl b).length := List.length_map _
    refine (ep_call2 (pre := spSolved) (P := fun z B' => ∃ (tops : List Int) (bt : Int), Dq B' z (.tuple [.list (tops.map .int), .int bt]) ∧ tops.length = (spots pl b).length ∧ 0 < bt ∧ bt < 1073741824) (ed_var 4 rfl p4) (stb_dp _) (ed_is (e := .list (((spots pl b).map fun i => D (pl.getD i 0)).map .int)) (ed_lc (ei_list (xs := spots pl b) (φ := fun i => .int ((i : Nat) : Int)) (ed_var 3 rfl p3)) (fun _ => true) (fun i => .int (D (pl.getD i 0))) (by omega) fun i x B3 hi e3 hx => ⟨_, tg_name 8, rfl, et_yes, fun _ => ?_⟩) ?_) fun x y B' _ e1 e2 => ⟨srow pl ts b, _, x, y, (spots pl b).length, rfl, e1, e2, by rw [List.length_map], hdl, ?_, List.length_pos_iff.mpr hne, by omega, hS _ hdl, rfl⟩).imp fun z B' _ ⟨tops, bt, h1, h2, h3, h4⟩ => ⟨tops, bt, h1, by omega, h3, h4⟩
    · cases hx
      have hi' := List.getElem?_eq_getElem (spots_lt hi)
      have ei : pl.getD i 0 = pl[i]'(spots_lt hi) := by rw [List.getD_eq_getElem?_getD, hi']; rfl
      rw [ei]
      exact ed_ixT (ed_var 1 rfl (dp_ex (g1.b.trans e3) hu)) (ev_var 8 rfl) (at_map rfl hi')
    · rw [filter_id_len _ _ (fun _ _ => rfl), List.map_map]; rfl
    · intro r hr
      obtain ⟨i, _, rfl⟩ := List.mem_map.mp hr
      rw [List.length_map]
  · refine (ed_tup (ds := [.list ([].map .int), .int 1]) (ea_cons (ed_lst ea_nil (by decide)) (ea_cons (int_ed ev_c) ea_nil)) (by show 2 ≤ 100000; decide)).imp fun z B' _ h => ⟨[], 1, h, by decide, by decide, by decide⟩
  obtain ⟨a2, x5, x6, rfl, ha2, p5, p6⟩ := dq_two p2
  refine ⟨a2, x5, x6, rfl, ha2, ?_⟩
  cases p6
  dsimp only
  have few' : ((pl.map fun u => PyData.int (D u)).length : Int).toNat = pl.length := by rw [List.length_map]; omega
  refine s_setM (em_rep (ds := [.int 0]) (n := ((pl.length : Nat) : Int)) (ed_lst (ea_cons (int_ed ev_c) ea_nil) (by show 1 ≤ 100000; decide)) (ev_is (ev_lenT (ed_var 1 rfl (dp_ex (g1.b.trans g2.b) hu))) (by rw [List.length_map])) (by omega) (by omega) (by show 1 * _ ≤ 100000; omega)) g2.s fun l xs0 B3 H3 g3 h0 hb3 hl3 hd3 => ?_
  have e0 : (List.replicate ((pl.length : Nat) : Int).toNat [PyData.int 0]).flatten = (List.replicate pl.length (0 : Int)).map .int := by
    rw [Int.toNat_natCast, List.map_replicate]
    generalize pl.length = n
    induction n with
    | zero => rfl
    | succ n ih => rw [List.replicate_succ, List.flatten_cons, ih, List.replicate_succ]; rfl
  rw [e0] at hd3
  refine s_for (ei_zip (xs := spots pl b) (ys := tops) (φ := fun i => .int ((i : Nat) : Int)) (ψ := fun t => .int t) (ea_cons (ed_var 3 rfl (dp_ex (g2.b.trans g3.b) p3)) (ea_cons (ed_var 5 rfl (dp_ex g3.b p5)) ea_nil))) g3.s fun B4 H4 g4 => ⟨fun pre σ' B' H' => (∃ (y8 y9 : Option V) (gs : List Int) (xs : List V), σ' = [some v, some u, some (.str (sg b)), some x3, some x4, some x5, some (.int bt), some (.ref l), y8, y9] ∧ H' l = some (.lst xs) ∧ DqAll B' xs (gs.map .int) ∧ gs.length = pl.length) ∧ Gr B2 H2 B' H' ∧ Evl.Ex B4 B' ∧ B' l = none, ?_, fun _ _ _ _ h => ⟨h.2.2.1, h.2.1.s⟩, ?_, ?_⟩
  · obtain ⟨hb4, hl4⟩ := g4.off hb3 hl3
    exact ⟨⟨none, none, _, xs0, rfl, hl4, dpa_ex g4.b hd3, List.length_replicate⟩, g3.tr g4, Evl.Ex.refl _, hb4⟩
  · rintro pre ⟨i, t⟩ post hpre σ' B' H' ⟨⟨y8, y9, gs, xs, rfl, hl, hd, hgl⟩, g5, ex, hb⟩ z B6 H6 g6 ⟨Tb, w1, w2, rfl, hTb, k1, k2⟩
    cases k1
    cases k2
    have him : i ∈ spots pl b := (List.of_mem_zip (show (i, t) ∈ (spots pl b).zip tops by rw [hpre]; simp)).1
    obtain ⟨hb6, hl6⟩ := g6.off hb hl
    have hxl : xs.length = pl.length := by rw [dpa_len hd, List.length_map, hgl]
    have hil := spots_lt him
    refine tg_two 8 9 hTb H6 _ g6.s ?_
    refine s_setL (j := i) (P := fun v _ => v = .int (t / bt)) (ev_I (ev_var 9 rfl) (ev_var 6 rfl) ⟨hb0, hb1⟩) (ev_var 7 rfl) (ev_var 8 rfl) g6.s hl6 hb6 (by omega) (stb_eq _) fun nv B7 H7 g7 p7 hb7 hl7 => ?_
    subst p7
    refine ⟨B7, ⟨_, _, gs.set i (t / bt), _, rfl, upd_same, ?_, by rw [List.length_set, hgl]⟩, ((g5.tr g6).tr g7).mut h0 hb7, ex.trans (g6.b.trans g7.b), hb7⟩
    rw [List.map_set]
    exact dpa_set i (dpa_ex (g6.b.trans g7.b) hd) (.int _)
  · rintro σ' B' H' ⟨⟨y8, y9, gs, xs, rfl, hl, hd, hgl⟩, g5, ex, hb⟩
    obtain ⟨B5, g6, p6, _⟩ := g5.fin h0 hb hl hd
    obtain ⟨g, eg⟩ := ints_as W.op.nd hgl
    rw [eg] at p6
    have hB := (g1.tr g2).tr g6
    dsimp only
    refine s_ret (P := fun u B' => Dq B' u (hpT pl (aft pl ts D g))) (ep_call3 (ep_var 0 rfl (stb_wb _ _ _ hB.b W) stb_wb) stb_wb (ed_var 1 rfl (dp_ex hB.b hu)) (stb_dp _) (ed_var 7 rfl p6) fun x y z B' _ e1 e2 e3 => ⟨pl, ts, x, y, z, D, g, rfl, e1, e2, e3, rfl⟩) g6.s fun rv B7 H7 g7 p7 => q rv B7 H7 (hB.tr g7) ⟨g, p7⟩
end
end Kx

/-! KmLay -/
namespace Kx
open PySem L2
theorem btw_pos {ts : List (Nat × Nat)} {u v : Nat} : 0 < btw ts u v ↔ ∃ t ∈ ts, hit t u = true ∧ hit t v = true := by
  unfold btw
  rw [List.length_pos_iff_exists_mem]
  constructor
  · rintro ⟨t, ht⟩
    rw [List.mem_filter, Bool.and_eq_true] at ht
    exact ⟨t, ht.1, ht.2⟩
  · rintro ⟨t, h1, h2, h3⟩
    exact ⟨t, List.mem_filter.mpr ⟨h1, by rw [h2, h3]; rfl⟩⟩
theorem hit_iff {t : Nat × Nat} {p : Nat} : hit t p = true ↔ t.1 = p ∨ t.2 = p := by unfold hit; simp
/-- a tie leaves every proper part -/
theorem cross {pl : List Nat} {ts : List (Nat × Nat)} (hc : Conn pl ts) (hts : ∀ t ∈ ts, t.1 ∈ pl ∧ t.2 ∈ pl ∧ t.1 < t.2) {S : Nat → Bool} {a b : Nat} (ha : a ∈ pl) (hb : b ∈ pl) (sa : S a = true) (sb : S b = false) :
    ∃ p q, p ∈ pl ∧ q ∈ pl ∧ S p = false ∧ S q = true ∧ 0 < btw ts p q := by
  apply Classical.byContradiction
  intro hn
  have h1 : ∀ t ∈ ts, S t.1 = S t.2 := fun t ht => by
    obtain ⟨m1, m2, _⟩ := hts t ht
    cases e1 : S t.1 <;> cases e2 : S t.2
    · rfl
    · exact (hn ⟨t.1, t.2, m1, m2, e1, e2, btw_pos.mpr ⟨t, ht, hit_iff.mpr (.inl rfl), hit_iff.mpr (.inr rfl)⟩⟩).elim
    · exact (hn ⟨t.2, t.1, m2, m1, e2, e1, btw_pos.mpr ⟨t, ht, hit_iff.mpr (.inr rfl), hit_iff.mpr (.inl rfl)⟩⟩).elim
    · rfl
  have := hc S h1 a ha b hb
  rw [sa, sb] at this
  cases this
structure LInv (pl : List Nat) (ts : List (Nat × Nat)) (b : Nat) (I : List (List Nat)) (l : List Nat) : Prop where
  nd : (I ++ [l]).flatten.Nodup
  sub : ∀ p ∈ (I ++ [l]).flatten, p ∈ pl
  hd : (I ++ [l])[0]? = some [b]
  adj : ∀ i a c, (I ++ [l])[i]? = some a → (I ++ [l])[i + 1]? = some c → ∀ p ∈ c, ∃ q ∈ a, 0 < btw ts p q
  cl : ∀ a ∈ I, ∀ q ∈ a, ∀ p ∈ pl, 0 < btw ts p q → p ∈ (I ++ [l]).flatten
  ne : ∀ a ∈ I ++ [l], a ≠ []
/-- the next layer -/
def later (pl : List Nat) (ts : List (Nat × Nat)) (S l : List Nat) : List Nat := (pl.filter fun p => !decide (p ∈ S)).filter fun p => l.any fun q => decide (0 < btw ts p q)
theorem later_mem {pl : List Nat} {ts : List (Nat × Nat)} {S l : List Nat} {p : Nat} : p ∈ later pl ts S l ↔ p ∈ pl ∧ p ∉ S ∧ ∃ q ∈ l, 0 < btw ts p q := by
  unfold later
  rw [List.mem_filter, List.mem_filter, List.any_eq_true]
  simp only [Bool.not_eq_true', decide_eq_false_iff_not, decide_eq_true_eq]
  constructor
  · rintro ⟨⟨h1, h2⟩, h3⟩; exact ⟨h1, h2, h3⟩
  · rintro ⟨h1, h2, h3⟩; exact ⟨⟨h1, h2⟩, h3⟩
theorem linv0 {pl : List Nat} {ts : List (Nat × Nat)} {b : Nat} (hb : b ∈ pl) : LInv pl ts b [] [b] :=
  ⟨by simp, by simpa using hb, rfl, fun i a c h1 h2 => by simp at h2, fun a ha => (nomatch ha), fun a ha => by simp at ha; rw [ha]; simp⟩
theorem linv_step {pl : List Nat} {ts : List (Nat × Nat)} {b : Nat} {I : List (List Nat)} {l : List Nat} (h : LInv pl ts b I l) (hn : pl.Nodup) (hne : later pl ts (I ++ [l]).flatten l ≠ []) : LInv pl ts b (I ++ [l]) (later pl ts (I ++ [l]).flatten l) := by
  have fl : ((I ++ [l]) ++ [later pl ts (I ++ [l]).flatten l]).flatten = (I ++ [l]).flatten ++ later pl ts (I ++ [l]).flatten l := by simp
  refine ⟨?_, ?_, ?_, ?_, ?_, ?_⟩
  · rw [fl, List.nodup_append]
    refine ⟨h.nd, (hn.filter _).filter _, fun a ha c hc e => ?_⟩
    subst e
    exact (later_mem.mp hc).2.1 ha
  · rw [fl]
    intro p hp
    rcases List.mem_append.mp hp with hp | hp
    · exact h.sub p hp
    · exact (later_mem.mp hp).1
  · rw [List.getElem?_append_left (by simp)]; exact h.hd
  · intro i a c h1 h2 p hp
    by_cases hi : i + 1 < (I ++ [l]).length
    · rw [List.getElem?_append_left (by omega)] at h1
      rw [List.getElem?_append_left hi] at h2
      exact h.adj i a c h1 h2 p hp
    · have hi2 : i + 1 < ((I ++ [l]) ++ [later pl ts (I ++ [l]).flatten l]).length := (List.getElem?_eq_some_iff.mp h2).1
      rw [List.length_append] at hi2
      simp only [List.length_cons, List.length_nil] at hi2
      have e : i + 1 = (I ++ [l]).length := by omega
      rw [List.getElem?_append_left (by omega), List.getElem?_append_right (by rw [List.length_append] at e; simp at e; omega)] at h1
      rw [List.getElem?_append_right (by omega)] at h2
      have e3 : i - I.length = 0 := by rw [List.length_append] at e; simp at e; omega
      rw [e3] at h1
      rw [e, Nat.sub_self] at h2
      obtain rfl : l = a := Option.some.inj h1
      obtain rfl : later pl ts (I ++ [l]).flatten l = c := Option.some.inj h2
      exact (later_mem.mp hp).2.2
  · rw [fl]
    intro a ha q hq p hp hb
    rcases List.mem_append.mp ha with ha | ha
    · exact List.mem_append_left _ (h.cl a ha q hq p hp hb)
    · rw [List.mem_singleton] at ha
      subst ha
      by_cases hS : p ∈ (I ++ [a]).flatten
      · exact List.mem_append_left _ hS
      · exact List.mem_append_right _ (later_mem.mpr ⟨hp, hS, q, hq, hb⟩)
  · intro a ha
    rcases List.mem_append.mp ha with ha | ha
    · exact h.ne a ha
    · rw [List.mem_singleton] at ha; rw [ha]; exact hne
theorem linv_more {pl : List Nat} {ts : List (Nat × Nat)} {b : Nat} {I : List (List Nat)} {l : List Nat} (h : LInv pl ts b I l) (hc : Conn pl ts) (hts : ∀ t ∈ ts, t.1 ∈ pl ∧ t.2 ∈ pl ∧ t.1 < t.2) (hb : b ∈ pl) {z : Nat} (hz : z ∈ pl) (hz2 : z ∉ (I ++ [l]).flatten) : later pl ts (I ++ [l]).flatten l ≠ [] := by
  have hbS : b ∈ (I ++ [l]).flatten := by
    have := List.mem_of_getElem? h.hd
    exact List.mem_flatten.mpr ⟨[b], this, by simp⟩
  obtain ⟨p, q, hp, hq, sp, sq, hpq⟩ := cross hc hts (S := fun x => decide (x ∈ (I ++ [l]).flatten)) hb hz (decide_eq_true hbS) (decide_eq_false hz2)
  have sp := of_decide_eq_false sp
  have sq := of_decide_eq_true sq
  obtain ⟨a, ha, hqa⟩ := List.mem_flatten.mp sq
  rcases List.mem_append.mp ha with ha | ha
  · exact (sp (h.cl a ha q hqa p hp hpq)).elim
  · rw [List.mem_singleton] at ha
    subst ha
    intro e
    have : p ∈ later pl ts (I ++ [a]).flatten a := later_mem.mpr ⟨hp, sp, q, hqa, hpq⟩
    rw [e] at this
    cases this
theorem nodup_sub_len : ∀ {l m : List Nat}, l.Nodup → (∀ x ∈ l, x ∈ m) → l.length ≤ m.length
  | [], _, _, _ => Nat.zero_le _
  | a :: r, m, h1, h2 => by
    have ha : a ∈ m := h2 a List.mem_cons_self
    obtain ⟨n1, n2⟩ := List.nodup_cons.mp h1
    have := nodup_sub_len (m := m.erase a) n2 fun x hx => (List.mem_erase_of_ne (fun (e : x = a) => n1 (by rw [← e]; exact hx))).mpr (h2 x (List.mem_cons_of_mem _ hx))
    rw [List.length_erase_of_mem ha] at this
    have hp : 0 < m.length := List.length_pos_of_mem ha
    rw [List.length_cons]; omega
theorem nodup_full {l m : List Nat} (h1 : l.Nodup) (h2 : ∀ x ∈ l, x ∈ m) (h3 : m.length ≤ l.length) : ∀ x ∈ m, x ∈ l := fun x hx => by
  apply Classical.byContradiction
  intro hn
  have := nodup_sub_len (l := x :: l) (m := m) (List.nodup_cons.mpr ⟨hn, h1⟩) fun y hy => by
    rcases List.mem_cons.mp hy with e | e
    · exact e ▸ hx
    · exact h2 y e
  rw [List.length_cons] at this
  omega
structure Lay (pl : List Nat) (ts : List (Nat × Nat)) (b : Nat) (L : List (List Nat)) : Prop where
  nd : L.flatten.Nodup
  sub : ∀ p ∈ L.flatten, p ∈ pl
  all : ∀ p ∈ pl, p ∈ L.flatten
  hd : L[0]? = some [b]
  adj : ∀ i a c, L[i]? = some a → L[i + 1]? = some c → ∀ p ∈ c, ∃ q ∈ a, 0 < btw ts p q
  ne : ∀ a ∈ L, a ≠ []
end Kx

/-! Ka10 -/
namespace Kx
open PySem PySem.Spec PyProof.Rows L2
section
variable {σ : L2.St} {B B' H H' : Hp} {ta tb tc te tx tl : TE} {x y : V} {D : Ends} {K : PySem.W.Frag}
theorem s_while {tt : TT} {tb : TS} (I : Nat → L2.St → Hp → Hp → Prop) {m : Nat} (h0 : I m σ B H)
    (turn : ∀ m σ' B' H', I m σ' B' H' → Sub B' H' ∧ ∃ b, EpT tt σ' B' b ∧ (b = true → ∀ B1 H1, Gr B' H' B1 H1 → tb { D with nx := fun σ5 H5 => ∃ m' B5, m' < m ∧ I m' σ5 B5 H5, ct := fun σ5 H5 => ∃ m' B5, m' < m ∧ I m' σ5 B5 H5, bk := D.nx } σ' H1) ∧ (b = false → ∀ B1 H1, Gr B' H' B1 H1 → D.nx σ' H1)) : tWhile tt tb D σ H := by
  refine ⟨fun m σ' H' => ∃ B', I m σ' B' H', ⟨m, B, h0⟩, ?_⟩
  rintro m σ' H' ⟨B', hI⟩
  obtain ⟨e, b, ht, h1, h2⟩ := turn m σ' B' H' hI
  refine ht B' H' (Evl.Ex.refl _) e _ fun B1 H1 g => ?_
  cases b with
  | true =>
    rw [if_pos rfl]
    exact ⟨_, fun σ5 H5 ⟨m', B5, k1, k2⟩ => ⟨m', k1, B5, k2⟩, h1 rfl B1 H1 g⟩
  | false =>
    rw [if_neg (by decide)]
    exact h2 rfl B1 H1 g
/-- a, b = new list, value -/
theorem s_asg2M {ds : List PyData} {i j : Nat} (h : EpM te σ B ds) (h2 : Ev tb σ B x) (e : Sub B H) (k : ∀ l xs B' H', Gr B H B' H' → H l = none → B' l = none → H' l = some (.lst xs) → DqAll B' xs ds → D.nx ((σ.set i (some (.ref l))).set j (some x)) H') :
    tAsg (tTup (tCons te (tCons tb tNil))) (gTup K 2 (gCons (gName i) (gCons (gName j) gNil))) D σ H :=
  h B H (Evl.Ex.refl _) e _ fun l xs B1 H1 g1 h0 hb1 hl1 hd1 => h2 B1 H1 g1.b g1.s _ fun v2 B3 H3 g3 p2 => by
    subst p2
    obtain ⟨hb3, hl3⟩ := g3.off hb1 hl1
    refine ⟨Evl.sz_of (show 2 ≤ 100000 by decide), fun c hc => ?_⟩
    have g4 := Gr.newM (o := .tup [.ref l, v2]) g3.s hc
    obtain ⟨hb4, hl4⟩ := g4.off hb3 hl3
    exact ⟨c, _, rfl, SqT.of upd_same, rfl, _, _, rfl, _, _, rfl, rfl, k l xs B3 _ ((g1.tr g3).tr g4) h0 hb4 hl4 (dpa_ex g3.b hd1)⟩
end
section
variable {P : Program} {w : World} {K : PySem.W.Frag} {mg : Str → Option Value} {base : Heap} {C : Addr}
theorem sx_app (a b : List Nat) : Sx a ++ Sx b = Sx (a ++ b) := by
  apply TL.ext_tl
  rw [TL.tl_append]
theorem sgs_as (l : List Nat) : l.map (fun c => PyData.str (sg c)) = (l.map fun c => [c]).map (fun l => .str (Sx l)) := by rw [List.map_map]; rfl
abbrev layD (L : List (List Nat)) : List PyData := L.map fun l => .list (l.map fun c => .str (sg c))
def spLayers (C : Addr) : PrT := fun vs B R => ∃ pl ts v b, vs = [v, .str (sg b)] ∧ Wc C B v pl ts ∧ b ∈ pl ∧ R = fun u B' => ∃ L, Dq B' u (.list (layD L)) ∧ Lay pl ts b L
abbrev n42 : List Str := ["web", "bank", "found", "seen", "some", "later", "place", "own"]
theorem sc_layers_from : FnScope n42 ["web", "bank"] (C8.fnScope (topS 42)) := C8.fnScope_by (by decide +kernel)
theorem ok_layers_from (T : Tx K mg C) : C8.Cal P w K mg base 2 "layers_from" (Pr (spLayers C)) [] := by
  refine mk_cal T.layers_from sc_layers_from (by rintro vs B R ⟨pl, ts, v, b, rfl, _⟩; rfl) fun f cdv A outer s H vs Q E B R hr e h q => ?_
  obtain ⟨pl, ts, v, b, rfl, W, hb, rfl⟩ := h
  have nd := sc_layers_from.nd
  have few := W.op.few
  refine ⟨_, pss_cons (ps_asg (pe_tup (pa_cons (pe_lst (pa_cons (pe_lst (pa_cons (pv 1) pa_nil)) pa_nil)) (pa_cons (pv 1) pa_nil))) (pg_tup (by rfl) (pgs_cons (pg_name (i := 2) nd rfl (.inr rfl)) (pgs_cons (pg_name (i := 3) nd rfl (.inr rfl)) pgs_nil))))
    (pss_cons (ps_while PassesOwn.never (pt_cmpR op_lt (pe_callB call_len_str (by rfl) T.b_len boot_len (pa_cons (pv 3) pa_nil)) (pe_callB call_len_str (by rfl) T.b_len boot_len (pa_cons (pe_fld (pv 0) (by rfl)) pa_nil)) (nomark _))
      (pss_cons (ps_setLc (own := [("place", 6)]) (g := gName 6) (i := 4) rfl nd rfl rfl (by rfl) (pi_str (pe_fld (pv 0) (by rfl))) (blkOk_by (own := [("place", 6)]) (N := n42) (sc := C8.fnScope (topS 42)) (by decide +kernel)) (fun _ _ _ _ _ => pg_name (i := 6) nd rfl (Or.inl rfl)) (fun _ _ _ _ _ => pts_one (pt_cmpR op_notIn_sign (pv 6) (pv 3) (by rfl))) (fun _ _ _ _ _ => pv 6))
      (pss_cons (ps_setLc (own := [("place", 6)]) (g := gName 6) (i := 5) rfl nd rfl rfl (by rfl) (pi_list (pv 4)) (blkOk_by (own := [("place", 6)]) (N := n42) (sc := C8.fnScope (topS 42)) (by decide +kernel)) (fun _ _ _ _ _ => pg_name (i := 6) nd rfl (Or.inr rfl)) (fun _ _ _ _ _ => pts_one (pt_val (pe_callB (r := rAny K) (cr_any rfl) (by rfl) T.b_any PyProof.Rows.boot_any (pa_cons (pe_lc (own := [("own", 7)]) (wi := iList K (tOp (rIxL K) (tVar 2) (tUn (rU fun i => .int (-i)) (tC (.int 1))))) (g := gName 7) (tt := tYes) rfl nd (pi_list (pe_ix (r := rIxL K) ix_list (pv 2) (pe_un un_neg pe_int) (fun _ _ => rfl))) (blkOk_by (own := [("own", 7)]) (by rfl)) (fun _ _ _ _ _ => pg_name (i := 7) nd rfl (Or.inl rfl)) (fun _ _ _ _ _ => pts_nil)
          (fun _ _ _ _ _ => pe_cmpR op_gt (C8.pe_c (ok_between T) hr (by decide) (by rfl) (pa_cons (pv 0) (pa_cons (pv 6) (pa_cons (pv 7) pa_nil)))) pe_int (nomark _))) pa_nil)))) (fun _ _ _ _ _ => pv 6))
      (pss_cons (ps_expr (pe_bm PySem.F.plainAttrs_list PySem.F.slot_list_append PySem.F.type_list_append mt_append (pv 2) (pa_cons (pv 5) pa_nil)))
      (pss_one (ps_set (i := 3) nd rfl (.inr rfl) (pe_op op_add_str (pv 3) (pe_join pe_str (pv 5)))))))))
    (pss_one (ps_ret (pv 2)))), ?_⟩
  refine s_asg2M (x := .str (sg b)) (em_lst (ea_cons (d := .list [.str (sg b)]) (ed_lst (ea_cons (str_ed (ev_var 1 rfl)) ea_nil) (by show 1 ≤ 100000; decide)) ea_nil) (by show 1 ≤ 100000; decide)) (ev_var 1 rfl) e fun l xs0 B1 H1 g1 h0 hb1 hl1 hd1 => ?_
  refine s_while (B := B1) (m := pl.length - 1) (fun m σ' B' H' => ∃ (x4 x5 : Option V) (I : List (List Nat)) (la : List Nat) (xs : List V), σ' = [some v, some (.str (sg b)), some (.ref l), some (.str (Sx (I ++ [la]).flatten)), x4, x5, none, none] ∧ H' l = some (.lst xs) ∧ DqAll B' xs (layD (I ++ [la])) ∧ LInv pl ts b I la ∧ Gr B H B' H' ∧ B' l = none ∧ m = pl.length - (I ++ [la]).flatten.length) ⟨none, none, [], [b], xs0, rfl, hl1, hd1, linv0 hb, g1, hb1, rfl⟩ ?_
  rintro m σ' B' H' ⟨x4, x5, I, la, xs, rfl, hl, hd, hI, g2, hb2, rfl⟩
  have hSl := nodup_sub_len hI.nd hI.sub
  have W2 := W.mono g2.b
  refine ⟨g2.s, decide ((I ++ [la]).flatten.length < pl.length), ?_, fun hlt B3 H3 g3 => ?_, fun hlt B3 H3 g3 => ?_⟩
  · refine et_test (ev_is (ev_I0 (ev_lenS (ev_var 3 rfl) (by rw [sx_len]; omega)) (ev_lenS (ev_places T.web (ep_var 0 rfl W2.wa stb_web)) (by rw [sx_len]; omega))) ?_)
    rw [sx_len, sx_len]
    congr 1
    rw [decide_eq_decide]; omega
  · have hlt := of_decide_eq_true hlt
    obtain ⟨z, hz, hz2⟩ : ∃ z ∈ pl, z ∉ (I ++ [la]).flatten := by
      apply Classical.byContradiction
      intro hn
      have := nodup_sub_len (l := pl) (m := (I ++ [la]).flatten) W.op.nd fun x hx => Classical.byContradiction fun h => hn ⟨x, hx, h⟩
      omega
    have hmore := linv_more hI W.cn W.ot.mem hb hz hz2
    generalize hS : (I ++ [la]).flatten = S at *
    have W3 := W2.mono g3.b
    dsimp only [tSeq]
    refine s_set (ed_lc (ei_str (ev_places T.web (ep_var 0 rfl W3.wa stb_web))) (fun c => !decide (c ∈ S)) (fun c => .str (sg c)) (by rw [sx_toList]; omega) fun c x B4 hc e4 hx => ⟨_, tg_name 6, rfl, et_test (ev_is (ev_notInSign (c := c) (ev_var 6 (by rw [hx]; rfl)) (ev_var 3 rfl)) (by rw [sx_toList])), fun _ => by subst hx; exact str_ed (ev_var 6 rfl)⟩) g3.s fun sv B4 H4 g4 p4 => ?_
    rw [sx_toList] at p4
    have hfl : (pl.filter fun c => !decide (c ∈ S)).length ≤ pl.length := List.length_filter_le _ _
    obtain ⟨hb4, hl4⟩ := (g3.tr g4).off hb2 hl
    have hd4 := dpa_ex (g3.tr g4).b hd
    have W4 := W3.mono g4.b
    have hlal : la.length ≤ 4 := by
      have h1 : la.length ≤ S.length := by rw [← hS]; simp
      omega
    refine s_setD (u := .lst xs) (d := .list ((later pl ts S la).map fun c => .str (sg c))) (ed_lc (ei_list (xs := pl.filter fun c => !decide (c ∈ S)) (φ := fun c => .str (sg c)) (ed_var 4 rfl (dp_ex (Evl.Ex.new hb4) p4))) (fun p => la.any fun q => decide (0 < btw ts p q)) (fun c => .str (sg c)) (by omega) fun c x B5 hc e5 hx => ?_) g4.s hl4 hb4 fun lv B5 H5 g5 p5 hb5 hl5 => ?_
    · cases hx
      have W5 := W4.mono ((Evl.Ex.new hb4).trans e5)
      refine ⟨_, tg_name 6, rfl, et_B (ev_is (ev_anyL (bs := la.map fun q => decide (0 < btw ts c q)) (ed_is (ed_lc (ei_list (xs := la) (φ := fun c => .str (sg c)) (ed_ixW (e5 _ _ upd_same) (dpa_ex ((Evl.Ex.new hb4).trans e5) hd4) (ev_var 2 rfl) (ev_un (g := fun i => .int (-i)) (i := 1) ev_c) ?_)) (fun _ => true) (fun q => .bool (decide (0 < btw ts c q))) (by omega) fun q' x B6 hq e6 hx6 => ⟨_, tg_name 7, rfl, et_yes, fun _ => ?_⟩) ?_)) ?_), fun _ => str_ed (ev_var 6 rfl)⟩
      · show atI (layD (I ++ [la])) (-1) = _
        unfold layD
        rw [List.map_append]
        exact atI_last _ _
      · cases hx6
        refine bl_ed (ev_is (ev_I0 (ep_call3 (ep_var 0 rfl (W5.mono e6) stb_wc) stb_wc (ev_var 6 rfl) (stb_eq _) (ev_var 7 rfl) fun x y z B' _ e1 e2 e3 => ⟨pl, ts, x, c, q', by rw [e2, e3], e1.wb, rfl⟩) ev_c) ?_)
        congr 1
        rw [decide_eq_decide]; omega
      · rw [filter_id_len _ _ (fun _ _ => rfl), List.map_map]; rfl
      · rw [List.any_map]; rfl
    have hlx : xs.length ≤ 4 := by
      have h1 : xs.length = (I ++ [la]).length := by rw [dpa_len hd]; simp [layD]
      have h2 : ∀ (L : List (List Nat)), (∀ a ∈ L, a ≠ []) → L.length ≤ L.flatten.length := len_flat
      have := h2 _ hI.ne
      rw [hS] at this
      omega
    refine s_app (ev_var 2 rfl) (ed_var 5 rfl p5) g5.s hl5 hb5 (by omega) fun u B6 H6 g6 p6 hb6 hl6 => ?_
    have gA := ((g2.tr g3).tr ((g4.tr g5).tr g6)).mut (o := .lst (xs ++ [u])) h0 hb6
    have hll : (later pl ts S la).length ≤ pl.length := Nat.le_trans (List.length_filter_le _ _) hfl
    dsimp only
    refine s_set (ev_addS (ev_var 3 rfl) (ed_join (ys := (later pl ts S la).map fun c => [c]) (zl := later pl ts S la) (ed_is (ed_var 5 rfl (dp_ex g6.b p5)) (congrArg PyData.list (sgs_as _))) ?_ (by rw [flat_single])) ?_) gA.s fun nv B7 H7 g7 p7 => ?_
    · rw [flat_len, flat_single]; omega
    · rw [sx_len, sx_len]; omega
    subst p7
    have hl7 : H7 l = some (.lst (xs ++ [u])) := g7.h _ _ upd_same
    have hb7 : B7 l = none := g7.n l hb6 (by rw [upd_same]; exact fun z => nomatch z)
    have hst := linv_step hI W.op.nd (by rw [hS]; exact hmore)
    rw [hS] at hst
    have hfl2 : ((I ++ [la]) ++ [later pl ts S la]).flatten = S ++ later pl ts S la := by rw [List.flatten_append, hS]; simp
    have hpos : 0 < (later pl ts S la).length := List.length_pos_iff.mpr hmore
    refine ⟨pl.length - ((I ++ [la]) ++ [later pl ts S la]).flatten.length, B7, ?_, some sv, some lv, I ++ [la], later pl ts S la, xs ++ [u], ?_, hl7, ?_, hst, gA.tr g7, hb7, rfl⟩
    · rw [hfl2, List.length_append]; omega
    · rw [hfl2, ← sx_app]; rfl
    · unfold layD
      rw [List.map_append]
      exact dpa_app (dpa_ex (((g4.b.trans g5.b).trans g6.b).trans g7.b) (dpa_ex g3.b hd)) (dpa_one' (dp_ex g7.b p6))
  · have hlt := of_decide_eq_false hlt
    obtain ⟨hb3, hl3⟩ := g3.off hb2 hl
    obtain ⟨B5, g5, p5, _⟩ := (g2.tr g3).fin h0 hb3 hl3 (dpa_ex g3.b hd)
    dsimp only
    refine s_ret (ed_var 2 rfl p5) g5.s fun rv B6 H6 g6 p6 => q rv B6 H6 (g5.tr g6) ⟨I ++ [la], p6, hI.nd, hI.sub, nodup_full hI.nd hI.sub (by omega), hI.hd, hI.adj, hI.ne⟩
end
end Kx

/-! KmLift -/
namespace Kx
open PySem L2
theorem sum_nonneg {α : Type} {l : List α} {f : α → Int} (h : ∀ a ∈ l, 0 ≤ f a) : 0 ≤ (l.map f).sum := by
  induction l with
  | nil => simp
  | cons a r ih =>
    rw [List.map_cons, List.sum_cons]
    have h1 := h a List.mem_cons_self
    have h2 := ih fun b hb => h b (List.mem_cons_of_mem _ hb)
    omega
theorem sum_ge {α : Type} {l : List α} {f : α → Int} (h : ∀ a ∈ l, 0 ≤ f a) {q : α} (hq : q ∈ l) : f q ≤ (l.map f).sum := by
  induction l with
  | nil => cases hq
  | cons a r ih =>
    rw [List.map_cons, List.sum_cons]
    have h1 := h a List.mem_cons_self
    have h2 := sum_nonneg fun b hb => h b (List.mem_cons_of_mem _ hb)
    rcases List.mem_cons.mp hq with e | hq
    · subst e; omega
    · have := ih (fun b hb => h b (List.mem_cons_of_mem _ hb)) hq
      omega
theorem sum_congr {α : Type} {l : List α} {f g : α → Int} (h : ∀ a ∈ l, f a = g a) : (l.map f).sum = (l.map g).sum := by rw [List.map_congr_left h]
theorem sum_add {α : Type} (l : List α) (f g : α → Int) : (l.map fun a => f a + g a).sum = (l.map f).sum + (l.map g).sum := by
  induction l with
  | nil => rfl
  | cons a r ih => simp only [List.map_cons, List.sum_cons, ih]; omega
theorem sum_mul {α : Type} (l : List α) (c : Int) (f : α → Int) : (l.map fun a => c * f a).sum = c * (l.map f).sum := by
  induction l with
  | nil => simp
  | cons a r ih => simp only [List.map_cons, List.sum_cons, ih, Int.mul_add]
theorem sum_zero {α : Type} {l : List α} {f : α → Int} (h : ∀ a ∈ l, f a = 0) : (l.map f).sum = 0 := by
  induction l with
  | nil => rfl
  | cons a r ih => rw [List.map_cons, List.sum_cons, h a List.mem_cons_self, ih fun b hb => h b (List.mem_cons_of_mem _ hb)]; rfl
theorem btw_comm (ts : List (Nat × Nat)) (u v : Nat) : btw ts u v = btw ts v u := by
  unfold btw
  congr 2
  funext t
  exact Bool.and_comm _ _
theorem gr_ne {ts : List (Nat × Nat)} {p o : Nat} (h : o ≠ p) : gr ts p o = ((btw ts p o : Nat) : Int) := if_neg h
theorem gr_comm (ts : List (Nat × Nat)) (u v : Nat) : gr ts u v = gr ts v u := by
  by_cases h : u = v
  · rw [h]
  · rw [gr_ne h, gr_ne (Ne.symm h), btw_comm]
/-- one heap comes from another by gifts -/
def Alike (pl : List Nat) (ts : List (Nat × Nat)) (D E : Nat → Int) : Prop := ∃ g, ∀ u ∈ pl, E u = aft pl ts D g u
theorem alike_refl (pl : List Nat) (ts : List (Nat × Nat)) (D : Nat → Int) : Alike pl ts D D := ⟨fun _ => 0, fun u _ => by
  unfold aft
  rw [sum_zero fun a _ => Int.zero_mul _, Int.add_zero]⟩
theorem alike_trans {pl : List Nat} {ts : List (Nat × Nat)} {D E F : Nat → Int} (h1 : Alike pl ts D E) (h2 : Alike pl ts E F) : Alike pl ts D F := by
  obtain ⟨g, hg⟩ := h1
  obtain ⟨k, hk⟩ := h2
  refine ⟨fun u => g u + k u, fun u hu => ?_⟩
  rw [hk u hu]
  unfold aft
  rw [hg u hu]
  unfold aft
  have : (pl.map fun p => (g p + k p) * gr ts p u) = pl.map fun p => g p * gr ts p u + k p * gr ts p u := List.map_congr_left fun p _ => Int.add_mul _ _ _
  rw [this, sum_add]
  omega
theorem alike_symm {pl : List Nat} {ts : List (Nat × Nat)} {D E : Nat → Int} (h1 : Alike pl ts D E) : Alike pl ts E D := by
  obtain ⟨g, hg⟩ := h1
  refine ⟨fun u => -1 * g u, fun u hu => ?_⟩
  unfold aft
  rw [hg u hu]
  unfold aft
  have : (pl.map fun p => (-1 * g p) * gr ts p u) = pl.map fun p => -1 * (g p * gr ts p u) := List.map_congr_left fun p _ => Int.mul_assoc _ _ _
  rw [this, sum_mul]
  omega
/-- gifts of some places, each as often -/
def some' (G : List Nat) (m : Int) (u : Nat) : Int := if u ∈ G then m else 0
theorem lift_step {pl : List Nat} {ts : List (Nat × Nat)} {b : Nat} {L : List (List Nat)} (hL : Lay pl ts b L) {D : Nat → Int} {d : Nat} (hd0 : 0 < d) {a : List Nat} (ha : L[d]? = some a) {m : Int} (hm : 0 ≤ m) (hm2 : ∀ p ∈ a, -(D p) ≤ m) :
    (∀ u ∈ pl, u ∉ (L.take d).flatten → D u ≤ aft pl ts D (some' (L.take d).flatten m) u) ∧ ∀ u ∈ a, 0 ≤ aft pl ts D (some' (L.take d).flatten m) u := by
  have nn : ∀ u, u ∉ (L.take d).flatten → ∀ p ∈ pl, 0 ≤ some' (L.take d).flatten m p * gr ts p u := fun u hu p hp => by
    unfold some'
    split
    · rename_i hpG
      have : u ≠ p := fun z => hu (z ▸ hpG)
      rw [gr_ne this]
      exact Int.mul_nonneg hm (Int.natCast_nonneg _)
    · rw [Int.zero_mul]; exact Int.le_refl _
  refine ⟨fun u hu hG => ?_, fun u hu => ?_⟩
  · unfold aft
    have := sum_nonneg (nn u hG)
    omega
  · have hdl : d < L.length := (List.getElem?_eq_some_iff.mp ha).1
    have hG : u ∉ (L.take d).flatten := fun z => by
      have h1 : L = L.take d ++ a :: L.drop (d + 1) := by
        have := List.getElem?_eq_some_iff.mp ha
        rw [← this.2, ← List.drop_eq_getElem_cons, List.take_append_drop]
      have h2 := hL.nd
      rw [h1, List.flatten_append, List.flatten_cons] at h2
      exact (List.nodup_append.mp h2).2.2 u z u (List.mem_append_left _ hu) rfl
    have hprev : L[d - 1]? = some (L[d - 1]'(by omega)) := List.getElem?_eq_getElem _
    obtain ⟨q, hq, hbq⟩ := hL.adj (d - 1) _ a hprev (by rw [Nat.sub_add_cancel hd0]; exact ha) u hu
    have hqG : q ∈ (L.take d).flatten := List.mem_flatten.mpr ⟨_, List.mem_of_getElem? (i := d - 1) (by rw [List.getElem?_take, if_pos (by omega)]; exact hprev), hq⟩
    have hqp : q ∈ pl := hL.sub q (List.mem_flatten.mpr ⟨_, List.mem_of_getElem? hprev, hq⟩)
    have hge := sum_ge (nn u hG) hqp
    have huq : u ≠ q := fun z => hG (z ▸ hqG)
    have h4 : m ≤ some' (L.take d).flatten m q * gr ts q u := by
      unfold some'
      rw [if_pos hqG, gr_ne huq, btw_comm]
      have : (1 : Int) ≤ ((btw ts u q : Nat) : Int) := by omega
      calc m = m * 1 := (Int.mul_one m).symm
        _ ≤ _ := Int.mul_le_mul_of_nonneg_left this hm
    have := hm2 u hu
    unfold aft
    omega
end Kx

/-! Ka11 -/
namespace Kx
open PySem PySem.Spec PyProof.Rows L2
section
variable {σ : L2.St} {B B' H H' : Hp} {te : TE} {K : PySem.W.Frag} {α β : Type}
/-- a comprehension of two for -/
theorem ed_lc2 {xs : List α} {ys : α → List β} {Iy : α → V → Hp → Prop} {Iz : β → V → Hp → Prop} {wi wi1 : TI} {g g1 : TG} {vs vs1 : List Nat} (hi : EpI wi σ B xs Iy) (r : β → PyData) (hn : (xs.map ys).flatten.length ≤ 90000)
    (turn : ∀ a x B1, a ∈ xs → Evl.Ex B B1 → Iy a x B1 → ∃ σ2, (∀ H1 (Q : L2.St → Hp → Prop), Sub B1 H1 → Q σ2 H1 → g x (wipe σ vs) H1 Q) ∧ wipe σ2 vs = wipe σ vs ∧ EpI wi1 σ2 B1 (ys a) Iz ∧
      ∀ c z B2, c ∈ ys a → Evl.Ex B1 B2 → Iz c z B2 → ∃ σ3, (∀ H1 (Q : L2.St → Hp → Prop), Sub B2 H1 → Q σ3 H1 → g1 z (wipe σ2 vs1) H1 Q) ∧ wipe σ3 vs1 = wipe σ2 vs1 ∧ Ed te σ3 B2 (r c)) :
    Ed (tLc2 wi g tYes wi1 g1 tYes te vs vs1) σ B (.list ((xs.map ys).flatten.map r)) := fun B1 H1 a b Q q =>
  hi B1 H1 a b _ fun J B2 H2 g2 wk D hD => by
    refine ⟨fun i m H => m = xs.length - i ∧ i ≤ xs.length ∧ ∃ B3 acc, Gr B2 H2 B3 H ∧ B3 D = none ∧ H D = some (.lst acc) ∧ DqAll B3 acc ((((xs.take i).map ys).flatten).map r), ⟨xs.length, by simp, Nat.zero_le _, B2, [], Gr.more g2.s (Evl.Ex.new hD), sub_back g2.s hD, upd_same, .nil⟩, ?_⟩
    rintro i m H ⟨rfl, hil, B3, acc, g3, hB3, hDH, hacc⟩
    by_cases hlt : i < xs.length
    · refine .inr ⟨wk.goes i H hlt (g3.b.su g3.s), fun H => i + 1 ≤ xs.length ∧ ∃ B3 acc, Gr B2 H2 B3 H ∧ B3 D = none ∧ H D = some (.lst acc) ∧ DqAll B3 acc ((((xs.take (i + 1)).map ys).flatten).map r), fun H' p' => ⟨xs.length - (i + 1), by omega, rfl, p'⟩, fun x H' y => ?_⟩
      have hxi : xs[i]? = some xs[i] := List.getElem?_eq_getElem hlt
      obtain ⟨B4, g4, hI⟩ := wk.yields i xs[i] B3 H x H' hxi g3.b g3.s y
      obtain ⟨hB4, hD4⟩ := g4.off hB3 hDH
      obtain ⟨σ2, k1, k2, k3, k4⟩ := turn xs[i] x B4 (List.getElem_mem hlt) (a.trans (g2.b.trans (g3.b.trans g4.b))) hI
      refine k1 H' _ g4.s ⟨k2, ?_⟩
      dsimp only [tYes]
      rw [if_pos rfl]
      refine k3 B4 H' (Evl.Ex.refl _) g4.s _ fun J1 B5 H5 g5 wk1 => ?_
      obtain ⟨hB5, hD5⟩ := g5.off hB4 hD4
      have etake : ((xs.take (i + 1)).map ys).flatten = ((xs.take i).map ys).flatten ++ ys xs[i] := by
        rw [List.take_add_one, hxi, List.map_append, List.flatten_append]; simp
      have hlen : ∀ j, j < (ys xs[i]).length → ((xs.take i).map ys).flatten.length + j < 90000 := fun j hj => by
        have h1 : ((xs.take (i + 1)).map ys).flatten.length ≤ ((xs.map ys).flatten).length := by
          have : xs = xs.take (i + 1) ++ xs.drop (i + 1) := (List.take_append_drop _ _).symm
          conv => rhs; rw [this]
          rw [List.map_append, List.flatten_append, List.length_append]; omega
        rw [etake, List.length_append] at h1
        omega
      refine ⟨fun j k H => k = (ys xs[i]).length - j ∧ j ≤ (ys xs[i]).length ∧ ∃ B6 acc, Gr B2 H2 B6 H ∧ Evl.Ex B5 B6 ∧ B6 D = none ∧ H D = some (.lst acc) ∧ DqAll B6 acc ((((xs.take i).map ys).flatten ++ (ys xs[i]).take j).map r), ⟨(ys xs[i]).length, by simp, Nat.zero_le _, B5, acc, (g3.tr g4).tr g5, Evl.Ex.refl _, hB5, hD5, by rw [List.take_zero, List.append_nil]; exact dpa_ex (g4.b.trans g5.b) hacc⟩, ?_⟩
      rintro j k H ⟨rfl, hjl, B6, acc, g6, e6, hB6, hD6, hacc6⟩
      by_cases hjt : j < (ys xs[i]).length
      · refine .inr ⟨wk1.goes j H hjt (e6.su g6.s), fun H => j + 1 ≤ (ys xs[i]).length ∧ ∃ B6 acc, Gr B2 H2 B6 H ∧ Evl.Ex B5 B6 ∧ B6 D = none ∧ H D = some (.lst acc) ∧ DqAll B6 acc ((((xs.take i).map ys).flatten ++ (ys xs[i]).take (j + 1)).map r), fun H' p' => ⟨(ys xs[i]).length - (j + 1), by omega, rfl, p'⟩, fun z H' y => ?_⟩
        have hyj : (ys xs[i])[j]? = some (ys xs[i])[j] := List.getElem?_eq_getElem hjt
        obtain ⟨B7, g7, hI7⟩ := wk1.yields j _ B6 H z H' hyj e6 g6.s y
        obtain ⟨hB7, hD7⟩ := g7.off hB6 hD6
        obtain ⟨σ3, m1, m2, m3⟩ := k4 _ z B7 (List.getElem_mem hjt) ((g5.b.trans e6).trans g7.b) hI7
        refine m1 H' _ g7.s ⟨m2, ?_⟩
        dsimp only
        rw [if_pos rfl]
        refine m3 B7 H' (Evl.Ex.refl _) g7.s _ fun w B8 H8 g8 hw => ?_
        obtain ⟨hB8, hD8⟩ := g8.off hB7 hD7
        have hal : acc.length = ((xs.take i).map ys).flatten.length + j := by
          rw [dpa_len hacc6, List.length_map, List.length_append, List.length_take, Nat.min_eq_left hjl]
        have hl9 := hlen j hjt
        refine ⟨acc, hD8, Evl.sz_lt (by omega), hjt, B8, _, ((g6.tr g7).tr g8).mut hD hB8, (e6.trans g7.b).trans g8.b, hB8, upd_same, ?_⟩
        rw [List.take_add_one, hyj, ← List.append_assoc, List.map_append]
        exact dpa_app (dpa_ex (g7.b.trans g8.b) hacc6) (.cons hw .nil)
      · have ej : j = (ys xs[i]).length := by omega
        subst ej
        refine .inl ⟨wk1.stops H (e6.su g6.s), hlt, B6, acc, g6, hB6, hD6, ?_⟩
        rw [List.take_length] at hacc6
        rw [etake]
        exact hacc6
    · have e : i = xs.length := by omega
      subst e
      refine .inl ⟨wk.stops H (g3.b.su g3.s), ?_⟩
      rw [List.take_length] at hacc
      have hD1 : H1 D = none := Evl.fresh_back g2.h hD
      exact q _ _ H ((g2.tr g3).pub hD1 hDH hB3) (.lst upd_same (dpa_ex (Evl.Ex.new hB3) hacc))
end
section
variable {P : Program} {w : World} {K : PySem.W.Frag} {mg : Str → Option Value} {base : Heap} {C : Addr}
theorem idx_at {pl : List Nat} {c : Nat} (hn : pl.Nodup) (h : c ∈ pl) : ∃ n, pl[n]? = some c ∧ n < pl.length ∧ ∀ k, k < n → pl[k]? ≠ some c := by
  refine ⟨pl.idxOf c, ?_, List.idxOf_lt_length_of_mem h, fun k hk e => ?_⟩
  · rw [List.getElem?_eq_getElem (List.idxOf_lt_length_of_mem h), List.getElem_idxOf]
  · obtain ⟨h2, h3⟩ := List.getElem?_eq_some_iff.mp e
    have h4 := List.idxOf_lt_length_of_mem h
    have h5 : pl[k] = pl[pl.idxOf c] := by rw [h3, List.getElem_idxOf]
    have := (List.getElem_inj hn).mp h5
    omega
/-- heap[web.places.index(place)] -/
theorem ev_hpix {σ : L2.St} {B : Hp} {ta tb tc : TE} {pl : List Nat} {D : Nat → Int} {c : Nat} (hn : pl.Nodup) (ha : Kx.Ed ta σ B (hpT pl D)) (hb : Kx.Ev tb σ B (.str (Sx pl))) (hc : Kx.Ev tc σ B (.str (sg c))) (h : c ∈ pl) :
    Kx.Ev (tOp (rIxT K) ta (tM1 (fun x xs H Q => ∃ a b i rest, x = .str a ∧ xs = [.str b] ∧ Builtin.Str.occurrences a b 0 a.length 1 = i :: rest ∧ Q (.int (i : Nat)) H) tb tc)) σ B (.int (D c)) := by
  obtain ⟨n, h1, h2, h3⟩ := idx_at hn h
  exact ed_int (ed_ixT ha (ev_sindex hb hc h1 h3) (at_map rfl h1))
theorem ea_is {σ : L2.St} {B : Hp} {ta : TA} {ds es : List PyData} (e : ds = es) (h : EdA ta σ B ds) : EdA ta σ B es := by rw [← e]; exact h
def spLifted (C : Addr) : PrT := fun vs B R => ∃ pl ts v u b D, vs = [v, u, .str (sg b)] ∧ Wc C B v pl ts ∧ b ∈ pl ∧ Dq B u (hpT pl D) ∧ R = fun z B' => ∃ E, Dq B' z (hpT pl E) ∧ Alike pl ts D E ∧ ∀ u ∈ pl, u ≠ b → 0 ≤ E u
abbrev n43 : List Str := ["web", "heap", "bank", "layers", "depth", "lows", "many", "givers", "place", "layer"]
theorem sc_lifted : FnScope n43 ["web", "heap", "bank"] (C8.fnScope (topS 43)) := C8.fnScope_by (by decide +kernel)
theorem ok_lifted (T : Tx K mg C) : C8.Cal P w K mg base 4 "lifted" (Pr (spLifted C)) [] := by
  refine mk_cal T.lifted sc_lifted (by rintro vs B R ⟨pl, ts, v, u, b, D, rfl, _⟩; rfl) fun f cdv A outer s H vs Q E B R hr e h q => ?_
  obtain ⟨pl, ts, v, u, b, D, rfl, W, hb, hu, rfl⟩ := h
  have nd := sc_lifted.nd
  have few := W.op.few
  refine ⟨_, pss_cons (ps_set (i := 3) nd rfl (.inl rfl) (C8.pe_c (ok_layers_from T) hr (by decide) (by rfl) (pa_cons (pv 0) (pa_cons (pv 2) pa_nil))))
    (pss_cons (ps_for PassesOwn.never rfl (pi_range3 (by rfl) T.b_range (pa_cons (pe_op op_sub (pe_callB call_len_seq (by rfl) T.b_len boot_len (pa_cons (pv 3) pa_nil)) pe_int) (pa_cons pe_int (pa_cons (pe_un un_neg pe_int) pa_nil)))) (pg_name (i := 4) nd rfl (.inl rfl))
      (pss_cons (ps_setLc (own := [("place", 8)]) (g := gName 8) (i := 5) rfl nd rfl rfl (by rfl) (pi_list (pe_ix ix_list (pv 3) (pv 4) (fun _ _ => rfl))) (blkOk_by (own := [("place", 8)]) (N := n43) (sc := C8.fnScope (topS 43)) (by decide +kernel)) (fun _ _ _ _ _ => pg_name (i := 8) nd rfl (Or.inl rfl)) (fun _ _ _ _ _ => pts_nil) (fun _ _ _ _ _ => pe_un un_neg (pe_ix (r := rIxT K) ix_tup (pv 1) (pe_m1 PySem.F.slot_str_index PySem.F.type_str_index mt_sindex (show PE _ _ (tFld K (tVar 0) "places") from pe_fld (pv 0) (by rfl)) (pv 8)) (fun _ _ => rfl))))
      (pss_cons (ps_set (i := 6) nd rfl (.inr rfl) (pe_callB (cr_max rfl) (by rfl) T.b_max PyProof.Rows.boot_max (pa_cons (pe_op op_cat (pe_lst (pa_cons pe_int pa_nil)) (pv 5)) pa_nil)))
      (pss_cons (ps_set (i := 7) nd rfl (.inr rfl) (pe_lc2 (own := [("layer", 9), ("place", 8)]) (vs1 := [8]) (g := gName 9) (g1 := gName 8) (tt := tYes) (tt1 := tYes) (wi1 := iList K (tVar 9)) rfl nd (pi_list (pe_slice sl_list (pv 3) po_none (po_some (pv 4)))) (blkOk_by (own := [("layer", 9), ("place", 8)]) (N := n43) (sc := C8.fnScope (topS 43)) (by decide +kernel)) (by decide)
          (fun _ _ _ _ _ => pg_name (i := 9) nd rfl (Or.inl rfl)) (fun _ _ _ _ _ => pts_nil) (fun _ _ _ _ _ => pi_list (pv 9)) (fun _ _ _ _ _ => pg_name (i := 8) nd rfl (Or.inl rfl)) (fun _ _ _ _ _ => pts_nil) (fun _ _ _ _ _ => pv 8)))
      (pss_one (ps_set (i := 1) nd rfl (.inr rfl) (C8.pe_c (ok_after T) hr (by decide) (by rfl) (pa_cons (pv 0) (pa_cons (pv 1) (pa_cons (pe_lc (own := [("place", 8)]) (g := gName 8) rfl nd (pi_str (pe_fld (pv 0) (by rfl))) (blkOk_by (own := [("place", 8)]) (N := n43) (sc := C8.fnScope (topS 43)) (by decide +kernel)) (fun _ _ _ _ _ => pg_name (i := 8) nd rfl (Or.inl rfl)) (fun _ _ _ _ _ => pts_nil) (fun _ _ _ _ _ => pe_ifExp (pt_cmpR (r := rIn K false) op_in_seq (pv 8) (pv 7) (by rfl)) (pv 6) pe_int)) pa_nil))))))))))
    (pss_one (ps_ret (pv 1)))), ?_⟩
  refine s_set (P := fun z B' => ∃ L, Dq B' z (.list (layD L)) ∧ Lay pl ts b L) (ep_call2 (ep_var 0 rfl W stb_wc) stb_wc (ev_var 2 rfl) fun x y B' _ e1 e2 => ⟨pl, ts, x, b, by rw [e2], e1, hb, rfl⟩) e fun lv B1 H1 g1 ⟨L, p1, hL⟩ => ?_
  have hLl : L.length ≤ 4 := by
    have h1 := len_flat L hL.ne
    have h2 := nodup_sub_len hL.nd hL.sub
    omega
  have hL0 : 0 < L.length := by
    cases L with
    | nil => have := hL.hd; simp at this
    | cons a r => simp
  refine s_for (ei_down (n := ((L.length : Nat) : Int) - 1) (ea_cons (int_ed (ev_is (ev_I0 (g := fun i j => .int (i - j)) (ev_lenL (ed_var 3 rfl p1)) ev_c) (by rw [List.length_map]))) (ea_cons (int_ed ev_c) (ea_cons (int_ed (ev_un (g := fun i => .int (-i)) (i := 1) ev_c)) ea_nil))) (by omega) (by omega)) g1.s fun B2 H2 g2 => ⟨fun pre σ' B' H' => (∃ (x4 x5 x6 x7 : Option V) (hv : V) (E : Nat → Int), σ' = [some v, some hv, some (.str (sg b)), some lv, x4, x5, x6, x7, none, none] ∧ Dq B' hv (hpT pl E) ∧ Alike pl ts D E ∧ ∀ i a, L.length - pre.length ≤ i → L[i]? = some a → ∀ p ∈ a, 0 ≤ E p) ∧ Gr B2 H2 B' H', ?_, fun _ _ _ _ h => ⟨h.2.b, h.2.s⟩, ?_, ?_⟩
  · refine ⟨⟨none, none, none, none, u, D, rfl, dp_ex (g1.b.trans g2.b) hu, alike_refl _ _ _, fun i a hi ha => ?_⟩, Gr.refl g2.s⟩
    have := (List.getElem?_eq_some_iff.mp ha).1
    simp at hi; omega
  · rintro pre k post hpre σ' B' H' ⟨⟨x4, x5, x6, x7, hv, E, rfl, hhv, hal, hnn⟩, g3⟩ z B3 H3 g4 hz
    subst hz
    obtain ⟨hk, hkn⟩ := range_pre hpre
    subst hk
    obtain ⟨d, hd⟩ : ∃ d, L.length = pre.length + 1 + d := ⟨L.length - pre.length - 1, by omega⟩
    have hd0 : 0 < d := by omega
    have hdz : ((L.length : Nat) : Int) - 1 - ((pre.length : Nat) : Int) = ((d : Nat) : Int) := by omega
    dsimp only [gName, tSeq]
    rw [hdz]
    have hda : L[d]? = some (L[d]'(by omega)) := List.getElem?_eq_getElem _
    generalize L[d]'(by omega) = la at hda
    have hlap : ∀ p ∈ la, p ∈ pl := fun p hp => hL.sub p (List.mem_flatten.mpr ⟨la, List.mem_of_getElem? hda, hp⟩)
    have hlan : la.length ≤ 4 := by
      have h0 : la.Nodup := by
        exact hL.nd.sublist (List.sublist_flatten_of_mem (List.mem_of_getElem? hda))
      have := nodup_sub_len h0 hlap
      omega
    have hB3 := (g1.tr g2).tr (g3.tr g4)
    have W3 := W.mono hB3.b
    have p3 := dp_ex ((g2.tr g3).tr g4).b p1
    have h3 := dp_ex g4.b hhv
    refine s_set (ed_lc (ei_list (xs := la) (φ := fun c => .str (sg c)) (ed_ixL (ed_var 3 rfl p3) (ev_var 4 rfl) (at_map rfl hda))) (fun _ => true) (fun c => .int (-(E c))) (by omega) fun c x B4 hc e4 hx => ⟨_, tg_name 8, rfl, et_yes, fun _ => ?_⟩) g4.s fun sv B4 H4 g5 p5 => ?_
    · cases hx
      exact int_ed (ev_un (ev_hpix W.op.nd (ed_var 1 rfl (dp_ex e4 h3)) (ev_places T.web (ep_var 0 rfl (W3.mono e4).wa stb_web)) (ev_var 8 rfl) (hlap c hc)))
    rw [filter_id_len _ _ (fun _ _ => rfl)] at p5
    have e5 : [PyData.int 0] ++ la.map (fun c => PyData.int (-(E c))) = (0 :: la.map fun c => -(E c)).map .int := by rw [List.map_cons, List.map_map]; rfl
    refine s_set (ep_maxL (ns := 0 :: la.map fun c => -(E c)) (ed_is (ed_cat (ed_lst (ea_cons (int_ed ev_c) ea_nil) (by show 1 ≤ 100000; decide)) (ed_var 5 rfl p5) (by rw [List.length_map]; show 1 + _ ≤ _; omega)) (congrArg PyData.list e5)) (by simp)) g5.s fun mv B5 H5 g6 ⟨m, em, hm1, hm2⟩ => ?_
    subst em
    have hm0 : 0 ≤ m := hm2 0 List.mem_cons_self
    have hmp : ∀ p ∈ la, -(E p) ≤ m := fun p hp => hm2 _ (List.mem_cons_of_mem _ (List.mem_map.mpr ⟨p, hp, rfl⟩))
    dsimp only
    have hft : ((L.take d).map fun l : List Nat => l).flatten = (L.take d).flatten := by rw [List.map_id']
    have hfl : (L.take d).flatten.length ≤ 4 := by
      have h1 : (L.take d).flatten.length ≤ L.flatten.length := by
        conv => rhs; rw [← List.take_append_drop d L]
        rw [List.flatten_append, List.length_append]; omega
      have h2 := nodup_sub_len hL.nd hL.sub
      omega
    refine s_set (ed_lc2 (xs := L.take d) (ys := fun l : List Nat => l) (Iy := IyD fun l : List Nat => .list (l.map fun c => .str (sg c))) (Iz := IyD fun c : Nat => .str (sg c)) (ei_list (φ := fun l : List Nat => .list (l.map fun c => .str (sg c))) (ed_slL (ed_var 3 rfl (dp_ex (g5.b.trans g6.b) p3)) eo_no (eo_some (ev_var 4 rfl)) ?_)) (fun c => .str (sg c)) (by rw [hft]; omega) fun l x B6 hl e6 hx => ⟨_, tg_name 9, rfl, ei_list (ed_var 9 rfl hx), fun c z B7 hc e7 hz => ⟨_, tg_name 8, rfl, ed_var 8 rfl hz⟩⟩) g6.s fun gv B6 H6 g7 p7 => ?_
    · unfold layD
      rw [HT.sIx_nat, HT.sIx_none, List.drop_zero, Nat.sub_zero, List.length_map, Nat.min_eq_left (by omega), List.map_take]
    rw [hft] at p7
    have hB6 := hB3.tr ((g5.tr g6).tr g7)
    have W6 := W.mono hB6.b
    refine s_set (P := fun z B' => Dq B' z (hpT pl (aft pl ts E (some' (L.take d).flatten m)))) (ep_call3 (ep_var 0 rfl W6 stb_wc) stb_wc (ed_var 1 rfl (dp_ex ((g5.b.trans g6.b).trans g7.b) h3)) (stb_dp _) (ed_is (e := hpL pl (some' (L.take d).flatten m)) (ed_lc (ei_str (ev_places T.web (ep_var 0 rfl W6.wa stb_web))) (fun _ => true) (fun c => .int (some' (L.take d).flatten m c)) (by rw [sx_toList]; omega) fun c x B7 hc e7 hx => ⟨_, tg_name 8, rfl, et_yes, fun _ => ?_⟩) ?_) fun x y z B' _ e1 e2 e3 => ⟨pl, ts, x, y, z, E, _, rfl, e1.wb, e2, e3, rfl⟩) g7.s fun nv B7 H7 g8 p8 => ?_
    · subst hx
      refine int_ed (ep_if (b := decide (c ∈ (L.take d).flatten)) (et_test (ev_is (ev_inSs (neg := false) (ys := (L.take d).flatten.map sg) (ev_var 8 rfl) (ed_is (ed_var 7 rfl (dp_ex e7 p7)) (by rw [List.map_map]; rfl))) ?_)) (fun h => ev_is (ev_var 6 rfl) ?_) fun h => ev_is ev_c ?_)
      · rw [if_neg (by decide)]
        congr 1
        rw [decide_eq_decide, List.mem_map]
        exact ⟨fun ⟨a, ha, ea⟩ => sg_inj ea ▸ ha, fun h => ⟨c, h, rfl⟩⟩
      · unfold some'; rw [if_pos (of_decide_eq_true h)]
      · unfold some'; rw [if_neg (of_decide_eq_false h)]
    · rw [filter_id_len _ _ (fun _ _ => rfl), sx_toList]
    · obtain ⟨s1, s2⟩ := lift_step hL (D := E) hd0 hda hm0 hmp
      refine ⟨B7, ⟨_, _, _, _, nv, _, rfl, p8, alike_trans hal ⟨_, fun _ _ => rfl⟩, fun i a hi ha p hp => ?_⟩, ((g3.tr g4).tr (g5.tr g6)).tr (g7.tr g8)⟩
      rw [List.length_append] at hi
      simp only [List.length_cons, List.length_nil] at hi
      by_cases hid : i = d
      · subst hid
        rw [hda] at ha
        cases ha
        exact s2 p hp
      · have h1 := hnn i a (by omega) ha p hp
        have hpG : p ∉ (L.take d).flatten := fun zz => by
          have e9 := hL.nd
          rw [← List.take_append_drop d L, List.flatten_append] at e9
          refine (List.nodup_append.mp e9).2.2 p zz p (List.mem_flatten.mpr ⟨a, ?_, hp⟩) rfl
          refine List.mem_of_getElem? (i := i - d) ?_
          rw [List.getElem?_drop, ← ha]
          congr 1; omega
        have h2 := s1 p (hL.sub p (List.mem_flatten.mpr ⟨a, List.mem_of_getElem? ha, hp⟩)) hpG
        omega
  · rintro σ' B' H' ⟨⟨x4, x5, x6, x7, hv, E, rfl, hhv, hal, hnn⟩, g3⟩
    dsimp only
    refine s_ret (ed_var 1 rfl hhv) g3.s fun rv B4 H4 g4 p4 => q rv B4 H4 ((g1.tr g2).tr (g3.tr g4)) ⟨E, p4, hal, fun p hp hne => ?_⟩
    obtain ⟨a, ha, hpa⟩ := List.mem_flatten.mp (hL.all p hp)
    obtain ⟨i, hi, ei⟩ := List.getElem_of_mem ha
    have hia : L[i]? = some a := by rw [List.getElem?_eq_getElem hi, ei]
    by_cases hi0 : i = 0
    · subst hi0
      rw [hL.hd] at hia
      cases hia
      rw [List.mem_singleton] at hpa
      exact (hne hpa).elim
    · refine hnn i a ?_ hia p hpa
      rw [List.length_range]; omega
end
end Kx

/-! KmBurn -/
namespace Kx
open PySem L2
def openL (ts : List (Nat × Nat)) (S U : List Nat) : List Nat := (ts.zipIdx.filter fun a => !decide (a.2 ∈ U) && !decide (V.bl (decide (a.1.1 ∈ S)) = V.bl (decide (a.1.2 ∈ S)))).map (·.2)
theorem openL_mem {ts : List (Nat × Nat)} {S U : List Nat} {i : Nat} : i ∈ openL ts S U ↔ ∃ t, ts[i]? = some t ∧ i ∉ U ∧ (t.1 ∈ S ↔ ¬ t.2 ∈ S) := by
  unfold openL
  rw [List.mem_map]
  have key : ∀ a : (Nat × Nat) × Nat, ((!decide (a.2 ∈ U) && !decide (V.bl (decide (a.1.1 ∈ S)) = V.bl (decide (a.1.2 ∈ S)))) = true) ↔ (a.2 ∉ U ∧ (a.1.1 ∈ S ↔ ¬ a.1.2 ∈ S)) := fun a => by
    rw [Bool.and_eq_true, Bool.not_eq_true', Bool.not_eq_true', decide_eq_false_iff_not, decide_eq_false_iff_not]
    refine and_congr_right fun _ => ?_
    by_cases h1 : a.1.1 ∈ S <;> by_cases h2 : a.1.2 ∈ S <;> simp [h1, h2]
  constructor
  · rintro ⟨a, ha, rfl⟩
    rw [List.mem_filter, key] at ha
    exact ⟨a.1, List.mem_zipIdx_iff_getElem?.mp (show (a.1, a.2) ∈ ts.zipIdx from ha.1), ha.2⟩
  · rintro ⟨t, h1, h2⟩
    exact ⟨(t, i), List.mem_filter.mpr ⟨List.mem_zipIdx_iff_getElem?.mpr h1, (key (t, i)).mpr h2⟩, rfl⟩
def hc (ts : List (Nat × Nat)) (U : List Nat) (p : Nat) : Nat := (U.filter fun i => hit (ts.getD i (0, 0)) p).length
def crB (p : Nat) (X : List Nat) (t : Nat × Nat) : Bool := (decide (t.1 = p) && decide (t.2 ∈ X)) || (decide (t.2 = p) && decide (t.1 ∈ X))
/-- how many ties go from a place to some others -/
def crs (ts : List (Nat × Nat)) (p : Nat) (X : List Nat) : Nat := (ts.filter (crB p X)).length
theorem crB_iff {p : Nat} {X : List Nat} {t : Nat × Nat} : crB p X t = true ↔ (t.1 = p ∧ t.2 ∈ X) ∨ (t.2 = p ∧ t.1 ∈ X) := by unfold crB; simp
theorem cnt_eq (ts : List (Nat × Nat)) (c : Nat × Nat → Bool) : ((List.range ts.length).filter fun i => c (ts.getD i (0, 0))).length = (ts.filter c).length := by
  have h : (List.range ts.length).map (fun i => ts.getD i (0, 0)) = ts := by
    apply List.ext_getElem
    · simp
    · intro i h1 h2
      rw [List.getElem_map, List.getElem_range, List.getD_eq_getElem?_getD, List.getElem?_eq_getElem h2]; rfl
  conv => rhs; rw [← h]
  rw [List.filter_map, List.length_map]; rfl
theorem getD_at {ts : List (Nat × Nat)} {i : Nat} {t : Nat × Nat} (h : ts[i]? = some t) : ts.getD i (0, 0) = t := by rw [List.getD_eq_getElem?_getD, h]; rfl
theorem hc_le {ts : List (Nat × Nat)} {U : List Nat} {p : Nat} {c : Nat × Nat → Bool} (hn : U.Nodup) (h : ∀ i ∈ U, ∃ t, ts[i]? = some t ∧ (hit t p = true → c t = true)) : hc ts U p ≤ (ts.filter c).length := by
  rw [← cnt_eq]
  refine nodup_sub_len (hn.filter _) fun i hi => ?_
  rw [List.mem_filter] at hi
  obtain ⟨t, h1, h2⟩ := h i hi.1
  have h3 := hi.2
  rw [getD_at h1] at h3
  exact List.mem_filter.mpr ⟨List.mem_range.mpr (List.getElem?_eq_some_iff.mp h1).1, by rw [getD_at h1]; exact h2 h3⟩
structure BInv (pl : List Nat) (ts : List (Nat × Nat)) (b : Nat) (D : Nat → Int) (S U : List Nat) (h : Nat → Int) : Prop where
  und : U.Nodup
  uS : ∀ i ∈ U, ∃ t, ts[i]? = some t ∧ (t.1 ∈ S ∨ t.2 ∈ S)
  snd : S.Nodup
  ssub : ∀ p ∈ S, p ∈ pl
  shd : ∃ S', S = b :: S'
  hh : ∀ p ∈ pl, p ∉ S → h p = ((hc ts U p : Nat) : Int)
  hle : ∀ p ∈ pl, p ∉ S → h p ≤ D p
  ord : ∀ pre p post, S = pre ++ p :: post → pre ≠ [] → D p < ((crs ts p pre : Nat) : Int)
structure Burnt (pl : List Nat) (ts : List (Nat × Nat)) (b : Nat) (D : Nat → Int) (S : List Nat) : Prop where
  snd : S.Nodup
  ssub : ∀ p ∈ S, p ∈ pl
  shd : ∃ S', S = b :: S'
  stop : ∀ p ∈ pl, p ∉ S → ((crs ts p S : Nat) : Int) ≤ D p
  ord : ∀ pre p post, S = pre ++ p :: post → pre ≠ [] → D p < ((crs ts p pre : Nat) : Int)
theorem binv0 {pl : List Nat} {ts : List (Nat × Nat)} {b : Nat} {D : Nat → Int} (hb : b ∈ pl) (hD : ∀ u ∈ pl, u ≠ b → 0 ≤ D u) : BInv pl ts b D [b] [] (fun _ => 0) := by
  refine ⟨List.nodup_nil, fun i hi => (nomatch hi), by simp, fun p hp => by rw [List.mem_singleton] at hp; rw [hp]; exact hb, ⟨[], rfl⟩, fun p _ _ => rfl, fun p hp h => hD p hp fun e => h (by simp [e]), fun pre p post e hne => ?_⟩
  cases pre with
  | nil => exact (hne rfl).elim
  | cons a r =>
    rw [List.cons_append] at e
    injection e with e1 e2
    simp at e2
/-- the end that was not seen -/
def endOf (S : List Nat) (t : Nat × Nat) : Nat := if t.1 ∈ S then t.2 else t.1
theorem binv_step {pl : List Nat} {ts : List (Nat × Nat)} {b : Nat} {D : Nat → Int} {S U : List Nat} {h : Nat → Int} (B : BInv pl ts b D S U h) (hts : ∀ t ∈ ts, t.1 ∈ pl ∧ t.2 ∈ pl ∧ t.1 < t.2) {i : Nat} {t : Nat × Nat} (hi : ts[i]? = some t) (hiU : i ∉ U) (hm : t.1 ∈ S ↔ ¬ t.2 ∈ S) :
    endOf S t ∈ pl ∧ endOf S t ∉ S ∧ BInv pl ts b D (if h (endOf S t) + 1 > D (endOf S t) then S ++ [endOf S t] else S) (U ++ [i]) (fun p => if p = endOf S t then h p + 1 else h p) := by
  obtain ⟨m1, m2, m3⟩ := hts t (List.mem_of_getElem? hi)
  have he : endOf S t ∈ pl ∧ endOf S t ∉ S ∧ ∃ o, o ∈ S ∧ ((t.1 = endOf S t ∧ t.2 = o) ∨ (t.2 = endOf S t ∧ t.1 = o)) := by
    unfold endOf
    by_cases h1 : t.1 ∈ S
    · rw [if_pos h1]; exact ⟨m2, hm.mp h1, t.1, h1, .inr ⟨rfl, rfl⟩⟩
    · rw [if_neg h1]
      have h2 : t.2 ∈ S := Classical.byContradiction fun z => h1 (hm.mpr z)
      exact ⟨m1, h1, t.2, h2, .inl ⟨rfl, rfl⟩⟩
  generalize endOf S t = e at he
  obtain ⟨hep, heS, o, hoS, hto⟩ := he
  refine ⟨hep, heS, ?_⟩
  have hhit : ∀ p, p ∉ S → (hit t p = true ↔ p = e) := fun p hp => by
    rw [hit_iff]
    have hpo : p ≠ o := fun z => hp (z ▸ hoS)
    rcases hto with ⟨a1, a2⟩ | ⟨a1, a2⟩ <;> rw [a1, a2]
    · exact ⟨fun z => by rcases z with z | z; exact z.symm; exact (hpo z.symm).elim, fun z => .inl z.symm⟩
    · exact ⟨fun z => by rcases z with z | z; exact (hpo z.symm).elim; exact z.symm, fun z => .inr z.symm⟩
  have hcU : ∀ p, p ∉ S → hc ts (U ++ [i]) p = hc ts U p + if p = e then 1 else 0 := fun p hp => by
    unfold hc
    rw [List.filter_append, List.length_append]
    congr 1
    by_cases hpe : p = e
    · rw [if_pos hpe, List.filter_cons_of_pos (by rw [getD_at hi]; exact (hhit p hp).mpr hpe)]; rfl
    · rw [if_neg hpe, List.filter_cons_of_neg (by rw [getD_at hi]; exact fun z => hpe ((hhit p hp).mp z))]; rfl
  have und' : (U ++ [i]).Nodup := List.nodup_append.mpr ⟨B.und, by simp, fun a ha c hc z => by
    rw [List.mem_singleton] at hc
    subst z
    subst hc
    exact hiU ha⟩
  have tS : t.1 ∈ S ∨ t.2 ∈ S := by
    rcases hto with ⟨_, a2⟩ | ⟨_, a2⟩
    · exact .inr (a2 ▸ hoS)
    · exact .inl (a2 ▸ hoS)
  have uS' : ∀ j ∈ U ++ [i], ∃ t, ts[j]? = some t ∧ (t.1 ∈ S ∨ t.2 ∈ S) := fun j hj => by
    rcases List.mem_append.mp hj with hj | hj
    · exact B.uS j hj
    · rw [List.mem_singleton] at hj
      subst hj
      exact ⟨t, hi, tS⟩
  have h'e : h e + 1 = ((hc ts (U ++ [i]) e : Nat) : Int) := by
    rw [hcU e heS, if_pos rfl, B.hh e hep heS]; omega
  have hcrs : hc ts (U ++ [i]) e ≤ crs ts e S := hc_le und' fun j hj => by
    obtain ⟨t', k1, k2⟩ := uS' j hj
    refine ⟨t', k1, fun k3 => ?_⟩
    rw [crB_iff]
    rcases hit_iff.mp k3 with k4 | k4
    · rcases k2 with k2 | k2
      · exact (heS (k4 ▸ k2)).elim
      · exact .inl ⟨k4, k2⟩
    · rcases k2 with k2 | k2
      · exact .inr ⟨k4, k2⟩
      · exact (heS (k4 ▸ k2)).elim
  by_cases hgt : h e + 1 > D e
  · rw [if_pos hgt]
    refine ⟨und', fun j hj => ?_, ?_, ?_, ?_, ?_, ?_, ?_⟩
    · obtain ⟨t', k1, k2⟩ := uS' j hj
      exact ⟨t', k1, k2.imp (List.mem_append_left _) (List.mem_append_left _)⟩
    · refine List.nodup_append.mpr ⟨B.snd, by simp, fun a ha c hc z => ?_⟩
      rw [List.mem_singleton] at hc
      subst z
      subst hc
      exact heS ha
    · intro p hp
      rcases List.mem_append.mp hp with hp | hp
      · exact B.ssub p hp
      · rw [List.mem_singleton] at hp; rw [hp]; exact hep
    · obtain ⟨S', e1⟩ := B.shd
      exact ⟨S' ++ [e], by rw [e1]; rfl⟩
    · intro p hp hpS
      rw [List.mem_append, not_or, List.mem_singleton] at hpS
      rw [if_neg hpS.2, hcU p hpS.1, if_neg hpS.2, B.hh p hp hpS.1]; rfl
    · intro p hp hpS
      rw [List.mem_append, not_or, List.mem_singleton] at hpS
      rw [if_neg hpS.2]
      exact B.hle p hp hpS.1
    · intro pre p post e1 hne
      rcases List.eq_nil_or_concat post with rfl | ⟨post', x, rfl⟩
      · have e2 := List.append_inj' e1 rfl
        obtain ⟨e3, e4⟩ := e2
        injection e4 with e4 _
        subst e3
        subst e4
        omega
      · rw [List.concat_eq_append, ← List.cons_append, ← List.append_assoc] at e1
        have e2 := List.append_inj' e1 rfl
        exact B.ord pre p post' e2.1 hne
  · rw [if_neg hgt]
    refine ⟨und', uS', B.snd, B.ssub, B.shd, fun p hp hpS => ?_, fun p hp hpS => ?_, B.ord⟩
    · by_cases hpe : p = e
      · subst hpe; rw [if_pos rfl]; exact h'e
      · rw [if_neg hpe, hcU p hpS, if_neg hpe, B.hh p hp hpS]; rfl
    · by_cases hpe : p = e
      · subst hpe; rw [if_pos rfl]; omega
      · rw [if_neg hpe]; exact B.hle p hp hpS
theorem binv_end {pl : List Nat} {ts : List (Nat × Nat)} {b : Nat} {D : Nat → Int} {S U : List Nat} {h : Nat → Int} (B : BInv pl ts b D S U h) (ho : openL ts S U = []) : Burnt pl ts b D S := by
  refine ⟨B.snd, B.ssub, B.shd, fun p hp hpS => ?_, B.ord⟩
  have h1 := B.hle p hp hpS
  rw [B.hh p hp hpS] at h1
  have h2 : crs ts p S ≤ hc ts U p := by
    unfold crs
    rw [← cnt_eq]
    refine nodup_sub_len (List.nodup_range.filter _) fun i hi => ?_
    rw [List.mem_filter, List.mem_range] at hi
    have hti := List.getElem?_eq_getElem hi.1
    have h3 := hi.2
    rw [getD_at hti, crB_iff] at h3
    refine List.mem_filter.mpr ⟨Classical.byContradiction fun hiU => ?_, by rw [getD_at hti, hit_iff]; exact h3.imp (·.1) (·.1)⟩
    have : i ∈ openL ts S U := openL_mem.mpr ⟨_, hti, hiU, by
      rcases h3 with ⟨a1, a2⟩ | ⟨a1, a2⟩
      · exact ⟨fun z => (hpS (a1 ▸ z)).elim, fun z => (z a2).elim⟩
      · exact ⟨fun _ z => hpS (a1 ▸ z), fun _ => a2⟩⟩
    rw [ho] at this
    cases this
  omega
end Kx

/-! KxDict -/
namespace Kx
open PySem PySem.Spec PyProof.Rows L2
def EpD (te : TE) (σ : L2.St) (B : Hp) (kvs : List (Key × V)) : Prop := ∀ B1 H1, Evl.Ex B B1 → Sub B1 H1 → ∀ Q : VK, (∀ l B2 H2, Gr B1 H1 B2 H2 → H1 l = none → B2 l = none → H2 l = some (.dK kvs) → Q (.ref l) H2) → te σ H1 Q
def hitK (pl : List Nat) (h : Nat → Int) : List (Key × V) := pl.map fun p => ((Sum.inr (sg p) : Key), V.int (h p))
def usedK (U : List Nat) : List (Key × V) := U.map fun i => ((Sum.inl ((i : Nat) : Int) : Key), V.bl true)
theorem merge_new : ∀ (more acc : List (Key × V)), ((acc ++ more).map (·.1)).Nodup → mergeK acc more = acc ++ more
  | [], acc, _ => by rw [List.append_nil]; rfl
  | (k, v) :: r, acc, h => by
    have hv : valV acc k = none := by
      cases q : valV acc k with
      | none => rfl
      | some z =>
        have hm := valV_in q
        rw [List.map_append, List.map_cons, List.nodup_append] at h
        exact (h.2.2 k hm k List.mem_cons_self rfl).elim
    show mergeK (putK acc k v) r = _
    rw [putK_new v hv, merge_new r _ (by rw [List.append_assoc]; exact h), List.append_assoc]
    rfl
theorem hit_keys {pl : List Nat} (h : Nat → Int) (hn : pl.Nodup) : ((hitK pl h).map (·.1)).Nodup := by
  unfold hitK
  rw [List.map_map]
  refine List.Pairwise.map _ (fun a b hab z => hab (sg_inj (Sum.inr.inj z))) hn
theorem hit_val : ∀ {pl : List Nat} {h : Nat → Int} {p : Nat}, p ∈ pl → valV (hitK pl h) (Sum.inr (sg p)) = some (.int (h p))
  | a :: r, h, p, hp => by
    by_cases e : a = p
    · subst e
      exact valV_pos rfl
    · unfold hitK
      rw [List.map_cons, valV_neg (fun z => e (sg_inj (Sum.inr.inj z)))]
      rcases List.mem_cons.mp hp with z | hp
      · exact (e z.symm).elim
      · exact hit_val hp
theorem hit_put {pl : List Nat} {h : Nat → Int} {e : Nat} (he : e ∈ pl) (n : Int) : putK (hitK pl h) (Sum.inr (sg e)) (.int n) = hitK pl fun p => if p = e then n else h p := by
  unfold putK
  rw [if_pos (by
    rw [List.any_eq_true]
    exact ⟨_, List.mem_map.mpr ⟨e, he, rfl⟩, decide_eq_true rfl⟩)]
  unfold hitK
  rw [List.map_map]
  refine List.map_congr_left fun p hp => ?_
  show (if (Sum.inr (sg p) : Key) = Sum.inr (sg e) then ((Sum.inr (sg p) : Key), V.int n) else ((Sum.inr (sg p) : Key), V.int (h p))) = _
  by_cases q : p = e
  · subst q; rw [if_pos rfl]; dsimp only; rw [if_pos rfl]
  · rw [if_neg (fun z => q (sg_inj (Sum.inr.inj z)))]; dsimp only; rw [if_neg q]
theorem used_val : ∀ {U : List Nat} {i : Nat}, (valV (usedK U) (Sum.inl ((i : Nat) : Int))).isSome = decide (i ∈ U)
  | [], i => by simp [usedK, valV_nil]
  | a :: r, i => by
    by_cases e : a = i
    · subst e
      unfold usedK
      rw [List.map_cons, valV_pos rfl]; simp
    · unfold usedK
      rw [List.map_cons, valV_neg (fun z => e (by have := Sum.inl.inj z; omega))]
      have := used_val (U := r) (i := i)
      unfold usedK at this
      rw [this, decide_eq_decide, List.mem_cons]
      exact ⟨.inr, fun z => z.resolve_left fun z => e z.symm⟩
theorem used_put {U : List Nat} {i : Nat} (h : i ∉ U) : putK (usedK U) (Sum.inl ((i : Nat) : Int)) (.bl true) = usedK (U ++ [i]) := by
  have h1 := used_val (U := U) (i := i)
  rw [decide_eq_false h] at h1
  rw [putK_new _ (by
    cases q : valV (usedK U) (Sum.inl ((i : Nat) : Int)) with
    | none => rfl
    | some z => rw [q] at h1; cases h1)]
  unfold usedK
  rw [List.map_append]; rfl
section
variable {K : PySem.W.Frag} {σ : L2.St} {B B' H H' : Hp} {ta tb tc td te tx ty : TE} {x y v : V} {P : V → Hp → Prop} {d : PyData} {D : Ends} {kvs : List (Key × V)} {k : Key}
abbrev rDictP (K : PySem.W.Frag) : List V → Hp → VK → Prop := fun xs H Q => ∃ (a : Addr) (ps : List Addr) (kvs : List (Key × V)), xs = [.ref a] ∧ SqL K H a (ps.map V.ref) ∧ Paired (fun p kv => SqT K H p [kV kv.1, kv.2]) ps kvs ∧ ∀ p, H p = none → Q (.ref p) (upd H p (.dK (mergeK [] kvs)))
theorem pairs_dq : ∀ {pl : List Nat} {xs : List V}, DqAll B xs (pl.map fun c => PyData.tuple [.str (sg c), .int 0]) → ∃ ps : List Addr, xs = ps.map V.ref ∧ Paired (fun p kv => ∀ H, Sub B H → SqT K H p [kV kv.1, kv.2]) ps (hitK pl fun _ => 0)
  | [], xs, h => by rw [dpa_nilE h]; exact ⟨[], rfl, .nil⟩
  | c :: r, xs, h => by
    obtain ⟨v, ws, rfl, h1, h2⟩ := dpa_consE h
    obtain ⟨a, us, rfl, ha, hd⟩ := dp_tup h1
    obtain ⟨y1, y2, rfl, k1, k2⟩ := dpa_two hd
    cases k1
    cases k2
    obtain ⟨ps, rfl, hp⟩ := pairs_dq h2
    exact ⟨a :: ps, rfl, .cons (fun H e => SqT.of (e _ _ ha)) hp⟩
theorem paired_imp {α β : Type} {F G : α → β → Prop} {xs : List α} {ys : List β} (i : ∀ a b, F a b → G a b) (h : Paired F xs ys) : Paired G xs ys := by
  induction h with
  | nil => exact .nil
  | cons a b ih => exact .cons (i _ _ a) ih
theorem em_dictP {pl : List Nat} (hn : pl.Nodup) (h : Ed te σ B (.list (pl.map fun c => .tuple [.str (sg c), .int 0]))) : EpD (tCB (rDictP K) (tCons te tNil)) σ B (hitK pl fun _ => 0) := fun B1 H1 a b Q q =>
  (ea_cons h ea_nil) B1 H1 a b _ fun vs B2 H2 g p => by
    obtain ⟨v, rfl, h⟩ := dpa_one p
    obtain ⟨c, xs, rfl, hs, hd⟩ := dp_lst h
    obtain ⟨ps, rfl, hp⟩ := pairs_dq (K := K) hd
    refine ⟨c, ps, _, rfl, SqL.of (g.s _ _ hs), paired_imp (fun _ _ z => z H2 g.s) hp, fun l hl => ?_⟩
    rw [merge_new _ _ (hit_keys _ hn)]
    exact q l B2 _ (g.tr (Gr.newM g.s hl)) (Evl.fresh_back g.h hl) (sub_back g.s hl) upd_same
theorem em_dnew : EpD tDNewK σ B [] := fun B1 H1 a b Q q l hl => q l B1 _ (Gr.newM b hl) hl (sub_back b hl) upd_same
/-- a, b, c, d = value, data, new dict, new dict -/
theorem s_asg4D {i j m n : Nat} {k1 k2 : List (Key × V)} (h1 : Ev ta σ B x) (h2 : Ed tb σ B d) (h3 : EpD tc σ B k1) (h4 : EpD td σ B k2) (e : Sub B H)
    (k : ∀ w l1 l2 B' H', Gr B H B' H' → Dq B' w d → H l1 = none → H l2 = none → l1 ≠ l2 → B' l1 = none → B' l2 = none → H' l1 = some (.dK k1) → H' l2 = some (.dK k2) → D.nx ((((σ.set i (some x)).set j (some w)).set m (some (.ref l1))).set n (some (.ref l2))) H') :
    tAsg (tTup (tCons ta (tCons tb (tCons tc (tCons td tNil))))) (gTup K 4 (gCons (gName i) (gCons (gName j) (gCons (gName m) (gCons (gName n) gNil))))) D σ H :=
  h1 B H (Evl.Ex.refl _) e _ fun v1 B1 H1 g1 p1 => h2 B1 H1 g1.b g1.s _ fun v2 B2 H2 g2 p2 => h3 B2 H2 (g1.b.trans g2.b) g2.s _ fun l1 B3 H3 g3 f3 b3 e3 => h4 B3 H3 ((g1.b.trans g2.b).trans g3.b) g3.s _ fun l2 B4 H4 g4 f4 b4 e4 => by
    subst p1
    obtain ⟨b3', e3'⟩ := g4.off b3 e3
    refine ⟨Evl.sz_of (show 4 ≤ 100000 by decide), fun c hc => ?_⟩
    have g5 := Gr.newM (o := .tup [v1, v2, .ref l1, .ref l2]) g4.s hc
    obtain ⟨q1, q2⟩ := g5.off b3' e3'
    obtain ⟨q3, q4⟩ := g5.off b4 e4
    have ne : l1 ≠ l2 := fun z => by rw [← z, e3] at f4; cases f4
    exact ⟨c, _, rfl, SqT.of upd_same, rfl, _, _, rfl, _, _, rfl, _, _, rfl, _, _, rfl, rfl, k v2 l1 l2 B4 _ ((((g1.tr g2).tr g3).tr g4).tr g5) (dp_ex (g3.b.trans g4.b) p2)
      (Evl.fresh_back (g1.tr g2).h f3) (Evl.fresh_back ((g1.tr g2).tr g3).h f4) ne q1 q3 q2 q4⟩
theorem ev_notInW {l : Addr} (hw : B l = some (wat (.dK kvs))) (hk : Ev ty σ B (kV k)) (hd : Ev td σ B (.ref l)) : Ev (tDNotIn ty td) σ B (.bl (!(valV kvs k).isSome)) := fun B1 H1 a b Q q =>
  hk B1 H1 a b _ fun v1 B2 H2 g2 p2 => hd B2 H2 (a.trans g2.b) g2.s _ fun v2 B3 H3 g3 p3 => by
    subst p2; subst p3
    exact ⟨l, _, rfl, DGet.k (g3.s _ _ ((g2.tr g3).b _ _ (a _ _ hw))), q _ B3 H3 (g2.tr g3) rfl⟩
theorem ev_dgetW {l : Addr} (hw : B l = some (wat (.dK kvs))) (hd : Ev td σ B (.ref l)) (hk : Ev ty σ B (kV k)) (hv : valV kvs k = some v) : Ev (tDGet td ty) σ B v := fun B1 H1 a b Q q =>
  hd B1 H1 a b _ fun v1 B2 H2 g2 p2 => hk B2 H2 (a.trans g2.b) g2.s _ fun v2 B3 H3 g3 p3 => by
    subst p2; subst p3
    exact ⟨l, v, rfl, hv ▸ DGet.k (g3.s _ _ ((g2.tr g3).b _ _ (a _ _ hw))), q _ B3 H3 (g2.tr g3) rfl⟩
/-- d[y] = v -/
theorem s_dput {l : Addr} (hv : Ev tx σ B v) (hd : Ev td σ B (.ref l)) (hk : Ev ty σ B (kV k)) (e : Sub B H) (hl : H l = some (.dK kvs)) (hb : B l = none) (hz : kvs.length < 100000)
    (kk : ∀ B' H', Gr B H B' H' → B' l = none → H' l = some (.dK kvs) → D.nx σ (upd H' l (.dK (putK kvs k v)))) : sDPut td ty tx D σ H :=
  hv B H (Evl.Ex.refl _) e _ fun v1 B1 H1 g1 p1 => hd B1 H1 g1.b g1.s _ fun v2 B2 H2 g2 p2 => hk B2 H2 (g1.b.trans g2.b) g2.s _ fun v3 B3 H3 g3 p3 => by
    subst p1; subst p2; subst p3
    obtain ⟨q1, q2⟩ := ((g1.tr g2).tr g3).off hb hl
    exact ⟨l, _, rfl, DPut.k q2 (Evl.sz_lt hz), kk B3 H3 ((g1.tr g2).tr g3) q1 q2⟩
/-- d[y] += n -/
theorem s_daug {l : Addr} {i j : Int} (hd : Ev td σ B (.ref l)) (hk : Ev ty σ B (kV k)) (hv : Ev tx σ B (.int j)) (e : Sub B H) (hl : H l = some (.dK kvs)) (hb : B l = none) (hz : kvs.length < 100000) (hi : valV kvs k = some (.int i))
    (kk : ∀ B' H', Gr B H B' H' → B' l = none → H' l = some (.dK kvs) → D.nx σ (upd H' l (.dK (putK kvs k (.int (i + j)))))) : sDAug td ty tx (rI0 fun i j => .int (i + j)) D σ H :=
  hd B H (Evl.Ex.refl _) e _ fun v2 B2 H2 g2 p2 => hk B2 H2 g2.b g2.s _ fun v3 B3 H3 g3 p3 => by
    subst p2; subst p3
    obtain ⟨q1, q2⟩ := (g2.tr g3).off hb hl
    refine ⟨l, .int i, rfl, hi ▸ DGet.k q2, hv B3 H3 (g2.b.trans g3.b) g3.s _ fun v4 B4 H4 g4 p4 => ?_⟩
    subst p4
    obtain ⟨q3, q4⟩ := g4.off q1 q2
    exact ⟨i, j, rfl, rfl, _, DPut.k q4 (Evl.sz_lt hz), kk B4 H4 ((g2.tr g3).tr g4) q3 q4⟩
end
end Kx

/-! Ka12 -/
namespace Kx
open PySem PySem.Spec PyProof.Rows L2
section
variable {P : Program} {w : World} {K : PySem.W.Frag} {mg : Str → Option Value} {base : Heap} {C : Addr}
theorem hu1 {n : Nat} (h : n + 64 < cLine) : n + 1 < cLine := by omega
def spBurnt (C : Addr) : PrT := fun vs B R => ∃ pl ts v u b D, vs = [v, u, .str (sg b)] ∧ Wb C B v pl ts ∧ b ∈ pl ∧ Dq B u (hpT pl D) ∧ (∀ u ∈ pl, u ≠ b → 0 ≤ D u) ∧ R = fun z B' => ∃ S d, Dq B' z (.tuple [.str (Sx S), d]) ∧ Burnt pl ts b D S
abbrev n44 : List Str := ["web", "heap", "bank", "seen", "fuses", "used", "hits", "open_ties", "index", "end", "place", "k", "tie"]
theorem sc_burnt : FnScope n44 ["web", "heap", "bank"] (C8.fnScope (topS 44)) := C8.fnScope_by (by decide +kernel)
theorem ok_burnt (T : Tx K mg C) : C8.Cal P w K mg base 1 "burnt" (Pr (spBurnt C)) [] := by
  refine mk_cal T.burnt sc_burnt (by rintro vs B R ⟨pl, ts, v, u, b, D, rfl, _⟩; rfl) fun f cdv A outer s H vs Q E B R hr e h q => ?_
  obtain ⟨pl, ts, v, u, b, D, rfl, W, hb, hu, hD, rfl⟩ := h
  have nd := sc_burnt.nd
  have few := W.op.few
  have fewt := W.ot.few
  have hun := hr.un
  refine ⟨_, pss_cons (ps_asg (pe_tup (pa_cons (pv 2) (pa_cons (pe_lst pa_nil) (pa_cons pe_dnewK (pa_cons (pe_callTy (call_dictP rfl) (by rfl) T.b_dict PyProof.Rows.boot_dict (pa_cons (pe_lc (own := [("place", 10)]) (g := gName 10) rfl nd (pi_str (pe_fld (pv 0) (by rfl))) (blkOk_by (own := [("place", 10)]) (N := n44) (sc := C8.fnScope (topS 44)) (by decide +kernel)) (fun _ _ _ _ _ => pg_name (i := 10) nd rfl (Or.inl rfl)) (fun _ _ _ _ _ => pts_nil) (fun _ _ _ _ _ => pe_tup (pa_cons (pv 10) (pa_cons pe_int pa_nil)))) pa_nil)) pa_nil)))))
      (pg_tup (by rfl) (pgs_cons (pg_name (i := 3) nd rfl (.inr rfl)) (pgs_cons (pg_name (i := 4) nd rfl (.inl rfl)) (pgs_cons (pg_name (i := 5) nd rfl (.inr rfl)) (pgs_cons (pg_name (i := 6) nd rfl (.inl rfl)) pgs_nil))))))
    (pss_one (ps_while PassesOwn.never (pt_val pe_bl)
      (pss_cons (ps_setLc (own := [("k", 11), ("tie", 12)]) (g := gTup K 2 (gCons (gName 11) (gCons (gName 12) gNil))) (i := 7) rfl nd rfl rfl (by rfl) (pi_enumT (by rfl) T.b_enumerate (pa_cons (pe_fld (pv 0) (by rfl)) pa_nil)) (blkOk_by (own := [("k", 11), ("tie", 12)]) (N := n44) (sc := C8.fnScope (topS 44)) (by decide +kernel)) (fun _ _ _ _ _ => pg_tup (by rfl) (pgs_cons (pg_name (i := 11) nd rfl (Or.inl rfl)) (pgs_cons (pg_name (i := 12) nd rfl (Or.inl rfl)) pgs_nil)))
          (fun _ _ _ _ _ => pts_one (PW.pt (pw_and (pt_cmp (pc_dnotin (hu1 hr.units) (pv 11) (pv 5))) (pw_and1 (pt_cmpR op_ne (pe_cmpR op_in_sign (pe_ix ix_str (pv 12) pe_int (fun _ _ => rfl)) (pv 3) (by rfl)) (pe_cmpR op_in_sign (pe_ix ix_str (pv 12) pe_int (fun _ _ => rfl)) (pv 3) (by rfl)) (nomark _)))))) (fun _ _ _ _ _ => pv 11))
      (pss_cons (ps_if (pt_cmpR (op_eqD hr.units) (pv 7) (pe_lst pa_nil) (nomark _)) (pss_one (ps_ret (pe_tup (pa_cons (pv 3) (pa_cons (pv 4) pa_nil))))) pss_nil)
      (pss_cons (ps_set (i := 8) nd rfl (.inl rfl) (pe_ix ix_list (pv 7) (pe_un un_neg pe_int) (fun _ _ => rfl)))
      (pss_cons (ps_dput (hu1 hr.units) (pv 5) (pv 8) pe_bl (by rfl))
      (pss_cons (ps_set (i := 9) nd rfl (.inl rfl) (pe_ifExp (pt_cmpR op_in_sign (pe_ix ix_str (pe_ix ix_tup (pe_fld (pv 0) (by rfl)) (pv 8) (fun _ _ => rfl)) pe_int (fun _ _ => rfl)) (pv 3) (by rfl))
          (pe_ix ix_str (pe_ix ix_tup (pe_fld (pv 0) (by rfl)) (pv 8) (fun _ _ => rfl)) pe_int (fun _ _ => rfl)) (pe_ix ix_str (pe_ix ix_tup (pe_fld (pv 0) (by rfl)) (pv 8) (fun _ _ => rfl)) pe_int (fun _ _ => rfl))))
      (pss_cons (ps_daug (hu1 hr.units) (pv 6) (pv 9) pe_int iop_add (fun _ _ _ => rfl))
      (pss_one (ps_if (pt_cmpR op_gt (pe_dget (hu1 hr.units) (pv 6) (pv 9) (fun _ _ => rfl)) (pe_ix ix_tup (pv 1) (pe_m1 PySem.F.slot_str_index PySem.F.type_str_index mt_sindex (pe_fld (pv 0) (by rfl)) (pv 9)) (fun _ _ => rfl)) (nomark _))
        (pss_one (ps_asg (pe_tup (pa_cons (pe_op op_add_str (pv 3) (pv 9)) (pa_cons (pe_op op_cat (pv 4) (pe_lst (pa_cons (pv 8) pa_nil))) pa_nil))) (pg_tup (by rfl) (pgs_cons (pg_name (i := 3) nd rfl (.inr rfl)) (pgs_cons (pg_name (i := 4) nd rfl (.inl rfl)) pgs_nil)))))
        pss_nil)))))))))), ?_⟩
  refine s_asg4D (x := .str (sg b)) (d := .list []) (ev_var 2 rfl) (ed_lst ea_nil (by decide)) em_dnew (em_dictP W.op.nd (ed_is (ed_lc (ei_str (ev_places T.web (ep_var 0 rfl W.wa stb_web))) (fun _ => true) (fun c => .tuple [.str (sg c), .int 0]) (by rw [sx_toList]; omega) fun c x B1 hc _ hx => ⟨_, tg_name 10, rfl, et_yes, fun _ => ?_⟩) ?_)) e fun fv l1 l2 B1 H1 g1 hf f1 f2 hne b1 b2 e1 e2 => ?_
  · subst hx
    exact ed_tup (ea_cons (str_ed (ev_var 10 rfl)) (ea_cons (int_ed ev_c) ea_nil)) (by show 2 ≤ 100000; decide)
  · rw [filter_id_len _ _ (fun _ _ => rfl), sx_toList]
  refine s_while (B := B1) (m := ts.length - 0) (fun m σ' B' H' => ∃ (x7 x8 x9 : Option V) (S U : List Nat) (h : Nat → Int) (fv : V) (fs : List PyData), σ' = [some v, some u, some (.str (sg b)), some (.str (Sx S)), some fv, some (.ref l1), some (.ref l2), x7, x8, x9, none, none, none] ∧ Dq B' fv (.list fs) ∧ fs.length ≤ U.length ∧ H' l1 = some (.dK (usedK U)) ∧ H' l2 = some (.dK (hitK pl h)) ∧ BInv pl ts b D S U h ∧ Gr B H B' H' ∧ B' l1 = none ∧ B' l2 = none ∧ m = ts.length - U.length) ⟨none, none, none, [b], [], fun _ => 0, fv, [], rfl, hf, Nat.zero_le _, e1, e2, binv0 hb hD, g1, b1, b2, rfl⟩ ?_
  rintro m σ' B' H' ⟨x7, x8, x9, S, U, h, fv, fs, rfl, hfv, hfs, hl1, hl2, hI, g2, hb1, hb2, rfl⟩
  refine ⟨g2.s, true, et_B ev_c, fun _ B3 H3 g3 => ?_, fun z => nomatch z⟩
  have hUl : U.length ≤ ts.length := by
    have := nodup_sub_len hI.und (m := List.range ts.length) fun i hi => by
      obtain ⟨t, h1, _⟩ := hI.uS i hi
      exact List.mem_range.mpr (List.getElem?_eq_some_iff.mp h1).1
    rw [List.length_range] at this
    exact this
  obtain ⟨c1, d1⟩ := g3.off hb1 hl1
  have W3 := (stb_wb _ _ _ (g2.tr g3).b W)
  dsimp only [tSeq]
  refine s_setD (u := .dK (usedK U)) (d := .list ((openL ts S U).map fun i => .int ((i : Nat) : Int))) (ed_is (ed_lc (ei_enumT (xs := ts) (φ := tieD) (ea_cons (ed_ties T.web (ep_var 0 rfl (W3.wa.mono (Evl.Ex.new c1)) stb_web)) ea_nil)) (fun a => !decide (a.2 ∈ U) && !decide (V.bl (decide (a.1.1 ∈ S)) = V.bl (decide (a.1.2 ∈ S)))) (fun a => .int ((a.2 : Nat) : Int)) (by rw [List.length_zipIdx]; omega) fun a x B4 ha e4 hx => ?_) ?_) g3.s d1 c1 fun ov B4 H4 g4 p4 hb4 hl4 => ?_
  · obtain ⟨Tb, x2, rfl, hTb, hx2⟩ := hx
    have k := ev_tieIx (te := tVar 12) (σ := [some v, some u, some (.str (sg b)), some (.str (Sx S)), some fv, some (.ref l1), some (.ref l2), x7, x8, x9, none, some (.int ((a.2 : Nat) : Int)), some x2]) (ed_var 12 rfl hx2)
    refine ⟨_, tg_two 11 12 hTb, rfl, et_and (et_B (ev_is (ev_notInW (k := Sum.inl ((a.2 : Nat) : Int)) (e4 _ _ upd_same) (ev_var 11 rfl) (ev_var 5 rfl)) (by rw [used_val]))) fun _ => et_test (ev_is (ev_ne (ev_inSign k.1 (ev_var 3 rfl)) (ev_inSign k.2 (ev_var 3 rfl)) rfl) ?_), fun _ => int_ed (ev_var 11 rfl)⟩
    rw [sx_toList]
  · unfold openL
    rw [List.map_map]; rfl
  have g24 := (g2.tr g3).tr g4
  obtain ⟨c2, d2⟩ := (g3.tr g4).off hb2 hl2
  refine s_if (b := (openL ts S U).isEmpty) (et_test (ev_is (ev_eqD (ed_is (ed_var 7 rfl p4) (congrArg PyData.list (show _ = ((openL ts S U).map fun i => ((i : Nat) : Int)).map PyData.int by rw [List.map_map]; rfl))) (ed_lst ea_nil (by decide)) (shaped_ints _) (by decide +kernel)) (by rw [eqv_nilL]; simp))) g4.s (fun hem B5 H5 g5 => ?_) (fun hem B5 H5 g5 => ?_)
  · have hem := List.isEmpty_iff.mp hem
    refine s_ret (ed_tup (ds := [.str (Sx S), .list fs]) (ea_cons (str_ed (ev_var 3 rfl)) (ea_cons (ed_var 4 rfl (dp_ex ((g3.tr g4).tr g5).b hfv)) ea_nil)) (by show 2 ≤ 100000; decide)) g5.s fun rv B6 H6 g6 p6 => q rv B6 H6 (g24.tr (g5.tr g6)) ⟨S, _, p6, binv_end hI hem⟩
  · have hne2 : openL ts S U ≠ [] := fun z => by rw [z] at hem; cases hem
    obtain ⟨O, i, hO⟩ : ∃ O i, openL ts S U = O ++ [i] := ⟨_, _, (List.dropLast_concat_getLast hne2).symm⟩
    obtain ⟨t, hti, hiU, hmix⟩ := openL_mem.mp (show i ∈ openL ts S U by rw [hO]; simp)
    obtain ⟨hep, heS, hI'⟩ := binv_step hI W.ot.mem hti hiU hmix
    have p5 := dp_ex g5.b p4
    obtain ⟨c3, d3⟩ := g5.off hb4 hl4
    obtain ⟨c4, d4⟩ := g5.off c2 d2
    show tSeq _ _ _ _ _
    dsimp only [tSeq]
    refine s_set (P := fun v _ => v = .int ((i : Nat) : Int)) (ed_int (ed_ixL (ed_var 7 rfl p5) (ev_un (g := fun i => .int (-i)) (i := 1) ev_c) (by rw [hO, List.map_append]; exact atI_last _ _))) g5.s fun iv B6 H6 g6 p6 => ?_
    subst p6
    obtain ⟨c5, d5⟩ := g6.off c3 d3
    obtain ⟨c6, d6⟩ := g6.off c4 d4
    have hkl : (usedK U).length < 100000 := by unfold usedK; rw [List.length_map]; omega
    refine s_dput (k := Sum.inl ((i : Nat) : Int)) ev_c (ev_var 5 rfl) (ev_var 8 rfl) g6.s d5 c5 hkl fun B7 H7 g7 c7 d7 => ?_
    rw [used_put hiU]
    have gA := (g24.tr ((g5.tr g6).tr g7)).mut (o := .dK (usedK (U ++ [i]))) f1 c7
    obtain ⟨c8, d8⟩ := g7.off c6 d6
    have d8' : upd H7 l1 (.dK (usedK (U ++ [i]))) l2 = some (.dK (hitK pl h)) := by rw [upd_ne (Ne.symm hne)]; exact d8
    have d7' : upd H7 l1 (.dK (usedK (U ++ [i]))) l1 = some (.dK (usedK (U ++ [i]))) := upd_same
    generalize upd H7 l1 (.dK (usedK (U ++ [i]))) = Ha at gA d8' d7'
    have W7 := stb_wb _ _ _ gA.b W
    have tie7 : ∀ {σ0 : L2.St} (h0 : σ0[0]? = some (some v)) (h8 : σ0[8]? = some (some (.int ((i : Nat) : Int)))), Kx.Ed (tOp (rIxT K) (tFld K (tVar 0) "ties") (tVar 8)) σ0 B7 (tieD t) := fun h0 h8 => ed_ixT (ed_ties T.web (ep_var 0 h0 W7.wa stb_web)) (ev_var 8 h8) (at_map rfl hti)
    dsimp only
    refine s_set (P := fun v _ => v = .str (sg (endOf S t))) (ep_if (b := decide (t.1 ∈ S)) (et_test (ev_is (ev_inSign (ev_tieIx (tie7 rfl rfl)).1 (ev_var 3 rfl)) (by rw [sx_toList]))) (fun hh => ev_is (ev_tieIx (tie7 rfl rfl)).2 ?_) (fun hh => ev_is (ev_tieIx (tie7 rfl rfl)).1 ?_)) gA.s fun nv B8 H8 g8 p8 => ?_
    · unfold endOf; rw [if_pos (of_decide_eq_true hh)]
    · unfold endOf; rw [if_neg (of_decide_eq_false hh)]
    subst p8
    obtain ⟨c9, d9⟩ := g8.off c8 d8'
    obtain ⟨c10, d10⟩ := g8.off c7 d7'
    have hkl2 : (hitK pl h).length < 100000 := by unfold hitK; rw [List.length_map]; omega
    refine s_daug (k := Sum.inr (sg (endOf S t))) (i := h (endOf S t)) (j := 1) (ev_var 6 rfl) (ev_var 9 rfl) ev_c g8.s d9 c9 hkl2 (hit_val hep) fun B9 H9 g9 c11 d11 => ?_
    rw [hit_put hep]
    have gB := (gA.tr (g8.tr g9)).mut (o := .dK (hitK pl fun p => if p = endOf S t then h (endOf S t) + 1 else h p)) f2 c11
    obtain ⟨c12, d12⟩ := g9.off c10 d10
    have d12' : upd H9 l2 (.dK (hitK pl fun p => if p = endOf S t then h (endOf S t) + 1 else h p)) l1 = some (.dK (usedK (U ++ [i]))) := by rw [upd_ne hne]; exact d12
    have d11' : upd H9 l2 (.dK (hitK pl fun p => if p = endOf S t then h (endOf S t) + 1 else h p)) l2 = some (.dK (hitK pl fun p => if p = endOf S t then h (endOf S t) + 1 else h p)) := upd_same
    generalize upd H9 l2 (.dK (hitK pl fun p => if p = endOf S t then h (endOf S t) + 1 else h p)) = Hb at gB d11' d12'
    have eh : (fun p => if p = endOf S t then h (endOf S t) + 1 else h p) = (fun p => if p = endOf S t then h p + 1 else h p) := by
      funext p
      split
      · rename_i z; rw [z]
      · rfl
    rw [eh] at d11'
    have W9 := stb_wb _ _ _ gB.b W
    have hfv9 : Dq B9 fv (.list fs) := dp_ex ((((g3.tr g4).tr (g5.tr g6)).b.trans g7.b).trans (g8.b.trans g9.b)) hfv
    have exn : Evl.Ex B9 (upd B9 l2 (wat (.dK (hitK pl fun p => if p = endOf S t then h p + 1 else h p)))) := Evl.Ex.new c11
    dsimp only
    refine s_if (b := decide (D (endOf S t) < h (endOf S t) + 1)) (B := upd B9 l2 (wat (.dK (hitK pl fun p => if p = endOf S t then h p + 1 else h p)))) (et_test (ev_is (ev_I0 (i := h (endOf S t) + 1) (j := D (endOf S t)) (ev_dgetW (k := Sum.inr (sg (endOf S t))) upd_same (ev_var 6 rfl) (ev_var 9 rfl) (by rw [hit_val hep, if_pos rfl])) (ev_hpix W.op.nd (ed_var 1 rfl (dp_ex (gB.b.trans exn) hu)) (ev_places T.web (ep_var 0 rfl (W9.wa.mono exn) stb_web)) (ev_var 9 rfl) hep)) rfl)) (sub_wat gB.s d11') (fun hgt B10 H10 g10 => ?_) (fun hgt B10 H10 g10 => ?_)
    · have hgt := of_decide_eq_true hgt
      rw [if_pos hgt] at hI'
      obtain ⟨g11, d13, _⟩ := g10.unw c11
      obtain ⟨c14, d14⟩ := g11.off c12 d12'
      have hSl : S.length ≤ 4 := by have := nodup_sub_len hI.snd hI.ssub; omega
      refine s_unp (P := fun z B' => Dq B' z (.tuple [.str (Sx (S ++ [endOf S t])), .list (fs ++ [.int ((i : Nat) : Int)])])) (ed_tup (ea_cons (str_ed (ev_is (ev_addS (ev_var 3 rfl) (ev_var 9 rfl) ?_) ?_)) (ea_cons (ed_cat (ed_var 4 rfl (dp_ex g11.b hfv9)) (ed_lst (ea_cons (int_ed (ev_var 8 rfl)) ea_nil) (by show 1 ≤ 100000; decide)) ?_) ea_nil)) (by show 2 ≤ 100000; decide)) g11.s fun pv B11 H11 g12 p12 => ?_
      · rw [sx_len]; show _ + 1 ≤ _; omega
      · rw [← sx_app]
      · show _ + 1 ≤ 100000; omega
      obtain ⟨a2, y3, y4, rfl, ha2, k3, k4⟩ := dq_two p12
      cases k3
      obtain ⟨c15, d15⟩ := g12.off c14 d14
      obtain ⟨c16, d16⟩ := g12.off del_same d13
      refine ⟨a2, _, y4, rfl, ha2, ts.length - (U ++ [i]).length, B11, ?_, _, _, _, S ++ [endOf S t], U ++ [i], _, y4, _, rfl, k4, ?_, d15, d16, hI', gB.tr (g11.tr g12), c15, c16, rfl⟩
      · rw [List.length_append, List.length_singleton]
        have : (U ++ [i]).length ≤ ts.length := by
          have := nodup_sub_len hI'.und (m := List.range ts.length) fun i hi => by
            obtain ⟨t, h1, _⟩ := hI'.uS i hi
            exact List.mem_range.mpr (List.getElem?_eq_some_iff.mp h1).1
          rw [List.length_range] at this
          exact this
        rw [List.length_append, List.length_singleton] at this
        omega
      · rw [List.length_append, List.length_append]
        show _ + 1 ≤ _ + 1
        omega
    · have hgt := of_decide_eq_false hgt
      rw [if_neg hgt] at hI'
      obtain ⟨g11, d13, _⟩ := g10.unw c11
      obtain ⟨c14, d14⟩ := g11.off c12 d12'
      refine ⟨ts.length - (U ++ [i]).length, _, ?_, _, _, _, S, U ++ [i], _, fv, fs, rfl, dp_ex g11.b hfv9, ?_, d14, d13, hI', gB.tr g11, c14, del_same, rfl⟩
      · have : (U ++ [i]).length ≤ ts.length := by
          have := nodup_sub_len hI'.und (m := List.range ts.length) fun i hi => by
            obtain ⟨t, h1, _⟩ := hI'.uS i hi
            exact List.mem_range.mpr (List.getElem?_eq_some_iff.mp h1).1
          rw [List.length_range] at this
          exact this
        rw [List.length_append, List.length_singleton] at this ⊢
        omega
      · rw [List.length_append]
        show _ ≤ _ + 1
        omega
end
end Kx

/-! KmLap -/
namespace Kx
open PySem L2
/-- what a place gets by gifts, tie by tie -/
def lapT (g : Nat → Int) (u : Nat) (t : Nat × Nat) : Int := (if t.1 = u then g t.2 - g u else 0) + (if t.2 = u then g t.1 - g u else 0)
def lap (ts : List (Nat × Nat)) (g : Nat → Int) (u : Nat) : Int := (ts.map (lapT g u)).sum
def ind (p q : Nat) : Int := if p = q then 1 else 0
theorem sum_ind : ∀ {pl : List Nat} (g : Nat → Int) {q : Nat}, pl.Nodup → q ∈ pl → (pl.map fun p => g p * ind p q).sum = g q
  | a :: r, g, q, hn, hq => by
    rw [List.map_cons, List.sum_cons]
    obtain ⟨n1, n2⟩ := List.nodup_cons.mp hn
    unfold ind
    by_cases e : a = q
    · subst e
      rw [if_pos rfl, sum_zero fun p hp => by rw [if_neg (fun (z : p = a) => n1 (by rw [← z]; exact hp)), Int.mul_zero]]
      omega
    · rw [if_neg e, Int.mul_zero, Int.zero_add]
      exact sum_ind g n2 ((List.mem_cons.mp hq).resolve_left fun z => e z.symm)
def kT (t : Nat × Nat) (p u : Nat) : Int := if u = p then -(if hit t p = true then 1 else 0) else (if (hit t p && hit t u) = true then 1 else 0)
theorem gr_cons (t : Nat × Nat) (ts : List (Nat × Nat)) (p u : Nat) : gr (t :: ts) p u = gr ts p u + kT t p u := by
  unfold gr kT deg btw
  by_cases e : u = p
  · rw [if_pos e, if_pos e, if_pos e, List.filter_cons]
    split
    · rw [List.length_cons]; omega
    · omega
  · rw [if_neg e, if_neg e, if_neg e, List.filter_cons]
    split
    · rw [List.length_cons]; omega
    · omega
theorem kT_eq {t : Nat × Nat} (h : t.1 ≠ t.2) (p u : Nat) : kT t p u = (if t.1 = u then ind p t.2 - ind p u else 0) + (if t.2 = u then ind p t.1 - ind p u else 0) := by
  obtain ⟨a, b⟩ := t
  have h : a ≠ b := h
  unfold kT ind
  simp only [Bool.and_eq_true, hit_iff]
  by_cases h1 : u = p
  · subst h1
    rw [if_pos rfl]
    by_cases h2 : a = u
    · subst h2
      have hb : ¬ b = a := Ne.symm h
      simp [h, hb]
    · by_cases h3 : b = u
      · subst h3
        simp [h2, Ne.symm h2]
      · simp [h2, h3]
  · have h1' : ¬ p = u := Ne.symm h1
    rw [if_neg h1]
    by_cases h2 : a = u
    · subst h2
      have hb : ¬ b = a := Ne.symm h
      by_cases h4 : b = p
      · subst h4; simp [h, hb]
      · simp [h1, h1', h4, hb, Ne.symm h4]
    · by_cases h3 : b = u
      · subst h3
        by_cases h4 : a = p
        · subst h4; simp [h, h2, Ne.symm h]
        · simp [h1, h1', h2, h4, Ne.symm h4]
      · simp [h2, h3]
theorem sum_kT {pl : List Nat} (hn : pl.Nodup) (g : Nat → Int) {t : Nat × Nat} (ht : t.1 ∈ pl ∧ t.2 ∈ pl ∧ t.1 < t.2) {u : Nat} (hu : u ∈ pl) : (pl.map fun p => g p * kT t p u).sum = lapT g u t := by
  have e : (pl.map fun p => g p * kT t p u) = pl.map fun p => (if t.1 = u then 1 else 0) * (g p * ind p t.2 - g p * ind p u) + (if t.2 = u then 1 else 0) * (g p * ind p t.1 - g p * ind p u) := List.map_congr_left fun p _ => by
    rw [kT_eq (Nat.ne_of_lt ht.2.2)]
    split <;> split <;> simp [Int.mul_sub, Int.mul_add]
  have sub : ∀ f k : Nat → Int, (pl.map fun p => f p - k p).sum = (pl.map f).sum - (pl.map k).sum := fun f k => by
    have : (pl.map fun p => f p - k p) = pl.map fun p => f p + (-1) * k p := List.map_congr_left fun p _ => by omega
    rw [this, sum_add, sum_mul]; omega
  rw [e, sum_add, sum_mul, sum_mul, sub, sub, sum_ind g hn ht.1, sum_ind g hn ht.2.1, sum_ind g hn hu]
  unfold lapT
  split <;> split <;> omega
theorem sum_gr {pl : List Nat} (hn : pl.Nodup) (g : Nat → Int) {u : Nat} (hu : u ∈ pl) : ∀ {ts : List (Nat × Nat)}, (∀ t ∈ ts, t.1 ∈ pl ∧ t.2 ∈ pl ∧ t.1 < t.2) → (pl.map fun p => g p * gr ts p u).sum = lap ts g u
  | [], _ => by
    have : ∀ p ∈ pl, g p * gr [] p u = 0 := fun p _ => by
      have : gr [] p u = 0 := by unfold gr deg btw; split <;> rfl
      rw [this, Int.mul_zero]
    rw [sum_zero this]; rfl
  | t :: r, h => by
    have e : (pl.map fun p => g p * gr (t :: r) p u) = pl.map fun p => g p * gr r p u + g p * kT t p u := List.map_congr_left fun p _ => by rw [gr_cons, Int.mul_add]
    rw [e, sum_add, sum_gr hn g hu fun s hs => h s (List.mem_cons_of_mem _ hs), sum_kT hn g (h t List.mem_cons_self) hu]
    unfold lap
    rw [List.map_cons, List.sum_cons]; omega
theorem aft_lap {pl : List Nat} {ts : List (Nat × Nat)} (hn : pl.Nodup) (h : ∀ t ∈ ts, t.1 ∈ pl ∧ t.2 ∈ pl ∧ t.1 < t.2) (D g : Nat → Int) {u : Nat} (hu : u ∈ pl) : aft pl ts D g u = D u + lap ts g u := by
  unfold aft
  rw [sum_gr hn g hu h]
theorem sum_comm : ∀ (l m : List Nat) (f : Nat → Nat → Int), (l.map fun a => (m.map fun b => f a b).sum).sum = (m.map fun b => (l.map fun a => f a b).sum).sum
  | [], m, f => by
    rw [List.map_nil, List.sum_nil, sum_zero]
    intro b _; rfl
  | a :: r, m, f => by
    rw [List.map_cons, List.sum_cons, sum_comm r m f, ← sum_add]
    refine sum_congr fun b _ => ?_
    rw [List.map_cons, List.sum_cons]
theorem lap_symm {pl : List Nat} {ts : List (Nat × Nat)} (hn : pl.Nodup) (h : ∀ t ∈ ts, t.1 ∈ pl ∧ t.2 ∈ pl ∧ t.1 < t.2) (f g : Nat → Int) : (pl.map fun u => f u * lap ts g u).sum = (pl.map fun u => g u * lap ts f u).sum := by
  have e1 : (pl.map fun u => f u * lap ts g u) = pl.map fun u => (pl.map fun p => f u * (g p * gr ts p u)).sum := List.map_congr_left fun u hu => by rw [sum_mul, sum_gr hn g hu h]
  have e2 : (pl.map fun u => g u * lap ts f u) = pl.map fun u => (pl.map fun p => g u * (f p * gr ts p u)).sum := List.map_congr_left fun u hu => by rw [sum_mul, sum_gr hn f hu h]
  rw [e1, e2, sum_comm]
  refine sum_congr fun u _ => sum_congr fun p _ => ?_
  rw [gr_comm ts p u, ← Int.mul_assoc, ← Int.mul_assoc, Int.mul_comm (f p)]
/-- gifts leave the sum -/
theorem lap_sum {pl : List Nat} {ts : List (Nat × Nat)} (hn : pl.Nodup) (h : ∀ t ∈ ts, t.1 ∈ pl ∧ t.2 ∈ pl ∧ t.1 < t.2) (g : Nat → Int) : (pl.map fun u => lap ts g u).sum = 0 := by
  have := lap_symm hn h (fun _ => 1) g
  have e : (pl.map fun u => (1 : Int) * lap ts g u) = pl.map fun u => lap ts g u := List.map_congr_left fun u _ => Int.one_mul _
  rw [e] at this
  rw [this]
  refine sum_zero fun u _ => ?_
  have : lap ts (fun _ => (1 : Int)) u = 0 := sum_zero fun t _ => by unfold lapT; split <;> split <;> rfl
  rw [this, Int.mul_zero]
theorem sum_le {α : Type} {l : List α} {f g : α → Int} (h : ∀ a ∈ l, f a ≤ g a) : (l.map f).sum ≤ (l.map g).sum := by
  induction l with
  | nil => exact Int.le_refl _
  | cons a r ih =>
    rw [List.map_cons, List.sum_cons, List.map_cons, List.sum_cons]
    have h1 := h a List.mem_cons_self
    have h2 := ih fun b hb => h b (List.mem_cons_of_mem _ hb)
    omega
theorem filter_sum {α : Type} (l : List α) (c : α → Bool) : ((l.filter c).length : Int) = (l.map fun a => if c a = true then (1 : Int) else 0).sum := by
  induction l with
  | nil => rfl
  | cons a r ih =>
    rw [List.map_cons, List.sum_cons, List.filter_cons]
    split
    · rw [List.length_cons, ← ih]; omega
    · rw [← ih]; omega
/-- gifts of all that are not seen -/
def out (S : List Nat) (u : Nat) : Int := if u ∈ S then 0 else 1
theorem lap_out_in {ts : List (Nat × Nat)} {S : List Nat} {u : Nat} (hu : u ∈ S) : 0 ≤ lap ts (out S) u := by
  refine sum_nonneg fun t _ => ?_
  unfold lapT out
  rw [if_pos hu]
  have h1 : ∀ x : Nat, (0 : Int) ≤ (if x ∈ S then 0 else 1) - 0 := fun x => by split <;> omega
  have h2 := h1 t.1
  have h3 := h1 t.2
  split <;> split <;> omega
theorem lap_out_off {ts : List (Nat × Nat)} {S : List Nat} {u : Nat} (hts : ∀ t ∈ ts, t.1 < t.2) (hu : u ∉ S) : lap ts (out S) u = -((crs ts u S : Nat) : Int) := by
  unfold crs
  rw [filter_sum]
  have e : -((ts.map fun a => if crB u S a = true then (1 : Int) else 0).sum) = (ts.map fun a => (-1 : Int) * if crB u S a = true then (1 : Int) else 0).sum := by rw [sum_mul]; omega
  rw [e]
  refine sum_congr fun t ht => ?_
  have := hts t ht
  unfold lapT out
  rw [if_neg hu]
  by_cases h1 : t.1 = u
  · have h2 : ¬ t.2 = u := by omega
    rw [if_pos h1, if_neg h2]
    by_cases h3 : t.2 ∈ S
    · rw [if_pos h3, if_pos (crB_iff.mpr (.inl ⟨h1, h3⟩))]; omega
    · rw [if_neg h3, if_neg (fun z => by rcases crB_iff.mp z with z | z; exact h3 z.2; exact h2 z.1)]; omega
  · rw [if_neg h1]
    by_cases h2 : t.2 = u
    · rw [if_pos h2]
      by_cases h3 : t.1 ∈ S
      · rw [if_pos h3, if_pos (crB_iff.mpr (.inr ⟨h2, h3⟩))]; omega
      · rw [if_neg h3, if_neg (fun z => by rcases crB_iff.mp z with z | z; exact h1 z.1; exact h3 z.2)]; omega
    · rw [if_neg h2, if_neg (fun z => by rcases crB_iff.mp z with z | z; exact h1 z.1; exact h2 z.1)]; omega
/-- reduced at b: nothing off b is below 0, and all burns -/
structure Red (pl : List Nat) (ts : List (Nat × Nat)) (b : Nat) (E : Nat → Int) : Prop where
  nn : ∀ u ∈ pl, u ≠ b → 0 ≤ E u
  ord : ∃ S, (∃ S', S = b :: S') ∧ (∀ p ∈ pl, p ∈ S) ∧ (∀ p ∈ S, p ∈ pl) ∧ ∀ pre p post, S = pre ++ p :: post → pre ≠ [] → E p < ((crs ts p pre : Nat) : Int)
theorem max_at : ∀ {l : List Nat} (g : Nat → Int), l ≠ [] → ∃ m ∈ l, ∀ u ∈ l, g u ≤ g m
  | [a], g, _ => ⟨a, List.mem_cons_self, fun u hu => by rw [List.mem_singleton] at hu; rw [hu]; exact Int.le_refl _⟩
  | a :: c :: r, g, _ => by
    obtain ⟨m, hm, h⟩ := max_at (l := c :: r) g (by simp)
    by_cases q : g a ≤ g m
    · exact ⟨m, List.mem_cons_of_mem _ hm, fun u hu => by
        rcases List.mem_cons.mp hu with e | hu
        · rw [e]; exact q
        · exact h u hu⟩
    · exact ⟨a, List.mem_cons_self, fun u hu => by
        rcases List.mem_cons.mp hu with e | hu
        · rw [e]; exact Int.le_refl _
        · have := h u hu; omega⟩
theorem first_in : ∀ (S : List Nat) (s : Nat → Bool), (∃ p ∈ S, s p = true) → ∃ pre p post, S = pre ++ p :: post ∧ s p = true ∧ ∀ x ∈ pre, s x = false
  | [], s, ⟨p, hp, _⟩ => nomatch hp
  | a :: r, s, ⟨p, hp, hs⟩ => by
    cases q : s a with
    | true => exact ⟨[], a, r, rfl, q, fun x hx => nomatch hx⟩
    | false =>
      have hp' : p ∈ r := (List.mem_cons.mp hp).resolve_left fun z => by rw [z, q] at hs; cases hs
      obtain ⟨pre, p', post, e, h1, h2⟩ := first_in r s ⟨p, hp', hs⟩
      exact ⟨a :: pre, p', post, by rw [e]; rfl, h1, fun x hx => by
        rcases List.mem_cons.mp hx with z | z
        · rw [z]; exact q
        · exact h2 x z⟩
theorem red_bank {pl : List Nat} {ts : List (Nat × Nat)} {b : Nat} {E F : Nat → Int} (hn : pl.Nodup) (hts : ∀ t ∈ ts, t.1 ∈ pl ∧ t.2 ∈ pl ∧ t.1 < t.2) (hb : b ∈ pl) (R : Red pl ts b E) (hA : Alike pl ts E F) (hF : ∀ u ∈ pl, 0 ≤ F u) : 0 ≤ E b := by
  obtain ⟨g, hg⟩ := hA
  have hg : ∀ u ∈ pl, F u = E u + lap ts g u := fun u hu => by rw [hg u hu, aft_lap hn hts E g hu]
  obtain ⟨m, hm, hmax⟩ := max_at (l := pl) g (fun z => by rw [z] at hb; cases hb)
  have upper : ∀ u ∈ pl, g u = g m → ∀ X : List Nat, (∀ x ∈ X, x ∈ pl ∧ g x < g m) → lap ts g u ≤ -((crs ts u X : Nat) : Int) := fun u hu hgu X hX => by
    unfold crs
    rw [filter_sum]
    have e : -((ts.map fun a => if crB u X a = true then (1 : Int) else 0).sum) = (ts.map fun a => (-1 : Int) * if crB u X a = true then (1 : Int) else 0).sum := by rw [sum_mul]; omega
    rw [e]
    refine sum_le fun t ht => ?_
    obtain ⟨m1, m2, m3⟩ := hts t ht
    have k1 := hmax t.1 m1
    have k2 := hmax t.2 m2
    unfold lapT
    by_cases h1 : t.1 = u
    · have h2 : ¬ t.2 = u := by omega
      rw [if_pos h1, if_neg h2]
      by_cases h3 : t.2 ∈ X
      · have := (hX _ h3).2
        rw [if_pos (crB_iff.mpr (.inl ⟨h1, h3⟩))]; omega
      · rw [if_neg (fun z => by rcases crB_iff.mp z with z | z; exact h3 z.2; exact h2 z.1)]; omega
    · rw [if_neg h1]
      by_cases h2 : t.2 = u
      · rw [if_pos h2]
        by_cases h3 : t.1 ∈ X
        · have := (hX _ h3).2
          rw [if_pos (crB_iff.mpr (.inr ⟨h2, h3⟩))]; omega
        · rw [if_neg (fun z => by rcases crB_iff.mp z with z | z; exact h1 z.1; exact h3 z.2)]; omega
      · rw [if_neg h2, if_neg (fun z => by rcases crB_iff.mp z with z | z; exact h1 z.1; exact h2 z.1)]; omega
  by_cases hgb : g b = g m
  · have h1 := upper b hb hgb [] (fun x hx => nomatch hx)
    have h2 := hg b hb
    have h3 := hF b hb
    omega
  · obtain ⟨S, ⟨S', hS'⟩, hS1, hS2, hord⟩ := R.ord
    obtain ⟨pre, p, post, e, hp, hpre⟩ := first_in S (fun x => decide (g x = g m)) ⟨m, hS1 m hm, by simp⟩
    have hp := of_decide_eq_true hp
    have hne : pre ≠ [] := fun z => by
      rw [z, hS'] at e
      injection e with e1 _
      rw [e1] at hgb
      exact hgb hp
    have hpp : p ∈ pl := hS2 p (by rw [e]; simp)
    have h1 := hord pre p post e hne
    have h2 := upper p hpp hp pre fun x hx => by
      have hx1 : x ∈ pl := hS2 x (by rw [e]; simp [hx])
      have hx2 := of_decide_eq_false (hpre x hx)
      have := hmax x hx1
      exact ⟨hx1, by omega⟩
    have h3 := hg p hpp
    have h4 := hF p hpp
    omega
end Kx

/-! KmLow -/
namespace Kx
open PySem L2
abbrev TsOk (pl : List Nat) (ts : List (Nat × Nat)) : Prop := ∀ t ∈ ts, t.1 ∈ pl ∧ t.2 ∈ pl ∧ t.1 < t.2
theorem rank_list {pl : List Nat} {ts : List (Nat × Nat)} {b : Nat} (hc : Conn pl ts) (hts : TsOk pl ts) (hb : b ∈ pl) : ∀ n, ∃ S : List Nat, S.Nodup ∧ (∃ S', S = b :: S') ∧ (∀ p ∈ S, p ∈ pl) ∧ (∀ pre p post, S = pre ++ p :: post → pre ≠ [] → ∃ q ∈ pre, 0 < btw ts p q) ∧ (n < S.length ∨ ∀ p ∈ pl, p ∈ S)
  | 0 => ⟨[b], by simp, ⟨[], rfl⟩, fun p hp => by rw [List.mem_singleton] at hp; rw [hp]; exact hb, fun pre p post e hne => by
      cases pre with
      | nil => exact (hne rfl).elim
      | cons a r => rw [List.cons_append] at e; injection e with _ e2; simp at e2, .inl (by simp)⟩
  | n + 1 => by
    obtain ⟨S, h1, h2, h3, h4, h5⟩ := rank_list hc hts hb n
    by_cases hall : ∀ p ∈ pl, p ∈ S
    · exact ⟨S, h1, h2, h3, h4, .inr hall⟩
    · have h5 : n < S.length := h5.resolve_right hall
      obtain ⟨z, hz, hzS⟩ : ∃ z, z ∈ pl ∧ z ∉ S := Classical.byContradiction fun hn => hall fun p hp => Classical.byContradiction fun h => hn ⟨p, hp, h⟩
      obtain ⟨S', e⟩ := h2
      have hbS : b ∈ S := by rw [e]; exact List.mem_cons_self
      obtain ⟨p, q, hp, hq, sp, sq, hpq⟩ := cross hc hts (S := fun x => decide (x ∈ S)) hb hz (decide_eq_true hbS) (decide_eq_false hzS)
      have sp := of_decide_eq_false sp
      have sq := of_decide_eq_true sq
      refine ⟨S ++ [p], ?_, ⟨S' ++ [p], by rw [e]; rfl⟩, ?_, ?_, .inl (by rw [List.length_append, List.length_singleton]; omega)⟩
      · refine List.nodup_append.mpr ⟨h1, by simp, fun a ha c hc' z => ?_⟩
        rw [List.mem_singleton] at hc'
        subst z; subst hc'
        exact sp ha
      · intro x hx
        rcases List.mem_append.mp hx with hx | hx
        · exact h3 x hx
        · rw [List.mem_singleton] at hx; rw [hx]; exact hp
      · intro pre x post e1 hne
        rcases List.eq_nil_or_concat post with rfl | ⟨post', y, rfl⟩
        · obtain ⟨e3, e4⟩ := List.append_inj' e1 rfl
          injection e4 with e4 _
          subst e3; subst e4
          exact ⟨q, sq, hpq⟩
        · rw [List.concat_eq_append, ← List.cons_append, ← List.append_assoc] at e1
          exact h4 pre x post' (List.append_inj' e1 rfl).1 hne
theorem sum_len {α : Type} {l : List α} {f : α → Int} {x : Int} (h : ∀ a ∈ l, f a ≤ x) : (l.map f).sum ≤ (l.length : Int) * x := by
  induction l with
  | nil => simp
  | cons a r ih =>
    rw [List.map_cons, List.sum_cons, List.length_cons]
    have h1 := h a List.mem_cons_self
    have h2 := ih fun b hb => h b (List.mem_cons_of_mem _ hb)
    have : ((r.length + 1 : Nat) : Int) * x = (r.length : Int) * x + x := by rw [Int.natCast_add, Int.add_mul]; simp
    omega
theorem sum_low {α : Type} {l : List α} {f : α → Int} {x y : Int} (h : ∀ a ∈ l, f a ≤ x) {q : α} (hq : q ∈ l) (hy : f q ≤ y) : (l.map f).sum ≤ ((l.length - 1 : Nat) : Int) * x + y := by
  obtain ⟨l1, l2, rfl⟩ := List.append_of_mem hq
  rw [List.map_append, List.map_cons, List.sum_append, List.sum_cons]
  have h1 := sum_len (l := l1) (x := x) fun a ha => h a (by simp [ha])
  have h2 := sum_len (l := l2) (x := x) fun a ha => h a (by simp [ha])
  have : (((l1 ++ q :: l2).length - 1 : Nat) : Int) * x = (l1.length : Int) * x + (l2.length : Int) * x := by
    rw [← Int.add_mul]
    congr 1
    rw [List.length_append, List.length_cons]; omega
  omega
theorem weights {pl : List Nat} {ts : List (Nat × Nat)} {b : Nat} (hc : Conn pl ts) (hts : TsOk pl ts) (hb : b ∈ pl) (few : pl.length ≤ 4) (fewt : ts.length ≤ 6) :
    ∃ c : Nat → Int, (∀ u, 0 ≤ c u) ∧ c b = 0 ∧ ∀ u ∈ pl, u ≠ b → lap ts c u ≤ -1 := by
  obtain ⟨S, h1, ⟨S', h2⟩, h3, h4, h5⟩ := rank_list hc hts hb pl.length
  have hall : ∀ p ∈ pl, p ∈ S := h5.resolve_left fun z => by have := nodup_sub_len h1 h3; omega
  have hSl : S.length ≤ 4 := by have := nodup_sub_len h1 h3; omega
  let w : Nat → Nat := fun p => 12 ^ (4 - S.idxOf p)
  have hw1 : ∀ p, 1 ≤ w p := fun p => Nat.one_le_pow _ _ (by decide)
  have hw2 : ∀ p, w p ≤ 12 ^ 4 := fun p => Nat.pow_le_pow_right (by decide) (by omega)
  refine ⟨fun p => (12 : Int) ^ 4 - ((w p : Nat) : Int), fun u => ?_, ?_, fun u hu hne => ?_⟩
  · have := hw2 u
    have e : (12 : Nat) ^ 4 = 20736 := by decide
    have e2 : (12 : Int) ^ 4 = 20736 := by decide
    dsimp only
    rw [e2]
    omega
  · have : S.idxOf b = 0 := by rw [h2]; simp
    show (12 : Int) ^ 4 - (((12 : Nat) ^ (4 - S.idxOf b) : Nat) : Int) = 0
    rw [this]; decide
  · have huS := hall u hu
    obtain ⟨pre, post, e⟩ := List.append_of_mem huS
    have hup : u ∉ pre := fun z => by
      rw [e] at h1
      exact (List.nodup_append.mp h1).2.2 u z u List.mem_cons_self rfl
    have hpre : pre ≠ [] := fun z => by
      rw [z, h2] at e
      injection e with e1 _
      exact hne e1.symm
    obtain ⟨q, hq, hbq⟩ := h4 pre u post e hpre
    have hiu : S.idxOf u = pre.length := by
      rw [e, List.idxOf_append, if_neg hup, List.idxOf_cons_self]; omega
    have hiq : S.idxOf q < pre.length := by
      rw [e, List.idxOf_append, if_pos hq]
      exact List.idxOf_lt_length_of_mem hq
    have hul : pre.length < S.length := by rw [e, List.length_append, List.length_cons]; omega
    have hwq : 12 * w u ≤ w q := by
      show 12 * 12 ^ (4 - S.idxOf u) ≤ 12 ^ (4 - S.idxOf q)
      rw [hiu, Nat.mul_comm, ← Nat.pow_succ]
      exact Nat.pow_le_pow_right (by decide) (by omega)
    obtain ⟨t, ht, t1, t2⟩ := btw_pos.mp hbq
    have hqu : q ≠ u := fun z => hup (z ▸ hq)
    have low : lapT (fun p => (12 : Int) ^ 4 - ((w p : Nat) : Int)) u t ≤ -11 * ((w u : Nat) : Int) := by
      have hlt := (hts t ht).2.2
      unfold lapT
      dsimp only
      rcases hit_iff.mp t1 with a1 | a1 <;> rcases hit_iff.mp t2 with a2 | a2
      · exact (hqu (a2.symm.trans a1)).elim
      · rw [if_pos a1, if_neg (by omega), a2]; omega
      · rw [if_neg (by omega), if_pos a1, a2]; omega
      · exact (hqu (a2.symm.trans a1)).elim
    have up : ∀ s ∈ ts, lapT (fun p => (12 : Int) ^ 4 - ((w p : Nat) : Int)) u s ≤ ((w u : Nat) : Int) := fun s hs => by
      have hlt := (hts s hs).2.2
      have k1 := hw1 s.1
      have k2 := hw1 s.2
      unfold lapT
      dsimp only
      split <;> split <;> omega
    have h9 := sum_low up ht low
    have hwu := hw1 u
    unfold lap
    have h10 : ((ts.length - 1 : Nat) : Int) * ((w u : Nat) : Int) ≤ 5 * ((w u : Nat) : Int) := Int.mul_le_mul_of_nonneg_right (by omega) (by omega)
    omega
def phi (pl : List Nat) (c E : Nat → Int) : Int := (pl.map fun u => c u * E u).sum
theorem phi_nn {pl : List Nat} {b : Nat} {c E : Nat → Int} (hc : ∀ u, 0 ≤ c u) (hcb : c b = 0) (hE : ∀ u ∈ pl, u ≠ b → 0 ≤ E u) : 0 ≤ phi pl c E := sum_nonneg fun u hu => by
  by_cases e : u = b
  · rw [e, hcb, Int.zero_mul]; exact Int.le_refl _
  · exact Int.mul_nonneg (hc u) (hE u hu e)
theorem low_step {pl : List Nat} {ts : List (Nat × Nat)} {b : Nat} {E c : Nat → Int} {S : List Nat} (hn : pl.Nodup) (hts : TsOk pl ts) (hB : Burnt pl ts b E S) (hE : ∀ u ∈ pl, u ≠ b → 0 ≤ E u) (hc : ∀ u, 0 ≤ c u) (hcl : ∀ u ∈ pl, u ≠ b → lap ts c u ≤ -1) {z : Nat} (hz : z ∈ pl) (hzS : z ∉ S) :
    (∀ u ∈ pl, u ≠ b → 0 ≤ aft pl ts E (out S) u) ∧ phi pl c (aft pl ts E (out S)) ≤ phi pl c E - 1 := by
  obtain ⟨S', hS'⟩ := hB.shd
  have hbS : b ∈ S := by rw [hS']; exact List.mem_cons_self
  have lt : ∀ t ∈ ts, t.1 < t.2 := fun t ht => (hts t ht).2.2
  refine ⟨fun u hu hne => ?_, ?_⟩
  · rw [aft_lap hn hts E _ hu]
    by_cases hS : u ∈ S
    · have := lap_out_in (ts := ts) hS
      have := hE u hu hne
      omega
    · rw [lap_out_off lt hS]
      have := hB.stop u hu hS
      omega
  · unfold phi
    have e1 : (pl.map fun u => c u * aft pl ts E (out S) u) = pl.map fun u => c u * E u + c u * lap ts (out S) u := List.map_congr_left fun u hu => by rw [aft_lap hn hts E _ hu, Int.mul_add]
    rw [e1, sum_add, lap_symm hn hts]
    have h1 : (pl.map fun u => out S u * lap ts c u).sum ≤ ((pl.length - 1 : Nat) : Int) * 0 + (-1) := by
      refine sum_low (fun u hu => ?_) hz ?_
      · unfold out
        split
        · omega
        · rename_i hS
          have := hcl u hu (fun e => hS (e ▸ hbS))
          omega
      · unfold out
        rw [if_neg hzS]
        have := hcl z hz (fun e => hzS (e ▸ hbS))
        omega
    rw [Int.mul_zero] at h1
    omega
theorem low_end {pl : List Nat} {ts : List (Nat × Nat)} {b : Nat} {E : Nat → Int} {S : List Nat} (hB : Burnt pl ts b E S) (hE : ∀ u ∈ pl, u ≠ b → 0 ≤ E u) (hl : pl.length ≤ S.length) : Red pl ts b E :=
  ⟨hE, S, hB.shd, nodup_full hB.snd hB.ssub hl, hB.ssub, hB.ord⟩
/-- a heap without debt can be reached -/
def Free (pl : List Nat) (ts : List (Nat × Nat)) (D : Nat → Int) : Prop := ∃ E, Alike pl ts D E ∧ ∀ u ∈ pl, 0 ≤ E u
theorem free_iff {pl : List Nat} {ts : List (Nat × Nat)} {b : Nat} {D E : Nat → Int} (hn : pl.Nodup) (hts : TsOk pl ts) (hb : b ∈ pl) (hA : Alike pl ts D E) (R : Red pl ts b E) : Free pl ts D ↔ 0 ≤ E b := by
  constructor
  · rintro ⟨F, h1, h2⟩
    exact red_bank hn hts hb R (alike_trans (alike_symm hA) h1) h2
  · intro h
    refine ⟨E, hA, fun u hu => ?_⟩
    by_cases e : u = b
    · rw [e]; exact h
    · exact R.nn u hu e
theorem alike_sum {pl : List Nat} {ts : List (Nat × Nat)} {D E : Nat → Int} (hn : pl.Nodup) (hts : TsOk pl ts) (h : Alike pl ts D E) : (pl.map E).sum = (pl.map D).sum := by
  obtain ⟨g, hg⟩ := h
  have : pl.map E = pl.map fun u => D u + lap ts g u := List.map_congr_left fun u hu => by rw [hg u hu, aft_lap hn hts D g hu]
  rw [this, sum_add, lap_sum hn hts]
  omega
end Kx

/-! KmSolve -/
namespace Kx
open PySem L2
theorem perm_sum {l m : List Int} (h : l.Perm m) : l.sum = m.sum := by
  induction h with
  | nil => rfl
  | cons x _ ih => rw [List.sum_cons, List.sum_cons, ih]
  | swap x y l => rw [List.sum_cons, List.sum_cons, List.sum_cons, List.sum_cons]; omega
  | trans _ _ h1 h2 => rw [h1, h2]
def offB (pl : List Nat) (b : Nat) : List Nat := pl.filter fun c => decide (c ≠ b)
theorem spots_map (pl : List Nat) (b : Nat) : (spots pl b).map (fun i => pl.getD i 0) = offB pl b := by
  unfold spots offB
  rw [List.map_map]
  have h1 : ((pl.zipIdx.filter fun a => decide (a.1 ≠ b)).map ((fun i => pl.getD i 0) ∘ fun x => x.2)) = (pl.zipIdx.filter fun a => decide (a.1 ≠ b)).map fun x => x.1 := List.map_congr_left fun a ha => by
    have := List.mem_zipIdx_iff_getElem?.mp (show (a.1, a.2) ∈ pl.zipIdx from (List.mem_filter.mp ha).1)
    show pl.getD a.2 0 = a.1
    rw [List.getD_eq_getElem?_getD, this]; rfl
  rw [h1]
  have h2 : (pl.zipIdx.map fun x => x.1) = pl := List.zipIdx_map_fst 0 pl
  conv => rhs; rw [← h2]
  rw [List.filter_map]; rfl
theorem srow_eq (pl : List Nat) (ts : List (Nat × Nat)) (b : Nat) : srow pl ts b = (offB pl b).map fun o => (offB pl b).map fun p => -(gr ts p o) := by
  unfold srow
  rw [← spots_map, List.map_map]
  refine List.map_congr_left fun o _ => ?_
  show _ = ((spots pl b).map fun i => pl.getD i 0).map _
  rw [List.map_map]; rfl
theorem offB_perm {pl : List Nat} {b : Nat} (hn : pl.Nodup) (hb : b ∈ pl) : pl.Perm (b :: offB pl b) := by
  have h := List.perm_cons_erase hb
  rw [hn.erase_eq_filter] at h
  have : pl.filter (fun x => x != b) = offB pl b := by
    unfold offB
    congr 1
    funext c
    by_cases e : c = b <;> simp [e]
  rw [this] at h
  exact h
/-- a row's entries -/
theorem row_sum {pl : List Nat} {ts : List (Nat × Nat)} {b : Nat} (hn : pl.Nodup) (hts : TsOk pl ts) (hb : b ∈ pl) {u : Nat} (hu : u ∈ pl) : gr ts b u + ((offB pl b).map fun p => gr ts p u).sum = 0 := by
  have h1 := sum_gr hn (fun _ => 1) hu hts
  have h2 : lap ts (fun _ => (1 : Int)) u = 0 := sum_zero fun t _ => by unfold lapT; split <;> split <;> rfl
  rw [h2] at h1
  have h3 := perm_sum ((offB_perm hn hb).map fun p => (1 : Int) * gr ts p u)
  rw [h1, List.map_cons, List.sum_cons] at h3
  have h4 : ((offB pl b).map fun p => (1 : Int) * gr ts p u) = (offB pl b).map fun p => gr ts p u := List.map_congr_left fun p _ => Int.one_mul _
  rw [h4] at h3
  omega
theorem gr_nn {ts : List (Nat × Nat)} {p o : Nat} (h : o ≠ p) : 0 ≤ gr ts p o := by rw [gr_ne h]; exact Int.natCast_nonneg _
/-- a part without the bank is tied to the rest -/
theorem cut_pos {pl : List Nat} {ts : List (Nat × Nat)} {b : Nat} (hc : Conn pl ts) (hts : TsOk pl ts) (hb : b ∈ pl) {X : Nat → Bool} (hX : X b = false) {u : Nat} (hu : u ∈ pl) (hXu : X u = true) : ∃ p q, p ∈ pl ∧ q ∈ pl ∧ X p = true ∧ X q = false ∧ 1 ≤ gr ts q p := by
  obtain ⟨p, q, hp, hq, sp, sq, hpq⟩ := cross hc hts (S := fun x => !X x) hb hu (by simp [hX]) (by simp [hXu])
  have sp : X p = true := by simpa using sp
  have sq : X q = false := by simpa using sq
  refine ⟨p, q, hp, hq, sp, sq, ?_⟩
  have hne : p ≠ q := fun z => by rw [z, sq] at sp; cases sp
  rw [gr_ne hne, btw_comm]
  omega
def bd (n x : Int) : Prop := -n ≤ x ∧ x ≤ n
theorem bd_mul {m n x y : Int} (h1 : bd m x) (h2 : bd n y) (hm : 0 ≤ m) (hn : 0 ≤ n) : bd (m * n) (x * y) := by
  have hx : x.natAbs ≤ m.natAbs := by unfold bd at h1; omega
  have hy : y.natAbs ≤ n.natAbs := by unfold bd at h2; omega
  have h := Nat.mul_le_mul hx hy
  rw [← Int.natAbs_mul, ← Int.natAbs_mul] at h
  have hmn : 0 ≤ m * n := Int.mul_nonneg hm hn
  unfold bd
  omega
theorem bd_sub {m n x y : Int} (h1 : bd m x) (h2 : bd n y) : bd (m + n) (x - y) := by unfold bd at *; omega
theorem bd_div {n x l : Int} (h : bd n x) (hl : 1 ≤ l) : bd n (x / l) := by
  have h1 : x / l * l ≤ x := Int.ediv_mul_le x (by omega)
  have h2 : x < (x / l + 1) * l := Int.lt_ediv_add_one_mul_self x (by omega)
  unfold bd at *
  constructor
  · apply Classical.byContradiction
    intro z
    have h3 : x / l + 1 ≤ -n := by omega
    have h4 : (x / l + 1) * l ≤ -n * l := Int.mul_le_mul_of_nonneg_right h3 (by omega)
    have h5 : -n * l ≤ -n := by
      have : 0 ≤ n := by omega
      have := Int.mul_le_mul_of_nonneg_left hl this
      rw [Int.neg_mul]; omega
    omega
  · apply Classical.byContradiction
    intro z
    have h3 : n + 1 ≤ x / l := by omega
    have h4 : (n + 1) * l ≤ x / l * l := Int.mul_le_mul_of_nonneg_right h3 (by omega)
    have hn : 0 ≤ n := by omega
    have h5 : (n + 1) * 1 ≤ (n + 1) * l := Int.mul_le_mul_of_nonneg_left hl (by omega)
    omega
theorem good1 {a d : Int} (h : 0 < a) (h2 : a ≤ 6) : Good 1 0 1 [[a, d]] :=
  ⟨_, a, rfl, rfl, h, by omega, fun r hr => by
    rw [List.mem_singleton] at hr
    subst hr
    exact ⟨a, rfl, by omega, by omega⟩, trivial⟩
theorem good2 {a b c d e f : Int} (ha : 0 < a) (ha2 : a ≤ 6) (hb : bd 6 b) (hc : bd 6 c) (hd : bd 6 d) (hdet : 0 < a * d - c * b) : Good 2 0 1 [[a, b, e], [c, d, f]] := by
  refine ⟨_, a, rfl, rfl, ha, by omega, fun r hr => ?_, [(a * c - c * a) / 1, (a * d - c * b) / 1, (a * f - c * e) / 1], (a * d - c * b) / 1, rfl, rfl, by rw [Int.ediv_one]; exact hdet, ?_, fun r hr => ?_, trivial⟩
  · rcases List.mem_cons.mp hr with e | hr
    · subst e; exact ⟨a, rfl, by omega, by omega⟩
    · rw [List.mem_singleton] at hr
      subst hr
      unfold bd at hc
      exact ⟨c, rfl, by omega, by omega⟩
  · have h1 := bd_sub (bd_mul (m := 6) (n := 6) (x := a) (y := d) (by unfold bd; omega) hd (by decide) (by decide)) (bd_mul hc hb (by decide) (by decide))
    rw [Int.ediv_one]
    unfold bd at h1
    omega
  · have hr : r ∈ [[a, b, e], [(a * c - c * a) / 1, (a * d - c * b) / 1, (a * f - c * e) / 1]] := hr
    rcases List.mem_cons.mp hr with e | hr
    · subst e
      unfold bd at hb
      exact ⟨b, rfl, by omega, by omega⟩
    · rw [List.mem_singleton] at hr
      subst hr
      refine ⟨_, rfl, ?_⟩
      have h1 := bd_sub (bd_mul (m := 6) (n := 6) (x := a) (y := d) (by unfold bd; omega) hd (by decide) (by decide)) (bd_mul hc hb (by decide) (by decide))
      rw [Int.ediv_one]
      unfold bd at h1
      omega
end Kx

/-! KmSolve2 -/
namespace Kx
open PySem L2
theorem det_id (a b c d f g h i j : Int) : (a * f - d * b) * (a * j - h * c) - (a * i - h * b) * (a * g - d * c) = a * (a * (f * j - g * i) - b * (d * j - g * h) + c * (d * i - f * h)) := by grind
theorem good3 {a b c d f g h i j e0 e1 e2 : Int} (ha : 0 < a) (ba : bd 6 a) (bb : bd 6 b) (bc : bd 6 c) (b_d : bd 6 d) (bf : bd 6 f) (bg : bd 6 g) (bh : bd 6 h) (bi : bd 6 i) (bj : bd 6 j) (hp : 0 < a * f - d * b) (hdet : 0 < a * (f * j - g * i) - b * (d * j - g * h) + c * (d * i - f * h)) :
    Good 3 0 1 [[a, b, c, e0], [d, f, g, e1], [h, i, j, e2]] := by
  have two : ∀ {x y z w : Int}, bd 6 x → bd 6 y → bd 6 z → bd 6 w → bd 72 ((x * y - z * w) / 1) := fun h1 h2 h3 h4 => by
    rw [Int.ediv_one]
    exact bd_sub (bd_mul h1 h2 (by decide) (by decide)) (bd_mul h3 h4 (by decide) (by decide))
  have P := two ba bf b_d bb
  have R12 := two ba bg b_d bc
  have R21 := two ba bi bh bb
  have R22 := two ba bj bh bc
  have X : bd 5616 (((a * f - d * b) / 1 * c - b * ((a * g - d * c) / 1)) / a) := by
    have h1 := bd_sub (bd_mul P bc (by decide) (by decide)) (bd_mul bb R12 (by decide) (by decide))
    have := bd_div h1 (l := a) (by omega)
    unfold bd at this ⊢; omega
  have Y : bd 10368 (((a * f - d * b) / 1 * ((a * j - h * c) / 1) - (a * i - h * b) / 1 * ((a * g - d * c) / 1)) / a) := by
    have h1 := bd_sub (bd_mul P R22 (by decide) (by decide)) (bd_mul R21 R12 (by decide) (by decide))
    exact bd_div h1 (by omega)
  have eY : ((a * f - d * b) / 1 * ((a * j - h * c) / 1) - (a * i - h * b) / 1 * ((a * g - d * c) / 1)) / a = a * (f * j - g * i) - b * (d * j - g * h) + c * (d * i - f * h) := by
    rw [Int.ediv_one, Int.ediv_one, Int.ediv_one, Int.ediv_one, det_id, Int.mul_ediv_cancel_left _ (by omega)]
  refine ⟨[a, b, c, e0], a, rfl, rfl, ha, by unfold bd at ba; omega, fun r hr => ?_,
    [(a * d - d * a) / 1, (a * f - d * b) / 1, (a * g - d * c) / 1, (a * e1 - d * e0) / 1], (a * f - d * b) / 1, rfl, rfl, by rw [Int.ediv_one]; exact hp, by unfold bd at P; omega, fun r hr => ?_,
    [((a * f - d * b) / 1 * ((a * h - h * a) / 1) - (a * i - h * b) / 1 * ((a * d - d * a) / 1)) / a, ((a * f - d * b) / 1 * ((a * i - h * b) / 1) - (a * i - h * b) / 1 * ((a * f - d * b) / 1)) / a, ((a * f - d * b) / 1 * ((a * j - h * c) / 1) - (a * i - h * b) / 1 * ((a * g - d * c) / 1)) / a, ((a * f - d * b) / 1 * ((a * e2 - h * e0) / 1) - (a * i - h * b) / 1 * ((a * e1 - d * e0) / 1)) / a],
    ((a * f - d * b) / 1 * ((a * j - h * c) / 1) - (a * i - h * b) / 1 * ((a * g - d * c) / 1)) / a, rfl, rfl, by rw [eY]; exact hdet, by unfold bd at Y; omega, fun r hr => ?_, trivial⟩
  · have hr : r ∈ [[a, b, c, e0], [d, f, g, e1], [h, i, j, e2]] := hr
    unfold bd at *
    rcases List.mem_cons.mp hr with e | hr
    · subst e; exact ⟨a, rfl, by omega, by omega⟩
    · rcases List.mem_cons.mp hr with e | hr
      · subst e; exact ⟨d, rfl, by omega, by omega⟩
      · rw [List.mem_singleton] at hr
        subst hr; exact ⟨h, rfl, by omega, by omega⟩
  · have hr : r ∈ [[a, b, c, e0], [(a * d - d * a) / 1, (a * f - d * b) / 1, (a * g - d * c) / 1, (a * e1 - d * e0) / 1], [(a * h - h * a) / 1, (a * i - h * b) / 1, (a * j - h * c) / 1, (a * e2 - h * e0) / 1]] := hr
    unfold bd at *
    rcases List.mem_cons.mp hr with e | hr
    · subst e; exact ⟨b, rfl, by omega, by omega⟩
    · rcases List.mem_cons.mp hr with e | hr
      · subst e; exact ⟨_, rfl, by omega, by omega⟩
      · rw [List.mem_singleton] at hr
        subst hr; exact ⟨_, rfl, by omega, by omega⟩
  · have hr : r ∈ [[((a * f - d * b) / 1 * a - b * ((a * d - d * a) / 1)) / a, ((a * f - d * b) / 1 * b - b * ((a * f - d * b) / 1)) / a, ((a * f - d * b) / 1 * c - b * ((a * g - d * c) / 1)) / a, ((a * f - d * b) / 1 * e0 - b * ((a * e1 - d * e0) / 1)) / a],
        [(a * d - d * a) / 1, (a * f - d * b) / 1, (a * g - d * c) / 1, (a * e1 - d * e0) / 1],
        [((a * f - d * b) / 1 * ((a * h - h * a) / 1) - (a * i - h * b) / 1 * ((a * d - d * a) / 1)) / a, ((a * f - d * b) / 1 * ((a * i - h * b) / 1) - (a * i - h * b) / 1 * ((a * f - d * b) / 1)) / a, ((a * f - d * b) / 1 * ((a * j - h * c) / 1) - (a * i - h * b) / 1 * ((a * g - d * c) / 1)) / a, ((a * f - d * b) / 1 * ((a * e2 - h * e0) / 1) - (a * i - h * b) / 1 * ((a * e1 - d * e0) / 1)) / a]] := hr
    rcases List.mem_cons.mp hr with e | hr
    · subst e; unfold bd at X; exact ⟨_, rfl, by omega, by omega⟩
    · rcases List.mem_cons.mp hr with e | hr
      · subst e; unfold bd at R12; exact ⟨_, rfl, by omega, by omega⟩
      · rw [List.mem_singleton] at hr
        subst hr; unfold bd at Y; exact ⟨_, rfl, by omega, by omega⟩
/-- the minor of three places: x, z, w between 0 1, 0 2, 1 2; p, q, r to the bank -/
def det3 (x z w p q r : Int) : Int := (p + x + z) * ((q + x + w) * (r + z + w) - w * w) - x * (x * (r + z + w) + w * z) - z * (x * w + (q + x + w) * z)
theorem det3_ge (x z w p q r : Int) (hx : 0 ≤ x) (hz : 0 ≤ z) (hw : 0 ≤ w) (hp : 0 ≤ p) (hq : 0 ≤ q) (hr : 0 ≤ r) : p * ((q + x) * (r + z + w)) ≤ det3 x z w p q r := by
  have e : det3 x z w p q r = p * ((q + x) * (r + z + w)) + (p * (w * (r + z)) + x * (q * r) + x * (q * z) + x * (q * w) + x * (w * r) + z * (q * r) + z * (q * w) + z * (x * (q + r)) - x * (q * z) + z * (w * r)) := by
    unfold det3; grind
  rw [e]
  have m : ∀ {a b : Int}, 0 ≤ a → 0 ≤ b → 0 ≤ a * b := fun h1 h2 => Int.mul_nonneg h1 h2
  have h1 := m hp (m hw (show 0 ≤ r + z by omega))
  have h2 := m hx (m hq hr)
  have h4 := m hx (m hq hw)
  have h5 := m hx (m hw hr)
  have h6 := m hz (m hq hr)
  have h7 := m hz (m hq hw)
  have h8 := m hz (m hx (show 0 ≤ q + r by omega))
  have h9 := m hz (m hw hr)
  omega
end Kx

/-! KmSolve3 -/
namespace Kx
open PySem L2
theorem pos3 {a b c : Int} (ha : 1 ≤ a) (hb : 1 ≤ b) (hc : 1 ≤ c) : 1 ≤ a * (b * c) := by
  have h1 : 1 * 1 ≤ b * c := Int.mul_le_mul hb hc (by decide) (by omega)
  have h2 : 1 * 1 ≤ a * (b * c) := Int.mul_le_mul ha (by omega) (by decide) (by omega)
  omega
theorem det3_pos {x z w p q r : Int} (hx : 0 ≤ x) (hz : 0 ≤ z) (hw : 0 ≤ w) (hp : 0 ≤ p) (hq : 0 ≤ q) (hr : 0 ≤ r) (c0 : 1 ≤ p + x + z) (c1 : 1 ≤ q + x + w) (c2 : 1 ≤ r + z + w) (c01 : 1 ≤ p + q + z + w) (c02 : 1 ≤ p + r + x + w) (c12 : 1 ≤ q + r + x + z) (call : 1 ≤ p + q + r) : 0 < det3 x z w p q r := by
  have s01 : det3 x z w p q r = det3 x w z q p r := by unfold det3; grind
  have s12 : det3 x z w p q r = det3 z x w p r q := by unfold det3; grind
  have s02 : det3 x z w p q r = det3 w z x r q p := by unfold det3; grind
  have s120 : det3 x z w p q r = det3 w x z q r p := by unfold det3; grind
  have s201 : det3 x z w p q r = det3 z w x r p q := by unfold det3; grind
  by_cases h1 : 1 ≤ p
  · by_cases h2 : 1 ≤ q + x
    · have := det3_ge x z w p q r hx hz hw hp hq hr
      have := pos3 h1 h2 c2
      omega
    · have := det3_ge z x w p r q hz hx hw hp hr hq
      have := pos3 h1 (show 1 ≤ r + z by omega) (show 1 ≤ q + x + w by omega)
      omega
  · by_cases h3 : 1 ≤ q
    · by_cases h2 : 1 ≤ p + x
      · have := det3_ge x w z q p r hx hw hz hq hp hr
        have := pos3 h3 h2 (show 1 ≤ r + w + z by omega)
        omega
      · have := det3_ge w x z q r p hw hx hz hq hr hp
        have := pos3 h3 (show 1 ≤ r + w by omega) (show 1 ≤ p + x + z by omega)
        omega
    · by_cases h2 : 1 ≤ p + z
      · have := det3_ge z w x r p q hz hw hx hr hp hq
        have := pos3 (show 1 ≤ r by omega) h2 (show 1 ≤ q + w + x by omega)
        omega
      · have := det3_ge w z x r q p hw hz hx hr hq hp
        have := pos3 (show 1 ≤ r by omega) (show 1 ≤ q + w by omega) (show 1 ≤ p + z + x by omega)
        omega
theorem det2_pos {x p q : Int} (hx : 0 ≤ x) (hp : 0 ≤ p) (hq : 0 ≤ q) (c0 : 1 ≤ p + x) (c1 : 1 ≤ q + x) (c01 : 1 ≤ p + q) : 0 < (p + x) * (q + x) - x * x := by
  have e : (p + x) * (q + x) - x * x = p * q + x * (p + q) := by grind
  rw [e]
  have h1 := Int.mul_nonneg hp hq
  have h2 := Int.mul_nonneg hx (show 0 ≤ p + q by omega)
  by_cases h : 1 ≤ x
  · have : 1 * 1 ≤ x * (p + q) := Int.mul_le_mul h c01 (by decide) hx
    omega
  · have : 1 * 1 ≤ p * q := Int.mul_le_mul (by omega) (by omega) (by decide) hp
    omega
/-- the whole shape of the small matrix -/
structure Sm3 (ts : List (Nat × Nat)) (b u0 u1 u2 : Nat) (x z w p q r : Int) : Prop where
  e00 : gr ts u0 u0 = -(p + x + z)
  e11 : gr ts u1 u1 = -(q + x + w)
  e22 : gr ts u2 u2 = -(r + z + w)
  e01 : gr ts u0 u1 = x ∧ gr ts u1 u0 = x
  e02 : gr ts u0 u2 = z ∧ gr ts u2 u0 = z
  e12 : gr ts u1 u2 = w ∧ gr ts u2 u1 = w
  nn : 0 ≤ x ∧ 0 ≤ z ∧ 0 ≤ w ∧ 0 ≤ p ∧ 0 ≤ q ∧ 0 ≤ r
  c0 : 1 ≤ p + x + z
  c1 : 1 ≤ q + x + w
  c2 : 1 ≤ r + z + w
  c01 : 1 ≤ p + q + z + w
  c02 : 1 ≤ p + r + x + w
  c12 : 1 ≤ q + r + x + z
  call : 1 ≤ p + q + r
theorem sm3 {pl : List Nat} {ts : List (Nat × Nat)} {b u0 u1 u2 : Nat} (hn : pl.Nodup) (hts : TsOk pl ts) (hb : b ∈ pl) (hc : Conn pl ts) (e : offB pl b = [u0, u1, u2]) : Sm3 ts b u0 u1 u2 (gr ts u0 u1) (gr ts u0 u2) (gr ts u1 u2) (gr ts b u0) (gr ts b u1) (gr ts b u2) := by
  have hperm := offB_perm hn hb
  rw [e] at hperm
  have nd := hperm.nodup_iff.mp hn
  have mem : ∀ c, c ∈ pl ↔ c = b ∨ c = u0 ∨ c = u1 ∨ c = u2 := fun c => by rw [hperm.mem_iff]; simp
  have d : (b ≠ u0 ∧ b ≠ u1 ∧ b ≠ u2) ∧ (u0 ≠ u1 ∧ u0 ≠ u2) ∧ u1 ≠ u2 := by
    simp only [List.nodup_cons, List.mem_cons, not_or, List.not_mem_nil, not_false_eq_true, and_true, List.nodup_nil] at nd
    exact nd
  obtain ⟨⟨d1, d2, d3⟩, ⟨d4, d5⟩, d6⟩ := d
  have r0 := row_sum hn hts hb ((mem u0).mpr (by simp))
  have r1 := row_sum hn hts hb ((mem u1).mpr (by simp))
  have r2 := row_sum hn hts hb ((mem u2).mpr (by simp))
  rw [e] at r0 r1 r2
  simp only [List.map_cons, List.map_nil, List.sum_cons, List.sum_nil] at r0 r1 r2
  have q01 := gr_comm ts u1 u0
  have q02 := gr_comm ts u2 u0
  have q12 := gr_comm ts u2 u1
  have n1 := gr_nn (ts := ts) (p := u0) (o := u1) (Ne.symm d4)
  have n2 := gr_nn (ts := ts) (p := u0) (o := u2) (Ne.symm d5)
  have n3 := gr_nn (ts := ts) (p := u1) (o := u2) (Ne.symm d6)
  have n4 := gr_nn (ts := ts) (p := b) (o := u0) (Ne.symm d1)
  have n5 := gr_nn (ts := ts) (p := b) (o := u1) (Ne.symm d2)
  have n6 := gr_nn (ts := ts) (p := b) (o := u2) (Ne.symm d3)
  have cut : ∀ X : List Nat, b ∉ X → (∃ u ∈ X, u ∈ pl) → ∃ p q, p ∈ pl ∧ q ∈ pl ∧ p ∈ X ∧ q ∉ X ∧ 1 ≤ gr ts q p := fun X hX ⟨u, hu, hup⟩ => by
    obtain ⟨p, q, h1, h2, h3, h4, h5⟩ := cut_pos hc hts hb (X := fun c => decide (c ∈ X)) (decide_eq_false hX) hup (decide_eq_true hu)
    exact ⟨p, q, h1, h2, of_decide_eq_true h3, of_decide_eq_false h4, h5⟩
  have go : ∀ X : List Nat, b ∉ X → (∃ u ∈ X, u ∈ pl) → ∀ s : Int, (∀ p q, (p = u0 ∨ p = u1 ∨ p = u2) → (q = b ∨ q = u0 ∨ q = u1 ∨ q = u2) → p ∈ X → q ∉ X → gr ts q p ≤ s) → 1 ≤ s := fun X hX hu s hs => by
    obtain ⟨p, q, h1, h2, h3, h4, h5⟩ := cut X hX hu
    have hp := ((mem p).mp h1).resolve_left fun z => hX (z ▸ h3)
    have := hs p q hp ((mem q).mp h2) h3 h4
    omega
  have mu0 : u0 ∈ pl := (mem u0).mpr (by simp)
  have mu1 : u1 ∈ pl := (mem u1).mpr (by simp)
  have mu2 : u2 ∈ pl := (mem u2).mpr (by simp)
  have c0 := go [u0] (by simp [d1]) ⟨u0, by simp, mu0⟩ (gr ts b u0 + gr ts u0 u1 + gr ts u0 u2) fun p q hp hq h3 h4 => by
    simp only [List.mem_cons, List.not_mem_nil, or_false, not_or] at h3 h4
    subst h3
    rcases hq with rfl | rfl | rfl | rfl <;> first | omega | exact (h4 rfl).elim
  have c1 := go [u1] (by simp [d2]) ⟨u1, by simp, mu1⟩ (gr ts b u1 + gr ts u0 u1 + gr ts u1 u2) fun p q hp hq h3 h4 => by
    simp only [List.mem_cons, List.not_mem_nil, or_false, not_or] at h3 h4
    subst h3
    rcases hq with rfl | rfl | rfl | rfl <;> first | omega | exact (h4 rfl).elim
  have c2 := go [u2] (by simp [d3]) ⟨u2, by simp, mu2⟩ (gr ts b u2 + gr ts u0 u2 + gr ts u1 u2) fun p q hp hq h3 h4 => by
    simp only [List.mem_cons, List.not_mem_nil, or_false, not_or] at h3 h4
    subst h3
    rcases hq with rfl | rfl | rfl | rfl <;> first | omega | exact (h4 rfl).elim
  have c01 := go [u0, u1] (by simp [d1, d2]) ⟨u0, by simp, mu0⟩ (gr ts b u0 + gr ts b u1 + gr ts u0 u2 + gr ts u1 u2) fun p q hp hq h3 h4 => by
    simp only [List.mem_cons, List.not_mem_nil, or_false, not_or] at h3 h4
    rcases h3 with rfl | rfl <;> rcases hq with rfl | rfl | rfl | rfl <;> first | omega | exact (h4.1 rfl).elim | exact (h4.2 rfl).elim
  have c02 := go [u0, u2] (by simp [d1, d3]) ⟨u0, by simp, mu0⟩ (gr ts b u0 + gr ts b u2 + gr ts u0 u1 + gr ts u1 u2) fun p q hp hq h3 h4 => by
    simp only [List.mem_cons, List.not_mem_nil, or_false, not_or] at h3 h4
    rcases h3 with rfl | rfl <;> rcases hq with rfl | rfl | rfl | rfl <;> first | omega | exact (h4.1 rfl).elim | exact (h4.2 rfl).elim
  have c12 := go [u1, u2] (by simp [d2, d3]) ⟨u1, by simp, mu1⟩ (gr ts b u1 + gr ts b u2 + gr ts u0 u1 + gr ts u0 u2) fun p q hp hq h3 h4 => by
    simp only [List.mem_cons, List.not_mem_nil, or_false, not_or] at h3 h4
    rcases h3 with rfl | rfl <;> rcases hq with rfl | rfl | rfl | rfl <;> first | omega | exact (h4.1 rfl).elim | exact (h4.2 rfl).elim
  have call := go [u0, u1, u2] (by simp [d1, d2, d3]) ⟨u0, by simp, mu0⟩ (gr ts b u0 + gr ts b u1 + gr ts b u2) fun p q hp hq h3 h4 => by
    simp only [List.mem_cons, List.not_mem_nil, or_false, not_or] at h3 h4
    rcases h3 with rfl | rfl | rfl <;> rcases hq with rfl | rfl | rfl | rfl <;> first | omega | exact (h4.1 rfl).elim | exact (h4.2.1 rfl).elim | exact (h4.2.2 rfl).elim
  exact ⟨by omega, by omega, by omega, ⟨rfl, q01⟩, ⟨rfl, q02⟩, ⟨rfl, q12⟩, ⟨n1, n2, n3, n4, n5, n6⟩, c0, c1, c2, c01, c02, c12, call⟩
end Kx

/-! KmSolve4 -/
namespace Kx
open PySem L2
structure Sm2 (ts : List (Nat × Nat)) (b u0 u1 : Nat) (x p q : Int) : Prop where
  e00 : gr ts u0 u0 = -(p + x)
  e11 : gr ts u1 u1 = -(q + x)
  e01 : gr ts u0 u1 = x ∧ gr ts u1 u0 = x
  nn : 0 ≤ x ∧ 0 ≤ p ∧ 0 ≤ q
  c0 : 1 ≤ p + x
  c1 : 1 ≤ q + x
  c01 : 1 ≤ p + q
theorem sm2 {pl : List Nat} {ts : List (Nat × Nat)} {b u0 u1 : Nat} (hn : pl.Nodup) (hts : TsOk pl ts) (hb : b ∈ pl) (hc : Conn pl ts) (e : offB pl b = [u0, u1]) : Sm2 ts b u0 u1 (gr ts u0 u1) (gr ts b u0) (gr ts b u1) := by
  have hperm := offB_perm hn hb
  rw [e] at hperm
  have nd := hperm.nodup_iff.mp hn
  have mem : ∀ c, c ∈ pl ↔ c = b ∨ c = u0 ∨ c = u1 := fun c => by rw [hperm.mem_iff]; simp
  have d : (b ≠ u0 ∧ b ≠ u1) ∧ u0 ≠ u1 := by
    simp only [List.nodup_cons, List.mem_cons, not_or, List.not_mem_nil, not_false_eq_true, and_true, List.nodup_nil] at nd
    exact nd
  obtain ⟨⟨d1, d2⟩, d4⟩ := d
  have r0 := row_sum hn hts hb ((mem u0).mpr (by simp))
  have r1 := row_sum hn hts hb ((mem u1).mpr (by simp))
  rw [e] at r0 r1
  simp only [List.map_cons, List.map_nil, List.sum_cons, List.sum_nil] at r0 r1
  have q01 := gr_comm ts u1 u0
  have n1 := gr_nn (ts := ts) (p := u0) (o := u1) (Ne.symm d4)
  have n4 := gr_nn (ts := ts) (p := b) (o := u0) (Ne.symm d1)
  have n5 := gr_nn (ts := ts) (p := b) (o := u1) (Ne.symm d2)
  have go : ∀ X : List Nat, b ∉ X → (∃ u ∈ X, u ∈ pl) → ∀ s : Int, (∀ p q, (p = u0 ∨ p = u1) → (q = b ∨ q = u0 ∨ q = u1) → p ∈ X → q ∉ X → gr ts q p ≤ s) → 1 ≤ s := fun X hX ⟨u, hu, hup⟩ s hs => by
    obtain ⟨p, q, h1, h2, h3, h4, h5⟩ := cut_pos hc hts hb (X := fun c => decide (c ∈ X)) (decide_eq_false hX) hup (decide_eq_true hu)
    have h3 := of_decide_eq_true h3
    have hp := ((mem p).mp h1).resolve_left fun z => hX (z ▸ h3)
    have := hs p q hp ((mem q).mp h2) h3 (of_decide_eq_false h4)
    omega
  have mu0 : u0 ∈ pl := (mem u0).mpr (by simp)
  have mu1 : u1 ∈ pl := (mem u1).mpr (by simp)
  have c0 := go [u0] (by simp [d1]) ⟨u0, by simp, mu0⟩ (gr ts b u0 + gr ts u0 u1) fun p q hp hq h3 h4 => by
    simp only [List.mem_cons, List.not_mem_nil, or_false, not_or] at h3 h4
    subst h3
    rcases hq with rfl | rfl | rfl <;> first | omega | exact (h4 rfl).elim
  have c1 := go [u1] (by simp [d2]) ⟨u1, by simp, mu1⟩ (gr ts b u1 + gr ts u0 u1) fun p q hp hq h3 h4 => by
    simp only [List.mem_cons, List.not_mem_nil, or_false, not_or] at h3 h4
    subst h3
    rcases hq with rfl | rfl | rfl <;> first | omega | exact (h4 rfl).elim
  have c01 := go [u0, u1] (by simp [d1, d2]) ⟨u0, by simp, mu0⟩ (gr ts b u0 + gr ts b u1) fun p q hp hq h3 h4 => by
    simp only [List.mem_cons, List.not_mem_nil, or_false, not_or] at h3 h4
    rcases h3 with rfl | rfl <;> rcases hq with rfl | rfl | rfl <;> first | omega | exact (h4.1 rfl).elim | exact (h4.2 rfl).elim
  exact ⟨by omega, by omega, ⟨rfl, q01⟩, ⟨n1, n4, n5⟩, c0, c1, c01⟩
structure Sm1 (ts : List (Nat × Nat)) (b u0 : Nat) (p : Int) : Prop where
  e00 : gr ts u0 u0 = -p
  c0 : 1 ≤ p
theorem sm1 {pl : List Nat} {ts : List (Nat × Nat)} {b u0 : Nat} (hn : pl.Nodup) (hts : TsOk pl ts) (hb : b ∈ pl) (hc : Conn pl ts) (e : offB pl b = [u0]) : Sm1 ts b u0 (gr ts b u0) := by
  have hperm := offB_perm hn hb
  rw [e] at hperm
  have mem : ∀ c, c ∈ pl ↔ c = b ∨ c = u0 := fun c => by rw [hperm.mem_iff]; simp
  have nd := hperm.nodup_iff.mp hn
  have d1 : b ≠ u0 := by
    simp only [List.nodup_cons, List.mem_cons, not_or, List.not_mem_nil, not_false_eq_true, and_true, List.nodup_nil] at nd
    exact nd
  have mu0 : u0 ∈ pl := (mem u0).mpr (by simp)
  have r0 := row_sum hn hts hb mu0
  rw [e] at r0
  simp only [List.map_cons, List.map_nil, List.sum_cons, List.sum_nil] at r0
  obtain ⟨p, q, h1, h2, h3, h4, h5⟩ := cut_pos hc hts hb (X := fun c => decide (c = u0)) (decide_eq_false d1) mu0 (by simp)
  have h3 := of_decide_eq_true h3
  have h4 := of_decide_eq_false h4
  subst h3
  rcases (mem q).mp h2 with rfl | rfl
  · exact ⟨by omega, by omega⟩
  · exact (h4 rfl).elim
theorem two_of {α : Type} : ∀ {l : List α}, l.length = 2 → ∃ a b, l = [a, b]
  | [a, b], _ => ⟨a, b, rfl⟩
theorem three_of {α : Type} : ∀ {l : List α}, l.length = 3 → ∃ a b c, l = [a, b, c]
  | [a, b, c], _ => ⟨a, b, c, rfl⟩
theorem solve_ok {pl : List Nat} {ts : List (Nat × Nat)} {b : Nat} (O : OkPl pl) (T : OkTs pl ts) (hb : b ∈ pl) (hc : Conn pl ts) : SolveOk pl ts b := by
  intro due hd
  have hts : TsOk pl ts := T.mem
  have hl : (spots pl b).length = (offB pl b).length := by rw [← spots_map, List.length_map]
  have hpl := (offB_perm O.nd hb).length_eq
  have few := O.few
  rw [List.length_cons] at hpl
  have B : ∀ p o, bd 6 (-(gr ts p o)) := fun p o => by have := gr_bd T.few p o; unfold bd; omega
  rw [hl] at hd ⊢
  rw [srow_eq]
  generalize hq : offB pl b = q at hd hpl ⊢
  match q, hq with
  | [], _ => exact trivial
  | [u0], hq =>
    obtain ⟨d0, rfl⟩ : ∃ d0, due = [d0] := List.length_eq_one_iff.mp hd
    have S := sm1 O.nd hts hb hc hq
    have b0 := B u0 u0
    show Good 1 0 1 [[-(gr ts u0 u0), d0]]
    rw [S.e00] at b0 ⊢
    have := S.c0
    unfold bd at b0
    exact good1 (by omega) (by omega)
  | [u0, u1], hq =>
    obtain ⟨d0, d1, rfl⟩ : ∃ d0 d1, due = [d0, d1] := two_of hd
    have S := sm2 O.nd hts hb hc hq
    obtain ⟨e00, e11, ⟨_, e10⟩, ⟨n1, n2, n3⟩, c0, c1, c01⟩ := S
    have b0 := B u0 u0
    have b1 := B u1 u1
    have b2 := B u1 u0
    have b3 := B u0 u1
    show Good 2 0 1 [[-(gr ts u0 u0), -(gr ts u1 u0), d0], [-(gr ts u0 u1), -(gr ts u1 u1), d1]]
    rw [e10] at b2 ⊢
    rw [e00] at b0 ⊢
    rw [e11] at b1 ⊢
    have hdet := det2_pos n1 n2 n3 c0 c1 c01
    generalize gr ts u0 u1 = x at *
    generalize gr ts b u0 = p at *
    generalize gr ts b u1 = q' at *
    have e1 : (-(-(p + x))) * (-(-(q' + x))) - -x * -x = (p + x) * (q' + x) - x * x := by grind
    refine good2 (by omega) (by unfold bd at b0; omega) b2 b3 b1 (by rw [e1]; exact hdet)
  | [u0, u1, u2], hq =>
    obtain ⟨d0, d1, d2, rfl⟩ : ∃ d0 d1 d2, due = [d0, d1, d2] := three_of hd
    have S := sm3 O.nd hts hb hc hq
    obtain ⟨e00, e11, e22, ⟨_, e10⟩, ⟨_, e20⟩, ⟨_, e21⟩, ⟨n1, n2, n3, n4, n5, n6⟩, c0, c1, c2, c01, c02, c12, call⟩ := S
    have b0 := B u0 u0
    have b1 := B u1 u1
    have b2 := B u2 u2
    have b3 := B u0 u1
    have b4 := B u0 u2
    have b5 := B u1 u2
    show Good 3 0 1 [[-(gr ts u0 u0), -(gr ts u1 u0), -(gr ts u2 u0), d0], [-(gr ts u0 u1), -(gr ts u1 u1), -(gr ts u2 u1), d1], [-(gr ts u0 u2), -(gr ts u1 u2), -(gr ts u2 u2), d2]]
    rw [e10, e20, e21]
    rw [e00] at b0 ⊢
    rw [e11] at b1 ⊢
    rw [e22] at b2 ⊢
    have hdet := det3_pos n1 n2 n3 n4 n5 n6 c0 c1 c2 c01 c02 c12 call
    unfold det3 at hdet
    generalize gr ts u0 u1 = x at *
    generalize gr ts u0 u2 = z at *
    generalize gr ts u1 u2 = w at *
    generalize gr ts b u0 = p at *
    generalize gr ts b u1 = q' at *
    generalize gr ts b u2 = r at *
    have hp : 0 < -(-(p + x + z)) * -(-(q' + x + w)) - -x * -x := by
      have e1 : -(-(p + x + z)) * -(-(q' + x + w)) - -x * -x = ((p + z) * (q' + x + w)) + x * (q' + w) := by grind
      rw [e1]
      have h1 := Int.mul_nonneg (show 0 ≤ p + z by omega) (show 0 ≤ q' + x + w by omega)
      have h2 := Int.mul_nonneg n1 (show 0 ≤ q' + w by omega)
      by_cases h : 1 ≤ p + z
      · have : 1 * 1 ≤ (p + z) * (q' + x + w) := Int.mul_le_mul h c1 (by decide) (by omega)
        omega
      · have : 1 * 1 ≤ x * (q' + w) := Int.mul_le_mul (by omega) (by omega) (by decide) n1
        omega
    have hD : 0 < -(-(p + x + z)) * (-(-(q' + x + w)) * -(-(r + z + w)) - -w * -w) - -x * (-x * -(-(r + z + w)) - -w * -z) + -z * (-x * -w - -(-(q' + x + w)) * -z) := by
      have e1 : -(-(p + x + z)) * (-(-(q' + x + w)) * -(-(r + z + w)) - -w * -w) - -x * (-x * -(-(r + z + w)) - -w * -z) + -z * (-x * -w - -(-(q' + x + w)) * -z) = (p + x + z) * ((q' + x + w) * (r + z + w) - w * w) - x * (x * (r + z + w) + w * z) - z * (x * w + (q' + x + w) * z) := by grind
      rw [e1]; exact hdet
    exact good3 (by omega) b0 b3 b4 b3 b1 b5 b4 b5 b2 hp hD
  | u0 :: u1 :: u2 :: u3 :: r, hq => simp only [List.length_cons] at hpl; omega
end Kx

/-! Ka13 -/
namespace Kx
open PySem PySem.Spec PyProof.Rows L2
section
variable {P : Program} {w : World} {K : PySem.W.Frag} {mg : Str → Option Value} {base : Heap} {C : Addr}
theorem ep_call3R {σ : L2.St} {B : Hp} {ta tb tc : TE} {Pa Pb Pc P : V → Hp → Prop} {pre : PrT} {E : XK} (ha : Ep ta σ B Pa) (sa : Stb Pa) (hb : Ep tb σ B Pb) (sb : Stb Pb) (hc : Ep tc σ B Pc) (hp : ∀ x y z B', Evl.Ex B B' → Pa x B' → Pb y B' → Pc z B' → ∃ R, pre [x, y, z] B' R ∧ ∀ v B'', Evl.Ex B' B'' → R v B'' → P v B'') : Ep (tCall (Pr pre) [] E (tCons ta (tCons tb (tCons tc tNil)))) σ B P := fun B1 H1 a b Q q =>
  ha B1 H1 a b _ fun x B2 H2 g2 p2 => hb B2 H2 (a.trans g2.b) g2.s _ fun y B3 H3 g3 p3 => hc B3 H3 ((a.trans g2.b).trans g3.b) g3.s _ fun z B4 H4 g4 p4 => by
    obtain ⟨R, h1, h2⟩ := hp x y z B4 (((a.trans g2.b).trans g3.b).trans g4.b) (sa _ _ _ (g3.b.trans g4.b) p2) (sb _ _ _ g4.b p3) p4
    exact ⟨B4, R, g4.s, h1, fun v B5 H5 g5 p5 => q v B5 H5 (((g2.tr g3).tr g4).tr g5) (h2 v B5 g5.b p5)⟩
theorem ep_call2R {σ : L2.St} {B : Hp} {ta tb : TE} {Pa Pb P : V → Hp → Prop} {pre : PrT} {E : XK} (ha : Ep ta σ B Pa) (sa : Stb Pa) (hb : Ep tb σ B Pb) (hp : ∀ x y B', Evl.Ex B B' → Pa x B' → Pb y B' → ∃ R, pre [x, y] B' R ∧ ∀ v B'', Evl.Ex B' B'' → R v B'' → P v B'') : Ep (tCall (Pr pre) [] E (tCons ta (tCons tb tNil))) σ B P := fun B1 H1 a b Q q =>
  ha B1 H1 a b _ fun x B2 H2 g2 p2 => hb B2 H2 (a.trans g2.b) g2.s _ fun y B3 H3 g3 p3 => by
    obtain ⟨R, h1, h2⟩ := hp x y B3 ((a.trans g2.b).trans g3.b) (sa _ _ _ g3.b p2) p3
    exact ⟨B3, R, g3.s, h1, fun v B5 H5 g5 p5 => q v B5 H5 ((g2.tr g3).tr g5) (h2 v B5 g5.b p5)⟩
def spLow (C : Addr) : PrT := fun vs B R => ∃ pl ts v u b D, vs = [v, u, .str (sg b)] ∧ Wc C B v pl ts ∧ b ∈ pl ∧ Dq B u (hpT pl D) ∧ (∀ u ∈ pl, u ≠ b → 0 ≤ D u) ∧ R = fun z B' => ∃ E, Dq B' z (hpT pl E) ∧ Alike pl ts D E ∧ Red pl ts b E
abbrev n45 : List Str := ["web", "heap", "bank", "seen", "place"]
theorem sc_lowered : FnScope n45 ["web", "heap", "bank"] (C8.fnScope (topS 45)) := C8.fnScope_by (by decide +kernel)
theorem ok_lowered (T : Tx K mg C) : C8.Cal P w K mg base 4 "lowered" (Pr (spLow C)) [] := by
  refine mk_cal T.lowered sc_lowered (by rintro vs B R ⟨pl, ts, v, u, b, D, rfl, _⟩; rfl) fun f cdv A outer s H vs Q E B R hr e h q => ?_
  obtain ⟨pl, ts, v, u, b, D, rfl, W, hb, hu, hD, rfl⟩ := h
  have nd := sc_lowered.nd
  have few := W.op.few
  refine ⟨_, pss_one (ps_while PassesOwn.never (pt_val pe_bl)
      (pss_cons (ps_set (i := 3) nd rfl (.inr rfl) (pe_ix ix_tup (C8.pe_c (ok_burnt T) hr (by decide) (by rfl) (pa_cons (pv 0) (pa_cons (pv 1) (pa_cons (pv 2) pa_nil)))) pe_int (fun _ _ => rfl)))
      (pss_cons (ps_if (pt_cmpR op_eq (pe_callB call_len_str (by rfl) T.b_len boot_len (pa_cons (pv 3) pa_nil)) (pe_callB call_len_str (by rfl) T.b_len boot_len (pa_cons (pe_fld (pv 0) (by rfl)) pa_nil)) (nomark _)) (pss_one (ps_ret (pv 1))) pss_nil)
      (pss_one (ps_set (i := 1) nd rfl (.inl rfl) (C8.pe_c (ok_after T) hr (by decide) (by rfl) (pa_cons (pv 0) (pa_cons (pv 1) (pa_cons (pe_lc (own := [("place", 4)]) (g := gName 4) rfl nd (pi_str (pe_fld (pv 0) (by rfl))) (blkOk_by (own := [("place", 4)]) (N := n45) (sc := C8.fnScope (topS 45)) (by decide +kernel)) (fun _ _ _ _ _ => pg_name (i := 4) nd rfl (Or.inl rfl)) (fun _ _ _ _ _ => pts_nil) (fun _ _ _ _ _ => pe_ifExp (pt_cmpR op_in_sign (pv 4) (pv 3) (by rfl)) pe_int pe_int)) pa_nil))))))))), ?_⟩
  obtain ⟨c, hc0, hcb, hcl⟩ := weights W.cn W.ot.mem hb few W.ot.few
  refine s_while (B := B) (m := (phi pl c D).toNat) (fun m σ' B' H' => ∃ (x3 : Option V) (hv : V) (E : Nat → Int), σ' = [some v, some hv, some (.str (sg b)), x3, none] ∧ Dq B' hv (hpT pl E) ∧ Alike pl ts D E ∧ (∀ u ∈ pl, u ≠ b → 0 ≤ E u) ∧ Gr B H B' H' ∧ m = (phi pl c E).toNat) ⟨none, u, D, rfl, hu, alike_refl _ _ _, hD, Gr.refl e, rfl⟩ ?_
  rintro m σ' B' H' ⟨x3, hv, E, rfl, hhv, hal, hE, g2, rfl⟩
  refine ⟨g2.s, true, et_B ev_c, fun _ B3 H3 g3 => ?_, fun z => nomatch z⟩
  have W3 := W.mono (g2.tr g3).b
  dsimp only [tSeq]
  refine s_set (P := fun z B' => ∃ S, z = .str (Sx S) ∧ Burnt pl ts b E S) ?_ g3.s fun sv B4 H4 g4 ⟨S, es, hS⟩ => ?_
  · refine (ep_op (P := fun z B' => ∃ S d, Dq B' z (.tuple [.str (Sx S), d]) ∧ Burnt pl ts b E S) (ep_call3 (ep_var 0 rfl W3 stb_wc) stb_wc (ed_var 1 rfl (dp_ex g3.b hhv)) (stb_dp _) (ev_var 2 rfl) fun x y z B' _ e1 e2 e3 => ⟨pl, ts, x, y, b, E, by rw [e3], e1.wb, hb, e2, hE, rfl⟩) (ev_c (v := .int 0)) (fun _ _ _ e ⟨S, d, h, k⟩ => ⟨S, d, dp_ex e h, k⟩) fun x y B' _ ⟨S, d, h, k⟩ ey => ?_)
    subst ey
    obtain ⟨a, y1, y2, rfl, ha, h1, h2⟩ := dq_two h
    cases h1
    exact fun B1 H1 a1 b1 Q k' => ⟨a, _, 0, .str (Sx S), rfl, rfl, SqT.of (b1 _ _ (a1 _ _ ha)), rfl, k' _ B1 H1 (Gr.refl b1) ⟨S, rfl, k⟩⟩
  subst es
  have W4 := W3.mono g4.b
  have hSl := nodup_sub_len hS.snd hS.ssub
  refine s_if (b := decide (S.length = pl.length)) (et_test (ev_is (ev_eq (ev_lenS (ev_var 3 rfl) (by rw [sx_len]; omega)) (ev_lenS (ev_places T.web (ep_var 0 rfl W4.wa stb_web)) (by rw [sx_len]; omega)) rfl) ?_)) g4.s (fun hl B5 H5 g5 => ?_) (fun hl B5 H5 g5 => ?_)
  · rw [sx_len, sx_len]
    congr 1
    rw [decide_eq_decide]
    exact ⟨fun z => by injection z with z; omega, fun z => by rw [z]⟩
  · have hl := of_decide_eq_true hl
    refine s_ret (ed_var 1 rfl (dp_ex ((g3.tr g4).tr g5).b hhv)) g5.s fun rv B6 H6 g6 p6 => q rv B6 H6 ((g2.tr g3).tr ((g4.tr g5).tr g6)) ⟨E, p6, hal, low_end hS hE (by omega)⟩
  · have hl := of_decide_eq_false hl
    obtain ⟨z, hz, hzS⟩ : ∃ z ∈ pl, z ∉ S := by
      apply Classical.byContradiction
      intro hn
      have := nodup_sub_len (l := pl) (m := S) W.op.nd fun x hx => Classical.byContradiction fun h => hn ⟨x, hx, h⟩
      omega
    obtain ⟨s1, s2⟩ := low_step W.op.nd W.ot.mem hS hE hc0 hcl hz hzS
    have W5 := W4.mono g5.b
    refine s_set (P := fun z B' => Dq B' z (hpT pl (aft pl ts E (out S)))) (ep_call3 (ep_var 0 rfl W5 stb_wc) stb_wc (ed_var 1 rfl (dp_ex ((g3.tr g4).tr g5).b hhv)) (stb_dp _) (ed_is (e := hpL pl (out S)) (ed_lc (ei_str (ev_places T.web (ep_var 0 rfl W5.wa stb_web))) (fun _ => true) (fun c => .int (out S c)) (by rw [sx_toList]; omega) fun c x B7 hc e7 hx => ⟨_, tg_name 4, rfl, et_yes, fun _ => ?_⟩) ?_) fun x y z B' _ e1 e2 e3 => ⟨pl, ts, x, y, z, E, _, rfl, e1.wb, e2, e3, rfl⟩) g5.s fun nv B7 H7 g7 p7 => ?_
    · subst hx
      refine int_ed (ep_if (b := decide (c ∈ S)) (et_test (ev_is (ev_inSign (ev_var 4 rfl) (ev_var 3 rfl)) (by rw [sx_toList]))) (fun h => ev_is ev_c ?_) fun h => ev_is ev_c ?_)
      · unfold out; rw [if_pos (of_decide_eq_true h)]
      · unfold out; rw [if_neg (of_decide_eq_false h)]
    · rw [filter_id_len _ _ (fun _ _ => rfl), sx_toList]
    · have p1 := phi_nn hc0 hcb s1
      exact ⟨_, B7, by omega, _, nv, _, rfl, p7, alike_trans hal ⟨_, fun _ _ => rfl⟩, s1, (g2.tr g3).tr ((g4.tr g5).tr g7), rfl⟩

def spLeast (C : Addr) : PrT := fun vs B R => ∃ pl ts v u b D, vs = [v, u, .str (sg b)] ∧ Wc C B v pl ts ∧ b ∈ pl ∧ Dq B u (hpT pl D) ∧ R = fun z B' => ∃ E, Dq B' z (hpT pl E) ∧ Alike pl ts D E ∧ Red pl ts b E
abbrev n46 : List Str := ["web", "heap", "bank"]
theorem sc_least_of : FnScope n46 ["web", "heap", "bank"] (C8.fnScope (topS 46)) := C8.fnScope_by (by decide +kernel)
theorem ok_least_of (T : Tx K mg C) : C8.Cal P w K mg base 5 "least_of" (Pr (spLeast C)) [] := by
  refine mk_cal T.least_of sc_least_of (by rintro vs B R ⟨pl, ts, v, u, b, D, rfl, _⟩; rfl) fun f cdv A outer s H vs Q E B R hr e h q => ?_
  obtain ⟨pl, ts, v, u, b, D, rfl, W, hb, hu, rfl⟩ := h
  refine ⟨_, pss_one (ps_ret (C8.pe_c (ok_lowered T) hr (by decide) (by rfl) (pa_cons (pv 0) (pa_cons (C8.pe_c (ok_lifted T) hr (by decide) (by rfl) (pa_cons (pv 0) (pa_cons (C8.pe_c (ok_near_heap T) hr (by decide) (by rfl) (pa_cons (pv 0) (pa_cons (pv 1) (pa_cons (pv 2) pa_nil)))) (pa_cons (pv 2) pa_nil)))) (pa_cons (pv 2) pa_nil))))), ?_⟩
  have near : Ep (tCall (Pr (spNear C)) [] C8.E0 (tCons (tVar 0) (tCons (tVar 1) (tCons (tVar 2) tNil)))) (L2.start n46 [v, u, .str (sg b)]) B (fun z B' => ∃ D', Dq B' z (hpT pl D') ∧ Alike pl ts D D') := ep_call3R (ep_var 0 rfl W stb_wc) stb_wc (ed_var 1 rfl hu) (stb_dp _) (ev_var 2 rfl) fun x y z B' _ e1 e2 e3 => ⟨_, ⟨pl, ts, x, y, b, D, by rw [e3], e1.wb, e2, solve_ok W.op W.ot hb W.cn, rfl⟩, fun v B'' _ ⟨g, h⟩ => ⟨_, h, g, fun _ _ => rfl⟩⟩
  have sx : Stb fun z B' => ∃ D', Dq B' z (hpT pl D') ∧ Alike pl ts D D' := fun _ _ _ e ⟨D', h, k⟩ => ⟨D', dp_ex e h, k⟩
  have lift : Ep (tCall (Pr (spLifted C)) [] C8.E0 (tCons (tVar 0) (tCons (tCall (Pr (spNear C)) [] C8.E0 (tCons (tVar 0) (tCons (tVar 1) (tCons (tVar 2) tNil)))) (tCons (tVar 2) tNil)))) (L2.start n46 [v, u, .str (sg b)]) B (fun z B' => ∃ D', Dq B' z (hpT pl D') ∧ Alike pl ts D D' ∧ ∀ u ∈ pl, u ≠ b → 0 ≤ D' u) := ep_call3R (ep_var 0 rfl W stb_wc) stb_wc near sx (ev_var 2 rfl) fun x y z B' _ e1 ⟨D', e2, e4⟩ e3 => ⟨_, ⟨pl, ts, x, y, b, D', by rw [e3], e1, hb, e2, rfl⟩, fun v B'' _ ⟨E, h1, h2, h3⟩ => ⟨E, h1, alike_trans e4 h2, h3⟩⟩
  refine s_ret (P := fun z B' => ∃ E, Dq B' z (hpT pl E) ∧ Alike pl ts D E ∧ Red pl ts b E) (ep_call3R (ep_var 0 rfl W stb_wc) stb_wc lift (fun _ _ _ e ⟨D', h, k⟩ => ⟨D', dp_ex e h, k⟩) (ev_var 2 rfl) fun x y z B' _ e1 ⟨D', e2, e4, e5⟩ e3 => ⟨_, ⟨pl, ts, x, y, b, D', by rw [e3], e1, hb, e2, e5, rfl⟩, fun v B'' _ ⟨E, h1, h2, h3⟩ => ⟨E, h1, alike_trans e4 h2, h3⟩⟩) e fun v B' H' g p => q v B' H' g p

def HpOk (pl : List Nat) (D : Nat → Int) : Prop := ∀ c ∈ pl, -1000000 ≤ D c ∧ D c ≤ 1000000
def spBoth (C : Addr) : PrT := fun vs B R => ∃ pl ts v u b D, vs = [v, u, .str (sg b)] ∧ Wc C B v pl ts ∧ b ∈ pl ∧ Dq B u (hpT pl D) ∧ HpOk pl D ∧ R = fun z _ => z = .non
abbrev n47 : List Str := ["web", "heap", "bank"]
theorem sc_check_both : FnScope n47 ["web", "heap", "bank"] (C8.fnScope (topS 47)) := C8.fnScope_by (by decide +kernel)
theorem ok_check_both (T : Tx K mg C) : C8.Cal P w K mg base 4 "check_both" (Pr (spBoth C)) [] := by
  refine mk_cal T.check_both sc_check_both (by rintro vs B R ⟨pl, ts, v, u, b, D, rfl, _⟩; rfl) fun f cdv A outer s H vs Q E B R hr e h q => ?_
  obtain ⟨pl, ts, v, u, b, D, rfl, W, hb, hu, hD, rfl⟩ := h
  refine ⟨_, pss_cons (ps_expr (C8.pe_c (ok_check_web T) hr (by decide) (by rfl) (pa_cons (pv 0) pa_nil))) (pss_cons (ps_expr (C8.pe_c (ok_check_heap T) hr (by decide) (by rfl) (pa_cons (pv 0) (pa_cons (pv 1) pa_nil)))) (pss_cons (ps_expr (C8.pe_c (ok_check_place T) hr (by decide) (by rfl) (pa_cons (pv 0) (pa_cons (pv 2) pa_nil)))) (pss_one (ps_expr (C8.pe_c (ok_check_heaped T) hr (by decide) (by rfl) (pa_cons (pv 0) pa_nil)))))), ?_⟩
  refine s_expr (P := fun z _ => z = .non) (ep_call1 (ep_var 0 rfl W stb_wc) fun x B' _ e1 => ⟨pl, ts, x, rfl, e1.wb, rfl⟩) e fun _ B1 H1 g1 _ => ?_
  refine s_expr (P := fun z _ => z = .non) (ep_call2 (ep_var 0 rfl (W.mono g1.b) stb_wc) stb_wc (ed_var 1 rfl (dp_ex g1.b hu)) fun x y B' _ e1 e2 => ⟨pl, ts, x, y, D, rfl, e1.wb, e2, hD, rfl⟩) g1.s fun _ B2 H2 g2 _ => ?_
  refine s_expr (P := fun z _ => z = .non) (ep_call2 (ep_var 0 rfl (W.mono (g1.tr g2).b) stb_wc) stb_wc (ev_var 2 rfl) fun x y B' _ e1 e2 => ⟨pl, ts, x, b, by rw [e2], e1.wb, hb, rfl⟩) g2.s fun _ B3 H3 g3 _ => ?_
  refine s_expr (P := fun z _ => z = .non) (ep_call1 (ep_var 0 rfl (W.mono ((g1.tr g2).tr g3).b) stb_wc) fun x B' _ e1 => ⟨pl, ts, x, rfl, e1, rfl⟩) g3.s fun _ B4 H4 g4 _ => ?_
  exact q .non B4 H4 ((g1.tr g2).tr (g3.tr g4)) rfl

def spLHeap (C : Addr) : PrT := fun vs B R => ∃ pl ts v u b D, vs = [v, u, .str (sg b)] ∧ Wc C B v pl ts ∧ b ∈ pl ∧ Dq B u (hpT pl D) ∧ HpOk pl D ∧ R = fun z B' => ∃ E, Dq B' z (hpT pl E) ∧ Alike pl ts D E ∧ Red pl ts b E
abbrev n48 : List Str := ["web", "heap", "bank"]
theorem sc_least_heap : FnScope n48 ["web", "heap", "bank"] (C8.fnScope (topS 48)) := C8.fnScope_by (by decide +kernel)
theorem ok_least_heap (T : Tx K mg C) : C8.Cal P w K mg base 6 "least_heap" (Pr (spLHeap C)) [] := by
  refine mk_cal T.least_heap sc_least_heap (by rintro vs B R ⟨pl, ts, v, u, b, D, rfl, _⟩; rfl) fun f cdv A outer s H vs Q E B R hr e h q => ?_
  obtain ⟨pl, ts, v, u, b, D, rfl, W, hb, hu, hD, rfl⟩ := h
  refine ⟨_, pss_cons (ps_expr (C8.pe_c (ok_check_both T) hr (by decide) (by rfl) (pa_cons (pv 0) (pa_cons (pv 1) (pa_cons (pv 2) pa_nil))))) (pss_one (ps_ret (C8.pe_c (ok_least_of T) hr (by decide) (by rfl) (pa_cons (pv 0) (pa_cons (pv 1) (pa_cons (pv 2) pa_nil)))))), ?_⟩
  refine s_expr (P := fun z _ => z = .non) (ep_call3 (ep_var 0 rfl W stb_wc) stb_wc (ed_var 1 rfl hu) (stb_dp _) (ev_var 2 rfl) fun x y z B' _ e1 e2 e3 => ⟨pl, ts, x, y, b, D, by rw [e3], e1, hb, e2, hD, rfl⟩) e fun _ B1 H1 g1 _ => ?_
  exact s_ret (P := fun z B' => ∃ E, Dq B' z (hpT pl E) ∧ Alike pl ts D E ∧ Red pl ts b E) (ep_call3 (ep_var 0 rfl (W.mono g1.b) stb_wc) stb_wc (ed_var 1 rfl (dp_ex g1.b hu)) (stb_dp _) (ev_var 2 rfl) fun x y z B' _ e1 e2 e3 => ⟨pl, ts, x, y, b, D, by rw [e3], e1, hb, e2, rfl⟩) g1.s fun v B' H' g p => q v B' H' (g1.tr g) p

def spRank (C : Addr) : PrT := fun vs B R => ∃ pl ts v u D, vs = [v, u] ∧ Wc C B v pl ts ∧ Dq B u (hpT pl D) ∧ HpOk pl D ∧ (-8 ≤ (pl.map D).sum ∧ (pl.map D).sum ≤ 8) ∧ R = fun z _ => z = .non
theorem hp_sum (pl : List Nat) (D : Nat → Int) : hpT pl D = .tuple ((pl.map D).map .int) := by unfold hpT; rw [List.map_map]; rfl
abbrev n50 : List Str := ["web", "heap"]
theorem sc_check_ranked : FnScope n50 ["web", "heap"] (C8.fnScope (topS 50)) := C8.fnScope_by (by decide +kernel)
theorem ok_check_ranked (T : Tx K mg C) : C8.Cal P w K mg base 4 "check_ranked" (Pr (spRank C)) [] := by
  refine mk_cal T.check_ranked sc_check_ranked (by rintro vs B R ⟨pl, ts, v, u, D, rfl, _⟩; rfl) fun f cdv A outer s H vs Q E B R hr e h q => ?_
  obtain ⟨pl, ts, v, u, D, rfl, W, hu, hD, hs, rfl⟩ := h
  refine ⟨_, pss_cons (ps_expr (C8.pe_c (ok_check_web T) hr (by decide) (by rfl) (pa_cons (pv 0) pa_nil))) (pss_cons (ps_expr (C8.pe_c (ok_check_heap T) hr (by decide) (by rfl) (pa_cons (pv 0) (pa_cons (pv 1) pa_nil)))) (pss_cons (ps_expr (C8.pe_c (ok_check_heaped T) hr (by decide) (by rfl) (pa_cons (pv 0) pa_nil)))
    (pss_one (ps_if (pt_cmpR op_gt (pe_callB call_abs (by rfl) T.b_abs PyProof.Rows.boot_abs (pa_cons (pe_callB (cr_sumT rfl) (by rfl) T.b_sum PyProof.Rows.boot_sum (pa_cons (pv 1) pa_nil)) pa_nil)) (C8.pe_gc (by rfl) T.mS) (nomark _)) pss_never pss_nil)))), ?_⟩
  refine s_expr (P := fun z _ => z = .non) (ep_call1 (ep_var 0 rfl W stb_wc) fun x B' _ e1 => ⟨pl, ts, x, rfl, e1.wb, rfl⟩) e fun _ B1 H1 g1 _ => ?_
  refine s_expr (P := fun z _ => z = .non) (ep_call2 (ep_var 0 rfl (W.mono g1.b) stb_wc) stb_wc (ed_var 1 rfl (dp_ex g1.b hu)) fun x y B' _ e1 e2 => ⟨pl, ts, x, y, D, rfl, e1.wb, e2, hD, rfl⟩) g1.s fun _ B2 H2 g2 _ => ?_
  refine s_expr (P := fun z _ => z = .non) (ep_call1 (ep_var 0 rfl (W.mono (g1.tr g2).b) stb_wc) fun x B' _ e1 => ⟨pl, ts, x, rfl, e1, rfl⟩) g2.s fun _ B3 H3 g3 _ => ?_
  refine s_if (b := false) (et_test (ev_is (ev_I0 (ev_abs (ev_sumT (ed_is (ed_var 1 rfl (dp_ex ((g1.tr g2).tr g3).b hu)) (hp_sum pl D)))) ev_c) ?_)) g3.s (fun z => nomatch z) fun _ B4 H4 g4 => ?_
  · congr 1
    rw [decide_eq_false_iff_not]
    split <;> omega
  exact q .non B4 H4 ((g1.tr g2).tr (g3.tr g4)) rfl

/-- the least heap without debt, told by the data -/
def Wd (pl : List Nat) (ts : List (Nat × Nat)) (D : Nat → Int) : V → Hp → Prop := fun z B' => (¬ Free pl ts D ∧ z = .non) ∨ ∃ E, Dq B' z (hpT pl E) ∧ Alike pl ts D E ∧ ∀ u ∈ pl, 0 ≤ E u
def spWithout (C : Addr) : PrT := fun vs B R => ∃ pl ts v u D, vs = [v, u] ∧ Wc C B v pl ts ∧ Dq B u (hpT pl D) ∧ R = Wd pl ts D
abbrev n51 : List Str := ["web", "heap", "found"]
theorem sc_without_debt : FnScope n51 ["web", "heap"] (C8.fnScope (topS 51)) := C8.fnScope_by (by decide +kernel)
theorem ok_without_debt (T : Tx K mg C) : C8.Cal P w K mg base 6 "without_debt" (Pr (spWithout C)) [] := by
  refine mk_cal T.without_debt sc_without_debt (by rintro vs B R ⟨pl, ts, v, u, D, rfl, _⟩; rfl) fun f cdv A outer s H vs Q E B R hr e h q => ?_
  obtain ⟨pl, ts, v, u, D, rfl, W, hu, rfl⟩ := h
  refine ⟨_, pss_cons (ps_if (pt_cmpR op_lt (pe_callB (cr_sumT rfl) (by rfl) T.b_sum PyProof.Rows.boot_sum (pa_cons (pv 1) pa_nil)) pe_int (nomark _)) (pss_one (ps_ret pe_non)) pss_nil)
    (pss_cons (ps_set (i := 2) sc_without_debt.nd rfl (.inl rfl) (C8.pe_c (ok_least_of T) hr (by decide) (by rfl) (pa_cons (pv 0) (pa_cons (pv 1) (pa_cons (pe_ix ix_str (pe_fld (pv 0) (by rfl)) pe_int (fun _ _ => rfl)) pa_nil)))))
    (pss_one (ps_ret (pe_ifExp (pt_cmpR op_ge (pe_ix ix_tup (pv 2) pe_int (fun _ _ => rfl)) pe_int (nomark _)) (pv 2) pe_non)))), ?_⟩
  obtain ⟨b, r, hpl⟩ : ∃ b r, pl = b :: r := by
    have := W.op.pos
    cases pl with
    | nil => simp at this
    | cons b r => exact ⟨b, r, rfl⟩
  have hb : b ∈ pl := by rw [hpl]; exact List.mem_cons_self
  have few := W.op.few
  refine s_if (b := decide ((pl.map D).sum < 0)) (et_test (ev_I0 (ev_sumT (ed_is (ed_var 1 rfl hu) (hp_sum pl D))) ev_c)) e (fun hs B1 H1 g1 => ?_) (fun hs B1 H1 g1 => ?_)
  · have hs := of_decide_eq_true hs
    refine s_ret ev_c g1.s fun v B2 H2 g2 p2 => q v B2 H2 (g1.tr g2) (.inl ⟨fun ⟨E, h1, h2⟩ => ?_, p2⟩)
    have h3 := alike_sum W.op.nd W.ot.mem h1
    have h4 := sum_nonneg h2
    omega
  · show tSeq _ _ _ _ _
    dsimp only [tSeq]
    have W1 := W.mono g1.b
    refine s_set (P := fun z B' => ∃ E, Dq B' z (hpT pl E) ∧ Alike pl ts D E ∧ Red pl ts b E) (ep_call3 (ep_var 0 rfl W1 stb_wc) stb_wc (ed_var 1 rfl (dp_ex g1.b hu)) (stb_dp _) (ev_ixS (ev_places T.web (ep_var 0 rfl W1.wa stb_web)) ev_c (by rw [sx_len]; omega) (c := b) (by rw [sx_toList, hpl]; exact at_nat (n := 0) rfl rfl)) fun x y z B' _ e1 e2 e3 => ⟨pl, ts, x, y, b, D, by rw [e3], e1, hb, e2, rfl⟩) g1.s fun fv B2 H2 g2 ⟨E, p2, hA, hR⟩ => ?_
    have hfree := free_iff W.op.nd W.ot.mem hb hA hR
    have hE0 : atI (pl.map fun u => PyData.int (E u)) 0 = some (.int (E b)) := at_map (n := 0) rfl (by rw [hpl]; rfl)
    refine s_ret (P := Wd pl ts D) (ep_if (b := decide (0 ≤ E b)) (et_test (ev_is (ev_I0 (ed_int (ed_ixT (ed_var 2 rfl p2) ev_c hE0)) ev_c) ?_)) (fun hh => ?_) (fun hh => ?_)) g2.s fun v B3 H3 g3 p3 => q v B3 H3 ((g1.tr g2).tr g3) p3
    · rfl
    · have hh := of_decide_eq_true hh
      refine (ed_var (d := hpT pl E) 2 rfl p2).imp fun v B' _ h => .inr ⟨E, h, hA, fun u hu => ?_⟩
      by_cases e : u = b
      · rw [e]; exact hh
      · exact hR.nn u hu e
    · have hh := of_decide_eq_false hh
      exact ev_c.imp fun v B' _ h => .inl ⟨fun z => hh (hfree.mp z), h⟩

theorem stb_wd {pl : List Nat} {ts : List (Nat × Nat)} {D : Nat → Int} : Stb (Wd pl ts D) := fun _ _ _ e h => h.imp id fun ⟨E, h1, h2⟩ => ⟨E, dp_ex e h1, h2⟩
def spFree (C : Addr) : PrT := fun vs B R => ∃ pl ts v u D, vs = [v, u] ∧ Wc C B v pl ts ∧ Dq B u (hpT pl D) ∧ HpOk pl D ∧ (-8 ≤ (pl.map D).sum ∧ (pl.map D).sum ≤ 8) ∧ R = fun z _ => ∃ b : Bool, z = .bl b ∧ (b = true ↔ Free pl ts D)
abbrev n52 : List Str := ["web", "heap"]
theorem sc_is_free : FnScope n52 ["web", "heap"] (C8.fnScope (topS 52)) := C8.fnScope_by (by decide +kernel)
theorem ok_is_free (T : Tx K mg C) : C8.Cal P w K mg base 7 "is_free" (Pr (spFree C)) [] := by
  refine mk_cal T.is_free sc_is_free (by rintro vs B R ⟨pl, ts, v, u, D, rfl, _⟩; rfl) fun f cdv A outer s H vs Q E B R hr e h q => ?_
  obtain ⟨pl, ts, v, u, D, rfl, W, hu, hD, hs, rfl⟩ := h
  refine ⟨_, pss_cons (ps_expr (C8.pe_c (ok_check_ranked T) hr (by decide) (by rfl) (pa_cons (pv 0) (pa_cons (pv 1) pa_nil)))) (pss_one (ps_ret (pe_cmpR op_notN (C8.pe_c (ok_without_debt T) hr (by decide) (by rfl) (pa_cons (pv 0) (pa_cons (pv 1) pa_nil))) pe_non (by rfl)))), ?_⟩
  refine s_expr (P := fun z _ => z = .non) (ep_call2 (ep_var 0 rfl W stb_wc) stb_wc (ed_var 1 rfl hu) fun x y B' _ e1 e2 => ⟨pl, ts, x, y, D, rfl, e1, e2, hD, hs, rfl⟩) e fun _ B1 H1 g1 _ => ?_
  have k1 : Ep (tCall (Pr (spWithout C)) [] C8.E0 (tCons (tVar 0) (tCons (tVar 1) tNil))) (L2.start n52 [v, u]) B1 (Wd pl ts D) := ep_call2 (ep_var 0 rfl (W.mono g1.b) stb_wc) stb_wc (ed_var 1 rfl (dp_ex g1.b hu)) fun x y B' _ e1 e2 => ⟨pl, ts, x, y, D, rfl, e1, e2, rfl⟩
  show tRet (tOp (fun x y H Q => y = .non ∧ Q (.bl (!decide (x = .non))) H) (tCall (Pr (spWithout C)) [] C8.E0 (tCons (tVar 0) (tCons (tVar 1) tNil))) (tC .non)) { nx := fun _ H' => Q .non H', rt := Q } (L2.start n52 [v, u]) H1
  refine s_ret (P := fun z _ => ∃ b : Bool, z = .bl b ∧ (b = true ↔ Free pl ts D)) (ep_op k1 (ev_c (v := .non)) stb_wd fun x y B' _ p ey => ?_) g1.s fun v B' H' g p => ?_
  rotate_left
  · exact q v B' H' (g1.tr g) p
  subst ey
  refine fun B2 H2 a2 b2 Q' k => ⟨rfl, k _ B2 H2 (Gr.refl b2) ⟨_, rfl, ?_⟩⟩
  rcases p with ⟨p1, p2⟩ | ⟨E, p1, p2, p3⟩
  · subst p2
    simp [p1]
  · obtain ⟨a, xs, rfl, _, _⟩ := dp_tup p1
    have : ¬ (V.ref a = V.non) := fun z => nomatch z
    simp only [this, decide_false, Bool.not_false, true_iff]
    exact ⟨E, p2, p3⟩

def spFreeHeap (C : Addr) : PrT := fun vs B R => ∃ pl ts v u D, vs = [v, u] ∧ Wc C B v pl ts ∧ Dq B u (hpT pl D) ∧ HpOk pl D ∧ (-8 ≤ (pl.map D).sum ∧ (pl.map D).sum ≤ 8) ∧ R = Wd pl ts D
abbrev n53 : List Str := ["web", "heap"]
theorem sc_free_heap : FnScope n53 ["web", "heap"] (C8.fnScope (topS 53)) := C8.fnScope_by (by decide +kernel)
theorem ok_free_heap (T : Tx K mg C) : C8.Cal P w K mg base 7 "free_heap" (Pr (spFreeHeap C)) [] := by
  refine mk_cal T.free_heap sc_free_heap (by rintro vs B R ⟨pl, ts, v, u, D, rfl, _⟩; rfl) fun f cdv A outer s H vs Q E B R hr e h q => ?_
  obtain ⟨pl, ts, v, u, D, rfl, W, hu, hD, hs, rfl⟩ := h
  refine ⟨_, pss_cons (ps_expr (C8.pe_c (ok_check_ranked T) hr (by decide) (by rfl) (pa_cons (pv 0) (pa_cons (pv 1) pa_nil)))) (pss_one (ps_ret (C8.pe_c (ok_without_debt T) hr (by decide) (by rfl) (pa_cons (pv 0) (pa_cons (pv 1) pa_nil))))), ?_⟩
  refine s_expr (P := fun z _ => z = .non) (ep_call2 (ep_var 0 rfl W stb_wc) stb_wc (ed_var 1 rfl hu) fun x y B' _ e1 e2 => ⟨pl, ts, x, y, D, rfl, e1, e2, hD, hs, rfl⟩) e fun _ B1 H1 g1 _ => ?_
  exact s_ret (P := Wd pl ts D) (ep_call2 (ep_var 0 rfl (W.mono g1.b) stb_wc) stb_wc (ed_var 1 rfl (dp_ex g1.b hu)) fun x y B' _ e1 e2 => ⟨pl, ts, x, y, D, rfl, e1, e2, rfl⟩) g1.s fun v B' H' g p => q v B' H' (g1.tr g) p
end
end Kx

/-! Ka14 -/
namespace Kx
open PySem PySem.Spec PyProof.Rows L2
def initS : Stmt := match topS 26 with
  | .ClassDef _ _ _ body _ _ _ _ _ _ _ => body.getD 0 (.Pass ⟨0, 0, 0, 0⟩)
  | s => s
structure Tw (K : PySem.W.Frag) (mg : Str → Option Value) (C : Addr) : Prop where
  tx : Tx K mg C
  mkw : ∃ (f : Addr) (fd : FuncData), Mk K C f ∧ C8.Fun K "__init__" "Web.__init__" initS f fd ∧ Binds K fd ["self", "places", "ties"] []
section
variable {P : Program} {w : World} {K : PySem.W.Frag} {mg : Str → Option Value} {base : Heap} {C : Addr}
def spInit (C : Addr) : Sp := fun vs H Q _ => ∃ (B1 H1 : Hp) (p dx : Addr) (pl : List Nat) (ts : List (Nat × Nat)) (tv : V), vs = [.ref p, .str (Sx pl), tv] ∧ Sub B1 H1 ∧ Gr B1 H1 B1 H ∧ H1 p = none ∧ H p = some (.ins C dx []) ∧ Dq B1 tv (.tuple (ts.map tieD)) ∧ OkPl pl ∧ OkTs pl ts ∧
  ∀ B' H', Gr B1 H1 B' H' → WebAt C B' (.ref p) pl ts → Q .non H'
abbrev nI : List Str := ["self", "places", "ties", "wrong"]
theorem sc_init : FnScope nI ["self", "places", "ties"] (C8.fnScope initS) := C8.fnScope_by (by decide +kernel)
theorem ok_web (W : Tw K mg C) : C8.Mak P w K mg base 3 "Web" C (spInit C) [] := by
  have T := W.tx
  obtain ⟨f, fd, hM, hF, hb⟩ := W.mkw
  refine C8.mak0 hM T.mgW hF hb .nil sc_init (fun vs H Q E h => ?_) (fun cdv A outer s H vs Q E hr h => ?_)
  · obtain ⟨B1, H1, p, dx, pl, ts, tv, rfl, _⟩ := h
    rfl
  obtain ⟨B1, H1, p, dx, pl, ts, tv, rfl, es, g, hp, hpi, htv, O, OT, q⟩ := h
  refine ⟨_, pss_cons (ps_if (pt_not (pt_val (C8.pe_c (ok_are_places T) hr (by decide) (by rfl) (pa_cons (pv 1) pa_nil)))) pss_never pss_nil)
    (pss_cons (ps_if (pt_not (pt_val (pe_callB call_isi (by rfl) T.b_isinstance PyProof.Rows.boot_isinstance (pa_cons (pv 2) (pa_cons (pe_bltn (v := .ty "tuple") (by rfl) T.b_tuple PyProof.Rows.boot_tuple rfl) pa_nil))))) pss_never pss_nil)
    (pss_cons (ps_set (i := 3) sc_init.nd rfl (.inl rfl) (C8.pe_c (ok_wrong_tie T) hr (by decide) (by rfl) (pa_cons (pv 1) (pa_cons (pv 2) pa_nil))))
    (pss_cons (ps_if (pt_cmpR op_notN (pv 3) pe_non (by rfl)) pss_never pss_nil)
    (pss_cons (ps_fld (pv 0) (pv 1) rfl) (pss_one (ps_fld (pv 0) (pv 2) rfl)))))), ?_⟩
  have hb1 : B1 p = none := sub_back es hp
  obtain ⟨a, xs, rfl, ha, hd⟩ := dp_tup htv
  refine s_if (b := false) (et_not (a := true) (et_B (ep_call1 (ev_var 1 rfl) fun x B' _ e1 => ⟨pl, by rw [e1], O, rfl⟩))) g.s (fun z => nomatch z) fun _ B2 H2 g2 => ?_
  refine s_if (b := false) (et_not (a := true) (et_B (ev_isTup (ed_var 2 rfl (dp_ex g2.b htv))))) g2.s (fun z => nomatch z) fun _ B3 H3 g3 => ?_
  dsimp only [tSeq]
  refine s_set (P := fun z _ => z = .non) (ep_call2 (ev_var 1 rfl) (stb_eq _) (ed_var 2 rfl (dp_ex (g2.tr g3).b htv)) fun x y B' _ e1 e2 => ⟨pl, ts, y, by rw [e1], e2, O, OT, rfl⟩) g3.s fun z B4 H4 g4 p4 => ?_
  subst p4
  show tIfS (tTest (tOp (fun x y H Q => y = .non ∧ Q (.bl (!decide (x = .non))) H) (tVar 3) (tC .non))) _ _ _ _ _
  refine s_if (b := false) (et_test (ev_is (ev_notN (P := fun z _ => z = .non) (ev_var 3 rfl) true (fun v B' h => decide_eq_true h)) rfl)) g4.s (fun z => nomatch z) fun _ B5 H5 g5 => ?_
  have gA := (g2.tr g3).tr (g4.tr g5)
  obtain ⟨c1, d1⟩ := gA.off hb1 hpi
  refine ⟨_, rfl, _, rfl, p, C, dx, [], rfl, d1, T.web.cl, T.web.nP, (by show 0 < 1000; decide), ?_⟩
  refine ⟨_, rfl, _, rfl, p, C, dx, _, rfl, upd_same, T.web.cl, T.web.nT, (by show 1 < 1000; decide), ?_⟩
  have gB := ((g.tr gA).mut (o := .ins C dx (putF "places" (.str (Sx pl)) [])) hp c1).mut (o := .ins C dx (putF "ties" (.ref a) (putF "places" (.str (Sx pl)) []))) hp c1
  refine q _ _ (gB.pub hp upd_same c1) ⟨p, dx, a, rfl, ?_, dp_ex (gB.b.trans (Evl.Ex.new c1)) htv⟩
  rw [upd_same]
  have hne : ¬ (("places" : Str) = ("ties" : Str)) := by decide +kernel
  have e1 : putF "ties" (V.ref a) (putF "places" (.str (Sx pl)) []) = wFs pl a := by
    show (if ("places" : Str) = "ties" then (("places" : Str), V.ref a) :: [] else (("places" : Str), V.str (Sx pl)) :: [(("ties" : Str), V.ref a)]) = _
    rw [if_neg hne]; rfl
  rw [e1]
theorem ep_web {σ : L2.St} {B : Hp} {ta tb : TE} {E : XK} {pl : List Nat} {ts : List (Nat × Nat)} (h1 : Kx.Ev ta σ B (.str (Sx pl))) (h2 : Kx.Ed tb σ B (.tuple (ts.map tieD))) (O : OkPl pl) (OT : OkTs pl ts) :
    Ep (tMake C (spInit C) [] E (tCons ta (tCons tb tNil))) σ B (fun v B' => WebAt C B' v pl ts) := fun B1 H1 a b Q q =>
  h1 B1 H1 a b _ fun v1 B2 H2 g2 p2 => h2 B2 H2 (a.trans g2.b) g2.s _ fun v2 B3 H3 g3 p3 x dx hx hdx hne => by
    subst p2
    refine ⟨B3, H3, x, dx, pl, ts, v2, rfl, g3.s, ?_, hx, upd_same, p3, O, OT, fun B' H' g w => ⟨rfl, q _ B' H' ((g2.tr g3).tr g) w⟩⟩
    have k1 : Gr B3 H3 B3 (upd H3 dx (.own x)) := Gr.newM g3.s hdx
    exact k1.tr (Gr.newM k1.s (by rw [upd_ne (Ne.symm hne)]; exact hx))
end
end Kx

/-! Kb1 -/
namespace Kx
open PySem PySem.Spec PyProof.Rows L2
theorem sl_to {α : Type} {ds : List α} {k : Nat} : (ds.drop (HT.sIx ds.length 0 none)).take (HT.sIx ds.length ds.length (some ((k : Nat) : Int)) - HT.sIx ds.length 0 none) = ds.take k := by
  rw [HT.sIx_nat, HT.sIx_none, List.drop_zero, Nat.sub_zero]
  by_cases h : k ≤ ds.length
  · rw [Nat.min_eq_left h]
  · rw [Nat.min_eq_right (by omega), List.take_of_length_le (Nat.le_refl _), List.take_of_length_le (by omega)]
theorem sl_from {α : Type} {ds : List α} {k : Nat} : (ds.drop (HT.sIx ds.length 0 (some ((k : Nat) : Int)))).take (HT.sIx ds.length ds.length none - HT.sIx ds.length 0 (some ((k : Nat) : Int))) = ds.drop k := by
  rw [HT.sIx_nat, HT.sIx_none]
  by_cases h : k ≤ ds.length
  · rw [Nat.min_eq_left h, List.take_of_length_le (by rw [List.length_drop]; omega)]
  · rw [Nat.min_eq_right (by omega), List.drop_of_length_le (Nat.le_refl _), List.drop_of_length_le (by omega), List.take_nil]
section
variable {P : Program} {w : World} {K : PySem.W.Frag} {mg : Str → Option Value} {base : Heap} {C : Addr}
def spLAt : PrT := fun vs B R => ∃ (ts : List (Nat × Nat)) (v : V) (a : Nat), vs = [v, .str (sg a)] ∧ Dq B v (.list (ts.map tieD)) ∧ ts.length ≤ 6 ∧ R = fun u _ => u = .int ((deg ts a : Nat) : Int)
abbrev n60 : List Str := ["_law_joins", "_law_a", "_law_both"]
theorem sc_lat : FnScope n60 ["_law_joins", "_law_a"] (C8.fnScope (topS 60)) := C8.fnScope_by (by decide +kernel)
theorem ok_lat (T : Tx K mg C) : C8.Cal P w K mg base 1 "_law_at" (Pr spLAt) [] := by
  refine mk_cal T.lat sc_lat (by rintro vs B R ⟨ts, v, a, rfl, _⟩; rfl) fun f cdv A outer s H vs Q E B R hr e h q => ?_
  obtain ⟨ts, v, a, rfl, hv, few, rfl⟩ := h
  have nd := sc_lat.nd
  refine ⟨_, pss_one (ps_ret (pe_callB call_len_seq (by rfl) T.b_len boot_len (pa_cons (pe_lc (own := [("_law_both", 2)]) (g := gName 2) rfl nd (pi_list (pv 0)) (blkOk_by (own := [("_law_both", 2)]) (N := n60) (sc := C8.fnScope (topS 60)) (by decide +kernel)) (fun _ _ _ _ _ => pg_name (i := 2) nd rfl (Or.inl rfl)) (fun _ _ _ _ _ => pts_one (pt_cmpR op_in_sign (pv 1) (pv 2) (by rfl))) (fun _ _ _ _ _ => pv 2)) pa_nil))), ?_⟩
  refine s_ret (ev_is (ev_lenL (ed_lc (ei_list (φ := tieD) (ed_var 0 rfl hv)) (fun t => hit t a) tieD (by omega) fun t x B2 ht _ hx => ⟨_, tg_name 2, rfl, ?_, fun _ => ed_var 2 rfl hx⟩)) (by rw [List.length_map]; rfl)) e fun v B' H' g p => q v B' H' g p
  cases hx
  exact et_is (et_test (ev_inSign (c := a) (ev_var 1 rfl) (ev_var 2 rfl))) (by rw [mem_tie])
def spLSh : PrT := fun vs B R => ∃ (ts : List (Nat × Nat)) (v : V) (a b : Nat), vs = [v, .str (sg a), .str (sg b)] ∧ Dq B v (.list (ts.map tieD)) ∧ ts.length ≤ 6 ∧ R = fun u _ => u = .int ((btw ts a b : Nat) : Int)
abbrev n61 : List Str := ["_law_joins", "_law_a", "_law_b", "_law_both"]
theorem sc_lshared : FnScope n61 ["_law_joins", "_law_a", "_law_b"] (C8.fnScope (topS 61)) := C8.fnScope_by (by decide +kernel)
theorem ok_lshared (T : Tx K mg C) : C8.Cal P w K mg base 1 "_law_shared" (Pr spLSh) [] := by
  refine mk_cal T.lshared sc_lshared (by rintro vs B R ⟨ts, v, a, b, rfl, _⟩; rfl) fun f cdv A outer s H vs Q E B R hr e h q => ?_
  obtain ⟨ts, v, a, b, rfl, hv, few, rfl⟩ := h
  have nd := sc_lshared.nd
  refine ⟨_, pss_one (ps_ret (pe_callB call_len_seq (by rfl) T.b_len boot_len (pa_cons (pe_lc (own := [("_law_both", 3)]) (g := gName 3) rfl nd (pi_list (pv 0)) (blkOk_by (own := [("_law_both", 3)]) (N := n61) (sc := C8.fnScope (topS 61)) (by decide +kernel)) (fun _ _ _ _ _ => pg_name (i := 3) nd rfl (Or.inl rfl)) (fun _ _ _ _ _ => pts_one (PW.pt (pw_and (pt_cmpR op_in_sign (pv 1) (pv 3) (by rfl)) (pw_and1 (pt_cmpR op_in_sign (pv 2) (pv 3) (by rfl)))))) (fun _ _ _ _ _ => pv 3)) pa_nil))), ?_⟩
  refine s_ret (ev_is (ev_lenL (ed_lc (ei_list (φ := tieD) (ed_var 0 rfl hv)) (fun t => hit t a && hit t b) tieD (by omega) fun t x B2 ht _ hx => ⟨_, tg_name 3, rfl, ?_, fun _ => ed_var 3 rfl hx⟩)) (by rw [List.length_map]; rfl)) e fun v B' H' g p => q v B' H' g p
  cases hx
  exact et_is (et_and (et_test (ev_inSign (c := a) (ev_var 1 rfl) (ev_var 3 rfl))) fun _ => et_test (ev_inSign (c := b) (ev_var 2 rfl) (ev_var 3 rfl))) (by rw [mem_tie, mem_tie])

/-- the law's determinant -/
def minorM (k : Nat) (M : List (List Int)) : List (List Int) := M.map fun l => l.take k ++ l.drop (k + 1)
def sgn (k : Nat) (x : Int) : Int := if k % 2 = 0 then x else 0 - x
def detF : Nat → List (List Int) → Int
  | 0, _ => 1
  | n + 1, M => ((List.range (n + 1)).map fun k => sgn k (detF n (minorM k (M.drop 1))) * ((M.getD 0 []).getD k 0)).sum
structure Sq (n : Nat) (M : List (List Int)) : Prop where
  len : M.length = n
  row : ∀ r ∈ M, r.length = n
  bnd : ∀ r ∈ M, ∀ x ∈ r, -(2 ^ 64) < x ∧ x < 2 ^ 64
theorem sq_minor {n k : Nat} {M : List (List Int)} (h : Sq (n + 1) M) (hk : k ≤ n) : Sq n (minorM k (M.drop 1)) := by
  refine ⟨by unfold minorM; rw [List.length_map, List.length_drop, h.len]; omega, fun r hr => ?_, fun r hr x hx => ?_⟩
  · obtain ⟨l, hl, rfl⟩ := List.mem_map.mp hr
    have := h.row l (List.mem_of_mem_drop hl)
    rw [List.length_append, List.length_take, List.length_drop]; omega
  · obtain ⟨l, hl, rfl⟩ := List.mem_map.mp hr
    refine h.bnd l (List.mem_of_mem_drop hl) x ?_
    rcases List.mem_append.mp hx with hx | hx
    · exact List.mem_of_mem_take hx
    · exact List.mem_of_mem_drop hx
def spDet (n : Nat) : PrT := fun vs B R => ∃ (m : Nat) (M : List (List Int)) (v : V), vs = [v] ∧ m ≤ n ∧ m ≤ 10 ∧ Dq B v (.list (M.map rD)) ∧ Sq m M ∧ R = fun u _ => u = .int (detF m M)
abbrev n62 : List Str := ["_law_rows_here", "_law_found", "_law_k", "_law_minor", "_law_line"]
theorem sc_ldet : FnScope n62 ["_law_rows_here"] (C8.fnScope (topS 62)) := C8.fnScope_by (by decide +kernel)
theorem ok_ldet (T : Tx K mg C) : ∀ n, C8.Cal P w K mg base (n + 1) "_law_det" (Pr (spDet n)) []
  | 0 => by
    refine mk_cal T.ldet sc_ldet (by rintro vs B R ⟨m, M, v, rfl, _⟩; rfl) fun f cdv A outer s H vs Q E B R hr e h q => ?_
    obtain ⟨m, M, v, rfl, hm, _, hv, hM, rfl⟩ := h
    obtain rfl : m = 0 := by omega
    obtain rfl : M = [] := List.length_eq_zero_iff.mp hM.len
    refine ⟨_, pss_cons (ps_if (pt_cmpR (op_eqD hr.units) (pv 0) (pe_lst pa_nil) (nomark _)) (pss_one (ps_ret pe_int)) pss_nil) pss_never, ?_⟩
    refine s_if (b := true) (et_test (ev_is (ev_eqD (ed_var 0 rfl hv) (ed_lst ea_nil (by decide)) (by decide +kernel) (by decide +kernel)) (by decide +kernel))) e (fun _ B1 H1 g1 => ?_) (fun z => nomatch z)
    exact s_ret ev_c g1.s fun v B' H' g p => q v B' H' (g1.tr g) p
  | n + 1 => by
    have ih := ok_ldet T n
    refine mk_cal T.ldet sc_ldet (by rintro vs B R ⟨m, M, v, rfl, _⟩; rfl) fun f cdv A outer s H vs Q E B R hr e h q => ?_
    obtain ⟨m, M, v, rfl, hm, hm10, hv, hM, rfl⟩ := h
    have nd := sc_ldet.nd
    refine ⟨_, pss_cons (ps_if (pt_cmpR (op_eqD hr.units) (pv 0) (pe_lst pa_nil) (nomark _)) (pss_one (ps_ret pe_int)) pss_nil)
      (pss_cons (ps_set (i := 1) nd rfl (.inl rfl) pe_int)
      (pss_cons (ps_for PassesOwn.never rfl (pi_range1 (by rfl) T.b_range (pa_cons (pe_callB call_len_seq (by rfl) T.b_len boot_len (pa_cons (pv 0) pa_nil)) pa_nil)) (pg_name (i := 2) nd rfl (.inr rfl))
        (pss_one (ps_if (pt_cmpR op_ne (pe_ix ix_list (pe_ix ix_list (pv 0) pe_int (fun _ _ => rfl)) (pv 2) (fun _ _ => rfl)) pe_int (nomark _))
          (pss_cons (ps_set (i := 3) nd rfl (.inl rfl) (C8.pe_c ih hr (Nat.le_refl _) (by rfl) (pa_cons (pe_lc (own := [("_law_line", 4)]) (g := gName 4) rfl nd (pi_list (pe_slice sl_list (pv 0) (po_some pe_int) po_none)) (blkOk_by (own := [("_law_line", 4)]) (N := n62) (sc := C8.fnScope (topS 62)) (by decide +kernel)) (fun _ _ _ _ _ => pg_name (i := 4) nd rfl (Or.inl rfl)) (fun _ _ _ _ _ => pts_nil)
              (fun _ _ _ _ _ => pe_op op_cat (pe_slice (r := rSlL K) sl_list (pv 4) po_none (po_some (pv 2))) (pe_slice (r := rSlL K) sl_list (pv 4) (po_some (pe_op op_add (pv 2) pe_int)) po_none))) pa_nil)))
          (pss_one (ps_set (i := 1) nd rfl (.inl rfl) (pe_op op_add (pv 1) (pe_op op_mul (pe_ifExp (pt_cmpR op_eq (pe_op op_mod (pe_callTy call_int1 (by rfl) T.b_int PyProof.Rows.boot_int (pa_cons (pv 2) pa_nil)) pe_int) pe_int (nomark _)) (pv 3) (pe_op op_sub pe_int (pv 3))) (pe_ix ix_list (pe_ix ix_list (pv 0) pe_int (fun _ _ => rfl)) (pv 2) (fun _ _ => rfl)))))))
          pss_nil)))
      (pss_one (ps_ret (pv 1))))), ?_⟩
    by_cases hm0 : m = 0
    · subst hm0
      obtain rfl : M = [] := List.length_eq_zero_iff.mp hM.len
      refine s_if (b := true) (et_test (ev_is (ev_eqD (ed_var 0 rfl hv) (ed_lst ea_nil (by decide)) (by decide +kernel) (by decide +kernel)) (by decide +kernel))) e (fun _ B1 H1 g1 => ?_) (fun z => nomatch z)
      exact s_ret ev_c g1.s fun v B' H' g p => q v B' H' (g1.tr g) p
    obtain ⟨m, rfl⟩ : ∃ m', m = m' + 1 := ⟨m - 1, by omega⟩
    have hMl := hM.len
    obtain ⟨r0, rest, rfl⟩ : ∃ r0 rest, M = r0 :: rest := by
      cases M with
      | nil => simp at hMl
      | cons a r => exact ⟨a, r, rfl⟩
    have hr0 := hM.row r0 List.mem_cons_self
    have hrl : rest.length = m := by simpa using hMl
    refine s_if (b := false) (et_test (ev_is (ev_eqD (ed_var 0 rfl hv) (ed_lst ea_nil (by decide)) (shaped_lists _) (by decide +kernel)) (by rw [eqv_nilL]; rfl))) e (fun z => nomatch z) fun _ B1 H1 g1 => ?_
    dsimp only [tNext, tSeq]
    refine s_set (P := fun z _ => z = .int 0) ev_c g1.s fun z B2 H2 g2 p2 => ?_
    subst p2
    have hv2 := dp_ex (g1.tr g2).b hv
    refine s_for (ei_rng1 (n := ((m + 1 : Nat) : Int)) (ea_cons (int_ed (ev_is (ev_lenL (ed_var 0 rfl hv2)) (by rw [List.length_map, hMl]))) ea_nil) (by omega) (by omega)) g2.s fun B3 H3 g3 => ⟨fun pre σ' B' H' => (∃ x2 x3 : Option V, σ' = [some v, some (.int ((pre.map fun k => sgn k (detF m (minorM k rest)) * (r0.getD k 0)).sum)), x2, x3, none]) ∧ Gr B3 H3 B' H', ⟨⟨none, none, rfl⟩, Gr.refl g3.s⟩, fun _ _ _ _ h => ⟨h.2.b, h.2.s⟩, ?_, ?_⟩
    · rintro pre k post hpre σ' B' H' ⟨⟨x2, x3, rfl⟩, g4⟩ z B5 H5 g5 hz
      subst hz
      obtain ⟨hk, hkm⟩ := range_pre hpre
      rw [Int.toNat_natCast] at hkm
      have hk0 : r0[k]? = some (r0[k]'(by omega)) := List.getElem?_eq_getElem _
      have hg0 : r0.getD k 0 = r0[k]'(by omega) := by rw [List.getD_eq_getElem?_getD, hk0]; rfl
      have hbk := hM.bnd r0 List.mem_cons_self _ (List.getElem_mem (show k < r0.length by omega))
      rw [← hg0] at hk0 hbk
      generalize hgx : r0.getD k 0 = c at hk0 hbk
      have g35 := (g3.tr g4).tr g5
      have hv5 := dp_ex g35.b hv2
      have cell : ∀ {σ0 : L2.St} {B0 : Hp}, Dq B0 v (.list ((r0 :: rest).map rD)) → σ0[0]? = some (some v) → σ0[2]? = some (some (.int ((k : Nat) : Int))) → Kx.Ev (tOp (rIxL K) (tOp (rIxL K) (tVar 0) (tC (.int 0))) (tVar 2)) σ0 B0 (.int c) := fun hd h0 h2 => ed_int (ed_ixL (ed_ixL (ed_var 0 h0 hd) ev_c (at_map (n := 0) rfl rfl)) (ev_var 2 h2) (at_map rfl hk0))
      dsimp only [gName]
      refine s_if (b := !decide (c = 0)) (et_test (ev_is (ev_ne (cell hv5 rfl rfl) ev_c rfl) ?_)) g5.s (fun hc B6 H6 g6 => ?_) (fun hc B6 H6 g6 => ?_)
      · congr 2
        rw [decide_eq_decide]
        exact ⟨fun z => by injection z, fun z => by rw [z]⟩
      · dsimp only [tSeq]
        have hv6 := dp_ex g6.b hv5
        refine s_set (P := fun z _ => z = .int (detF m (minorM k rest))) (ep_call1 (pre := spDet n) (Pa := fun z B' => Dq B' z (.list ((minorM k rest).map rD))) (ed_is (ed_lc (ei_list (xs := rest) (φ := rD) (ed_slL (ds := (r0 :: rest).map rD) (ed_var 0 rfl hv6) (eo_some (i := ((1 : Nat) : Int)) ev_c) eo_no (by rw [sl_from]; rfl))) (fun _ => true) (fun l => rD (l.take k ++ l.drop (k + 1))) (by omega) fun l x B7 hl e7 hx => ⟨_, tg_name 4, rfl, et_yes, fun _ => ?_⟩) ?_) fun x B' _ hx => ⟨m, minorM k rest, x, rfl, by omega, by omega, hx, sq_minor (M := r0 :: rest) hM (by omega), rfl⟩) g6.s fun z B8 H8 g8 p8 => ?_
        · have hll := hM.row l (List.mem_cons_of_mem _ hl)
          refine ed_is (ed_cat (ed_slL (es := (l.take k).map .int) (ed_var 4 rfl hx) eo_no (eo_some (i := ((k : Nat) : Int)) (ev_var 2 rfl)) (by rw [sl_to, List.map_take])) (ed_slL (es := (l.drop (k + 1)).map .int) (ed_var 4 rfl hx) (eo_some (i := ((k + 1 : Nat) : Int)) (ev_is (ev_I0 (ev_var 2 rfl) ev_c) (by congr 1))) eo_no (by rw [sl_from, List.map_drop])) ?_) ?_
          · rw [List.length_map, List.length_map, List.length_take, List.length_drop]; omega
          · rw [← List.map_append]
        · rw [filter_id_len _ _ (fun _ _ => rfl)]
          unfold minorM
          rw [List.map_map]; rfl
        subst p8
        have hv8 := dp_ex g8.b hv6
        dsimp only
        refine s_set (P := fun z _ => z = .int ((pre.map fun k => sgn k (detF m (minorM k rest)) * (r0.getD k 0)).sum + sgn k (detF m (minorM k rest)) * c)) ?_ g8.s fun z B9 H9 g9 p9 => ?_
        · refine ev_I0 (g := fun i j => .int (i + j)) (ev_var 1 rfl) (ev_I (C := CMul) (g := fun i j => .int (i * j)) (ep_if (b := decide (k % 2 = 0)) (P := fun z _ => z = .int (sgn k (detF m (minorM k rest)))) (et_test (ev_is (ev_eq (ev_I (g := fun i j => .int (i % j)) (ev_int (ev_var 2 rfl)) (ev_c (v := .int 2)) (show (0 : Int) < 2 by decide)) ev_c rfl) ?_)) (fun hk2 => ev_is (ev_var 3 rfl) ?_) (fun hk2 => ev_is (ev_I0 (g := fun i j => .int (i - j)) ev_c (ev_var 3 rfl)) ?_)) (cell hv8 rfl rfl) (.inr hbk))
          · congr 1
            rw [decide_eq_decide]
            exact ⟨fun z => by injection z with z; omega, fun z => by congr 1; omega⟩
          · unfold sgn; rw [if_pos (of_decide_eq_true hk2)]
          · unfold sgn; rw [if_neg (of_decide_eq_false hk2)]
        subst p9
        refine ⟨B9, ⟨some (.int ((k : Nat) : Int)), some (.int (detF m (minorM k rest))), ?_⟩, ((g4.tr g5).tr g6).tr (g8.tr g9)⟩
        rw [List.map_append, List.sum_append]
        simp only [List.map_cons, List.map_nil, List.sum_cons, List.sum_nil, Int.add_zero, hgx]
        rfl
      · have hc : c = 0 := by simpa using hc
        refine ⟨B6, ⟨some (.int ((k : Nat) : Int)), x3, ?_⟩, (g4.tr g5).tr g6⟩
        rw [List.map_append, List.sum_append]
        simp only [List.map_cons, List.map_nil, List.sum_cons, List.sum_nil, Int.add_zero, hgx, hc, Int.mul_zero]
        rfl
    · rintro σ' B' H' ⟨⟨x2, x3, rfl⟩, g4⟩
      dsimp only
      refine s_ret (ev_var 1 rfl) g4.s fun z B5 H5 g5 p5 => q z B5 H5 ((g1.tr g2).tr ((g3.tr g4).tr g5)) ?_
      rw [p5, Int.toNat_natCast]; rfl
end
end Kx

/-! Kb2 -/
namespace Kx
open PySem PySem.Spec PyProof.Rows L2
section
variable {P : Program} {w : World} {K : PySem.W.Frag} {mg : Str → Option Value} {base : Heap} {C : Addr}
theorem ev_slS {σ : L2.St} {B : Hp} {te : TE} {tl th : TO} {l r : List Nat} {lo hi : Option Int} (h : Kx.Ev te σ B (.str (Sx l))) (hl : EpO tl σ B lo) (hh : EpO th σ B hi) (hz : l.length ≤ 100000) (e : cutS (Sx l) lo hi = Sx r) : Kx.Ev (tSl rSlS te tl th) σ B (.str (Sx r)) := fun B1 H1 a b Q q =>
  h B1 H1 a b _ fun v B2 H2 g2 p2 => hl B2 H2 (a.trans g2.b) g2.s _ fun B3 H3 g3 => hh B3 H3 (a.trans (g2.b.trans g3.b)) g3.s _ fun B4 H4 g4 => by
    subst p2
    exact ⟨_, rfl, Evl.sz_of (by rw [sx_len]; exact hz), by rw [e]; exact q _ B4 H4 ((g2.tr g3).tr g4) rfl⟩
theorem cut_from (l : List Nat) (k : Nat) : cutS (Sx l) (some ((k : Nat) : Int)) none = Sx (l.drop k) := by
  unfold cutS
  rw [sx_toList, sx_len, sl_from]
theorem cut_to (l : List Nat) (k : Nat) : cutS (Sx l) none (some ((k : Nat) : Int)) = Sx (l.take k) := by
  unfold cutS
  rw [sx_toList, sx_len, sl_to]
theorem cut_1 (l : List Nat) : cutS (Sx l) (some 1) none = Sx (l.drop 1) := cut_from l 1
def lM (pl : List Nat) (ts : List (Nat × Nat)) : List (List Int) := (pl.drop 1).map fun a => (pl.drop 1).map fun c => -(gr ts a c)
def spLRows : PrT := fun vs B R => ∃ (pl : List Nat) (ts : List (Nat × Nat)) (v : V), vs = [.str (Sx pl), v] ∧ Dq B v (.list (ts.map tieD)) ∧ OkPl pl ∧ ts.length ≤ 6 ∧ R = fun u B' => Dq B' u (.list ((lM pl ts).map rD))
abbrev n63 : List Str := ["_law_signs", "_law_joins", "_law_found", "_law_a", "_law_b"]
theorem sc_lrows : FnScope n63 ["_law_signs", "_law_joins"] (C8.fnScope (topS 63)) := C8.fnScope_by (by decide +kernel)
theorem ok_lrows (T : Tx K mg C) : C8.Cal P w K mg base 2 "_law_rows" (Pr spLRows) [] := by
  refine mk_cal T.lrows sc_lrows (by rintro vs B R ⟨pl, ts, v, rfl, _⟩; rfl) fun f cdv A outer s H vs Q E B R hr e h q => ?_
  obtain ⟨pl, ts, v, rfl, hv, O, few, rfl⟩ := h
  have nd := sc_lrows.nd
  have fewp := O.few
  refine ⟨_, pss_cons (ps_set (i := 2) nd rfl (.inl rfl) (pe_lst pa_nil))
    (pss_cons (ps_for PassesOwn.never rfl (pi_str (pe_slice sl_str (pv 0) (po_some pe_int) po_none)) (pg_name (i := 3) nd rfl (.inr rfl))
      (pss_one (ps_expr (pe_bm PySem.F.plainAttrs_list PySem.F.slot_list_append PySem.F.type_list_append mt_append (pv 2) (pa_cons (pe_lc (own := [("_law_b", 4)]) (g := gName 4) rfl nd (pi_str (pe_slice sl_str (pv 0) (po_some pe_int) po_none)) (blkOk_by (own := [("_law_b", 4)]) (N := n63) (sc := C8.fnScope (topS 63)) (by decide +kernel)) (fun _ _ _ _ _ => pg_name (i := 4) nd rfl (Or.inl rfl)) (fun _ _ _ _ _ => pts_nil)
        (fun _ _ _ _ _ => pe_ifExp (pt_cmpR op_eq (pv 3) (pv 4) (nomark _)) (C8.pe_c (ok_lat T) hr (by decide) (by rfl) (pa_cons (pv 1) (pa_cons (pv 3) pa_nil))) (pe_op op_sub pe_int (C8.pe_c (ok_lshared T) hr (by decide) (by rfl) (pa_cons (pv 1) (pa_cons (pv 3) (pa_cons (pv 4) pa_nil))))))) pa_nil)))))
    (pss_one (ps_ret (pv 2)))), ?_⟩
  have hdl : (pl.drop 1).length ≤ 4 := by rw [List.length_drop]; omega
  refine s_setM (em_lst ea_nil (by decide)) e fun l xs0 B1 H1 g1 h0 hb1 hl1 hd1 => ?_
  refine s_for (ei_str (ev_slS (r := pl.drop 1) (ev_var 0 rfl) (eo_some (i := 1) ev_c) eo_no (by omega) (cut_1 pl))) g1.s fun B2 H2 g2 => ⟨fun pre σ' B' H' => (∃ x, σ' = [some (.str (Sx pl)), some v, some (.ref l), x, none]) ∧ Gr B H B' H' ∧ Evl.Ex B2 B' ∧ B' l = none ∧ ∃ xs, H' l = some (.lst xs) ∧ DqAll B' xs (pre.map fun a => rD ((pl.drop 1).map fun c => -(gr ts a c))), ⟨⟨none, rfl⟩, g1.tr g2, Evl.Ex.refl _, (g2.off hb1 hl1).1, xs0, (g2.off hb1 hl1).2, dpa_ex g2.b hd1⟩, fun _ _ _ _ h => ⟨h.2.2.1, h.2.1.s⟩, ?_, ?_⟩
  · rintro pre c post hx σ' B' H' ⟨⟨x, rfl⟩, g3, ex, hb, xs, hl, hd⟩ z B3 H3 g4 hz
    subst hz
    rw [sx_toList] at hx
    have hlen : xs.length ≤ 4 := by
      have := congrArg List.length hx
      rw [List.length_append] at this
      rw [dpa_len hd, List.length_map]; omega
    obtain ⟨hb3, hl3⟩ := g4.off hb hl
    have hv3 := dp_ex (g3.tr g4).b hv
    dsimp only [gName]
    refine s_app (ev_var 2 rfl) (ed_lc (ei_str (ev_slS (r := pl.drop 1) (ev_var 0 rfl) (eo_some (i := 1) ev_c) eo_no (by omega) (cut_1 pl))) (fun _ => true) (fun o => .int (-(gr ts c o))) (by rw [sx_toList]; omega) fun o x B4 ho e4 hx4 => ⟨_, tg_name 4, rfl, et_yes, fun _ => ?_⟩) g4.s hl3 hb3 (by omega) fun u B5 H5 g5 p5 hb5 hl5 => ?_
    · subst hx4
      have hv4 := dp_ex e4 hv3
      refine int_ed (ep_if (b := decide (c = o)) (et_test (ev_is (ev_eq (ev_var 3 rfl) (ev_var 4 rfl) rfl) (by rw [sg_eq]))) (fun hoc => ev_is (v := .int ((deg ts c : Nat) : Int)) (ep_call2 (ed_var 1 rfl hv4) (stb_dp _) (ev_var 3 rfl) fun x y B' _ e1 e2 => ⟨ts, x, c, by rw [e2], e1, few, rfl⟩) ?_) (fun hoc => ev_is (ev_I0 (g := fun i j => .int (i - j)) ev_c (ep_call3 (P := fun z _ => z = .int ((btw ts c o : Nat) : Int)) (ed_var 1 rfl hv4) (stb_dp _) (ev_var 3 rfl) (stb_eq _) (ev_var 4 rfl) fun x y z B' _ e1 e2 e3 => ⟨ts, x, c, o, by rw [e2, e3], e1, few, rfl⟩)) ?_))
      · unfold gr; rw [if_pos (of_decide_eq_true hoc).symm, Int.neg_neg]
      · unfold gr; rw [if_neg (fun z => of_decide_eq_false hoc z.symm)]; congr 1; omega
    · refine ⟨B5, ⟨_, rfl⟩, ((g3.tr g4).tr g5).mut h0 hb5, ex.trans (g4.b.trans g5.b), hb5, _, upd_same, ?_⟩
      rw [List.map_append]
      refine dpa_app (dpa_ex (g4.b.trans g5.b) hd) (dpa_one' ?_)
      rw [filter_id_len _ _ (fun _ _ => rfl), sx_toList] at p5
      show Dq B5 u (rD ((pl.drop 1).map fun c' => -(gr ts c c')))
      unfold rD
      rw [List.map_map]
      exact p5
  · rintro σ' B' H' ⟨⟨x, rfl⟩, g3, ex, hb, xs, hl, hd⟩
    rw [sx_toList] at hd
    obtain ⟨B5, g5, p5, _⟩ := g3.fin h0 hb hl hd
    dsimp only
    refine s_ret (ed_var 2 rfl p5) g5.s fun u B6 H6 g6 p6 => q u B6 H6 (g5.tr g6) ?_
    unfold lM
    rw [List.map_map]
    exact p6

/-- column k replaced by the unit column j -/
def mixI (M : List (List Int)) (k j : Nat) : List (List Int) := M.zipIdx.map fun a => a.1.take k ++ [if a.2 = j then 1 else 0] ++ a.1.drop (k + 1)
def rests (m : Nat) (M : List (List Int)) : List (List Int) := (List.range m).map fun j => (List.range m).map fun k => detF m (mixI M k j)
theorem sq_mix {m k j : Nat} {M : List (List Int)} (h : Sq m M) (hk : k < m) : Sq m (mixI M k j) := by
  refine ⟨by unfold mixI; rw [List.length_map, List.length_zipIdx, h.len], fun r hr => ?_, fun r hr x hx => ?_⟩
  · obtain ⟨l, hl, rfl⟩ := List.mem_map.mp hr
    have h1 := List.mem_zipIdx_iff_getElem?.mp (show (l.1, l.2) ∈ M.zipIdx from hl)
    have := h.row l.1 (List.mem_of_getElem? h1)
    rw [List.length_append, List.length_append, List.length_take, List.length_drop, List.length_singleton]; omega
  · obtain ⟨l, hl, rfl⟩ := List.mem_map.mp hr
    have h1 := List.mem_zipIdx_iff_getElem?.mp (show (l.1, l.2) ∈ M.zipIdx from hl)
    have h2 := h.bnd l.1 (List.mem_of_getElem? h1)
    rcases List.mem_append.mp hx with hx | hx
    · rcases List.mem_append.mp hx with hx | hx
      · exact h2 x (List.mem_of_mem_take hx)
      · rw [List.mem_singleton] at hx
        subst hx
        split <;> decide
    · exact h2 x (List.mem_of_mem_drop hx)
theorem lM_sq {pl : List Nat} {ts : List (Nat × Nat)} (few : ts.length ≤ 6) : Sq (pl.drop 1).length (lM pl ts) := by
  refine ⟨by unfold lM; rw [List.length_map], fun r hr => ?_, fun r hr x hx => ?_⟩
  · obtain ⟨a, _, rfl⟩ := List.mem_map.mp hr
    rw [List.length_map]
  · obtain ⟨a, _, rfl⟩ := List.mem_map.mp hr
    obtain ⟨c, _, rfl⟩ := List.mem_map.mp hx
    have := gr_bd few a c
    omega
def spLRests : PrT := fun vs B R => ∃ (pl : List Nat) (ts : List (Nat × Nat)) (v : V), vs = [.str (Sx pl), v] ∧ Dq B v (.list (ts.map tieD)) ∧ OkPl pl ∧ ts.length ≤ 6 ∧ R = fun u B' => Dq B' u (.list ((rests (pl.drop 1).length (lM pl ts)).map rD))
abbrev n66 : List Str := ["_law_signs", "_law_joins", "_law_rows_here", "_law_found", "_law_j", "_law_marks", "_law_k", "_law_mixed_rows", "_law_i", "_law_line"]
theorem sc_lrests : FnScope n66 ["_law_signs", "_law_joins"] (C8.fnScope (topS 66)) := C8.fnScope_by (by decide +kernel)
theorem ok_lrests (T : Tx K mg C) : C8.Cal P w K mg base 5 "_law_rests" (Pr spLRests) [] := by
  refine mk_cal T.lrests sc_lrests (by rintro vs B R ⟨pl, ts, v, rfl, _⟩; rfl) fun f cdv A outer s H vs Q E B R hr e h q => ?_
  obtain ⟨pl, ts, v, rfl, hv, O, few, rfl⟩ := h
  have nd := sc_lrests.nd
  have fewp := O.few
  refine ⟨_, pss_cons (ps_set (i := 2) nd rfl (.inl rfl) (C8.pe_c (ok_lrows T) hr (by decide) (by rfl) (pa_cons (pv 0) (pa_cons (pv 1) pa_nil))))
    (pss_cons (ps_set (i := 3) nd rfl (.inl rfl) (pe_lst pa_nil))
    (pss_cons (ps_for PassesOwn.never rfl (pi_range1 (by rfl) T.b_range (pa_cons (pe_callB call_len_seq (by rfl) T.b_len boot_len (pa_cons (pv 2) pa_nil)) pa_nil)) (pg_name (i := 4) nd rfl (.inr rfl))
      (pss_cons (ps_set (i := 5) nd rfl (.inl rfl) (pe_lst pa_nil))
      (pss_cons (ps_for PassesOwn.never rfl (pi_range1 (by rfl) T.b_range (pa_cons (pe_callB call_len_seq (by rfl) T.b_len boot_len (pa_cons (pv 2) pa_nil)) pa_nil)) (pg_name (i := 6) nd rfl (.inr rfl))
        (pss_cons (ps_setLc (own := [("_law_i", 8), ("_law_line", 9)]) (g := gTup K 2 (gCons (gName 8) (gCons (gName 9) gNil))) (i := 7) rfl nd rfl rfl (by rfl) (pi_enum (by rfl) T.b_enumerate (pa_cons (pv 2) pa_nil)) (blkOk_by (own := [("_law_i", 8), ("_law_line", 9)]) (N := n66) (sc := C8.fnScope (topS 66)) (by decide +kernel)) (fun _ _ _ _ _ => pg_tup (by rfl) (pgs_cons (pg_name (i := 8) nd rfl (Or.inl rfl)) (pgs_cons (pg_name (i := 9) nd rfl (Or.inl rfl)) pgs_nil))) (fun _ _ _ _ _ => pts_nil)
            (fun _ _ _ _ _ => pe_op op_cat (pe_op op_cat (pe_slice (r := rSlL K) sl_list (pv 9) po_none (po_some (pv 6))) (pe_lst (pa_cons (pe_callTy call_int1 (by rfl) T.b_int PyProof.Rows.boot_int (pa_cons (pe_cmpR op_eq (pv 8) (pv 4) (nomark _)) pa_nil)) pa_nil))) (pe_slice (r := rSlL K) sl_list (pv 9) (po_some (pe_op op_add (pv 6) pe_int)) po_none)))
        (pss_one (ps_expr (pe_bm PySem.F.plainAttrs_list PySem.F.slot_list_append PySem.F.type_list_append mt_append (pv 5) (pa_cons (C8.pe_c (ok_ldet T 3) hr (by decide) (by rfl) (pa_cons (pv 7) pa_nil)) pa_nil))))))
      (pss_one (ps_expr (pe_bm PySem.F.plainAttrs_list PySem.F.slot_list_append PySem.F.type_list_append mt_append (pv 3) (pa_cons (pv 5) pa_nil)))))))
    (pss_one (ps_ret (pv 3))))), ?_⟩
  have hdl : (pl.drop 1).length ≤ 3 := by rw [List.length_drop]; omega
  have hM := lM_sq (pl := pl) few
  refine s_set (P := fun u B' => Dq B' u (.list ((lM pl ts).map rD))) (ep_call2 (ev_var 0 rfl) (stb_eq _) (ed_var 1 rfl hv) fun x y B' _ e1 e2 => ⟨pl, ts, y, by rw [e1], e2, O, few, rfl⟩) e fun rv Ba Ha ga pa => ?_
  generalize lM pl ts = M at hM pa q
  generalize (pl.drop 1).length = m at hM pa q hdl
  have hMl := hM.len
  have evm : ∀ {σ0 : L2.St} {B0 : Hp}, σ0[2]? = some (some rv) → Dq B0 rv (.list (M.map rD)) → EdA (tCons (tCB (rLenS K) (tCons (tVar 2) tNil)) tNil) σ0 B0 [.int ((m : Nat) : Int)] := fun h0 hd => ea_cons (int_ed (ev_is (ev_lenL (ed_var 2 h0 hd)) (by rw [List.length_map, hMl]))) ea_nil
  dsimp only [tSeq]
  refine s_setM (em_lst ea_nil (by decide)) ga.s fun l xs0 B1 H1 g1 h0 hb1 hl1 hd1 => ?_
  refine s_for (ei_rng1 (n := ((m : Nat) : Int)) (evm rfl (dp_ex g1.b pa)) (by omega) (by omega)) g1.s fun B2 H2 g2 => ⟨fun pre σ' B' H' => (∃ x4 x5 x6 x7 : Option V, σ' = [some (.str (Sx pl)), some v, some rv, some (.ref l), x4, x5, x6, x7, none, none]) ∧ Gr Ba Ha B' H' ∧ Evl.Ex B2 B' ∧ B' l = none ∧ ∃ xs, H' l = some (.lst xs) ∧ DqAll B' xs (pre.map fun j => rD ((List.range m).map fun k => detF m (mixI M k j))), ⟨⟨none, none, none, none, rfl⟩, g1.tr g2, Evl.Ex.refl _, (g2.off hb1 hl1).1, xs0, (g2.off hb1 hl1).2, dpa_ex g2.b hd1⟩, fun _ _ _ _ h => ⟨h.2.2.1, h.2.1.s⟩, ?_, ?_⟩
  · rintro pre j post hpre σ' B' H' ⟨⟨x4, x5, x6, x7, rfl⟩, g3, ex, hb, xs, hl, hd⟩ z B3 H3 g4 hz
    subst hz
    obtain ⟨hj, hjm⟩ := range_pre hpre
    rw [Int.toNat_natCast] at hjm
    have hxl : xs.length = pre.length := by rw [dpa_len hd, List.length_map]
    obtain ⟨hb3, hl3⟩ := g4.off hb hl
    dsimp only [gName, tSeq]
    refine s_setM (em_lst ea_nil (by decide)) g4.s fun k xsm B5 H5 g5 hk0 hkb hkl hkd => ?_
    obtain ⟨hb5, hl5⟩ := g5.off hb3 hl3
    have hlk : l ≠ k := fun z => by rw [z, hk0] at hl3; cases hl3
    have g35 := (g3.tr g4).tr g5
    refine s_for (ei_rng1 (n := ((m : Nat) : Int)) (evm rfl (dp_ex g35.b pa)) (by omega) (by omega)) g5.s fun B6 H6 g6 => ⟨fun pre' σ' B' H' => (∃ x6 x7 : Option V, σ' = [some (.str (Sx pl)), some v, some rv, some (.ref l), some (.int ((j : Nat) : Int)), some (.ref k), x6, x7, none, none]) ∧ Gr B3 H3 B' H' ∧ Evl.Ex B6 B' ∧ B' k = none ∧ ∃ ys, H' k = some (.lst ys) ∧ DqAll B' ys ((pre'.map fun k => detF m (mixI M k j)).map .int), ⟨⟨x6, x7, rfl⟩, g5.tr g6, Evl.Ex.refl _, (g6.off hkb hkl).1, xsm, (g6.off hkb hkl).2, dpa_ex g6.b hkd⟩, fun _ _ _ _ h => ⟨h.2.2.1, h.2.1.s⟩, ?_, ?_⟩
    · rintro pre' c post' hpre' σ' B' H' ⟨⟨y6, y7, rfl⟩, g7, ex7, hb7, ys, hl7, hd7⟩ z B8 H8 g8 hz
      subst hz
      obtain ⟨hc, hcm⟩ := range_pre hpre'
      rw [Int.toNat_natCast] at hcm
      have hyl : ys.length = pre'.length := by rw [dpa_len hd7, List.length_map, List.length_map]
      obtain ⟨hb8, hl8⟩ := g8.off hb7 hl7
      have g38 := (g3.tr g4).tr (g7.tr g8)
      dsimp only [gName, tSeq]
      refine s_set (ed_lc (ei_enum (xs := M) (φ := rD) (ea_cons (ed_var 2 rfl (dp_ex g38.b pa)) ea_nil)) (fun _ => true) (fun a => rD (a.1.take c ++ [if a.2 = j then 1 else 0] ++ a.1.drop (c + 1))) (by rw [List.length_zipIdx]; omega) fun a x B9 ha e9 hx => ?_) g8.s fun mv B9 H9 g9 p9 => ?_
      · obtain ⟨Tb, w2, rfl, hTb, hw2⟩ := hx
        have h1 := List.mem_zipIdx_iff_getElem?.mp (show (a.1, a.2) ∈ M.zipIdx from ha)
        have hll := hM.row a.1 (List.mem_of_getElem? h1)
        refine ⟨_, tg_two 8 9 hTb, rfl, et_yes, fun _ => ?_⟩
        refine ed_is (ed_cat (ed_cat (ed_slL (es := (a.1.take c).map .int) (ed_var 9 rfl hw2) eo_no (eo_some (i := ((c : Nat) : Int)) (ev_var 6 rfl)) (by rw [sl_to, List.map_take])) (ed_lst (ea_cons (int_ed (ev_is (v := .int (if a.2 = j then 1 else 0)) (ev_is (ev_intB (k := decide (a.2 = j)) (ev_is (ev_eq (ev_var 8 rfl) (ev_var 4 rfl) rfl) ?_)) ?_) rfl)) ea_nil) (by show 1 ≤ 100000; decide)) ?_) (ed_slL (es := (a.1.drop (c + 1)).map .int) (ed_var 9 rfl hw2) (eo_some (i := ((c + 1 : Nat) : Int)) (ev_is (ev_I0 (ev_var 6 rfl) ev_c) (by congr 1))) eo_no (by rw [sl_from, List.map_drop])) ?_) ?_
        · congr 1
          rw [decide_eq_decide]
          exact ⟨fun z => by injection z with z; omega, fun z => by rw [z]⟩
        · by_cases hh : a.2 = j
          · rw [if_pos hh, decide_eq_true hh]; rfl
          · rw [if_neg hh, decide_eq_false hh]; rfl
        · rw [List.length_map, List.length_take]; show _ + 1 ≤ 100000; omega
        · rw [List.length_append, List.length_map, List.length_map, List.length_take, List.length_drop]; show _ + 1 + _ ≤ 100000; omega
        · unfold rD
          rw [List.map_append, List.map_append]; rfl
      rw [filter_id_len _ _ (fun _ _ => rfl)] at p9
      have p9' : Dq B9 mv (.list ((mixI M c j).map rD)) := by unfold mixI; rw [List.map_map]; exact p9
      obtain ⟨hb9, hl9⟩ := g9.off hb8 hl8
      refine s_app (ev_var 5 rfl) (ep_call1 (pre := spDet 3) (P := fun z _ => z = .int (detF m (mixI M c j))) (ed_var 7 rfl p9') fun x B' _ hx => ⟨m, _, x, rfl, hdl, by omega, hx, sq_mix hM hcm, rfl⟩) g9.s hl9 hb9 (by omega) fun u B10 H10 g10 p10 hb10 hl10 => ?_
      subst p10
      refine ⟨B10, ⟨_, some mv, rfl⟩, ((g7.tr g8).tr (g9.tr g10)).mut hk0 hb10, ex7.trans ((g8.b.trans g9.b).trans g10.b), hb10, _, upd_same, ?_⟩
      rw [List.map_append, List.map_append]
      exact dpa_app (dpa_ex ((g8.b.trans g9.b).trans g10.b) hd7) (dpa_one' (.int _))
    · rintro σ' B' H' ⟨⟨y6, y7, rfl⟩, g7, ex7, hb7, ys, hl7, hd7⟩
      rw [Int.toNat_natCast] at hd7
      obtain ⟨B8, g8, p8, _⟩ := g7.fin hk0 hb7 hl7 hd7
      obtain ⟨hb8, hl8⟩ := g8.off hb3 hl3
      dsimp only
      refine s_app (ev_var 3 rfl) (ed_var 5 rfl p8) g8.s hl8 hb8 (by omega) fun u B9 H9 g9 p9 hb9 hl9 => ?_
      refine ⟨B9, ⟨_, _, _, _, rfl⟩, ((g3.tr g4).tr (g8.tr g9)).mut h0 hb9, ex.trans ((g4.b.trans g8.b).trans g9.b), hb9, _, upd_same, ?_⟩
      rw [List.map_append]
      exact dpa_app (dpa_ex ((g4.b.trans g8.b).trans g9.b) hd) (dpa_one' p9)
  · rintro σ' B' H' ⟨⟨x4, x5, x6, x7, rfl⟩, g3, ex, hb, xs, hl, hd⟩
    rw [Int.toNat_natCast] at hd
    obtain ⟨B5, g5, p5, _⟩ := g3.fin h0 hb hl hd
    dsimp only
    refine s_ret (ed_var 3 rfl p5) g5.s fun u B6 H6 g6 p6 => q u B6 H6 (ga.tr (g5.tr g6)) ?_
    unfold rests
    rw [List.map_map]
    exact p6
end
end Kx

/-! Kb3 -/
namespace Kx
open PySem PySem.Spec PyProof.Rows L2
def EpIr {α : Type} (wi : TI) (σ : L2.St) (B H : Hp) (xs : List α) (Iy : α → V → Hp → Prop) : Prop := ∀ R : It → Hp → Prop, (∀ J B2 H2, Gr B H B2 H2 → Wk J B2 xs Iy → R J H2) → wi σ H R
theorem s_forR {α : Type} {σ : L2.St} {B H : Hp} {D : Ends} {tu : TS} {g : TG} {xs : List α} {Iy : α → V → Hp → Prop} {wi : TI} (hi : EpIr wi σ B H xs Iy)
    (k : ∀ B2 H2, Gr B H B2 H2 → ∃ Pv : List α → L2.St → Hp → Hp → Prop, Pv [] σ B2 H2 ∧ (∀ pre σ' B' H', Pv pre σ' B' H' → Evl.Ex B2 B' ∧ Sub B' H') ∧
      (∀ pre a post, xs = pre ++ a :: post → ∀ σ' B' H', Pv pre σ' B' H' → ∀ x B3 H3, Gr B' H' B3 H3 → Iy a x B3 → g x σ' H3 fun σ2 H4 => tu { D with nx := fun σ5 H5 => ∃ B5, Pv (pre ++ [a]) σ5 B5 H5, ct := fun σ5 H5 => ∃ B5, Pv (pre ++ [a]) σ5 B5 H5, bk := D.nx } σ2 H4) ∧
      ∀ σ' B' H', Pv xs σ' B' H' → D.nx σ' H') : tFor wi g tu D σ H :=
  hi _ fun J B2 H2 g2 wk => by
    obtain ⟨Pv, h0, hp, hs, hd⟩ := k B2 H2 g2
    refine ⟨fun i m σ' H' => m = xs.length - i ∧ i ≤ xs.length ∧ ∃ B', Pv (xs.take i) σ' B' H', ⟨xs.length, by simp, Nat.zero_le _, B2, by rw [List.take_zero]; exact h0⟩, ?_⟩
    rintro i m σ' H' ⟨rfl, hil, B', p⟩
    obtain ⟨e1, e2⟩ := hp _ _ _ _ p
    by_cases hlt : i < xs.length
    · refine .inr ⟨wk.goes i H' hlt (e1.su e2), fun σ5 H5 => ∃ B5, Pv (xs.take i ++ [xs[i]]) σ5 B5 H5, fun σ'' H'' ⟨B5, p'⟩ => ⟨xs.length - (i + 1), by omega, rfl, hlt, B5, (by rw [List.take_add_one, List.getElem?_eq_getElem hlt]; exact p')⟩, fun x H'' y => ?_⟩
      · have hxi : xs[i]? = some xs[i] := List.getElem?_eq_getElem hlt
        obtain ⟨B4, g4, hI⟩ := wk.yields i xs[i] B' H' x H'' hxi e1 e2 y
        refine hs (xs.take i) xs[i] (xs.drop (i + 1)) ?_ σ' B' H' p x B4 H'' g4 hI
        rw [← List.drop_eq_getElem_cons hlt, List.take_append_drop]
    · have z : i = xs.length := by omega
      subst z
      rw [List.take_length] at p
      exact .inl ⟨wk.stops H' (e1.su e2), hd σ' B' H' p⟩
/-- range(n), where n reads a watched list -/
theorem ei_rngW {σ : L2.St} {B H : Hp} {ta : TA} {n : Int} {l : Addr} {u : HO} (h : EdA ta σ (upd B l (wat u)) [.int n]) (e : Sub B H) (hl : H l = some u) (hb : B l = none) (h1 : -1000000000 ≤ n) (h2 : n ≤ 1000000000) : EpIr (iRng1 ta) σ B H (List.range n.toNat) (IyV fun k => .int ((k : Nat) : Int)) := fun R q =>
  h _ H (Evl.Ex.refl _) (sub_wat e hl) _ fun vs B2 H2 g p => by
    obtain ⟨v, rfl, hv⟩ := dpa_one p
    cases hv
    obtain ⟨g2, _, _⟩ := g.unw hb
    refine ⟨n, rfl, by omega, by omega, q _ _ H2 g2 ⟨fun i H3 hi e => (show i < n.toNat by rw [List.length_range] at hi; exact hi), fun H3 e => ?_, fun i a B3 H3 x H4 ha e1 e2 y => ?_⟩⟩
    · show n.toNat ≤ (List.range n.toNat).length
      simp
    · obtain ⟨rfl, rfl⟩ := y
      refine ⟨B3, Gr.refl e2, ?_⟩
      have : a = i := by
        obtain ⟨h3, h4⟩ := List.getElem?_eq_some_iff.mp ha
        rw [← h4]; simp
      subst this
      show V.int (0 + _) = _
      rw [Int.zero_add]
theorem rep_flat (m : Nat) (d : PyData) : (List.replicate m [d]).flatten = List.replicate m d := by
  induction m with
  | zero => rfl
  | succ n ih => rw [List.replicate_succ, List.flatten_cons, ih, List.replicate_succ]; rfl
section
variable {P : Program} {w : World} {K : PySem.W.Frag} {mg : Str → Option Value} {base : Heap} {C : Addr}
/-- the k-th mark of a pile -/
def markN (R : List (List Int)) (D : List Int) (n k : Nat) : Int := ((List.range n).map fun j => D.getD (j + 1) 0 * (R.getD j []).getD k 0).sum
def spLKey : PrT := fun vs B R => ∃ (m : Nat) (Rs : List (List Int)) (D : List Int) (wh : Int) (v u : V), vs = [v, .int wh, u] ∧ Dq B v (.list (Rs.map rD)) ∧ Dq B u (.tuple (D.map .int)) ∧ m ≤ 10 ∧ Rs.length = m ∧ (∀ r ∈ Rs, r.length = m) ∧ D.length = m + 1 ∧ 0 < wh ∧ (∀ x ∈ D, -(2 ^ 64) < x ∧ x < 2 ^ 64) ∧
  R = fun z B' => Dq B' z (.tuple [.int D.sum, .tuple (((List.range m).map fun k => markN Rs D m k % wh).map .int)])
abbrev n67 : List Str := ["_law_rests_here", "_law_whole", "_law_pile_here", "_law_marks", "_law_j", "_law_by", "_law_k"]
theorem sc_lkey : FnScope n67 ["_law_rests_here", "_law_whole", "_law_pile_here"] (C8.fnScope (topS 67)) := C8.fnScope_by (by decide +kernel)
theorem ok_lkey (T : Tx K mg C) : C8.Cal P w K mg base 1 "_law_key" (Pr spLKey) [] := by
  refine mk_cal T.lkey sc_lkey (by rintro vs B R ⟨m, Rs, D, wh, v, u, rfl, _⟩; rfl) fun f cdv A outer s H vs Q E B R hr e h q => ?_
  obtain ⟨m, Rs, D, wh, v, u, rfl, hv, hu, hm, hRl, hRr, hDl, hw, hDb, rfl⟩ := h
  have nd := sc_lkey.nd
  refine ⟨_, pss_cons (ps_set (i := 3) nd rfl (.inl rfl) (pe_op op_rep (pe_lst (pa_cons pe_int pa_nil)) (pe_callB call_len_seq (by rfl) T.b_len boot_len (pa_cons (pv 0) pa_nil))))
    (pss_cons (ps_for PassesOwn.never rfl (pi_range1 (by rfl) T.b_range (pa_cons (pe_callB call_len_seq (by rfl) T.b_len boot_len (pa_cons (pv 0) pa_nil)) pa_nil)) (pg_name (i := 4) nd rfl (.inl rfl))
      (pss_cons (ps_set (i := 5) nd rfl (.inl rfl) (pe_ix ix_tup (pv 2) (pe_op op_add (pv 4) pe_int) (fun _ _ => rfl)))
      (pss_one (ps_for PassesOwn.never rfl (pi_range1 (by rfl) T.b_range (pa_cons (pe_callB call_len_seq (by rfl) T.b_len boot_len (pa_cons (pv 3) pa_nil)) pa_nil)) (pg_name (i := 6) nd rfl (.inl rfl))
        (pss_one (ps_asg (pe_op op_mod (pe_callTy call_int1 (by rfl) T.b_int PyProof.Rows.boot_int (pa_cons (pe_op op_add (pe_ix ix_list (pv 3) (pv 6) (fun _ _ => rfl)) (pe_op op_mul (pv 5) (pe_ix ix_list (pe_ix ix_list (pv 0) (pv 4) (fun _ _ => rfl)) (pv 6) (fun _ _ => rfl)))) pa_nil)) (pv 1)) (pg_sub (pv 3) (pv 6) set_list (fun _ => rfl))))))))
    (pss_one (ps_ret (pe_tup (pa_cons (pe_callB (cr_sumT rfl) (by rfl) T.b_sum PyProof.Rows.boot_sum (pa_cons (pv 2) pa_nil)) (pa_cons (pe_callTy call_tuple_of (by rfl) T.b_tuple PyProof.Rows.boot_tuple (pa_cons (pv 3) pa_nil)) pa_nil)))))), ?_⟩
  refine s_setM (em_rep (ds := [.int 0]) (n := ((m : Nat) : Int)) (ed_lst (ea_cons (int_ed ev_c) ea_nil) (by show 1 ≤ 100000; decide)) (ev_is (ev_lenL (ed_var 0 rfl hv)) (by rw [List.length_map, hRl])) (by omega) (by omega) (by show 1 * _ ≤ 100000; omega)) e fun l xs0 B3 H3 g3 h0 hb3 hl3 hd3 => ?_
  have e0 : (List.replicate ((m : Nat) : Int).toNat [PyData.int 0]).flatten = ((List.range m).map fun k => markN Rs D 0 k % wh).map .int := by
    rw [Int.toNat_natCast, List.map_map]
    have : ((PyData.int ∘ fun k => markN Rs D 0 k % wh) : Nat → PyData) = fun _ => .int 0 := by funext k; show PyData.int (0 % wh) = _; rw [Int.zero_emod]
    rw [this, List.map_const', List.length_range, rep_flat]
  rw [e0] at hd3
  refine s_for (ei_rng1 (n := ((m : Nat) : Int)) (ea_cons (int_ed (ev_is (ev_lenL (ed_var 0 rfl (dp_ex g3.b hv))) (by rw [List.length_map, hRl]))) ea_nil) (by omega) (by omega)) g3.s fun B4 H4 g4 => ⟨fun pre σ' B' H' => (∃ x4 x5 x6 : Option V, σ' = [some v, some (.int wh), some u, some (.ref l), x4, x5, x6]) ∧ Gr B H B' H' ∧ Evl.Ex B4 B' ∧ B' l = none ∧ ∃ xs, H' l = some (.lst xs) ∧ DqAll B' xs (((List.range m).map fun k => markN Rs D pre.length k % wh).map .int), ⟨⟨none, none, none, rfl⟩, g3.tr g4, Evl.Ex.refl _, (g4.off hb3 hl3).1, xs0, (g4.off hb3 hl3).2, dpa_ex g4.b hd3⟩, fun _ _ _ _ h => ⟨h.2.2.1, h.2.1.s⟩, ?_, ?_⟩
  · rintro pre j post hpre σ' B' H' ⟨⟨x4, x5, x6, rfl⟩, g5, ex, hb, xs, hl, hd⟩ z B5 H5 g6 hz
    subst hz
    obtain ⟨hj, hjm⟩ := range_pre hpre
    rw [Int.toNat_natCast] at hjm
    subst hj
    obtain ⟨hb5, hl5⟩ := g6.off hb hl
    have hDj : D[pre.length + 1]? = some (D[pre.length + 1]'(by omega)) := List.getElem?_eq_getElem _
    have hgD : D.getD (pre.length + 1) 0 = D[pre.length + 1]'(by omega) := by rw [List.getD_eq_getElem?_getD, hDj]; rfl
    have hbD := hDb _ (List.getElem_mem (show pre.length + 1 < D.length by omega))
    rw [← hgD] at hDj hbD
    dsimp only [gName, tSeq]
    have gv := g5.tr g6
    refine s_set (P := fun z _ => z = .int (D.getD (pre.length + 1) 0)) (ed_int (ed_ixT (ed_var 2 rfl (dp_ex gv.b hu)) (ev_I0 (g := fun i j => .int (i + j)) (ev_var 4 rfl) ev_c) (at_map (n := pre.length + 1) (by omega) hDj))) g6.s fun z B6 H6 g7 p7 => ?_
    subst p7
    obtain ⟨hb6, hl6⟩ := g7.off hb5 hl5
    have hd6 := dpa_ex (g6.tr g7).b hd
    have hxl : xs.length = m := by rw [dpa_len hd, List.length_map, List.length_map, List.length_range]
    have hRj : Rs[pre.length]? = some (Rs[pre.length]'(by omega)) := List.getElem?_eq_getElem _
    have hgR : Rs.getD pre.length [] = Rs[pre.length]'(by omega) := by rw [List.getD_eq_getElem?_getD, hRj]; rfl
    have hrl := hRr _ (List.getElem_mem (show pre.length < Rs.length by omega))
    rw [← hgR] at hRj hrl
    dsimp only
    have hgw : Gr B H B6 H6 := (g5.tr g6).tr g7
    have hev : Evl.Ex B4 B6 := ex.trans (g6.b.trans g7.b)
    refine s_forR (ei_rngW (u := .lst xs) (n := ((m : Nat) : Int)) (ea_cons (int_ed (ev_is (ev_lenW upd_same (ev_var 3 rfl)) (by rw [hxl]))) ea_nil) g7.s hl6 hb6 (by omega) (by omega)) fun B7 H7 g8 => ⟨fun pre' σ' B' H' => (∃ x6 : Option V, σ' = [some v, some (.int wh), some u, some (.ref l), some (.int ((pre.length : Nat) : Int)), some (.int (D.getD (pre.length + 1) 0)), x6]) ∧ Gr B H B' H' ∧ Evl.Ex B7 B' ∧ B' l = none ∧ ∃ xs, H' l = some (.lst xs) ∧ DqAll B' xs (((List.range m).map fun k => markN Rs D (if k < pre'.length then pre.length + 1 else pre.length) k % wh).map .int), ⟨⟨x6, rfl⟩, hgw.tr g8, Evl.Ex.refl _, (g8.off hb6 hl6).1, xs, (g8.off hb6 hl6).2, ?_⟩, fun _ _ _ _ h => ⟨h.2.2.1, h.2.1.s⟩, ?_, ?_⟩
    · simp only [List.length_nil, Nat.not_lt_zero, if_false]
      exact dpa_ex g8.b hd6
    · rintro pre' k post' hpre' σ' B' H' ⟨⟨y6, rfl⟩, g9, ex9, hb9, ys, hl9, hd9⟩ z B10 H10 g10 hz
      subst hz
      obtain ⟨hk, hkm⟩ := range_pre hpre'
      rw [Int.toNat_natCast] at hkm
      subst hk
      obtain ⟨hb10, hl10⟩ := g10.off hb9 hl9
      have hd10 := dpa_ex g10.b hd9
      have hyl : ys.length = m := by rw [dpa_len hd9, List.length_map, List.length_map, List.length_range]
      have hMk : (((List.range m).map fun k => markN Rs D (if k < pre'.length then pre.length + 1 else pre.length) k % wh).map PyData.int)[pre'.length]? = some (.int (markN Rs D pre.length pre'.length % wh)) := by
        rw [List.map_map, List.getElem?_map, List.getElem?_range hkm]
        show some (PyData.int _) = _
        dsimp only
        rw [if_neg (Nat.lt_irrefl _)]
      have hRk : (Rs.getD pre.length [])[pre'.length]? = some ((Rs.getD pre.length []).getD pre'.length 0) := by
        rw [List.getD_eq_getElem?_getD (l := Rs.getD pre.length []), List.getElem?_eq_getElem (by omega)]; rfl
      have hv10 : Dq B10 v (.list (Rs.map rD)) := dp_ex (g9.tr g10).b hv
      have exw : Evl.Ex B10 (upd B10 l (wat (.lst ys))) := Evl.Ex.new hb10
      dsimp only [gName]
      refine s_setW (j := pre'.length) (d := .int ((markN Rs D pre.length pre'.length % wh + D.getD (pre.length + 1) 0 * (Rs.getD pre.length []).getD pre'.length 0) % wh)) ?_ rfl rfl g10.s hl10 hb10 (by omega) fun nv B11 H11 g11 p11 hb11 hl11 => ?_
      · exact int_ed (ev_I (g := fun i j => .int (i % j)) (ev_int (ev_I0 (g := fun i j => .int (i + j)) (ed_int (ed_ixW upd_same (dpa_ex exw hd10) (ev_var 3 rfl) (ev_var 6 rfl) (at_nat rfl hMk))) (ev_I (C := CMul) (g := fun i j => .int (i * j)) (ev_var 5 rfl) (ed_int (ed_ixL (ed_ixL (ed_var 0 rfl (dp_ex exw hv10)) (ev_var 4 rfl) (at_map rfl hRj)) (ev_var 6 rfl) (at_map rfl hRk))) (.inl hbD)))) (ev_var 1 rfl) hw)
      · refine ⟨B11, ⟨_, rfl⟩, ((g9.tr g10).tr g11).mut h0 hb11, ex9.trans (g10.b.trans g11.b), hb11, _, upd_same, ?_⟩
        have hset := dpa_set pre'.length (dpa_ex g11.b hd10) p11
        have e1 : ((((List.range m).map fun k => markN Rs D (if k < pre'.length then pre.length + 1 else pre.length) k % wh).map PyData.int).set pre'.length (.int ((markN Rs D pre.length pre'.length % wh + D.getD (pre.length + 1) 0 * (Rs.getD pre.length []).getD pre'.length 0) % wh))) = ((List.range m).map fun k => markN Rs D (if k < (pre' ++ [pre'.length]).length then pre.length + 1 else pre.length) k % wh).map PyData.int := by
          apply List.ext_getElem?
          intro i
          rw [List.getElem?_set]
          by_cases hi : pre'.length = i
          · subst hi
            rw [if_pos rfl, if_pos (by rw [List.length_map, List.length_map, List.length_range]; exact hkm), List.map_map, List.getElem?_map, List.getElem?_range hkm]
            show _ = some (PyData.int _)
            dsimp only
            rw [if_pos (by rw [List.length_append]; simp), Int.emod_add_emod]
            congr 3
            unfold markN
            rw [List.range_succ, List.map_append, List.sum_append]
            simp
          · rw [if_neg hi, List.map_map, List.map_map, List.getElem?_map, List.getElem?_map]
            by_cases him : i < m
            · rw [List.getElem?_range him]
              show some (PyData.int _) = some (PyData.int _)
              dsimp only
              rw [List.length_append, List.length_singleton]
              by_cases h1 : i < pre'.length
              · rw [if_pos h1, if_pos (by omega)]
              · rw [if_neg h1, if_neg (by omega)]
            · rw [List.getElem?_eq_none (by rw [List.length_range]; omega)]; rfl
        rw [e1] at hset
        exact hset
    · rintro σ' B' H' ⟨⟨y6, rfl⟩, g9, ex9, hb9, ys, hl9, hd9⟩
      refine ⟨B', ⟨_, _, _, rfl⟩, g9, (hev.trans g8.b).trans ex9, hb9, ys, hl9, ?_⟩
      rw [List.length_append, List.length_singleton]
      have : ((List.range m).map fun k => markN Rs D (if k < (List.range ((m : Nat) : Int).toNat).length then pre.length + 1 else pre.length) k % wh) = (List.range m).map fun k => markN Rs D (pre.length + 1) k % wh := List.map_congr_left fun k hk => by
        rw [List.length_range, Int.toNat_natCast, if_pos (List.mem_range.mp hk)]
      rw [this] at hd9
      exact hd9
  · rintro σ' B' H' ⟨⟨x4, x5, x6, rfl⟩, g5, ex, hb, xs, hl, hd⟩
    rw [List.length_range, Int.toNat_natCast] at hd
    obtain ⟨B5, g6, p6, _⟩ := g5.fin h0 hb hl hd
    dsimp only
    refine s_ret (ed_tup (ea_cons (int_ed (ev_sumT (ed_var 2 rfl (dp_ex g6.b hu)))) (ea_cons (ed_tupL (ed_var 3 rfl p6)) ea_nil)) (by show 2 ≤ 100000; decide)) g6.s fun z B7 H7 g7 p7 => q z B7 H7 (g6.tr g7) p7
end
end Kx

/-! Kb4 -/
namespace Kx
open PySem PySem.Spec PyProof.Rows L2
/-- all heaps without debt, one place more -/
def hpStep (wh : Int) (L : List (List Int)) : List (List Int) := (L.map fun p => (List.range (wh - p.sum + 1).toNat).map fun n => p ++ [((n : Nat) : Int)]).flatten
def hpAll (wh : Int) : Nat → List (List Int)
  | 0 => [[]]
  | k + 1 => hpStep wh (hpAll wh k)
theorem hpAll_mem {wh : Int} (hw : 0 ≤ wh) : ∀ {k : Nat} {l : List Int}, l ∈ hpAll wh k ↔ l.length = k ∧ (∀ x ∈ l, 0 ≤ x) ∧ l.sum ≤ wh
  | 0, l => by
    unfold hpAll
    rw [List.mem_singleton]
    constructor
    · intro e; subst e; simpa using hw
    · rintro ⟨h, _⟩; exact List.length_eq_zero_iff.mp h
  | k + 1, l => by
    unfold hpAll hpStep
    rw [List.mem_flatten]
    constructor
    · rintro ⟨L, hL, hl⟩
      obtain ⟨p, hp, rfl⟩ := List.mem_map.mp hL
      obtain ⟨n, hn, rfl⟩ := List.mem_map.mp hl
      obtain ⟨h1, h2, h3⟩ := (hpAll_mem hw).mp hp
      rw [List.mem_range] at hn
      refine ⟨by rw [List.length_append, h1]; rfl, fun x hx => ?_, ?_⟩
      · rcases List.mem_append.mp hx with hx | hx
        · exact h2 x hx
        · rw [List.mem_singleton] at hx; omega
      · rw [List.sum_append]; simp; omega
    · rintro ⟨h1, h2, h3⟩
      rcases List.eq_nil_or_concat l with rfl | ⟨p, x, rfl⟩
      · simp at h1
      · rw [List.concat_eq_append] at *
        rw [List.length_append] at h1
        rw [List.sum_append] at h3
        simp only [List.sum_cons, List.sum_nil, Int.add_zero] at h3
        have hx := h2 x (by simp)
        refine ⟨_, List.mem_map.mpr ⟨p, (hpAll_mem hw).mpr ⟨by simpa using h1, fun y hy => h2 y (by simp [hy]), by omega⟩, rfl⟩, List.mem_map.mpr ⟨x.toNat, ?_, ?_⟩⟩
        · rw [List.mem_range]; omega
        · congr 2; omega
theorem sum_nn : ∀ {l : List Int}, (∀ x ∈ l, 0 ≤ x) → 0 ≤ l.sum
  | [], _ => by simp
  | a :: r, h => by
    rw [List.sum_cons]
    have := h a List.mem_cons_self
    have := sum_nn fun x hx => h x (List.mem_cons_of_mem _ hx)
    omega
theorem flat_le {α : Type} (f : α → List (List Int)) (c : Nat) : ∀ (L : List α), (∀ p ∈ L, (f p).length ≤ c) → ((L.map f).flatten).length ≤ L.length * c
  | [], _ => by simp
  | a :: r, h => by
    have h1 := flat_le f c r fun p hp => h p (List.mem_cons_of_mem _ hp)
    have h2 := h a List.mem_cons_self
    rw [List.map_cons, List.flatten_cons, List.length_append, List.length_cons, Nat.add_mul]
    omega
theorem hpAll_len {wh : Int} (hw : 0 ≤ wh) (hw8 : wh ≤ 8) : ∀ k, (hpAll wh k).length ≤ 9 ^ k
  | 0 => Nat.le_refl 1
  | k + 1 => by
    have h1 := hpAll_len hw hw8 k
    have h2 := flat_le (fun p => (List.range (wh - p.sum + 1).toNat).map fun n => p ++ [((n : Nat) : Int)]) 9 (hpAll wh k) fun p hp => by
      rw [List.length_map, List.length_range]
      have := sum_nn ((hpAll_mem hw).mp hp).2.1
      omega
    rw [Nat.pow_succ]
    exact Nat.le_trans h2 (Nat.mul_le_mul_right 9 h1)
section
variable {P : Program} {w : World} {K : PySem.W.Frag} {mg : Str → Option Value} {base : Heap} {C : Addr}
abbrev tD (l : List Int) : PyData := .tuple (l.map .int)
def spLHeaps : PrT := fun vs B R => ∃ (n : Nat) (wh : Int), vs = [.int ((n : Nat) : Int), .int wh] ∧ n ≤ 4 ∧ wh ≤ 8 ∧ R = fun z B' => ∃ L : List (List Int), Dq B' z (.list (L.map tD)) ∧ L.length ≤ 6561 ∧ ∀ l, l ∈ L ↔ (l.length = n ∧ (∀ x ∈ l, 0 ≤ x) ∧ l.sum = wh)
abbrev n68 : List Str := ["_law_many", "_law_whole", "_law_found", "_law_k", "_law_longer", "_law_pile_here", "_law_number_here"]
theorem sc_lheaps : FnScope n68 ["_law_many", "_law_whole"] (C8.fnScope (topS 68)) := C8.fnScope_by (by decide +kernel)
theorem ok_lheaps (T : Tx K mg C) : C8.Cal P w K mg base 1 "_law_heaps_of" (Pr spLHeaps) [] := by
  refine mk_cal T.lheaps sc_lheaps (by rintro vs B R ⟨n, wh, rfl, _⟩; rfl) fun f cdv A outer s H vs Q E B R hr e h q => ?_
  obtain ⟨n, wh, rfl, hn, hw8, rfl⟩ := h
  have nd := sc_lheaps.nd
  refine ⟨_, pss_cons (ps_if (pt_cmpR op_lt (pv 1) pe_int (nomark _)) (pss_one (ps_ret (pe_lst pa_nil))) pss_nil)
    (pss_cons (ps_set (i := 2) nd rfl (.inl rfl) (pe_lst (pa_cons (pe_tup pa_nil) pa_nil)))
    (pss_cons (ps_for PassesOwn.never rfl (pi_range1 (by rfl) T.b_range (pa_cons (pv 0) pa_nil)) (pg_name (i := 3) nd rfl (.inl rfl))
      (pss_cons (ps_set (i := 4) nd rfl (.inl rfl) (pe_lst pa_nil))
      (pss_cons (ps_for PassesOwn.never rfl (pi_list (pv 2)) (pg_name (i := 5) nd rfl (.inr rfl))
        (pss_one (ps_set (i := 4) nd rfl (.inl rfl) (pe_op op_cat (pv 4) (pe_lc (own := [("_law_number_here", 6)]) (g := gName 6) rfl nd (pi_range1 (by rfl) T.b_range (pa_cons (pe_op op_add (pe_op op_sub (pv 1) (pe_callB (cr_sumT rfl) (by rfl) T.b_sum PyProof.Rows.boot_sum (pa_cons (pv 5) pa_nil))) pe_int) pa_nil)) (blkOk_by (own := [("_law_number_here", 6)]) (N := n68) (sc := C8.fnScope (topS 68)) (by decide +kernel)) (fun _ _ _ _ _ => pg_name (i := 6) nd rfl (Or.inl rfl)) (fun _ _ _ _ _ => pts_nil) (fun _ _ _ _ _ => pe_op (r := rCatA K) op_catA (pv 5) (pe_tup (pa_cons (pv 6) pa_nil))))))))
      (pss_one (ps_set (i := 2) nd rfl (.inl rfl) (pv 4))))))
    (pss_one (ps_ret (pe_lc (own := [("_law_pile_here", 5)]) (g := gName 5) rfl nd (pi_list (pv 2)) (blkOk_by (own := [("_law_pile_here", 5)]) (N := n68) (sc := C8.fnScope (topS 68)) (by decide +kernel)) (fun _ _ _ _ _ => pg_name (i := 5) nd rfl (Or.inl rfl)) (fun _ _ _ _ _ => pts_one (pt_cmpR op_eq (pe_callB (r := rSumT K) (cr_sumT rfl) (by rfl) T.b_sum PyProof.Rows.boot_sum (pa_cons (pv 5) pa_nil)) (pv 1) (nomark _))) (fun _ _ _ _ _ => pv 5)))))), ?_⟩
  refine s_if (b := decide (wh < 0)) (et_test (ev_I0 (ev_var 1 rfl) ev_c)) e (fun hneg B1 H1 g1 => ?_) (fun hneg B1 H1 g1 => ?_)
  · have hneg := of_decide_eq_true hneg
    refine s_ret (ed_lst ea_nil (by decide)) g1.s fun z B2 H2 g2 p2 => q z B2 H2 (g1.tr g2) ⟨[], p2, by decide, fun l => ⟨fun h => (nomatch h), fun ⟨_, h2, h3⟩ => ?_⟩⟩
    have := sum_nn h2
    omega
  have hneg := of_decide_eq_false hneg
  have hw : 0 ≤ wh := by omega
  dsimp only [tNext, tSeq]
  refine s_set (ed_lst (ds := [tD []]) (ea_cons (ed_tup ea_nil (by decide)) ea_nil) (by show 1 ≤ 100000; decide)) g1.s fun fv B2 H2 g2 p2 => ?_
  refine s_for (ei_rng1 (n := ((n : Nat) : Int)) (ea_cons (int_ed (ev_var 0 rfl)) ea_nil) (by omega) (by omega)) g2.s fun B3 H3 g3 => ⟨fun pre σ' B' H' => (∃ (fv : V) (x3 x4 x5 : Option V), σ' = [some (.int ((n : Nat) : Int)), some (.int wh), some fv, x3, x4, x5, none] ∧ Dq B' fv (.list ((hpAll wh pre.length).map tD))) ∧ Gr B3 H3 B' H', ⟨⟨fv, none, none, none, rfl, dp_ex g3.b p2⟩, Gr.refl g3.s⟩, fun _ _ _ _ h => ⟨h.2.b, h.2.s⟩, ?_, ?_⟩
  · rintro pre k post hpre σ' B' H' ⟨⟨fv, x3, x4, x5, rfl, hfv⟩, g4⟩ z B5 H5 g5 hz
    subst hz
    obtain ⟨hk, hkn⟩ := range_pre hpre
    rw [Int.toNat_natCast] at hkn
    subst hk
    have hlen := hpAll_len hw hw8 pre.length
    have hlen' : (hpAll wh pre.length).length ≤ 729 := Nat.le_trans hlen (Nat.pow_le_pow_right (by decide) (by omega : pre.length ≤ 3))
    dsimp only [gName, tSeq]
    refine s_set (ed_lst (ds := []) ea_nil (by decide)) g5.s fun lv B6 H6 g6 p6 => ?_
    refine s_for (ei_list (xs := hpAll wh pre.length) (φ := tD) (ed_var 2 rfl (dp_ex (g5.tr g6).b hfv))) g6.s fun B7 H7 g7 => ⟨fun pre' σ' B' H' => (∃ (lv : V) (x5 : Option V), σ' = [some (.int ((n : Nat) : Int)), some (.int wh), some fv, some (.int ((pre.length : Nat) : Int)), some lv, x5, none] ∧ Dq B' lv (.list ((hpStep wh pre').map tD))) ∧ Gr B7 H7 B' H', ⟨⟨lv, x5, rfl, dp_ex g7.b p6⟩, Gr.refl g7.s⟩, fun _ _ _ _ h => ⟨h.2.b, h.2.s⟩, ?_, ?_⟩
    · rintro pre' p post' hpre' σ' B' H' ⟨⟨lv, y5, rfl, hlv⟩, g8⟩ z B9 H9 g9 hz
      have hp : p ∈ hpAll wh pre.length := by rw [hpre']; simp
      obtain ⟨k1, k2, k3⟩ := (hpAll_mem hw).mp hp
      have hsn := sum_nn k2
      have hpl : (hpStep wh pre').length + (wh - p.sum + 1).toNat ≤ 6561 := by
        have h1 := flat_le (fun p => (List.range (wh - p.sum + 1).toNat).map fun n => p ++ [((n : Nat) : Int)]) 9 pre' fun p' hp' => by
          rw [List.length_map, List.length_range]
          have := sum_nn ((hpAll_mem hw).mp (show p' ∈ hpAll wh pre.length by rw [hpre']; simp [hp'])).2.1
          omega
        have h2 : pre'.length + 1 ≤ 729 := by
          have := congrArg List.length hpre'
          rw [List.length_append, List.length_cons] at this
          omega
        have h3 : (hpStep wh pre').length ≤ pre'.length * 9 := h1
        omega
      dsimp only [gName]
      have hz : Dq B9 z (tD p) := hz
      have rng : EpI (iRng1 (tCons (tOp (rI0 fun i j => .int (i + j)) (tOp (rI0 fun i j => .int (i - j)) (tVar 1) (tCB (rSumT K) (tCons (tVar 5) tNil))) (tC (.int 1))) tNil)) [some (.int ((n : Nat) : Int)), some (.int wh), some fv, some (.int ((pre.length : Nat) : Int)), some lv, some z, none] B9 (List.range (wh - p.sum + 1).toNat) (IyV fun k => .int ((k : Nat) : Int)) := ei_rng1 (ea_cons (int_ed (ev_I0 (g := fun i j => .int (i + j)) (ev_I0 (g := fun i j => .int (i - j)) (ev_var 1 rfl) (ev_sumT (ed_var 5 rfl hz))) ev_c)) ea_nil) (by omega) (by omega)
      refine s_set (ed_cat (ed_var 4 rfl (dp_ex g9.b hlv)) (ed_lc rng (fun _ => true) (fun n => tD (p ++ [((n : Nat) : Int)])) (by rw [List.length_range]; omega) fun c x B10 hc e10 hx => ⟨_, tg_name 6, rfl, et_yes, fun _ => ?_⟩) ?_) g9.s fun nv B11 H11 g11 p11 => ?_
      · subst hx
        refine ed_is (ed_catT (ed_var 5 rfl (dp_ex e10 hz)) (ed_tup (ea_cons (int_ed (ev_var 6 rfl)) ea_nil) (by show 1 ≤ 100000; decide)) ?_) ?_
        · rw [List.length_map]; show _ + 1 ≤ 100000; omega
        · unfold tD
          rw [List.map_append]; rfl
      · rw [filter_id_len _ _ (fun _ _ => rfl), List.length_map, List.length_map, List.length_range]; omega
      · refine ⟨B11, ⟨nv, _, rfl, ?_⟩, (g8.tr g9).tr g11⟩
        rw [filter_id_len _ _ (fun _ _ => rfl)] at p11
        have e1 : (hpStep wh (pre' ++ [p])).map tD = (hpStep wh pre').map tD ++ (List.range (wh - p.sum + 1).toNat).map fun n => tD (p ++ [((n : Nat) : Int)]) := by
          unfold hpStep
          rw [List.map_append, List.flatten_append, List.map_append]
          simp
        rw [e1]
        exact p11
    · rintro σ' B' H' ⟨⟨lv, y5, rfl, hlv⟩, g8⟩
      dsimp only
      refine s_set (ed_var 4 rfl hlv) g8.s fun nv B9 H9 g9 p9 => ?_
      refine ⟨B9, ⟨nv, _, _, _, rfl, ?_⟩, ((g4.tr g5).tr (g6.tr g7)).tr (g8.tr g9)⟩
      rw [List.length_append]
      exact p9
  · rintro σ' B' H' ⟨⟨fv, x3, x4, x5, rfl, hfv⟩, g4⟩
    rw [List.length_range, Int.toNat_natCast] at hfv
    have hlen := Nat.le_trans (hpAll_len hw hw8 n) (Nat.pow_le_pow_right (by decide) hn : 9 ^ n ≤ 9 ^ 4)
    dsimp only
    refine s_ret (ed_lc (ei_list (xs := hpAll wh n) (φ := tD) (ed_var 2 rfl hfv)) (fun l => decide (l.sum = wh)) tD (by omega) fun l x B5 hl e5 hx => ⟨_, tg_name 5, rfl, et_test (ev_is (ev_eq (ev_sumT (ed_var 5 rfl hx)) (ev_var 1 rfl) rfl) ?_), fun _ => ed_var 5 rfl hx⟩) g4.s fun z B6 H6 g6 p6 => q z B6 H6 ((g1.tr g2).tr ((g3.tr g4).tr g6)) ⟨_, p6, Nat.le_trans (List.length_filter_le _ _) hlen, fun l => ?_⟩
    · congr 1
      rw [decide_eq_decide]
      exact ⟨fun z => by injection z, fun z => by rw [z]⟩
    · rw [List.mem_filter, hpAll_mem hw, decide_eq_true_eq]
      constructor
      · rintro ⟨⟨h1, h2, h3⟩, h4⟩; exact ⟨h1, h2, h4⟩
      · rintro ⟨h1, h2, h4⟩; exact ⟨⟨h1, h2, by omega⟩, h4⟩
end
end Kx

/-! Kb5 -/
namespace Kx
open PySem PySem.Spec PyProof.Rows L2
section
variable {σ : L2.St} {B B' H H' : Hp} {ta tb tc te tx tl : TE} {x y : V} {D : Ends} {K : PySem.W.Frag}
/-- a, b = value, new list (two plain names) -/
theorem s_parM {i j : Nat} {P : V → Hp → Prop} {ds : List PyData} (h1 : Ep ta σ B P) (sp : Stb P) (h2 : EpM tb σ B ds) (e : Sub B H) (k : ∀ v l xs B' H', Gr B H B' H' → P v B' → H l = none → B' l = none → H' l = some (.lst xs) → DqAll B' xs ds → D.nx ((σ.set i (some v)).set j (some (.ref l))) H') :
    tPar i j (tCons ta (tCons tb tNil)) D σ H :=
  h1 B H (Evl.Ex.refl _) e _ fun v B1 H1 g1 p1 => h2 B1 H1 g1.b g1.s _ fun l xs B2 H2 g2 f2 b2 l2 d2 => ⟨v, .ref l, rfl, k v l xs B2 H2 (g1.tr g2) (sp _ _ _ g2.b p1) (Evl.fresh_back g1.h f2) b2 l2 d2⟩
end
section
variable {P : Program} {w : World} {K : PySem.W.Frag} {mg : Str → Option Value} {base : Heap} {C : Addr}
/-- column k replaced by b -/
def mixV (m : Nat) (M : List (List Int)) (k : Nat) (b : Nat → Int) : List (List Int) := (List.range m).map fun j => (M.getD j []).take k ++ [b j] ++ (M.getD j []).drop (k + 1)
theorem sq_mixV {m k : Nat} {M : List (List Int)} {b : Nat → Int} (h : Sq m M) (hk : k < m) (hb : ∀ j, -(2 ^ 64) < b j ∧ b j < 2 ^ 64) : Sq m (mixV m M k b) := by
  have hg : ∀ j, j < m → M.getD j [] ∈ M := fun j hj => by
    rw [List.getD_eq_getElem?_getD, List.getElem?_eq_getElem (by rw [h.len]; exact hj)]
    exact List.getElem_mem _
  refine ⟨by unfold mixV; rw [List.length_map, List.length_range], fun r hr => ?_, fun r hr x hx => ?_⟩
  · obtain ⟨j, hj, rfl⟩ := List.mem_map.mp hr
    have := h.row _ (hg j (List.mem_range.mp hj))
    rw [List.length_append, List.length_append, List.length_take, List.length_drop, List.length_singleton]; omega
  · obtain ⟨j, hj, rfl⟩ := List.mem_map.mp hr
    have h2 := h.bnd _ (hg j (List.mem_range.mp hj))
    rcases List.mem_append.mp hx with hx | hx
    · rcases List.mem_append.mp hx with hx | hx
      · exact h2 x (List.mem_of_mem_take hx)
      · rw [List.mem_singleton] at hx
        subst hx
        exact hb j
    · exact h2 x (List.mem_of_mem_drop hx)
def spLDo : PrT := fun vs B R => ∃ (pl : List Nat) (ts : List (Nat × Nat)) (D F : List Int) (v u z : V), vs = [.str (Sx pl), v, u, z] ∧ Dq B v (.list (ts.map tieD)) ∧ Dq B u (tD D) ∧ Dq B z (tD F) ∧ OkPl pl ∧ ts.length ≤ 6 ∧ D.length = pl.length ∧ F.length = pl.length ∧
  (∀ j, bd 4294967296 (D.getD j 0) ∧ bd 4294967296 (F.getD j 0)) ∧ (0 < detF (pl.drop 1).length (lM pl ts) ∧ detF (pl.drop 1).length (lM pl ts) < 1073741824) ∧
  (∀ k, k < (pl.drop 1).length → detF (pl.drop 1).length (mixV (pl.drop 1).length (lM pl ts) k fun j => D.getD (j + 1) 0 - F.getD (j + 1) 0) % detF (pl.drop 1).length (lM pl ts) = 0) ∧ D.sum = F.sum ∧ R = fun z B' => z ≠ .non
abbrev n64 : List Str := ["_law_signs", "_law_joins", "_law_pile_here", "_law_goal", "_law_rows_here", "_law_found", "_law_whole", "_law_k", "_law_mixed_rows", "_law_j", "_law_line", "_law_by", "_law_top"]
theorem sc_ldoings : FnScope n64 ["_law_signs", "_law_joins", "_law_pile_here", "_law_goal"] (C8.fnScope (topS 64)) := C8.fnScope_by (by decide +kernel)
theorem ok_ldoings (T : Tx K mg C) : C8.Cal P w K mg base 5 "_law_doings" (Pr spLDo) [] := by
  refine mk_cal T.ldoings sc_ldoings (by rintro vs B R ⟨pl, ts, D, F, v, u, z, rfl, _⟩; rfl) fun f cdv A outer s H vs Q E B R hr e h q => ?_
  obtain ⟨pl, ts, D, F, v, u, z, rfl, hv, hu, hz, O, few, hDl, hFl, hbd, ⟨hw0, hw1⟩, hdiv, hsum, rfl⟩ := h
  have nd := sc_ldoings.nd
  have fewp := O.few
  refine ⟨_, pss_cons (ps_par (i := 4) (j := 5) rfl nd rfl rfl (by decide) rfl rfl (pa_cons (C8.pe_c (ok_lrows T) hr (by decide) (by rfl) (pa_cons (pv 0) (pa_cons (pv 1) pa_nil))) (pa_cons (pe_lst (pa_cons pe_int pa_nil)) pa_nil)) (by rfl))
    (pss_cons (ps_set (i := 6) nd rfl (.inl rfl) (C8.pe_c (ok_ldet T 3) hr (by decide) (by rfl) (pa_cons (pv 4) pa_nil)))
    (pss_cons (ps_for PassesOwn.never rfl (pi_range1 (by rfl) T.b_range (pa_cons (pe_callB call_len_seq (by rfl) T.b_len boot_len (pa_cons (pv 4) pa_nil)) pa_nil)) (pg_name (i := 7) nd rfl (.inl rfl))
      (pss_cons (ps_set (i := 8) nd rfl (.inl rfl) (pe_lst pa_nil))
      (pss_cons (ps_for PassesOwn.never rfl (pi_range1 (by rfl) T.b_range (pa_cons (pe_callB call_len_seq (by rfl) T.b_len boot_len (pa_cons (pv 4) pa_nil)) pa_nil)) (pg_name (i := 9) nd rfl (.inl rfl))
        (pss_cons (ps_par (i := 10) (j := 11) rfl nd rfl rfl (by decide) rfl rfl (pa_cons (pe_ix ix_list (pv 4) (pv 9) (fun _ _ => rfl)) (pa_cons (pe_op op_sub (pe_ix ix_tup (pv 2) (pe_op op_add (pv 9) pe_int) (fun _ _ => rfl)) (pe_ix ix_tup (pv 3) (pe_op op_add (pv 9) pe_int) (fun _ _ => rfl))) pa_nil)) (by rfl))
        (pss_one (ps_expr (pe_bm PySem.F.plainAttrs_list PySem.F.slot_list_append PySem.F.type_list_append mt_append (pv 8) (pa_cons (pe_op op_cat (pe_op op_cat (pe_slice sl_list (pv 10) po_none (po_some (pv 7))) (pe_lst (pa_cons (pv 11) pa_nil))) (pe_slice sl_list (pv 10) (po_some (pe_op op_add (pv 7) pe_int)) po_none)) pa_nil))))))
      (pss_cons (ps_set (i := 12) nd rfl (.inl rfl) (C8.pe_c (ok_ldet T 3) hr (by decide) (by rfl) (pa_cons (pv 8) pa_nil)))
      (pss_cons (ps_if (pt_cmpR op_ne (pe_op op_mod (pe_callTy call_int1 (by rfl) T.b_int PyProof.Rows.boot_int (pa_cons (pv 12) pa_nil)) (pv 6)) pe_int (nomark _)) (pss_one (ps_ret pe_non)) pss_nil)
      (pss_one (ps_expr (pe_bm PySem.F.plainAttrs_list PySem.F.slot_list_append PySem.F.type_list_append mt_append (pv 5) (pa_cons (pe_op op_fdiv (pv 12) (pv 6)) pa_nil)))))))))
    (pss_one (ps_ret (pe_ifExp (pt_cmpR op_eq (pe_callB (cr_sumT rfl) (by rfl) T.b_sum PyProof.Rows.boot_sum (pa_cons (pv 2) pa_nil)) (pe_callB (cr_sumT rfl) (by rfl) T.b_sum PyProof.Rows.boot_sum (pa_cons (pv 3) pa_nil)) (nomark _)) (pe_callTy call_tuple_of (by rfl) T.b_tuple PyProof.Rows.boot_tuple (pa_cons (pv 5) pa_nil)) pe_non))))), ?_⟩
  have hdl : (pl.drop 1).length ≤ 3 := by rw [List.length_drop]; omega
  have hdl2 : (pl.drop 1).length = pl.length - 1 := List.length_drop
  have hM := lM_sq (pl := pl) few
  have hpos := O.pos
  refine s_parM (P := fun u B' => Dq B' u (.list ((lM pl ts).map rD))) (ep_call2 (ev_var 0 rfl) (stb_eq _) (ed_var 1 rfl hv) fun x y B' _ e1 e2 => ⟨pl, ts, y, by rw [e1], e2, O, few, rfl⟩) (stb_dp _) (em_lst (ds := [.int 0]) (ea_cons (int_ed ev_c) ea_nil) (by show 1 ≤ 100000; decide)) e fun rv l xs0 B1 H1 g1 p1 h0 hb1 hl1 hd1 => ?_
  generalize hMM : lM pl ts = M at *
  generalize hmm : (pl.drop 1).length = m at *
  have hMl := hM.len
  dsimp only [tSeq]
  refine s_set (P := fun z _ => z = .int (detF m M)) (ep_call1 (pre := spDet 3) (ed_var 4 rfl p1) fun x B' _ hx => ⟨m, M, x, rfl, hdl, by omega, hx, hM, rfl⟩) g1.s fun wv B2 H2 g2 p2 => ?_
  subst p2
  generalize detF m M = wh at *
  obtain ⟨hb2, hl2⟩ := g2.off hb1 hl1
  have p12 := dp_ex g2.b p1
  have evm : ∀ {σ0 : L2.St} {B0 : Hp}, σ0[4]? = some (some rv) → Dq B0 rv (.list (M.map rD)) → EdA (tCons (tCB (rLenS K) (tCons (tVar 4) tNil)) tNil) σ0 B0 [.int ((m : Nat) : Int)] := fun h0 hd => ea_cons (int_ed (ev_is (ev_lenL (ed_var 4 h0 hd)) (by rw [List.length_map, hMl]))) ea_nil
  refine s_for (ei_rng1 (n := ((m : Nat) : Int)) (evm rfl p12) (by omega) (by omega)) g2.s fun B3 H3 g3 => ⟨fun pre σ' B' H' => (∃ x7 x8 x9 x10 x11 x12 : Option V, σ' = [some (.str (Sx pl)), some v, some u, some z, some rv, some (.ref l), some (.int wh), x7, x8, x9, x10, x11, x12]) ∧ Gr B H B' H' ∧ Evl.Ex B3 B' ∧ B' l = none ∧ ∃ xs ds, H' l = some (.lst xs) ∧ DqAll B' xs ds ∧ xs.length = pre.length + 1, ?_, fun _ _ _ _ h => ⟨h.2.2.1, h.2.1.s⟩, ?_, ?_⟩
  · exact ⟨⟨none, none, none, none, none, none, rfl⟩, (g1.tr g2).tr g3, Evl.Ex.refl _, (g3.off hb2 hl2).1, xs0, _, (g3.off hb2 hl2).2, dpa_ex (g2.b.trans g3.b) hd1, by rw [dpa_len hd1]; rfl⟩
  · rintro pre k post hpre σ' B' H' ⟨⟨x7, x8, x9, x10, x11, x12, rfl⟩, g4, ex, hb, xs, ds, hl, hd, hxl⟩ zz B5 H5 g5 hzz
    subst hzz
    obtain ⟨hk, hkm⟩ := range_pre hpre
    rw [Int.toNat_natCast] at hkm
    obtain ⟨hb5, hl5⟩ := g5.off hb hl
    have hrv5 : Dq B5 rv (.list (M.map rD)) := dp_ex ((g3.b.trans ex).trans g5.b) p12
    dsimp only [gName, tSeq]
    refine s_setM (em_lst ea_nil (by decide)) g5.s fun n ys0 B6 H6 g6 hn0 hbn hln hdn => ?_
    obtain ⟨hb6, hl6⟩ := g6.off hb5 hl5
    have hrv6 := dp_ex g6.b hrv5
    refine s_for (ei_rng1 (n := ((m : Nat) : Int)) (evm rfl hrv6) (by omega) (by omega)) g6.s fun B7 H7 g7 => ⟨fun pre' σ' B' H' => (∃ x9 x10 x11 : Option V, σ' = [some (.str (Sx pl)), some v, some u, some z, some rv, some (.ref l), some (.int wh), some (.int ((k : Nat) : Int)), some (.ref n), x9, x10, x11, x12]) ∧ Gr B5 H5 B' H' ∧ Evl.Ex B7 B' ∧ B' n = none ∧ ∃ ys, H' n = some (.lst ys) ∧ DqAll B' ys (pre'.map fun j => rD ((M.getD j []).take k ++ [D.getD (j + 1) 0 - F.getD (j + 1) 0] ++ (M.getD j []).drop (k + 1))), ⟨⟨x9, x10, x11, rfl⟩, g6.tr g7, Evl.Ex.refl _, (g7.off hbn hln).1, ys0, (g7.off hbn hln).2, dpa_ex g7.b hdn⟩, fun _ _ _ _ h => ⟨h.2.2.1, h.2.1.s⟩, ?_, ?_⟩
    · rintro pre' j post' hpre' σ' B' H' ⟨⟨y9, y10, y11, rfl⟩, g8, ex8, hb8, ys, hl8, hd8⟩ zz B9 H9 g9 hzz
      subst hzz
      obtain ⟨hj, hjm⟩ := range_pre hpre'
      rw [Int.toNat_natCast] at hjm
      obtain ⟨hb9, hl9⟩ := g9.off hb8 hl8
      have hyl : ys.length = pre'.length := by rw [dpa_len hd8, List.length_map]
      have g59 := g8.tr g9
      have hrv9 := dp_ex g59.b hrv5
      have gBt : Evl.Ex B B9 := (g4.tr g5).b.trans g59.b
      have hMj : M[j]? = some (M.getD j []) := by rw [List.getD_eq_getElem?_getD, List.getElem?_eq_getElem (by omega)]; rfl
      have hMr := hM.row _ (List.mem_of_getElem? hMj)
      have hDj : D[j + 1]? = some (D.getD (j + 1) 0) := by rw [List.getD_eq_getElem?_getD, List.getElem?_eq_getElem (by omega)]; rfl
      have hFj : F[j + 1]? = some (F.getD (j + 1) 0) := by rw [List.getD_eq_getElem?_getD, List.getElem?_eq_getElem (by omega)]; rfl
      dsimp only [gName, tSeq]
      refine s_par (A := fun vs B' => ∃ a, vs = [a, .int (D.getD (j + 1) 0 - F.getD (j + 1) 0)] ∧ Dq B' a (rD (M.getD j []))) ?_ g9.s fun vs B10 H10 g10 ⟨a, e1, p10⟩ => ⟨a, _, e1, ?_⟩
      · intro B1' H1' a' b' Q' k'
        refine eap_cons (P := fun z B' => Dq B' z (rD (M.getD j []))) (ed_ixL (ed_var 4 rfl hrv9) (ev_var 9 rfl) (at_map rfl hMj)) (stb_dp _) (eap_cons (P := fun z _ => z = .int (D.getD (j + 1) 0 - F.getD (j + 1) 0)) (ev_I0 (g := fun i j => .int (i - j)) (ed_int (ed_ixT (ed_var 2 rfl (dp_ex gBt hu)) (ev_I0 (g := fun i j => .int (i + j)) (ev_var 9 rfl) ev_c) (at_map (n := j + 1) (by omega) hDj))) (ed_int (ed_ixT (ed_var 3 rfl (dp_ex gBt hz)) (ev_I0 (g := fun i j => .int (i + j)) (ev_var 9 rfl) ev_c) (at_map (n := j + 1) (by omega) hFj)))) (stb_eq _) eap_nil) B1' H1' a' b' Q' fun vs B2 H2 g2 ⟨v1, w1, e1, q1, v2, w2, e2, q2, e3⟩ => ?_
        subst e1; subst e2; subst e3; subst q2
        exact k' _ B2 H2 g2 ⟨_, rfl, q1⟩
      · obtain ⟨hb10, hl10⟩ := g10.off hb9 hl9
        dsimp only
        refine s_app (P := fun z B' => Dq B' z (rD ((M.getD j []).take k ++ [D.getD (j + 1) 0 - F.getD (j + 1) 0] ++ (M.getD j []).drop (k + 1)))) (ev_var 8 rfl) ?_ g10.s hl10 hb10 (by omega) fun nv B11 H11 g11 p11 hb11 hl11 => ?_
        · refine ed_is (ed_cat (ed_cat (ed_slL (es := ((M.getD j []).take k).map .int) (ed_var 10 rfl p10) eo_no (eo_some (i := ((k : Nat) : Int)) (ev_var 7 rfl)) (by rw [sl_to, List.map_take])) (ed_lst (ea_cons (int_ed (ev_var 11 rfl)) ea_nil) (by show 1 ≤ 100000; decide)) ?_) (ed_slL (es := ((M.getD j []).drop (k + 1)).map .int) (ed_var 10 rfl p10) (eo_some (i := ((k + 1 : Nat) : Int)) (ev_is (ev_I0 (ev_var 7 rfl) ev_c) (by congr 1))) eo_no (by rw [sl_from, List.map_drop])) ?_) ?_
          · rw [List.length_map, List.length_take]; show _ + 1 ≤ 100000; omega
          · rw [List.length_append, List.length_map, List.length_map, List.length_take, List.length_drop]; show _ + 1 + _ ≤ 100000; omega
          · unfold rD
            rw [List.map_append, List.map_append]; rfl
        · refine ⟨B11, ⟨_, _, _, rfl⟩, ((g8.tr g9).tr (g10.tr g11)).mut hn0 hb11, ex8.trans ((g9.b.trans g10.b).trans g11.b), hb11, _, upd_same, ?_⟩
          rw [List.map_append]
          exact dpa_app (dpa_ex ((g9.b.trans g10.b).trans g11.b) hd8) (dpa_one' p11)
    · rintro σ' B' H' ⟨⟨y9, y10, y11, rfl⟩, g8, ex8, hb8, ys, hl8, hd8⟩
      rw [Int.toNat_natCast] at hd8
      obtain ⟨B9, g9, p9, _⟩ := g8.fin hn0 hb8 hl8 hd8
      have p9' : Dq B9 (.ref n) (.list ((mixV m M k fun j => D.getD (j + 1) 0 - F.getD (j + 1) 0).map rD)) := by unfold mixV; rw [List.map_map]; exact p9
      have hbb : ∀ j, -(2 ^ 64) < D.getD (j + 1) 0 - F.getD (j + 1) 0 ∧ D.getD (j + 1) 0 - F.getD (j + 1) 0 < 2 ^ 64 := fun j => by
        obtain ⟨q1, q2⟩ := hbd (j + 1)
        unfold bd at q1 q2
        omega
      have hdk := hdiv k hkm
      have hsq := sq_mixV hM hkm hbb
      dsimp only
      refine s_set (P := fun z _ => z = .int (detF m (mixV m M k fun j => D.getD (j + 1) 0 - F.getD (j + 1) 0))) (ep_call1 (pre := spDet 3) (ed_var 8 rfl p9') fun x B' _ hx => ⟨m, _, x, rfl, hdl, by omega, hx, hsq, rfl⟩) g9.s fun tv B10 H10 g10 p10 => ?_
      subst p10
      generalize detF m (mixV m M k fun j => D.getD (j + 1) 0 - F.getD (j + 1) 0) = top at hdk ⊢
      dsimp only
      refine s_if (b := false) (et_test (ev_is (ev_ne (ev_I (g := fun i j => .int (i % j)) (ev_int (ev_var 12 rfl)) (ev_var 6 rfl) hw0) ev_c rfl) (by rw [hdk]; rfl))) g10.s (fun z => nomatch z) fun _ B11 H11 g11 => ?_
      obtain ⟨hb11, hl11⟩ := ((g9.tr g10).tr g11).off hb5 hl5
      dsimp only [tNext]
      refine s_app (P := fun z _ => z = .int (top / wh)) (ev_var 5 rfl) (ev_I (ev_var 12 rfl) (ev_var 6 rfl) ⟨hw0, hw1⟩) g11.s hl11 hb11 (by
        have := congrArg List.length hpre
        rw [List.length_append, List.length_cons, List.length_range, Int.toNat_natCast] at this
        omega) fun nv B12 H12 g12 p12' hb12 hl12 => ?_
      subst p12'
      refine ⟨B12, ⟨_, _, _, _, _, _, rfl⟩, ((g4.tr g5).tr ((g9.tr g10).tr (g11.tr g12))).mut h0 hb12, ex.trans (g5.b.trans ((g9.tr g10).tr (g11.tr g12)).b), hb12, _, ds ++ [.int (top / wh)], upd_same, dpa_app (dpa_ex (g5.b.trans ((g9.tr g10).tr (g11.tr g12)).b) hd) (dpa_one' (.int _)), by rw [List.length_append, List.length_append, hxl]; rfl⟩
  · rintro σ' B' H' ⟨⟨x7, x8, x9, x10, x11, x12, rfl⟩, g4, ex, hb, xs, ds, hl, hd, hxl⟩
    obtain ⟨B5, g5, p5, _⟩ := g4.fin h0 hb hl hd
    dsimp only
    refine s_ret (P := fun z _ => z ≠ .non) (ep_if (b := true) (et_test (ev_is (ev_eq (ev_sumT (ed_var 2 rfl (dp_ex g5.b hu))) (ev_sumT (ed_var 3 rfl (dp_ex g5.b hz))) rfl) (by rw [hsum]; simp))) (fun _ => (ed_tupL (ed_var 5 rfl p5)).imp fun z B' _ h => ?_) (fun z => nomatch z)) g5.s fun z B6 H6 g6 p6 => q z B6 H6 (g5.tr g6) p6
    obtain ⟨a, xs, rfl, _, _⟩ := dp_tup h
    exact fun z => nomatch z
end
end Kx

/-! KxWell -/
namespace Kx
open PySem PySem.Spec PyProof.Rows L2
/-! A list of two numbers that calls change: the well. -/
structure Wl (H : Hp) (aw : Addr) : Prop where
  ex : ∃ a b : Int, H aw = some (.lst [.int a, .int b]) ∧ 0 ≤ a ∧ 0 ≤ b ∧ b < 2147483563
structure GrW (aw : Addr) (B H B' H' : Hp) : Prop where
  b : Evl.Ex B B'
  s : Sub B' H'
  h : ∀ x o, x ≠ aw → H x = some o → H' x = some o
  n : ∀ x, B x = none → H x ≠ none → B' x = none
  k : B' aw = none
  w : Wl H' aw
theorem Wl.ne {H : Hp} {aw : Addr} (w : Wl H aw) : H aw ≠ none := by
  obtain ⟨a, b, h, _⟩ := w.ex
  rw [h]; exact fun z => nomatch z
theorem Gr.w {aw : Addr} {B H B' H' : Hp} (g : Gr B H B' H') (hb : B aw = none) (w : Wl H aw) : GrW aw B H B' H' :=
  ⟨g.b, g.s, fun x o _ h => g.h x o h, g.n, g.n aw hb w.ne, by obtain ⟨a, b, h, r⟩ := w.ex; exact ⟨a, b, g.h _ _ h, r⟩⟩
theorem GrW.tr {aw : Addr} {B H B1 H1 B2 H2 : Hp} (g : GrW aw B H B1 H1) (h : GrW aw B1 H1 B2 H2) : GrW aw B H B2 H2 :=
  ⟨g.b.trans h.b, h.s, fun x o hx e => h.h x o hx (g.h x o hx e), fun x h1 h2 => h.n x (g.n x h1 h2) (by
    by_cases hx : x = aw
    · rw [hx]; exact g.w.ne
    · cases q : H x with
      | none => exact (h2 q).elim
      | some o => rw [g.h x o hx q]; exact fun z => nomatch z), h.k, h.w⟩
theorem GrW.off {aw l : Addr} {B H B' H' : Hp} {o : HO} (g : GrW aw B H B' H') (hl : l ≠ aw) (hb : B l = none) (ho : H l = some o) : B' l = none ∧ H' l = some o := ⟨g.n l hb (by rw [ho]; exact fun z => nomatch z), g.h l o hl ho⟩
theorem GrW.new {aw l : Addr} {B H B' H' : Hp} (g : GrW aw B H B' H') (w : Wl H aw) (h : H' l = none) : H l = none := by
  have hx : l ≠ aw := fun z => g.w.ne (z ▸ h)
  cases q : H l with
  | none => rfl
  | some o => rw [g.h l o hx q] at h; cases h
theorem GrW.mut {aw l : Addr} {B H B' H' : Hp} {o : HO} (g : GrW aw B H B' H') (hl : l ≠ aw) (hp : H l = none) (hb : B' l = none) : GrW aw B H B' (upd H' l o) :=
  ⟨g.b, ex_off g.s hb, fun x u hx q => by rw [upd_ne (fun z => by rw [z, hp] at q; cases q)]; exact g.h x u hx q, g.n, g.k, by
    obtain ⟨a, b, h, r⟩ := g.w.ex
    exact ⟨a, b, by rw [upd_ne (Ne.symm hl)]; exact h, r⟩⟩
theorem GrW.fin {aw l : Addr} {B H B' H' : Hp} {xs : List V} {ds : List PyData} (g : GrW aw B H B' H') (hl : l ≠ aw) (h0 : H l = none) (hb : B' l = none) (ho : H' l = some (.lst xs)) (hd : DqAll B' xs ds) : ∃ B2, GrW aw B H B2 H' ∧ Dq B2 (.ref l) (.list ds) ∧ Evl.Ex B' B2 :=
  ⟨upd B' l (.lst xs), ⟨g.b.trans (Evl.Ex.new hb), fun a u q => by
    by_cases z : a = l
    · subst z; rw [upd_same] at q; cases q; exact ho
    · rw [upd_ne z] at q; exact g.s a u q, g.h, fun a h1 h2 => by
      have z : a ≠ l := fun z => h2 (by rw [z]; exact h0)
      rw [upd_ne z]; exact g.n a h1 h2, by rw [upd_ne (Ne.symm hl)]; exact g.k, g.w⟩, .lst upd_same (dpa_ex (Evl.Ex.new hb) hd), Evl.Ex.new hb⟩
def EpW (te : TE) (σ : L2.St) (B : Hp) (aw : Addr) (P : V → Hp → Prop) : Prop := ∀ B1 H1, Evl.Ex B B1 → Sub B1 H1 → B1 aw = none → Wl H1 aw → ∀ Q : VK, (∀ v B2 H2, GrW aw B1 H1 B2 H2 → P v B2 → Q v H2) → te σ H1 Q
def PrW (pre : List V → Addr → Hp → (V → Hp → Prop) → Prop) : Sp := fun vs H Q _ => ∃ B aw P, Sub B H ∧ B aw = none ∧ Wl H aw ∧ pre vs aw B P ∧ ∀ v B' H', GrW aw B H B' H' → P v B' → Q v H'
abbrev PrWT := List V → Addr → Hp → (V → Hp → Prop) → Prop
section
variable {K : PySem.W.Frag} {σ : L2.St} {B B' H H' : Hp} {aw : Addr} {ta tb tc te tx : TE} {x y z v : V} {P P' R Pa Pb Pc : V → Hp → Prop} {r : R2} {d : PyData} {pre : PrWT} {E : XK} {D : Ends} {α : Type}
theorem epw_of (h : Ep te σ B P) : EpW te σ B aw P := fun B1 H1 a b k w Q q => h B1 H1 a b Q fun v B2 H2 g p => q v B2 H2 (g.w k w) p
theorem EpW.imp (h : EpW te σ B aw P) (i : ∀ v B', Evl.Ex B B' → P v B' → P' v B') : EpW te σ B aw P' := fun B1 H1 a b k w Q q => h B1 H1 a b k w Q fun v B2 H2 g p => q v B2 H2 g (i v B2 (a.trans g.b) p)
theorem epw_op (ha : EpW ta σ B aw P) (hb : EpW tb σ B aw P') (s : Stb P) (hr : ∀ x y B', Evl.Ex B B' → P x B' → P' y B' → Op2 r x y B' R) : EpW (tOp r ta tb) σ B aw R := fun B1 H1 a b k w Q q =>
  ha B1 H1 a b k w _ fun x B2 H2 g2 p2 => hb B2 H2 (a.trans g2.b) g2.s g2.k g2.w _ fun y B3 H3 g3 p3 =>
    hr x y B3 ((a.trans g2.b).trans g3.b) (s _ _ _ g3.b p2) p3 B3 H3 (Evl.Ex.refl _) g3.s Q fun v B4 H4 g4 p4 => q v B4 H4 ((g2.tr g3).tr (g4.w g3.k g3.w)) p4
theorem epw_call1 (ha : Ev ta σ B (.ref aw)) (hp : ∀ B', Evl.Ex B B' → pre [.ref aw] aw B' P) : EpW (tCall (PrW pre) [] E (tCons ta tNil)) σ B aw P := fun B1 H1 a b k w Q q =>
  ha B1 H1 a b _ fun x B2 H2 g2 p2 => by
    subst p2
    have g := g2.w k w
    exact ⟨B2, aw, P, g.s, g.k, g.w, hp B2 (a.trans g.b), fun v B3 H3 g3 p3 => q v B3 H3 (g.tr g3) p3⟩
theorem epw_call2 (ha : Ev ta σ B (.ref aw)) (hb : EpW tb σ B aw Pb) (hp : ∀ y B', Evl.Ex B B' → Pb y B' → pre [.ref aw, y] aw B' P) : EpW (tCall (PrW pre) [] E (tCons ta (tCons tb tNil))) σ B aw P := fun B1 H1 a b k w Q q =>
  ha B1 H1 a b _ fun x B2 H2 g2 p2 => by
    subst p2
    have g := g2.w k w
    exact hb B2 H2 (a.trans g.b) g.s g.k g.w _ fun y B3 H3 g3 p3 => ⟨B3, aw, P, g3.s, g3.k, g3.w, hp y B3 ((a.trans g.b).trans g3.b) p3, fun v B4 H4 g4 p4 => q v B4 H4 ((g.tr g3).tr g4) p4⟩
theorem epw_call3 (ha : Ev ta σ B (.ref aw)) (hb : EpW tb σ B aw Pb) (sb : Stb Pb) (hc : EpW tc σ B aw Pc) (hp : ∀ y z B', Evl.Ex B B' → Pb y B' → Pc z B' → pre [.ref aw, y, z] aw B' P) : EpW (tCall (PrW pre) [] E (tCons ta (tCons tb (tCons tc tNil)))) σ B aw P := fun B1 H1 a b k w Q q =>
  ha B1 H1 a b _ fun x B2 H2 g2 p2 => by
    subst p2
    have g := g2.w k w
    exact hb B2 H2 (a.trans g.b) g.s g.k g.w _ fun y B3 H3 g3 p3 => hc B3 H3 ((a.trans g.b).trans g3.b) g3.s g3.k g3.w _ fun z B4 H4 g4 p4 =>
      ⟨B4, aw, P, g4.s, g4.k, g4.w, hp y z B4 (((a.trans g.b).trans g3.b).trans g4.b) (sb _ _ _ g4.b p3) p4, fun v B5 H5 g5 p5 => q v B5 H5 (((g.tr g3).tr g4).tr g5) p5⟩
/-- a builtin of one argument -/
theorem epw_cb1 {rc : List V → Hp → VK → Prop} (ha : EpW ta σ B aw Pa) (hp : ∀ x B1 H1, Evl.Ex B B1 → Sub B1 H1 → Pa x B1 → ∀ Q : VK, (∀ v B2 H2, Gr B1 H1 B2 H2 → P v B2 → Q v H2) → rc [x] H1 Q) : EpW (tCB rc (tCons ta tNil)) σ B aw P := fun B1 H1 a b k w Q q =>
  ha B1 H1 a b k w _ fun x B2 H2 g2 p2 => hp x B2 H2 (a.trans g2.b) g2.s p2 Q fun v B3 H3 g3 p3 => q v B3 H3 (g2.tr (g3.w g2.k g2.w)) p3
/-- where the outer term takes a plain value of the inner one: the inner first -/
theorem epw_if {t : TT} {b : Bool} (h : EpT t σ B b) (h1 : b = true → EpW ta σ B aw P) (h2 : b = false → EpW tb σ B aw P) : EpW (tIf t ta tb) σ B aw P := fun B1 H1 e c k w Q q => h B1 H1 e c _ fun B2 H2 g => by
  have gw := g.w k w
  cases b with
  | true => exact h1 rfl B2 H2 (e.trans g.b) g.s gw.k gw.w Q fun v B3 H3 g3 p3 => q v B3 H3 (gw.tr g3) p3
  | false => exact h2 rfl B2 H2 (e.trans g.b) g.s gw.k gw.w Q fun v B3 H3 g3 p3 => q v B3 H3 (gw.tr g3) p3
/-! ### statements -/
theorem sw_set {i : Nat} (h : EpW te σ B aw P) (e : Sub B H) (k0 : B aw = none) (w0 : Wl H aw) (k : ∀ v B' H', GrW aw B H B' H' → P v B' → D.nx (σ.set i (some v)) H') : tAsg te (gName i) D σ H := h B H (Evl.Ex.refl _) e k0 w0 _ k
theorem sw_ret (h : EpW te σ B aw P) (e : Sub B H) (k0 : B aw = none) (w0 : Wl H aw) (k : ∀ v B' H', GrW aw B H B' H' → P v B' → D.rt v H') : tRet te D σ H := h B H (Evl.Ex.refl _) e k0 w0 _ k
theorem sw_app {l : Addr} {xs : List V} (hla : l ≠ aw) (ha : Ev ta σ B (.ref l)) (h : EpW te σ B aw P) (e : Sub B H) (k0 : B aw = none) (w0 : Wl H aw) (hl : H l = some (.lst xs)) (hb : B l = none) (hz : xs.length < 100000)
    (k : ∀ v B' H', GrW aw B H B' H' → P v B' → B' l = none → H' l = some (.lst xs) → D.nx σ (upd H' l (.lst (xs ++ [v])))) : tDrop (tBM K "list" rAppend ta (tCons te tNil)) D σ H :=
  ha B H (Evl.Ex.refl _) e _ fun v B1 H1 g1 p1 => by
    subst p1
    have gw := g1.w k0 w0
    obtain ⟨hb1, hl1⟩ := g1.off hb hl
    refine ⟨Or.inl ⟨rfl, xs, Evl.sq_of hl1⟩, h B1 H1 g1.b g1.s gw.k gw.w _ fun w B2 H2 g2 p2 => ?_⟩
    obtain ⟨hb2, hl2⟩ := g2.off hla hb1 hl1
    exact ⟨l, xs, w, rfl, rfl, hl2, Evl.sz_lt hz, k w B2 H2 (gw.tr g2) p2 hb2 hl2⟩
theorem sw_unp {i j : Nat} (h : EpW te σ B aw P) (e : Sub B H) (k0 : B aw = none) (w0 : Wl H aw) (k : ∀ v B' H', GrW aw B H B' H' → P v B' → ∃ a x y, v = .ref a ∧ B' a = some (.tup [x, y]) ∧ D.nx ((σ.set i (some x)).set j (some y)) H') :
    tAsg te (gTup K 2 (gCons (gName i) (gCons (gName j) gNil))) D σ H := h B H (Evl.Ex.refl _) e k0 w0 _ fun v B' H' g p => by
  obtain ⟨a, x, y, rfl, ha, kk⟩ := k v B' H' g p
  exact ⟨a, _, rfl, SqT.of (g.s _ _ ha), rfl, _, _, rfl, _, _, rfl, rfl, kk⟩
theorem sw_for {xs : List α} {Iy : α → V → Hp → Prop} {wi : TI} {g : TG} {tu : TS} (hi : EpI wi σ B xs Iy) (e : Sub B H) (k0 : B aw = none) (w0 : Wl H aw)
    (k : ∀ B2 H2, Gr B H B2 H2 → ∃ Pv : List α → L2.St → Hp → Hp → Prop, Pv [] σ B2 H2 ∧ (∀ pre σ' B' H', Pv pre σ' B' H' → Evl.Ex B2 B' ∧ Sub B' H' ∧ B' aw = none ∧ Wl H' aw) ∧
      (∀ pre a post, xs = pre ++ a :: post → ∀ σ' B' H', Pv pre σ' B' H' → ∀ x B3 H3, Gr B' H' B3 H3 → Iy a x B3 → g x σ' H3 fun σ2 H4 => tu { D with nx := fun σ5 H5 => ∃ B5, Pv (pre ++ [a]) σ5 B5 H5, ct := fun σ5 H5 => ∃ B5, Pv (pre ++ [a]) σ5 B5 H5, bk := D.nx } σ2 H4) ∧
      ∀ σ' B' H', Pv xs σ' B' H' → D.nx σ' H') : tFor wi g tu D σ H :=
  s_for hi e fun B2 H2 g2 => by
    obtain ⟨Pv, h0, hp, hs, hd⟩ := k B2 H2 g2
    exact ⟨Pv, h0, fun pre σ' B' H' p => ⟨(hp _ _ _ _ p).1, (hp _ _ _ _ p).2.1⟩, hs, hd⟩
end
end Kx

/-! Kc1 -/
namespace Kx
open PySem PySem.Spec PyProof.Rows L2
theorem Gr.setw {aw : Addr} {B H B' H' : Hp} {o : HO} (g : Gr B H B' H') (hb : B' aw = none) (w : Wl (upd H' aw o) aw) : GrW aw B H B' (upd H' aw o) :=
  ⟨g.b, ex_off g.s hb, fun x u hx q => by rw [upd_ne hx]; exact g.h x u q, g.n, hb, w⟩
theorem wl_set {H : Hp} {aw : Addr} {a b : Int} (h1 : 0 ≤ a) (h2 : 0 ≤ b) (h3 : b < 2147483563) : Wl (upd H aw (.lst [.int a, .int b])) aw := ⟨a, b, upd_same, h1, h2, h3⟩
section
variable {σ : L2.St} {B B' H H' : Hp} {te tx : TE} {ta : TA} {D : Ends} {K : PySem.W.Frag}
abbrev rDivm : List V → Hp → VK → Prop := fun xs H Q => ∃ i j, xs = [.int i, .int j] ∧ CDiv i j ∧ ∀ p, H p = none → Q (.ref p) (upd H p (.tup [.int (i / j), .int (i % j)]))
theorem s_dm {i j : Nat} {a n : Int} {l : Addr} {xs : List V} (h : EdA ta σ (upd B l (wat (.lst (.int a :: xs)))) [.int a, .int n]) (h1 : σ[i]? = some (some (.ref l))) (e : Sub B H) (hl : H l = some (.lst (.int a :: xs))) (hb : B l = none) (hn : CDiv a n)
    (k : ∀ B' H', Gr B H B' H' → B' l = none → H' l = some (.lst (.int a :: xs)) → D.nx (σ.set j (some (.int (a % n)))) (upd H' l (.lst (.int (a / n) :: xs)))) :
    tAsg (tCB rDivm ta) (gTup K 2 (gCons (gSub (tVar i) (tC (.int 0)) rSetL) (gCons (gName j) gNil))) D σ H := by
  unfold tAsg tCB
  refine h _ H (Evl.Ex.refl _) (sub_wat e hl) _ fun vs B1 H1 g1 p1 => ?_
  obtain ⟨v1, v2, rfl, d1, d2⟩ := dpa_two p1
  cases d1
  cases d2
  obtain ⟨g2, hl2, hw⟩ := g1.unw hb
  refine ⟨a, n, rfl, hn, fun p hp => ?_⟩
  have g3 := g2.tr (Gr.newM (o := .tup [.int (a / n), .int (a % n)]) g2.s hp)
  have hpl : l ≠ p := fun z => by rw [z, hp] at hl2; cases hl2
  have hl3 : upd H1 p (.tup [.int (a / n), .int (a % n)]) l = some (.lst (.int a :: xs)) := by rw [upd_ne hpl]; exact hl2
  exact ⟨p, _, rfl, SqT.of upd_same, rfl, _, _, rfl, ⟨_, h1, l, _, 0, 0, rfl, rfl, hl3, Evl.ixN_nat (n := xs.length + 1) (j := 0) (Nat.succ_pos _), _, _, rfl, rfl, k _ _ g3 del_same hl3⟩⟩
end
section
variable {P : Program} {w : World} {K : PySem.W.Frag} {mg : Str → Option Value} {base : Heap} {C : Addr}
theorem mk_calW {x : Str} {st : Stmt} {N ps : List Str} {k : Nat} {pre : PrWT} (F : Cl K mg x st ps) (S : FnScope N ps (C8.fnScope st)) (len : ∀ vs aw B R, pre vs aw B R → vs.length = ps.length)
    (body : ∀ (f : Addr) (cdv : Value) (A : Around) (outer : List Env) (s : Shared) (H : Hp) (vs : List V) (Q : VK) (E : XK) (B : Hp) (aw : Addr) (R : V → Hp → Prop), Room k (A.deeper (envOfC x (C8.fnScope st) s.heap.objs.size f cdv)) → Sub B H → B aw = none → Wl H aw → pre vs aw B R →
      (∀ v B' H', GrW aw B H B' H' → R v B' → Q v H') → ∃ t, PSs (cxOf C8.CX0 P w K mg base N x (C8.fnScope st) f cdv A outer s H E).nox (C8.fnBody st) t ∧ t { nx := fun _ H' => Q .non H', rt := Q } (start N vs) H) :
    C8.Cal P w K mg base (k + 1) x (PrW pre) [] := by
  obtain ⟨f, fd, D, b⟩ := F.ex
  refine C8.cal0 D b .nil S (fun vs H Q E h => ?_) (fun cdv A outer s H vs Q E hr h => ?_)
  · obtain ⟨B, aw, R, _, _, _, h, _⟩ := h
    exact len _ _ _ _ h
  · obtain ⟨B, aw, R, e, k, w, h, q⟩ := h
    exact body f cdv A outer s H vs Q E B aw R hr e k w h q
def spDip : PrWT := fun vs aw _ R => ∃ n : Int, vs = [.ref aw, .int n] ∧ 0 < n ∧ n < 1073741824 ∧ R = fun v _ => ∃ d : Int, v = .int d ∧ 0 ≤ d ∧ d < n
abbrev n56 : List Str := ["_law_well_here", "_law_size", "_law_digit"]
theorem sc_dip : FnScope n56 ["_law_well_here", "_law_size"] (C8.fnScope (topS 56)) := C8.fnScope_by (by decide +kernel)
theorem ok_dip (T : Tx K mg C) : C8.Cal P w K mg base 1 "_law_dip" (PrW spDip) [] := by
  refine mk_calW T.dip sc_dip (by rintro vs aw B R ⟨n, rfl, _⟩; rfl) fun f cdv A outer s H vs Q E B aw R hr e k0 w0 h q => ?_
  obtain ⟨n, rfl, hn0, hn1, rfl⟩ := h
  have nd := sc_dip.nd
  refine ⟨_, pss_cons (ps_if (pt_cmpR op_gt (pe_ix ix_list (pv 0) pe_int (fun _ _ => rfl)) pe_int (nomark _))
      (pss_cons (ps_asg (pe_callB call_divmod (by rfl) T.b_divmod PyProof.Rows.boot_divmod (pa_cons (pe_ix ix_list (pv 0) pe_int (fun _ _ => rfl)) (pa_cons (pv 1) pa_nil))) (pg_tup (by rfl) (pgs_cons (pg_sub (pv 0) pe_int set_list (fun _ => rfl)) (pgs_cons (pg_name (i := 2) nd rfl (.inl rfl)) pgs_nil))))
      (pss_one (ps_ret (pv 2)))) pss_nil)
    (pss_cons (ps_asg (pe_op op_mod (pe_callTy call_int1 (by rfl) T.b_int PyProof.Rows.boot_int (pa_cons (pe_op op_add (pe_op op_mul (pe_ix ix_list (pv 0) pe_int (fun _ _ => rfl)) pe_int) pe_int) pa_nil)) pe_int) (pg_sub (pv 0) pe_int set_list (fun _ => rfl)))
    (pss_one (ps_ret (pe_op op_mod (pe_callTy call_int1 (by rfl) T.b_int PyProof.Rows.boot_int (pa_cons (pe_op op_fdiv (pe_ix ix_list (pv 0) pe_int (fun _ _ => rfl)) pe_int) pa_nil)) (pv 1))))), ?_⟩
  obtain ⟨a, b, hl, ha, hb, hb2⟩ := w0.ex
  have two : ∀ (a b : Int) (B0 : Hp), DqAll B0 [V.int a, V.int b] [.int a, .int b] := fun a b B0 => .cons (.int a) (.cons (.int b) .nil)
  have ix0 : ∀ {σ0 : L2.St} {B0 : Hp} {a b : Int}, B0 aw = some (wat (.lst [.int a, .int b])) → σ0[0]? = some (some (.ref aw)) → Kx.Ev (tOp (rIxL K) (tVar 0) (tC (.int 0))) σ0 B0 (.int a) := fun hw h0 => ed_int (ed_ixW hw (two _ _ _) (ev_var 0 h0) ev_c (at_nat (n := 0) rfl rfl))
  have ix1 : ∀ {σ0 : L2.St} {B0 : Hp} {a b : Int}, B0 aw = some (wat (.lst [.int a, .int b])) → σ0[0]? = some (some (.ref aw)) → Kx.Ev (tOp (rIxL K) (tVar 0) (tC (.int 1))) σ0 B0 (.int b) := fun hw h0 => ed_int (ed_ixW hw (two _ _ _) (ev_var 0 h0) ev_c (at_nat (n := 1) rfl rfl))
  refine s_if (b := decide (0 < a)) (B := upd B aw (wat (.lst [.int a, .int b]))) (et_test (ev_is (ev_I0 (ix0 upd_same rfl) ev_c) rfl)) (sub_wat e hl) (fun h0 B1 H1 g1 => ?_) (fun h0 B1 H1 g1 => ?_)
  · obtain ⟨g2, hl2, _⟩ := g1.unw k0
    dsimp only [tSeq]
    refine s_dm (a := a) (n := n) (xs := [.int b]) (ea_cons (int_ed (ix0 upd_same rfl)) (ea_cons (int_ed (ev_var 1 rfl)) ea_nil)) rfl g2.s hl2 del_same ⟨hn0, hn1⟩ fun B3 H3 g3 hb3 hl3 => ?_
    dsimp only
    have hdiv : 0 ≤ a / n := Int.ediv_nonneg ha (by omega)
    have gw := (g2.tr g3).setw (o := .lst [.int (a / n), .int b]) hb3 (wl_set hdiv hb hb2)
    refine s_ret (ev_var 2 rfl) gw.s fun v B4 H4 g4 p4 => q v B4 H4 (gw.tr (g4.w gw.k gw.w)) ⟨a % n, p4, Int.emod_nonneg _ (by omega), Int.emod_lt_of_pos _ hn0⟩
  · obtain ⟨g2, hl2, _⟩ := g1.unw k0
    dsimp only [tNext, tSeq]
    have hc0 : 0 ≤ (b * 63029 + 17011) % 2147483563 := Int.emod_nonneg _ (by decide)
    have hc1 : (b * 63029 + 17011) % 2147483563 < 2147483563 := Int.emod_lt_of_pos _ (by decide)
    refine (show tAsg _ (gSub (tVar 0) (tC (.int 1)) rSetL) _ _ _ from ?_)
    have ev : Kx.Ev (tOp (rI (fun _ j => 0 < j) fun i j => .int (i % j)) (tCB rInt1 (tCons (tOp (rI0 fun i j => .int (i + j)) (tOp (rI CMul fun i j => .int (i * j)) (tOp (rIxL K) (tVar 0) (tC (.int 1))) (tC (.int 63029))) (tC (.int 17011))) tNil)) (tC (.int 2147483563))) (L2.start n56 [.ref aw, .int n]) (upd (del B1 aw) aw (wat (.lst [.int a, .int b]))) (.int ((b * 63029 + 17011) % 2147483563)) :=
      ev_I (g := fun i j => .int (i % j)) (ev_int (ev_I0 (g := fun i j => .int (i + j)) (ev_I (C := CMul) (g := fun i j => .int (i * j)) (ix1 upd_same rfl) ev_c (.inr (by decide))) ev_c)) ev_c (show (0 : Int) < 2147483563 by decide)
    refine ev _ H1 (Evl.Ex.refl _) (sub_wat g2.s hl2) _ fun v B3 H3 g3 p3 => ?_
    subst p3
    obtain ⟨g4, hl4, _⟩ := g3.unw del_same
    have gw := (g2.tr g4).setw (o := .lst [.int a, .int ((b * 63029 + 17011) % 2147483563)]) del_same (wl_set ha hc0 hc1)
    refine ⟨_, rfl, aw, [.int a, .int b], 1, 1, rfl, rfl, hl4, Evl.ixN_nat (n := 2) (j := 1) (by decide), ?_⟩
    refine s_ret (B := upd (del B3 aw) aw (wat (.lst [.int a, .int ((b * 63029 + 17011) % 2147483563)]))) (P := fun v _ => ∃ d : Int, v = .int d ∧ 0 ≤ d ∧ d < n) ((ev_I (g := fun i j => .int (i % j)) (ev_int (ev_I (C := CDiv) (g := fun i j => .int (i / j)) (ix1 upd_same rfl) (ev_c (v := .int 601)) ⟨by decide, by decide⟩)) (ev_var 1 rfl) hn0).imp fun v _ _ h => ⟨_, h, Int.emod_nonneg _ (by omega), Int.emod_lt_of_pos _ hn0⟩) (sub_wat gw.s upd_same) fun v B5 H5 g5 p5 => ?_
    obtain ⟨g6, hl6, _⟩ := g5.unw del_same
    exact q v _ _ (gw.tr (g6.w gw.k gw.w)) p5
end
end Kx

/-! Kc2 -/
namespace Kx
open PySem PySem.Spec PyProof.Rows L2
theorem cr_or {X : Cx} {f : Value} {r r' : List V → Hp → VK → Prop} (h : CallR X f r) (h' : CallR X f r') : CallR X f (fun xs H Q => r xs H Q ∨ r' xs H Q) := fun pins s σ H xs us Q I rv k => k.elim (h pins s σ H xs us Q I rv) (h' pins s σ H xs us Q I rv)
section
variable {σ : L2.St} {B B' H H' : Hp} {aw : Addr} {ta tb te tx tl : TE} {D : Ends} {K : PySem.W.Frag} {P : V → Hp → Prop} {α : Type}
abbrev rLenG (K : PySem.W.Frag) : List V → Hp → VK → Prop := fun xs H Q => ∃ x n, xs = [x] ∧ LenV K x H n ∧ Q (.int n) H
theorem ev_lenGL {ds : List PyData} (h : Kx.Ed te σ B (.list ds)) : Kx.Ev (tCB (rLenG K) (tCons te tNil)) σ B (.int (ds.length : Int)) :=
  ep_cb (ea_cons h ea_nil) fun vs B1 H1 a b p Q q => by
    obtain ⟨v, rfl, h⟩ := dpa_one p
    obtain ⟨c, xs, rfl, hs, hd⟩ := dp_lst h
    refine ⟨.ref c, xs.length, rfl, .inl ⟨xs, SqL.of (b _ _ hs), rfl⟩, ?_⟩
    exact q _ B1 H1 (Gr.refl b) (by rw [dpa_len hd])
theorem ev_lenGS {l : List Nat} (h : Kx.Ev te σ B (.str (Sx l))) (hz : l.length ≤ 100000) : Kx.Ev (tCB (rLenG K) (tCons te tNil)) σ B (.int (l.length : Int)) :=
  ep_cb (eap_cons h (stb_eq _) eap_nil) fun vs B1 H1 a b ⟨v, ws, e1, e2, e3⟩ Q q => by
    subst e1; subst e2; subst e3
    exact ⟨_, l.length, rfl, ⟨Evl.sz_of (by rw [sx_len]; exact hz), (sx_len l).symm⟩, q _ B1 H1 (Gr.refl b) rfl⟩
theorem GrW.unw {l : Addr} {u : HO} (g : GrW aw (upd B l (wat u)) H B' H') (hb : B l = none) (hl : H l = some u) (hla : l ≠ aw) : GrW aw B H (del B' l) H' ∧ H' l = some u ∧ B' l = some (wat u) := by
  have h1 : B' l = some (wat u) := g.b l _ upd_same
  refine ⟨⟨fun a o q => ?_, fun a o q => ?_, g.h, fun a q1 q2 => ?_, by rw [del_ne (Ne.symm hla)]; exact g.k, g.w⟩, g.h l u hla hl, h1⟩
  · have z : a ≠ l := fun z => by rw [z, hb] at q; cases q
    rw [del_ne z]
    exact g.b a o (by rw [upd_ne z]; exact q)
  · by_cases z : a = l
    · rw [z, del_same] at q; cases q
    · rw [del_ne z] at q; exact g.s a o q
  · by_cases z : a = l
    · rw [z, del_same]
    · rw [del_ne z]; exact g.n a (by rw [upd_ne z]; exact q1) q2
/-- text or list of texts -/
abbrev SomeP (xs : List Str) : V → Hp → Prop := fun v B => (∃ l : List Nat, v = .str (Sx l) ∧ xs = l.map sg) ∨ Dq B v (.list (xs.map .str))
theorem stb_some (xs : List Str) : Stb (SomeP xs) := fun _ _ _ e h => h.imp id (dp_ex e)
theorem em_listG {xs : List Str} (h : Ep te σ B (SomeP xs)) (hz : xs.length ≤ 100000) : EpM (tCB (fun ys H Q => rListT ys H Q ∨ rListOf K ys H Q) (tCons te tNil)) σ B (xs.map .str) := fun B0 H0 a0 b0 Q q =>
  (eap_cons h (stb_some xs) eap_nil) B0 H0 a0 b0 _ fun vs B1 H1 g ⟨v, ws, e1, e2, e3⟩ => by
    subst e1; subst e3
    rcases e2 with ⟨l, rfl, rfl⟩ | e2
    · refine .inl ⟨Sx l, rfl, by rw [sx_len]; rw [List.length_map] at hz; exact hz, fun p hp => q p (sgs (Sx l)) B1 _ (g.tr (Gr.newM g.s hp)) (Evl.fresh_back g.h hp) (sub_back g.s hp) upd_same ?_⟩
      unfold sgs
      rw [sx_toList]
      have e1 : (l.map fun c => V.str ⟨#[c]⟩) = (l.map sg).map V.str := by rw [List.map_map]; rfl
      rw [e1]
      exact strs_dpa _
    · obtain ⟨c, us, rfl, hs, hd⟩ := dp_lst e2
      exact .inr ⟨c, us, rfl, .inl (SqL.of (g.s _ _ hs)), fun p hp => q p us B1 _ (g.tr (Gr.newM g.s hp)) (Evl.fresh_back g.h hp) (sub_back g.s hp) upd_same hd⟩
theorem ev_lenG {xs : List Str} (h : Ep te σ B (SomeP xs)) (hz : xs.length ≤ 100000) : Kx.Ev (tCB (rLenG K) (tCons te tNil)) σ B (.int (xs.length : Int)) :=
  ep_cb (eap_cons h (stb_some xs) eap_nil) fun vs B1 H1 a b ⟨v, ws, e1, e2, e3⟩ Q q => by
    subst e1; subst e3
    rcases e2 with ⟨l, rfl, rfl⟩ | e2
    · rw [List.length_map] at hz q
      exact ⟨_, l.length, rfl, ⟨Evl.sz_of (by rw [sx_len]; exact hz), (sx_len l).symm⟩, q _ B1 H1 (Gr.refl b) rfl⟩
    · obtain ⟨c, us, rfl, hs, hd⟩ := dp_lst e2
      exact ⟨.ref c, us.length, rfl, .inl ⟨us, SqL.of (b _ _ hs), rfl⟩, q _ B1 H1 (Gr.refl b) (by rw [dpa_len hd, List.length_map])⟩
theorem ev_lenGW {l : Addr} {xs : List V} (hw : B l = some (wat (.lst xs))) (h : Kx.Ev te σ B (.ref l)) : Kx.Ev (tCB (rLenG K) (tCons te tNil)) σ B (.int (xs.length : Int)) :=
  ep_cb (eap_cons h (stb_eq _) eap_nil) fun vs B1 H1 a b ⟨v, ws, e1, e2, e3⟩ Q q => by
    subst e1; subst e2; subst e3
    exact ⟨.ref l, xs.length, rfl, .inl ⟨xs, SqL.of (b _ _ (a _ _ hw)), rfl⟩, q _ B1 H1 (Gr.refl b) rfl⟩
theorem s_par2M {i j : Nat} {d1 d2 : List PyData} (h1 : EpM ta σ B d1) (h2 : EpM tb σ B d2) (e : Sub B H) (k : ∀ l1 l2 xs ys B' H', Gr B H B' H' → H l1 = none → H l2 = none → l1 ≠ l2 → B' l1 = none → B' l2 = none → H' l1 = some (.lst xs) → H' l2 = some (.lst ys) → DqAll B' xs d1 → DqAll B' ys d2 → D.nx ((σ.set i (some (.ref l1))).set j (some (.ref l2))) H') :
    tPar i j (tCons ta (tCons tb tNil)) D σ H :=
  h1 B H (Evl.Ex.refl _) e _ fun l1 xs B1 H1 g1 f1 b1 e1 d1 => h2 B1 H1 g1.b g1.s _ fun l2 ys B2 H2 g2 f2 b2 e2 d2 => by
    obtain ⟨q1, q2⟩ := g2.off b1 e1
    exact ⟨_, _, rfl, k l1 l2 xs ys B2 H2 (g1.tr g2) f1 (Evl.fresh_back g1.h f2) (fun z => by rw [← z, e1] at f2; cases f2) q1 b2 q2 e2 (dpa_ex g2.b d1) d2⟩
/-- found.append(bag.pop(..)) -/
theorem sw_pop {i j : Nat} {l1 l2 : Addr} {zs fs : List V} {td : TE} (ne1 : l1 ≠ aw) (ne2 : l2 ≠ aw) (ne : l1 ≠ l2) (hi : σ[i]? = some (some (.ref l2))) (hj : σ[j]? = some (some (.ref l1))) (h : EpW td σ (upd B l1 (wat (.lst zs))) aw (fun v _ => ∃ d : Int, v = .int d ∧ 0 ≤ d ∧ d < (zs.length : Int)))
    (e : Sub B H) (k0 : B aw = none) (w0 : Wl H aw) (h1 : H l1 = some (.lst zs)) (b1 : B l1 = none) (h2 : H l2 = some (.lst fs)) (b2 : B l2 = none) (hz : fs.length < 100000) (hz1 : zs.length < 100000)
    (kk : ∀ (k : Nat) y B' H', GrW aw B H B' H' → B' l1 = none → B' l2 = none → H' l1 = some (.lst zs) → H' l2 = some (.lst fs) → zs[k]? = some y → D.nx σ (upd (upd H' l1 (.lst (zs.eraseIdx k))) l2 (.lst (fs ++ [y])))) :
    tDrop (tBM K "list" rAppend (tVar i) (tCons (tBM K "list" rPopAt (tVar j) (tCons td tNil)) tNil)) D σ H := by
  refine ⟨_, hi, Or.inl ⟨rfl, fs, Evl.sq_of h2⟩, _, hj, Or.inl ⟨rfl, zs, Evl.sq_of h1⟩, ?_⟩
  refine h _ H (Evl.Ex.refl _) (sub_wat e h1) (by rw [upd_ne (Ne.symm ne1)]; exact k0) w0 _ fun v B1 H1 g1 ⟨d, e1, d0, d1⟩ => ?_
  subst e1
  obtain ⟨g2, hl1, _⟩ := g1.unw b1 h1 ne1
  obtain ⟨hb2, hl2⟩ := g2.off ne2 b2 h2
  have hk : d.toNat < zs.length := by omega
  have hd : ((d.toNat : Nat) : Int) = d := by omega
  have hix := (ixN_seq (Evl.ixN_nat hk)).1
  rw [hd] at hix
  exact ⟨l1, zs, d, d.toNat, zs[d.toNat], rfl, rfl, hl1, by omega, by omega, hix, List.getElem?_eq_getElem hk, l2, fs, _, rfl, rfl, by rw [upd_ne (Ne.symm ne)]; exact hl2, Evl.sz_lt hz, kk d.toNat _ _ _ g2 del_same hb2 hl1 hl2 (List.getElem?_eq_getElem hk)⟩
end
section
variable {P : Program} {w : World} {K : PySem.W.Frag} {mg : Str → Option Value} {base : Heap} {C : Addr}
/-- one of some numbers, one of the signs -/
def spOneOf : PrWT := fun vs aw B R => (∃ (xs : List Int) (v : V), vs = [.ref aw, v] ∧ Dq B v (.list (xs.map .int)) ∧ 0 < xs.length ∧ xs.length < 1000 ∧ R = fun u _ => ∃ x ∈ xs, u = .int x) ∨
  ∃ pl : List Nat, vs = [.ref aw, .str (Sx pl)] ∧ 0 < pl.length ∧ pl.length < 1000 ∧ R = fun u _ => ∃ c ∈ pl, u = .str (sg c)
abbrev n57 : List Str := ["_law_well_here", "_law_some"]
theorem sc_one_of : FnScope n57 ["_law_well_here", "_law_some"] (C8.fnScope (topS 57)) := C8.fnScope_by (by decide +kernel)
theorem ok_one_of (T : Tx K mg C) : C8.Cal P w K mg base 2 "_law_one_of" (PrW spOneOf) [] := by
  refine mk_calW T.one_of sc_one_of (by rintro vs aw B R (⟨xs, v, rfl, _⟩ | ⟨pl, rfl, _⟩) <;> rfl) fun f cdv A outer s H vs Q E B aw R hr e k0 w0 h q => ?_
  rcases h with ⟨xs, v, rfl, hv, h0, h1, rfl⟩ | ⟨pl, rfl, h0, h1, rfl⟩
  · refine ⟨_, pss_one (ps_ret (pe_ix ix_seq (pv 1) (C8.pe_c (ok_dip T) hr (by decide) (by rfl) (pa_cons (pv 0) (pa_cons (pe_callB call_len (by rfl) T.b_len boot_len (pa_cons (pv 1) pa_nil)) pa_nil))) (fun _ _ => rfl))), ?_⟩
    refine sw_ret (P := fun u _ => ∃ x ∈ xs, u = .int x) (epw_op (P := fun z B' => Dq B' z (.list (xs.map .int))) (P' := fun u _ => ∃ d : Int, u = .int d ∧ 0 ≤ d ∧ d < (xs.length : Int)) (epw_of (ed_var 1 rfl hv)) (epw_call2 (ev_var 0 rfl) (epw_of (ev_lenGL (ed_var 1 rfl hv))) fun y B' _ hy => ⟨((xs.length : Nat) : Int), by rw [hy, List.length_map], by omega, by omega, rfl⟩) (stb_dp _) fun x y B' _ p ⟨d, e1, d0, d1⟩ => ?_) e k0 w0 fun v B' H' g p => q v B' H' g p
    subst e1
    obtain ⟨a, vs, rfl, hs, hda⟩ := dp_lst p
    have hx : xs[d.toNat]? = some (xs[d.toNat]'(by omega)) := List.getElem?_eq_getElem _
    obtain ⟨u, hu1, hu2⟩ := dpa_atI hda (at_map (φ := PyData.int) (i := d) (n := d.toNat) (by omega) hx)
    cases hu2
    exact fun B1 H1 a1 b1 Q k => .inl ⟨a, vs, d, _, rfl, rfl, SqL.of (b1 _ _ (a1 _ _ hs)), hu1, k _ B1 H1 (Gr.refl b1) ⟨_, List.getElem_mem _, rfl⟩⟩
  · refine ⟨_, pss_one (ps_ret (pe_ix ix_seq (pv 1) (C8.pe_c (ok_dip T) hr (by decide) (by rfl) (pa_cons (pv 0) (pa_cons (pe_callB call_len (by rfl) T.b_len boot_len (pa_cons (pv 1) pa_nil)) pa_nil))) (fun _ _ => rfl))), ?_⟩
    refine sw_ret (P := fun u _ => ∃ c ∈ pl, u = .str (sg c)) (epw_op (P := fun z _ => z = .str (Sx pl)) (P' := fun u _ => ∃ d : Int, u = .int d ∧ 0 ≤ d ∧ d < (pl.length : Int)) (epw_of (ev_var 1 rfl)) (epw_call2 (ev_var 0 rfl) (epw_of (ev_lenGS (ev_var 1 rfl) (by omega))) fun y B' _ hy => ⟨((pl.length : Nat) : Int), by rw [hy], by omega, by omega, rfl⟩) (stb_eq _) fun x y B' _ p ⟨d, e1, d0, d1⟩ => ?_) e k0 w0 fun v B' H' g p => q v B' H' g p
    subst e1; subst p
    have hx : pl[d.toNat]? = some (pl[d.toNat]'(by omega)) := List.getElem?_eq_getElem _
    exact fun B1 H1 a1 b1 Q k => .inr (.inr ⟨_, d, _, rfl, rfl, Evl.sz_of (by rw [sx_len]; omega), by rw [sx_toList]; exact at_nat (n := d.toNat) (by omega) hx, k _ B1 H1 (Gr.refl b1) ⟨_, List.getElem_mem _, rfl⟩⟩)

/-- a mixed list -/
def spMixed : PrWT := fun vs aw B R => ∃ (xs : List Str) (v : V), vs = [.ref aw, v] ∧ SomeP xs v B ∧ xs.length < 1000 ∧ R = fun u B' => ∃ ys : List Str, ys.Perm xs ∧ Dq B' u (.list (ys.map .str))
abbrev n58 : List Str := ["_law_well_here", "_law_some", "_law_bag", "_law_found", "_law_turn"]
theorem sc_mixed : FnScope n58 ["_law_well_here", "_law_some"] (C8.fnScope (topS 58)) := C8.fnScope_by (by decide +kernel)
theorem perm_pop {xs ys zs : List Str} {k : Nat} {y : Str} (h : (ys ++ zs).Perm xs) (hk : zs[k]? = some y) : ((ys ++ [y]) ++ zs.eraseIdx k).Perm xs := by
  refine List.Perm.trans ?_ h
  rw [List.append_assoc]
  refine List.Perm.append_left ys ?_
  obtain ⟨h1, h2⟩ := List.getElem?_eq_some_iff.mp hk
  have e : zs = zs.take k ++ y :: zs.drop (k + 1) := by
    rw [← h2, ← List.drop_eq_getElem_cons h1, List.take_append_drop]
  have e2 : zs.eraseIdx k = zs.take k ++ zs.drop (k + 1) := List.eraseIdx_eq_take_drop_succ zs k
  rw [e2]
  conv => rhs; rw [e]
  show (y :: (zs.take k ++ zs.drop (k + 1))).Perm _
  exact (List.perm_middle).symm
theorem ok_mixed (T : Tx K mg C) : C8.Cal P w K mg base 2 "_law_mixed" (PrW spMixed) [] := by
  refine mk_calW T.mixed sc_mixed (by rintro vs aw B R ⟨xs, v, rfl, _⟩; rfl) fun f cdv A outer s H vs Q E B aw R hr e k0 w0 h q => ?_
  obtain ⟨xs, v, rfl, hv, hz, rfl⟩ := h
  have nd := sc_mixed.nd
  refine ⟨_, pss_cons (ps_par (i := 2) (j := 3) rfl nd rfl rfl (by decide) rfl rfl (pa_cons (pe_callTy (cr_or (call_listT rfl) call_list_of) (by rfl) T.b_list PyProof.Rows.boot_list (pa_cons (pv 1) pa_nil)) (pa_cons (pe_lst pa_nil) pa_nil)) (by rfl))
    (pss_cons (ps_for PassesOwn.never rfl (pi_range1 (by rfl) T.b_range (pa_cons (pe_callB call_len (by rfl) T.b_len boot_len (pa_cons (pv 1) pa_nil)) pa_nil)) (pg_name (i := 4) nd rfl (.inl rfl))
      (pss_one (ps_expr (pe_bm PySem.F.plainAttrs_list PySem.F.slot_list_append PySem.F.type_list_append mt_append (pv 3) (pa_cons (pe_bm PySem.F.plainAttrs_list PySem.F.slot_list_pop PySem.F.type_list_pop mt_popAt (pv 2) (pa_cons (C8.pe_c (ok_dip T) hr (by decide) (by rfl) (pa_cons (pv 0) (pa_cons (pe_callB call_len (by rfl) T.b_len boot_len (pa_cons (pv 2) pa_nil)) pa_nil))) pa_nil)) pa_nil)))))
    (pss_one (ps_ret (pv 3)))), ?_⟩
  refine s_par2M (em_listG (ep_var 1 rfl hv (stb_some xs)) (by omega)) (em_lst ea_nil (by decide)) e fun l1 l2 zs0 fs0 B1 H1 g1 f1 f2 hne hb1 hb2 hl1 hl2 hd1 hd2 => ?_
  have hn1 : l1 ≠ aw := fun z => w0.ne (z ▸ f1)
  have hn2 : l2 ≠ aw := fun z => w0.ne (z ▸ f2)
  have gw1 := g1.w k0 w0
  refine sw_for (aw := aw) (ei_rng1 (n := ((xs.length : Nat) : Int)) (ea_cons (int_ed (ev_lenG (ep_var 1 rfl (stb_some xs _ _ _ g1.b hv) (stb_some xs)) (by omega))) ea_nil) (by omega) (by omega)) g1.s gw1.k gw1.w fun B2 H2 g2 => ⟨fun pre σ' B' H' => (∃ (x4 : Option V) (zs fs : List V) (bs ds : List Str), σ' = [some (.ref aw), some v, some (.ref l1), some (.ref l2), x4] ∧ H' l1 = some (.lst zs) ∧ H' l2 = some (.lst fs) ∧ DqAll B' zs (bs.map .str) ∧ DqAll B' fs (ds.map .str) ∧ (ds ++ bs).Perm xs ∧ ds.length = pre.length) ∧ GrW aw B H B' H' ∧ Evl.Ex B2 B' ∧ B' l1 = none ∧ B' l2 = none, ?_, fun _ _ _ _ h => ⟨h.2.2.1, h.2.1.s, h.2.1.k, h.2.1.w⟩, ?_, ?_⟩
  · obtain ⟨q1, q2⟩ := g2.off hb1 hl1
    obtain ⟨q3, q4⟩ := g2.off hb2 hl2
    exact ⟨⟨none, zs0, fs0, xs, [], rfl, q2, q4, dpa_ex g2.b hd1, dpa_ex g2.b hd2, List.Perm.refl _, rfl⟩, gw1.tr (g2.w gw1.k gw1.w), Evl.Ex.refl _, q1, q3⟩
  · rintro pre k post hpre σ' B' H' ⟨⟨x4, zs, fs, bs, ds, rfl, hz1, hf1, hzd, hfd, hperm, hdl⟩, g3, ex, hq1, hq2⟩ z B3 H3 g4 hzz
    subst hzz
    obtain ⟨hk, hkm⟩ := range_pre hpre
    rw [Int.toNat_natCast] at hkm
    obtain ⟨r1, r2⟩ := g4.off hq1 hz1
    obtain ⟨r3, r4⟩ := g4.off hq2 hf1
    have g4w := g4.w g3.k g3.w
    have hzl : zs.length = bs.length := by rw [dpa_len hzd, List.length_map]
    have hfl : fs.length = ds.length := by rw [dpa_len hfd, List.length_map]
    have hpl := hperm.length_eq
    rw [List.length_append] at hpl
    dsimp only [gName]
    refine sw_pop hn1 hn2 hne rfl rfl (epw_call2 (pre := spDip) (ev_var 0 rfl) (epw_of (ev_lenGW upd_same (ev_var 2 rfl))) fun y B' _ hy => ⟨((zs.length : Nat) : Int), by rw [hy], by omega, by omega, rfl⟩) g4.s g4w.k g4w.w r2 r1 r4 r3 (by omega) (by omega) fun k y B5 H5 g5 hb5 hb6 hl5 hl6 hy => ?_
    have gA := ((g3.tr g4w).tr g5)
    have gB := (gA.mut (o := .lst (zs.eraseIdx k)) hn1 f1 hb5).mut (o := .lst (fs ++ [y])) hn2 f2 hb6
    obtain ⟨dd, hdd, hdy⟩ := dpa_getV hzd hy
    rw [List.getElem?_map] at hdd
    obtain ⟨c, hc, rfl⟩ : ∃ c, bs[k]? = some c ∧ dd = .str c := by
      cases q : bs[k]? with
      | none => rw [q] at hdd; cases hdd
      | some c => rw [q] at hdd; exact ⟨c, rfl, (Option.some.inj hdd).symm⟩
    have e5 := g4.b.trans g5.b
    refine ⟨B5, ⟨_, zs.eraseIdx k, fs ++ [y], bs.eraseIdx k, ds ++ [c], rfl, by rw [upd_ne hne]; exact upd_same, upd_same, ?_, ?_, perm_pop hperm hc, by rw [List.length_append, List.length_append, hdl]; rfl⟩, gB, ex.trans e5, hb5, hb6⟩
    · have := dpa_erase k (dpa_ex e5 hzd)
      have e9 : (bs.eraseIdx k).map PyData.str = (bs.map PyData.str).eraseIdx k := by
        rw [List.eraseIdx_eq_take_drop_succ, List.eraseIdx_eq_take_drop_succ, List.map_append, List.map_take, List.map_drop]
      rw [e9]
      exact this
    · rw [List.map_append]
      exact dpa_app (dpa_ex e5 hfd) (dpa_one' (dp_ex e5 hdy))
  · rintro σ' B' H' ⟨⟨x4, zs, fs, bs, ds, rfl, hz1, hf1, hzd, hfd, hperm, hdl⟩, g3, ex, hq1, hq2⟩
    obtain ⟨B5, g5, p5, _⟩ := g3.fin hn2 f2 hq2 hf1 hfd
    have hpl := hperm.length_eq
    rw [List.length_append] at hpl
    rw [List.length_range, Int.toNat_natCast] at hdl
    have hb0 : bs = [] := List.length_eq_zero_iff.mp (by omega)
    subst hb0
    rw [List.append_nil] at hperm
    dsimp only
    refine s_ret (ed_var 3 rfl p5) g5.s fun z B6 H6 g6 p6 => q z B6 H6 (g5.tr (g6.w g5.k g5.w)) ⟨ds, hperm, p6⟩
end
end Kx

/-! Kc3 -/
namespace Kx
open PySem PySem.Spec PyProof.Rows L2
theorem perm_map_inv {α β : Type} {f : α → β} : ∀ {ys : List β} {l : List α}, ys.Perm (l.map f) → ∃ l' : List α, l'.Perm l ∧ ys = l'.map f
  | [], l, h => by
    have := h.length_eq
    rw [List.length_map] at this
    exact ⟨[], by rw [List.length_eq_zero_iff.mp this.symm], rfl⟩
  | y :: r, l, h => by
    obtain ⟨a, ha, e⟩ := List.mem_map.mp (h.mem_iff.mp List.mem_cons_self)
    obtain ⟨s, t, rfl⟩ := List.append_of_mem ha
    rw [List.map_append, List.map_cons, e] at h
    have h2 := (h.trans List.perm_middle).cons_inv
    rw [← List.map_append] at h2
    obtain ⟨l', k1, k2⟩ := perm_map_inv h2
    exact ⟨a :: l', (k1.cons a).trans List.perm_middle.symm, by rw [List.map_cons, e, k2]⟩
section
variable {σ : L2.St} {B B' H H' : Hp} {aw : Addr} {ta tb te tx tl : TE} {D : Ends} {K : PySem.W.Frag} {P Pa Pb : V → Hp → Prop} {α : Type}
theorem edw_lc {xs : List α} {Iy : α → V → Hp → Prop} {wi : TI} {g : TG} {vs : List Nat} (hi : EpI wi σ B xs Iy) (S : PyData → Prop) (hn : xs.length ≤ 90000)
    (turn : ∀ a x B1, a ∈ xs → Evl.Ex B B1 → Iy a x B1 → ∃ σ2, (∀ H1 (Q : L2.St → Hp → Prop), Sub B1 H1 → Q σ2 H1 → g x (wipe σ vs) H1 Q) ∧ wipe σ2 vs = wipe σ vs ∧ EpW te σ2 B1 aw (fun v B' => ∃ d, S d ∧ Dq B' v d)) :
    EpW (tLc wi g tYes te vs) σ B aw (fun v B' => ∃ ds : List PyData, ds.length = xs.length ∧ (∀ d ∈ ds, S d) ∧ Dq B' v (.list ds)) := fun B1 H1 a b k0 w0 Q q =>
  hi B1 H1 a b _ fun J B2 H2 g2 wk D hD => by
    have g2w := g2.w k0 w0
    have hDa : D ≠ aw := fun z => g2w.w.ne (z ▸ hD)
    refine ⟨fun i m H => m = xs.length - i ∧ i ≤ xs.length ∧ ∃ B3 acc ds, GrW aw B2 H2 B3 H ∧ B3 D = none ∧ H D = some (.lst acc) ∧ DqAll B3 acc ds ∧ ds.length = i ∧ ∀ d ∈ ds, S d, ⟨xs.length, by simp, Nat.zero_le _, B2, [], [], (Gr.newM g2.s hD).w g2w.k g2w.w, sub_back g2.s hD, upd_same, .nil, rfl, fun d hd => nomatch hd⟩, ?_⟩
    rintro i m H ⟨rfl, hil, B3, acc, ds, g3, hB3, hDH, hacc, hdl, hds⟩
    by_cases hlt : i < xs.length
    · refine .inr ⟨wk.goes i H hlt (g3.b.su g3.s), fun H => i + 1 ≤ xs.length ∧ ∃ B3 acc ds, GrW aw B2 H2 B3 H ∧ B3 D = none ∧ H D = some (.lst acc) ∧ DqAll B3 acc ds ∧ ds.length = i + 1 ∧ ∀ d ∈ ds, S d, fun H' p' => ⟨xs.length - (i + 1), by omega, rfl, p'⟩, fun x H' y => ?_⟩
      have hxi : xs[i]? = some xs[i] := List.getElem?_eq_getElem hlt
      obtain ⟨B4, g4, hI⟩ := wk.yields i xs[i] B3 H x H' hxi g3.b g3.s y
      have g4w := g4.w g3.k g3.w
      obtain ⟨hB4, hD4⟩ := g4.off hB3 hDH
      obtain ⟨σ2, k1, k2, k4⟩ := turn xs[i] x B4 (List.getElem_mem hlt) (a.trans (g2.b.trans (g3.b.trans g4.b))) hI
      refine k1 H' _ g4.s ⟨k2, ?_⟩
      dsimp only [tYes]
      rw [if_pos rfl]
      refine k4 B4 H' (Evl.Ex.refl _) g4.s g4w.k g4w.w _ fun v B6 H6 g6 ⟨d, hSd, hv⟩ => ?_
      obtain ⟨hB6, hD6⟩ := g6.off hDa hB4 hD4
      have hlen : acc.length = i := by rw [dpa_len hacc, hdl]
      refine ⟨acc, hD6, Evl.sz_lt (by omega), hlt, B6, _, ds ++ [d], ((g3.tr g4w).tr g6).mut hDa hD hB6, hB6, upd_same, dpa_app (dpa_ex (g4.b.trans g6.b) hacc) (.cons hv .nil), by rw [List.length_append, hdl]; rfl, fun d' hd' => ?_⟩
      rcases List.mem_append.mp hd' with z | z
      · exact hds d' z
      · rw [List.mem_singleton] at z; rw [z]; exact hSd
    · have e : i = xs.length := by omega
      subst e
      refine .inl ⟨wk.stops H (g3.b.su g3.s), ?_⟩
      obtain ⟨B5, g5, p5, _⟩ := g3.fin hDa hD hB3 hDH hacc
      exact q _ B5 H (g2w.tr g5) ⟨ds, hdl, hds, p5⟩
theorem epw_tup2 (h1 : Ep ta σ B Pa) (s1 : Stb Pa) (h2 : EpW tb σ B aw Pb) (s2 : Stb Pb) : EpW (tTup (tCons ta (tCons tb tNil))) σ B aw (fun v B' => ∃ a x y, v = .ref a ∧ B' a = some (.tup [x, y]) ∧ Pa x B' ∧ Pb y B') := fun B1 H1 a b k0 w0 Q q =>
  h1 B1 H1 a b _ fun x B2 H2 g2 p2 => by
    have g2w := g2.w k0 w0
    refine h2 B2 H2 (a.trans g2.b) g2.s g2w.k g2w.w _ fun y B3 H3 g3 p3 => ⟨Evl.sz_of (show 2 ≤ 100000 by decide), fun c hc => ?_⟩
    have g4 := Gr.new (o := .tup [x, y]) g3.s hc
    exact q _ _ _ ((g2w.tr g3).tr (g4.w g3.k g3.w)) ⟨c, x, y, rfl, upd_same, s1 _ _ _ (g3.b.trans g4.b) p2, s2 _ _ _ g4.b p3⟩
theorem sw_parM {i j : Nat} {ds : List PyData} (h1 : EpW ta σ B aw Pa) (sp : Stb Pa) (h2 : EpM tb σ B ds) (e : Sub B H) (k0 : B aw = none) (w0 : Wl H aw) (k : ∀ v l xs B' H', GrW aw B H B' H' → Pa v B' → H l = none → B' l = none → H' l = some (.lst xs) → DqAll B' xs ds → D.nx ((σ.set i (some v)).set j (some (.ref l))) H') :
    tPar i j (tCons ta (tCons tb tNil)) D σ H :=
  h1 B H (Evl.Ex.refl _) e k0 w0 _ fun v B1 H1 g1 p1 => h2 B1 H1 g1.b g1.s _ fun l xs B2 H2 g2 f2 b2 l2 d2 => ⟨v, .ref l, rfl, k v l xs B2 H2 (g1.tr (g2.w g1.k g1.w)) (sp _ _ _ g2.b p1) (g1.new w0 f2) b2 l2 d2⟩
theorem sw_forRng {g : TG} {tu : TS} {M : Nat} (h : EpW te σ B aw (fun v _ => ∃ d : Int, v = .int d ∧ 0 ≤ d ∧ d ≤ (M : Int))) (hM : M ≤ 1000000) (e : Sub B H) (k0 : B aw = none) (w0 : Wl H aw)
    (k : ∀ n : Nat, n ≤ M → ∀ B2 H2, GrW aw B H B2 H2 → ∃ Pv : List Nat → L2.St → Hp → Hp → Prop, Pv [] σ B2 H2 ∧ (∀ pre σ' B' H', Pv pre σ' B' H' → Evl.Ex B2 B' ∧ Sub B' H') ∧
      (∀ pre a post, List.range n = pre ++ a :: post → ∀ σ' B' H', Pv pre σ' B' H' → ∀ x B3 H3, Gr B' H' B3 H3 → x = .int ((a : Nat) : Int) → g x σ' H3 fun σ2 H4 => tu { D with nx := fun σ5 H5 => ∃ B5, Pv (pre ++ [a]) σ5 B5 H5, ct := fun σ5 H5 => ∃ B5, Pv (pre ++ [a]) σ5 B5 H5, bk := D.nx } σ2 H4) ∧
      ∀ σ' B' H', Pv (List.range n) σ' B' H' → D.nx σ' H') : tFor (iRng1 (tCons te tNil)) g tu D σ H := by
  unfold tFor iRng1
  refine h B H (Evl.Ex.refl _) e k0 w0 _ fun v B2 H2 g2 ⟨d, e1, d0, dM⟩ => ?_
  subst e1
  refine ⟨d, rfl, by omega, by omega, ?_⟩
  obtain ⟨Pv, h0, hp, hs, hd⟩ := k d.toNat (by omega) B2 H2 g2
  refine ⟨fun i m σ' H' => m = d.toNat - i ∧ i ≤ d.toNat ∧ ∃ B', Pv (List.range i) σ' B' H', ⟨d.toNat, by simp, Nat.zero_le _, B2, h0⟩, ?_⟩
  rintro i m σ' H' ⟨rfl, hil, B', p⟩
  obtain ⟨e1, e2⟩ := hp _ _ _ _ p
  by_cases hlt : i < d.toNat
  · refine .inr ⟨hlt, fun σ5 H5 => ∃ B5, Pv (List.range i ++ [i]) σ5 B5 H5, fun σ'' H'' ⟨B5, p'⟩ => ⟨d.toNat - (i + 1), by omega, rfl, hlt, B5, (by rw [List.range_succ]; exact p')⟩, fun x H'' y => ?_⟩
    obtain ⟨rfl, rfl⟩ := y
    refine hs (List.range i) i (List.range' (i + 1) (d.toNat - (i + 1))) ?_ σ' B' _ p _ B' _ (Gr.refl e2) ?_
    · apply List.ext_getElem
      · simp; omega
      · intro j h1 h2
        rw [List.getElem_range]
        rw [List.getElem_append]
        split
        · rw [List.getElem_range]
        · rename_i hj
          rw [List.length_range] at hj
          rw [List.getElem_cons]
          split
          · rw [List.length_range] at *; omega
          · rw [List.getElem_range']; rw [List.length_range] at *; omega
    · show V.int (0 + _) = _
      rw [Int.zero_add]
  · have z : i = d.toNat := by omega
    subst z
    exact .inl ⟨Nat.le_refl _, hd σ' B' H' p⟩
end
section
variable {P : Program} {w : World} {K : PySem.W.Frag} {mg : Str → Option Value} {base : Heap} {C : Addr}
def spPile : PrWT := fun vs aw B R => ∃ (n : Nat) (lo hi : Int), vs = [.ref aw, .int ((n : Nat) : Int), .int lo, .int hi] ∧ n ≤ 4 ∧ lo ≤ hi ∧ -1000 ≤ lo ∧ hi ≤ 1000 ∧ R = fun u B' => ∃ D : List Int, Dq B' u (tD D) ∧ D.length = n ∧ ∀ x ∈ D, lo ≤ x ∧ x ≤ hi
abbrev n65 : List Str := ["_law_well_here", "_law_many", "_law_low", "_law_high", "_law_k"]
theorem sc_lpile : FnScope n65 ["_law_well_here", "_law_many", "_law_low", "_law_high"] (C8.fnScope (topS 65)) := C8.fnScope_by (by decide +kernel)
theorem ints_of : ∀ {ds : List PyData} {lo hi : Int}, (∀ d ∈ ds, ∃ x : Int, d = .int x ∧ lo ≤ x ∧ x ≤ hi) → ∃ D : List Int, ds = D.map .int ∧ ∀ x ∈ D, lo ≤ x ∧ x ≤ hi
  | [], _, _, _ => ⟨[], rfl, fun x hx => nomatch hx⟩
  | d :: r, lo, hi, h => by
    obtain ⟨x, e, h1, h2⟩ := h d List.mem_cons_self
    obtain ⟨D, e2, h3⟩ := ints_of (lo := lo) (hi := hi) fun d hd => h d (List.mem_cons_of_mem _ hd)
    exact ⟨x :: D, by rw [e, e2]; rfl, fun y hy => by
      rcases List.mem_cons.mp hy with z | z
      · rw [z]; exact ⟨h1, h2⟩
      · exact h3 y z⟩
theorem ok_lpile (T : Tx K mg C) : C8.Cal P w K mg base 2 "_law_pile" (PrW spPile) [] := by
  refine mk_calW T.lpile sc_lpile (by rintro vs aw B R ⟨n, lo, hi, rfl, _⟩; rfl) fun f cdv A outer s H vs Q E B aw R hr e k0 w0 h q => ?_
  obtain ⟨n, lo, hi, rfl, hn, hlh, hl1, hh1, rfl⟩ := h
  have nd := sc_lpile.nd
  refine ⟨_, pss_one (ps_ret (pe_callTy call_tuple_of (by rfl) T.b_tuple PyProof.Rows.boot_tuple (pa_cons (pe_lc (own := [("_law_k", 4)]) (g := gName 4) rfl nd (pi_range1 (by rfl) T.b_range (pa_cons (pv 1) pa_nil)) (blkOk_by (own := [("_law_k", 4)]) (N := n65) (sc := C8.fnScope (topS 65)) (by decide +kernel)) (fun _ _ _ _ _ => pg_name (i := 4) nd rfl (Or.inl rfl)) (fun _ _ _ _ _ => pts_nil) (fun _ _ _ _ _ => pe_op op_add (pv 2) (C8.pe_c (ok_dip T) hr (by decide) (by rfl) (pa_cons (pv 0) (pa_cons (pe_op op_add (pe_op op_sub (pv 3) (pv 2)) pe_int) pa_nil))))) pa_nil))), ?_⟩
  refine sw_ret (P := fun u B' => ∃ D : List Int, Dq B' u (tD D) ∧ D.length = n ∧ ∀ x ∈ D, lo ≤ x ∧ x ≤ hi) (epw_cb1 (edw_lc (ei_rng1 (n := ((n : Nat) : Int)) (ea_cons (int_ed (ev_var 1 rfl)) ea_nil) (by omega) (by omega)) (fun d => ∃ x : Int, d = .int x ∧ lo ≤ x ∧ x ≤ hi) (by rw [List.length_range]; omega) fun c x B1 hc _ hx => ⟨_, tg_name 4, rfl, epw_op (P := fun z _ => z = .int lo) (P' := fun u _ => ∃ d : Int, u = .int d ∧ 0 ≤ d ∧ d < hi - lo + 1) (epw_of (ev_var 2 rfl)) (epw_call2 (ev_var 0 rfl) (epw_of (ev_I0 (ev_I0 (ev_var 3 rfl) (ev_var 2 rfl)) ev_c)) fun y B' _ hy => ⟨hi - lo + 1, by rw [hy], by omega, by omega, rfl⟩) (stb_eq _) fun x y B' _ p ⟨d, e1, d0, d1⟩ => ?_⟩) fun x B1 H1 ex sb ⟨ds, hdl, hds, hd⟩ Q' k => ?_) e k0 w0 fun v B' H' g p => q v B' H' g p
  · subst e1; subst p
    exact fun B1 H1 a1 b1 Q k => ⟨lo, d, rfl, rfl, k _ B1 H1 (Gr.refl b1) ⟨.int (lo + d), ⟨lo + d, rfl, by omega, by omega⟩, .int _⟩⟩
  · obtain ⟨D, rfl, hD⟩ := ints_of hds
    rw [List.length_map, List.length_range, Int.toNat_natCast] at hdl
    obtain ⟨c, xs, rfl, hs, hda⟩ := dp_lst hd
    exact ⟨c, xs, rfl, .inl ⟨SqL.of (sb _ _ hs), fun l hl => gr_newT sb hda (fun v B2 H2 g p => k v B2 H2 g ⟨D, p, hdl, hD⟩) hl⟩⟩
end
end Kx

/-! Kc4 -/
namespace Kx
open PySem PySem.Spec PyProof.Rows L2
section
variable {σ : L2.St} {B B' H H' : Hp} {aw : Addr} {ta tb te tx tl : TE} {D : Ends} {K : PySem.W.Frag} {P Pa Pb : V → Hp → Prop} {α : Type}
theorem epw_slT {th : TO} {n : Nat} {S : List Str → Prop} (h : EpW te σ B aw (fun v B' => ∃ ys : List Str, S ys ∧ Dq B' v (.list (ys.map .str)))) (hh : EpO th σ B (some ((n : Nat) : Int))) : EpW (tSl (rSlL K) te tNoPart th) σ B aw (fun v B' => ∃ ys : List Str, S ys ∧ Dq B' v (.list ((ys.take n).map .str))) := fun B1 H1 a b k0 w0 Q q =>
  h B1 H1 a b k0 w0 _ fun v B2 H2 g2 ⟨ys, hS, p2⟩ => hh B2 H2 (a.trans g2.b) g2.s _ fun B4 H4 g4 => by
    obtain ⟨c, xs, rfl, hs, hd⟩ := dp_lst p2
    refine ⟨c, xs, rfl, SqL.of (g4.s _ _ (g4.b _ _ hs)), fun p hp => ?_⟩
    have gn := Gr.new (o := .lst (cutV xs none (some ((n : Nat) : Int)))) g4.s hp
    have e1 : (((ys.map PyData.str).drop (HT.sIx (ys.map PyData.str).length 0 none)).take (HT.sIx (ys.map PyData.str).length (ys.map PyData.str).length (some ((n : Nat) : Int)) - HT.sIx (ys.map PyData.str).length 0 none)) = (ys.take n).map .str := by rw [sl_to, List.map_take]
    have hc := dpa_cut none (some ((n : Nat) : Int)) hd
    rw [e1] at hc
    exact q _ _ _ (g2.tr ((g4.tr gn).w g2.k g2.w)) ⟨ys, hS, Dp.newL (dpa_ex g4.b hc) (sub_back g4.s hp)⟩
theorem epw_join {Rr : List (List Nat) → Prop} (h : EpW te σ B aw (fun v B' => ∃ ys : List (List Nat), Rr ys ∧ Dq B' v (.list (ys.map fun l => .str (Sx l))))) (hz : ∀ ys, Rr ys → (ys.map List.length).sum ≤ 100000) :
    EpW (tM1 (fun x xs H Q => ∃ a p, ∃ ys : List Str, x = .str a ∧ xs = [.ref p] ∧ (SqL K H p (ys.map V.str) ∨ SqT K H p (ys.map V.str)) ∧ (ys.map (·.length)).sum + ys.length * a.length ≤ 16777216 ∧ Q (.str (Txt.join a ys)) H) (tC (.str "")) te) σ B aw (fun v _ => ∃ ys : List (List Nat), Rr ys ∧ v = .str (Sx ys.flatten)) := fun B1 H1 a b k0 w0 Q q =>
  ⟨⟨_, rfl⟩, h B1 H1 a b k0 w0 _ fun v B2 H2 g ⟨ys, r, p⟩ => by
    have k := ed_join (K := K) (σ := σ) (te := tC v) (B := B2) (fun B1' H1' a' b' Q' q' => q' v B1' H1' (Gr.refl b') (dp_ex a' p)) (hz ys r) rfl B2 H2 (Evl.Ex.refl _) g.s Q fun v' B3 H3 g3 p3 => q v' B3 H3 (g.tr (g3.w g.k g.w)) ⟨ys, r, p3⟩
    exact k.2⟩
end
/-- ties by places' order -/
def TieOf (pl : List Nat) (t : Nat × Nat) (n : Nat) : Prop := ∃ i k, i < k ∧ k < n ∧ pl[i]? = some t.1 ∧ pl[k]? = some t.2
theorem tieof_lt {pl : List Nat} {t : Nat × Nat} {n : Nat} (hi : pl.Pairwise (· < ·)) (h : TieOf pl t n) : t.1 ∈ pl ∧ t.2 ∈ pl ∧ t.1 < t.2 := by
  obtain ⟨i, k, h1, _, h3, h4⟩ := h
  refine ⟨List.mem_of_getElem? h3, List.mem_of_getElem? h4, ?_⟩
  obtain ⟨p1, p2⟩ := List.getElem?_eq_some_iff.mp h3
  obtain ⟨p3, p4⟩ := List.getElem?_eq_some_iff.mp h4
  rw [← p2, ← p4]
  exact List.pairwise_iff_getElem.mp hi i k p1 p3 h1
theorem conn_of {pl : List Nat} {ts : List (Nat × Nat)} (h : ∀ k, 1 ≤ k → k < pl.length → ∃ t ∈ ts, ∃ i, i < k ∧ pl[i]? = some t.1 ∧ pl[k]? = some t.2) : Conn pl ts := fun f hf => by
  have key : ∀ k, ∀ u, pl[k]? = some u → ∀ v, pl[0]? = some v → f u = f v := fun k => by
    induction k using Nat.strongRecOn with
    | _ k ih =>
      intro u hu v hv
      by_cases hk : k = 0
      · subst hk; rw [hu] at hv; cases hv; rfl
      · obtain ⟨t, ht, i, hik, h1, h2⟩ := h k (by omega) (List.getElem?_eq_some_iff.mp hu).1
        rw [hu] at h2
        cases h2
        rw [← hf t ht]
        exact ih i hik _ h1 v hv
  intro u hu v hv
  obtain ⟨i, hi, e1⟩ := List.getElem_of_mem hu
  obtain ⟨j, hj, e2⟩ := List.getElem_of_mem hv
  have h0 : pl[0]? = some (pl[0]'(by omega)) := List.getElem?_eq_getElem _
  rw [key i u (by rw [List.getElem?_eq_getElem hi, e1]) _ h0, key j v (by rw [List.getElem?_eq_getElem hj, e2]) _ h0]
section
variable {P : Program} {w : World} {K : PySem.W.Frag} {mg : Str → Option Value} {base : Heap} {C : Addr}
def spNet : PrWT := fun vs aw B R => ∃ n : Nat, vs = [.ref aw, .int ((n : Nat) : Int), .int 3] ∧ 1 ≤ n ∧ n ≤ 4 ∧ R = fun u B' => ∃ (pl : List Nat) (ts : List (Nat × Nat)) (a : Addr) (y : V), u = .ref a ∧ B' a = some (.tup [.str (Sx pl), y]) ∧ Dq B' y (.list (ts.map tieD)) ∧ OkPl pl ∧ OkTs pl ts ∧ Conn pl ts ∧ pl.length = n
theorem signs_ok {n : Nat} {ys zs : List Str} (h1 : 1 ≤ n) (h4 : n ≤ 4) (hp : ys.Perm (([97, 98, 99, 100, 101, 102, 103, 104] : List Nat).map sg)) (hz : zs.Perm (ys.take n)) (hs : sortedS zs = true) : ∃ pl : List Nat, zs = pl.map sg ∧ OkPl pl ∧ pl.length = n := by
  obtain ⟨cs, rfl, hcs⟩ := perm_signs hp
  rw [← List.map_take] at hz
  obtain ⟨pl, rfl, hpl, hle⟩ := sort_signs hz hs
  have hcl := hcs.length_eq
  have hl : pl.length = n := by rw [hpl.length_eq, List.length_take, hcl]; show min n 8 = n; omega
  have hnd : pl.Nodup := by
    rw [hpl.nodup_iff]
    exact (hcs.nodup_iff.mpr (by decide)).sublist (List.take_sublist n cs)
  refine ⟨pl, rfl, ⟨?_, fun c hc => ?_, by omega, by omega⟩, hl⟩
  · refine List.Pairwise.imp₂ (fun a b h1 h2 => Nat.lt_of_le_of_ne h1 h2) hle hnd
  · have h2 : c ∈ cs := List.mem_of_mem_take (hpl.mem_iff.mp hc)
    have h3 := hcs.mem_iff.mp h2
    simp at h3
    omega
abbrev n59 : List Str := ["_law_well_here", "_law_many", "_law_more", "_law_signs", "_law_found", "_law_k", "_law_turn"]
theorem sc_net : FnScope n59 ["_law_well_here", "_law_many", "_law_more"] (C8.fnScope (topS 59)) := C8.fnScope_by (by decide +kernel)
theorem ok_net (T : Tx K mg C) : C8.Cal P w K mg base 3 "_law_net" (PrW spNet) [] := by
  refine mk_calW T.net sc_net (by rintro vs aw B R ⟨n, rfl, _⟩; rfl) fun f cdv A outer s H vs Q E B aw R hr e k0 w0 h q => ?_
  obtain ⟨n, rfl, hn1, hn4, rfl⟩ := h
  have nd := sc_net.nd
  refine ⟨_, pss_cons (ps_par (i := 3) (j := 4) rfl nd rfl rfl (by decide) rfl rfl (pa_cons (pe_join pe_str (pe_callB cr_sortedS (by rfl) T.b_sorted PyProof.Rows.boot_sorted (pa_cons (pe_slice sl_list (C8.pe_c (ok_mixed T) hr (by decide) (by rfl) (pa_cons (pv 0) (pa_cons pe_str pa_nil))) po_none (po_some (pv 1))) pa_nil))) (pa_cons (pe_lst pa_nil) pa_nil)) (by rfl))
    (pss_cons (ps_for PassesOwn.never rfl (pi_range2 (by rfl) T.b_range (pa_cons pe_int (pa_cons (pv 1) pa_nil))) (pg_name (i := 5) nd rfl (.inl rfl))
      (pss_one (ps_expr (pe_bm PySem.F.plainAttrs_list PySem.F.slot_list_append PySem.F.type_list_append mt_append (pv 4) (pa_cons (pe_op op_add_str (pe_ix ix_str (pv 3) (C8.pe_c (ok_dip T) hr (by decide) (by rfl) (pa_cons (pv 0) (pa_cons (pv 5) pa_nil))) (fun _ _ => rfl)) (pe_ix ix_str (pv 3) (pv 5) (fun _ _ => rfl))) pa_nil)))))
    (pss_cons (ps_for PassesOwn.never rfl (pi_range1 (by rfl) T.b_range (pa_cons (pe_ifExp (pt_cmpR op_gt (pv 1) pe_int (nomark _)) (C8.pe_c (ok_dip T) hr (by decide) (by rfl) (pa_cons (pv 0) (pa_cons (pe_op op_add (pv 2) pe_int) pa_nil))) pe_int) pa_nil)) (pg_name (i := 6) nd rfl (.inl rfl))
      (pss_cons (ps_set (i := 5) nd rfl (.inl rfl) (pe_op op_add pe_int (C8.pe_c (ok_dip T) hr (by decide) (by rfl) (pa_cons (pv 0) (pa_cons (pe_op op_sub (pv 1) pe_int) pa_nil)))))
      (pss_one (ps_expr (pe_bm PySem.F.plainAttrs_list PySem.F.slot_list_append PySem.F.type_list_append mt_append (pv 4) (pa_cons (pe_op op_add_str (pe_ix ix_str (pv 3) (C8.pe_c (ok_dip T) hr (by decide) (by rfl) (pa_cons (pv 0) (pa_cons (pv 5) pa_nil))) (fun _ _ => rfl)) (pe_ix ix_str (pv 3) (pv 5) (fun _ _ => rfl))) pa_nil))))))
    (pss_one (ps_ret (pe_tup (pa_cons (pv 3) (pa_cons (C8.pe_c (ok_mixed T) hr (by decide) (by rfl) (pa_cons (pv 0) (pa_cons (pv 4) pa_nil))) pa_nil))))))), ?_⟩
  have e8 : (.str "abcdefgh" : V) = .str (Sx [97, 98, 99, 100, 101, 102, 103, 104]) := by
    congr 1
  have mixd : EpW (tCall (PrW spMixed) [] C8.E0 (tCons (tVar 0) (tCons (tC (.str "abcdefgh")) tNil))) (L2.start n59 [.ref aw, .int ((n : Nat) : Int), .int 3]) B aw (fun u B' => ∃ ys : List Str, ys.Perm (([97, 98, 99, 100, 101, 102, 103, 104] : List Nat).map sg) ∧ Dq B' u (.list (ys.map .str))) :=
    epw_call2 (ev_var 0 rfl) (epw_of (ev_c (v := .str "abcdefgh"))) fun y B' _ hy => ⟨([97, 98, 99, 100, 101, 102, 103, 104] : List Nat).map sg, y, rfl, .inl ⟨[97, 98, 99, 100, 101, 102, 103, 104], by rw [hy, e8], rfl⟩, by decide, rfl⟩
  have sor : EpW (tCB (rSortedS K) (tCons (tSl (rSlL K) (tCall (PrW spMixed) [] C8.E0 (tCons (tVar 0) (tCons (tC (.str "abcdefgh")) tNil))) tNoPart (tPart (tVar 1))) tNil)) (L2.start n59 [.ref aw, .int ((n : Nat) : Int), .int 3]) B aw (fun v B' => ∃ ys : List (List Nat), (∃ pl, ys = pl.map (fun c => [c]) ∧ OkPl pl ∧ pl.length = n) ∧ Dq B' v (.list (ys.map fun l => .str (Sx l)))) :=
    epw_cb1 (epw_slT mixd (eo_some (ev_var 1 rfl))) fun x B1 H1 ex sb ⟨ys, hp, hd⟩ Q' k => by
      obtain ⟨c, us, rfl, hs, hda⟩ := dp_lst hd
      rw [dpa_strs hda] at hs
      have hyl := hp.length_eq
      refine ⟨c, ys.take n, rfl, SqL.of (sb _ _ hs), by rw [List.length_take, hyl]; show min n 8 < 64; omega, fun zs p hzp hss hn => ?_⟩
      obtain ⟨pl, rfl, O, hl⟩ := signs_ok hn1 hn4 hp hzp hss
      refine k _ _ _ (Gr.new sb hn) ⟨_, ⟨pl, rfl, O, hl⟩, ?_⟩
      have := Dp.newL (B := B1) (p := p) (strs_dpa (B := B1) (pl.map sg)) (sub_back sb hn)
      have e8 : (pl.map sg).map PyData.str = pl.map (fun c => PyData.str (sg c)) := by rw [List.map_map]; rfl
      rw [e8] at this
      rw [← sgs_as]
      exact this
  refine sw_parM (Pa := fun v _ => ∃ pl : List Nat, v = .str (Sx pl) ∧ OkPl pl ∧ pl.length = n) ((epw_join (Rr := fun ys => ∃ pl : List Nat, ys = pl.map (fun c => [c]) ∧ OkPl pl ∧ pl.length = n) sor ?_).imp fun v B' _ ⟨ys, ⟨pl, e1, e2, e3⟩, e4⟩ => ⟨pl, by rw [e4, e1, flat_single], e2, e3⟩) (fun _ _ _ _ h => h) (em_lst ea_nil (by decide)) e k0 w0 fun sv l xs0 B1 H1 g1 ⟨pl, esv, O, hpl⟩ h0 hb1 hl1 hd1 => ?_
  · rintro ys ⟨pl, rfl, O, hl⟩
    rw [flat_len, flat_single]; omega
  subst esv
  have hla : l ≠ aw := fun z => w0.ne (z ▸ h0)
  have one : ∀ {σ0 : L2.St} {B0 : Hp} {k : Nat}, σ0[3]? = some (some (.str (Sx pl))) → σ0[0]? = some (some (.ref aw)) → σ0[5]? = some (some (.int ((k : Nat) : Int))) → 1 ≤ k → k < n → EpW (tOp (fun x y H Q => ∃ i j, x = .str i ∧ y = .str j ∧ i.length + j.length ≤ sizeLine ∧ Q (.str (i ++ j)) H) (tOp rIxS (tVar 3) (tCall (PrW spDip) [] C8.E0 (tCons (tVar 0) (tCons (tVar 5) tNil)))) (tOp rIxS (tVar 3) (tVar 5))) σ0 B0 aw (fun v _ => ∃ t : Nat × Nat, v = .str (Sx [t.1, t.2]) ∧ ∃ i, i < k ∧ pl[i]? = some t.1 ∧ pl[k]? = some t.2) := fun {σ0 B0 k} h3 h00 h5 hk1 hkn => by
    have hk : pl[k]? = some (pl[k]'(by omega)) := List.getElem?_eq_getElem _
    refine epw_op (P := fun v _ => ∃ i c, i < k ∧ pl[i]? = some c ∧ v = .str (sg c)) (P' := fun v _ => v = .str (sg (pl[k]'(by omega)))) (epw_op (P := fun v _ => v = .str (Sx pl)) (P' := fun v _ => ∃ d : Int, v = .int d ∧ 0 ≤ d ∧ d < ((k : Nat) : Int)) (epw_of (ev_var 3 h3)) (epw_call2 (ev_var 0 h00) (epw_of (ev_var 5 h5)) fun y B' _ hy => ⟨((k : Nat) : Int), by rw [hy], by omega, by omega, rfl⟩) (stb_eq _) fun x y B' _ p ⟨d, e1, d0, d1⟩ => ?_) (epw_of (ev_ixS (ev_var 3 h3) (ev_var 5 h5) (by rw [sx_len]; omega) (by rw [sx_toList]; exact at_nat rfl hk))) (fun _ _ _ _ h => h) fun x y B' _ ⟨i, c, hi, hc, ex⟩ ey => ?_
    · subst p; subst e1
      have hd : pl[d.toNat]? = some (pl[d.toNat]'(by omega)) := List.getElem?_eq_getElem _
      exact fun B1 H1 a1 b1 Q k' => ⟨_, d, _, rfl, rfl, Evl.sz_of (by rw [sx_len]; omega), by rw [sx_toList]; exact at_nat (n := d.toNat) (by omega) hd, k' _ B1 H1 (Gr.refl b1) ⟨d.toNat, _, by omega, hd, rfl⟩⟩
    · subst ex; subst ey
      exact fun B1 H1 a1 b1 Q k' => ⟨_, _, rfl, rfl, Evl.sz_of (show 1 + 1 ≤ 100000 by decide), k' _ B1 H1 (Gr.refl b1) ⟨(c, pl[k]'(by omega)), congrArg V.str (sx_app [c] [pl[k]'(by omega)]), i, hi, hc, hk⟩⟩
  dsimp only
  refine sw_for (aw := aw) (ei_rng2 (lo := 1) (n := ((n : Nat) : Int)) (ea_cons (int_ed ev_c) (ea_cons (int_ed (ev_var 1 rfl)) ea_nil)) (by omega) (by omega)) g1.s g1.k g1.w fun B2 H2 g2 => ⟨fun pre σ' B' H' => (∃ (x5 : Option V) (xs : List V) (ts : List (Nat × Nat)), σ' = [some (.ref aw), some (.int ((n : Nat) : Int)), some (.int 3), some (.str (Sx pl)), some (.ref l), x5, none] ∧ H' l = some (.lst xs) ∧ DqAll B' xs (ts.map tieD) ∧ ts.length = pre.length ∧ (∀ t ∈ ts, TieOf pl t n) ∧ ∀ k, 1 ≤ k → k < pre.length + 1 → ∃ t ∈ ts, ∃ i, i < k ∧ pl[i]? = some t.1 ∧ pl[k]? = some t.2) ∧ GrW aw B H B' H' ∧ Evl.Ex B2 B' ∧ B' l = none, ?_, fun _ _ _ _ h => ⟨h.2.2.1, h.2.1.s, h.2.1.k, h.2.1.w⟩, ?_, ?_⟩
  · obtain ⟨q1, q2⟩ := g2.off hb1 hl1
    exact ⟨⟨none, xs0, [], rfl, q2, dpa_ex g2.b hd1, rfl, fun t ht => (nomatch ht), fun k h1 h2 => by simp at h2; omega⟩, g1.tr (g2.w g1.k g1.w), Evl.Ex.refl _, q1⟩
  · rintro pre j post hpre σ' B' H' ⟨⟨x5, xs, ts, rfl, hl, hd, htl, hts, htk⟩, g3, ex, hb⟩ z B3 H3 g4 hz
    subst hz
    obtain ⟨hj, hjm⟩ := range_pre hpre
    have hjm : j < n - 1 := by omega
    have g4w := g4.w g3.k g3.w
    obtain ⟨r1, r2⟩ := g4.off hb hl
    have hxl : xs.length = ts.length := by rw [dpa_len hd, List.length_map]
    have ej : (1 : Int) + ((j : Nat) : Int) = ((j + 1 : Nat) : Int) := by omega
    dsimp only [gName]
    rw [ej]
    refine sw_app hla (ev_var 4 rfl) (one rfl rfl rfl (by omega) (by omega)) g4.s g4w.k g4w.w r2 r1 (by omega) fun u B5 H5 g5 ⟨t, eu, i, hi, ht1, ht2⟩ hb5 hl5 => ?_
    subst eu
    have gA := ((g3.tr g4w).tr g5).mut (o := .lst (xs ++ [.str (Sx [t.1, t.2])])) hla h0 hb5
    refine ⟨B5, ⟨_, _, ts ++ [t], rfl, upd_same, ?_, by rw [List.length_append, List.length_append, htl]; rfl, fun s hs => ?_, fun k h1 h2 => ?_⟩, gA, ex.trans (g4.b.trans g5.b), hb5⟩
    · rw [List.map_append]
      exact dpa_app (dpa_ex (g4.b.trans g5.b) hd) (dpa_one' (.str _))
    · rcases List.mem_append.mp hs with hs | hs
      · exact hts s hs
      · rw [List.mem_singleton] at hs
        subst hs
        exact ⟨i, j + 1, hi, by omega, ht1, ht2⟩
    · rw [List.length_append, List.length_singleton] at h2
      by_cases hk : k < pre.length + 1
      · obtain ⟨s, hs, r⟩ := htk k h1 hk
        exact ⟨s, List.mem_append_left _ hs, r⟩
      · have : k = j + 1 := by omega
        subst this
        exact ⟨t, by simp, i, hi, ht1, ht2⟩
  · rintro σ' B' H' ⟨⟨x5, xs, ts, rfl, hl, hd, htl, hts, htk⟩, g3, ex, hb⟩
    rw [List.length_range] at htl htk
    have htl : ts.length = n - 1 := by omega
    dsimp only [tSeq]
    refine sw_forRng (M := if n > 1 then 3 else 0) (epw_if (b := decide (1 < n)) (et_test (ev_is (ev_I0 (ev_var 1 rfl) ev_c) (by congr 1; rw [decide_eq_decide]; omega))) (fun hn => (epw_call2 (pre := spDip) (P := fun v _ => ∃ d : Int, v = .int d ∧ 0 ≤ d ∧ d < 4) (ev_var 0 rfl) (epw_of (ev_I0 (g := fun i j => .int (i + j)) (ev_var 2 rfl) (ev_c (v := .int 1)))) fun y B' _ hy => ⟨4, by rw [hy]; rfl, by decide, by decide, rfl⟩).imp fun v B' _ ⟨d, h1, h2, h3⟩ => ⟨d, h1, h2, by rw [if_pos (of_decide_eq_true hn)]; omega⟩) (fun hn => (epw_of ev_c).imp fun v B' _ h => ⟨0, h, by decide, Int.natCast_nonneg _⟩)) (by split <;> decide) g3.s g3.k g3.w fun m hm B4 H4 g4 => ⟨fun pre σ' B' H' => (∃ (x5 x6 : Option V) (xs : List V) (ts' : List (Nat × Nat)), σ' = [some (.ref aw), some (.int ((n : Nat) : Int)), some (.int 3), some (.str (Sx pl)), some (.ref l), x5, x6] ∧ H' l = some (.lst xs) ∧ DqAll B' xs ((ts ++ ts').map tieD) ∧ ts'.length = pre.length ∧ (∀ t ∈ ts', TieOf pl t n)) ∧ GrW aw B H B' H' ∧ Evl.Ex B4 B' ∧ B' l = none, ?_, fun _ _ _ _ h => ⟨h.2.2.1, h.2.1.s⟩, ?_, ?_⟩
    · obtain ⟨q1, q2⟩ := g4.off hla hb hl
      exact ⟨⟨x5, none, xs, [], rfl, q2, by rw [List.append_nil]; exact dpa_ex g4.b hd, rfl, fun t ht => nomatch ht⟩, g3.tr g4, Evl.Ex.refl _, q1⟩
    · rintro pre j post hpre σ' B' H' ⟨⟨x5, x6, xs, ts', rfl, hl, hd, htl', hts'⟩, g5, ex5, hb⟩ z B6 H6 g6 hz
      subst hz
      obtain ⟨hj, hjm⟩ := range_pre hpre
      have hn2 : 1 < n := by
        apply Classical.byContradiction
        intro hh
        rw [if_neg (by omega)] at hm
        omega
      rw [if_pos hn2] at hm
      have g6w := g6.w g5.k g5.w
      obtain ⟨r1, r2⟩ := g6.off hb hl
      have hxl : xs.length = ts.length + ts'.length := by rw [dpa_len hd, List.length_map, List.length_append]
      dsimp only [gName, tSeq]
      refine sw_set (P := fun v _ => ∃ k : Nat, v = .int ((k : Nat) : Int) ∧ 1 ≤ k ∧ k < n) (epw_op (P := fun v _ => v = .int 1) (P' := fun v _ => ∃ d : Int, v = .int d ∧ 0 ≤ d ∧ d < ((n : Nat) : Int) - 1) (epw_of ev_c) (epw_call2 (ev_var 0 rfl) (epw_of (ev_I0 (g := fun i j => .int (i - j)) (ev_var 1 rfl) (ev_c (v := .int 1)))) fun y B' _ hy => ⟨((n : Nat) : Int) - 1, by rw [hy], by omega, by omega, rfl⟩) (stb_eq _) fun x y B' _ p ⟨d, e1, d0, d1⟩ => ?_) g6.s g6w.k g6w.w fun kv B7 H7 g7 ⟨k, ek, hk1, hkn⟩ => ?_
      · subst p; subst e1
        exact fun B1 H1 a1 b1 Q k' => ⟨1, d, rfl, rfl, k' _ B1 H1 (Gr.refl b1) ⟨(1 + d).toNat, by show V.int (1 + d) = _; rw [Int.toNat_of_nonneg (by omega)], by omega, by omega⟩⟩
      subst ek
      obtain ⟨r3, r4⟩ := g7.off hla r1 r2
      dsimp only
      refine sw_app hla (ev_var 4 rfl) (one rfl rfl rfl hk1 hkn) g7.s g7.k g7.w r4 r3 (by omega) fun u B8 H8 g8 ⟨t, eu, i, hi, ht1, ht2⟩ hb8 hl8 => ?_
      subst eu
      have gA := (((g5.tr g6w).tr g7).tr g8).mut (o := .lst (xs ++ [.str (Sx [t.1, t.2])])) hla h0 hb8
      have e68 := (g6.b.trans g7.b).trans g8.b
      refine ⟨B8, ⟨_, _, _, ts' ++ [t], rfl, upd_same, ?_, by rw [List.length_append, List.length_append, htl']; rfl, fun s hs => ?_⟩, gA, ex5.trans e68, hb8⟩
      · rw [← List.append_assoc, List.map_append]
        exact dpa_app (dpa_ex e68 hd) (dpa_one' (.str _))
      · rcases List.mem_append.mp hs with hs | hs
        · exact hts' s hs
        · rw [List.mem_singleton] at hs
          subst hs
          exact ⟨i, k, hi, hkn, ht1, ht2⟩
    · rintro σ' B' H' ⟨⟨x5, x6, xs, ts', rfl, hl, hd, htl', hts'⟩, g5, ex5, hb⟩
      rw [List.length_range] at htl'
      obtain ⟨B6, g6, p6, _⟩ := g5.fin hla h0 hb hl hd
      have hsx : (ts ++ ts').map tieD = ((ts ++ ts').map fun t => Sx [t.1, t.2]).map .str := by rw [List.map_map]; rfl
      rw [hsx] at p6
      have hm3 : m ≤ 3 := by split at hm <;> omega
      dsimp only
      refine sw_ret (epw_tup2 (Pa := fun v _ => v = .str (Sx pl)) (ev_var 3 rfl) (stb_eq _) (epw_call2 (pre := spMixed) (P := fun u B' => ∃ ys : List Str, ys.Perm ((ts ++ ts').map fun t => Sx [t.1, t.2]) ∧ Dq B' u (.list (ys.map .str))) (ev_var 0 rfl) (epw_of (ed_var 4 rfl p6)) fun y B' _ hy => ⟨_, y, rfl, .inr hy, by rw [List.length_map, List.length_append]; omega, rfl⟩) (fun _ _ _ e h => h.imp fun ys h => ⟨h.1, dp_ex e h.2⟩)) g6.s g6.k g6.w fun rv B7 H7 g7 ⟨a, x, y, erv, ha, ex, ys, hp, hy⟩ => ?_
      subst ex
      obtain ⟨ts2, hp2, rfl⟩ := perm_map_inv hp
      have hmem : ∀ t ∈ ts2, TieOf pl t n := fun t ht => by
        rcases List.mem_append.mp (hp2.mem_iff.mp ht) with z | z
        · exact hts t z
        · exact hts' t z
      refine q rv B7 H7 (g6.tr g7) ⟨pl, ts2, a, y, erv, ha, ?_, O, ⟨?_, fun t ht => tieof_lt O.inc (hmem t ht)⟩, conn_of fun k h1 h2 => ?_, hpl⟩
      · have e9 : ts2.map tieD = (ts2.map fun t => Sx [t.1, t.2]).map .str := by rw [List.map_map]; rfl
        rw [e9]; exact hy
      · rw [hp2.length_eq, List.length_append]; omega
      · obtain ⟨t, ht, r⟩ := htk k h1 (by omega)
        exact ⟨t, hp2.mem_iff.mpr (List.mem_append_left _ ht), r⟩
end
end Kx

/-! KmKey -/
namespace Kx
open PySem L2
/-- a list's number at a place -/
def fnL (pl : List Nat) (L : List Int) (u : Nat) : Int := L.getD (pl.idxOf u) 0
theorem fnL_map {pl : List Nat} {L : List Int} (hn : pl.Nodup) (h : L.length = pl.length) : pl.map (fnL pl L) = L := by
  apply List.ext_getElem
  · rw [List.length_map, h]
  · intro i h1 h2
    rw [List.length_map] at h1
    rw [List.getElem_map]
    unfold fnL
    rw [hn.idxOf_getElem, List.getD_eq_getElem?_getD, List.getElem?_eq_getElem h2]; rfl
theorem fnL_hp {pl : List Nat} {L : List Int} (hn : pl.Nodup) (h : L.length = pl.length) : hpT pl (fnL pl L) = tD L := by
  unfold hpT tD
  have : (pl.map fun u => PyData.int (fnL pl L u)) = (pl.map (fnL pl L)).map .int := by rw [List.map_map]; rfl
  rw [this, fnL_map hn h]
def markW (R : List (List Int)) (v : Nat → Int) (n k : Nat) : Int := ((List.range n).map fun j => v j * (R.getD j []).getD k 0).sum
def mulV (m : Nat) (M : List (List Int)) (x : Nat → Int) (i : Nat) : Int := ((List.range m).map fun c => (M.getD i []).getD c 0 * x c).sum
structure Lin (m : Nat) (M : List (List Int)) : Prop where
  A : ∀ k, k < m → ∀ v, markW (rests m M) v m k = detF m (mixV m M k v)
  B : ∀ k, k < m → ∀ v x, (∀ i, i < m → v i = mulV m M x i) → detF m (mixV m M k v) = x k * detF m M
  C : ∀ i, i < m → ∀ v, mulV m M (fun c => detF m (mixV m M c v)) i = detF m M * v i
theorem lin0 : Lin 0 [] := ⟨fun k h => (nomatch h), fun k h => (nomatch h), fun k h => (nomatch h)⟩
theorem r1 : List.range 1 = [0] := rfl
theorem r2 : List.range 2 = [0, 1] := rfl
theorem r3 : List.range 3 = [0, 1, 2] := rfl
theorem det1 (a : Int) : detF 1 [[a]] = a := by simp [detF, r1, sgn, minorM]
theorem det2 (a b c d : Int) : detF 2 [[a, b], [c, d]] = a * d - c * b := by
  show ((List.range 2).map fun k => sgn k (detF 1 (minorM k [[c, d]])) * (([a, b] : List Int).getD k 0)).sum = _
  rw [r2]
  show sgn 0 (detF 1 [[d]]) * a + (sgn 1 (detF 1 [[c]]) * b + 0) = _
  rw [det1, det1]
  show d * a + ((0 - c) * b + 0) = _
  grind
theorem det3' (a b c d e f g h i : Int) : detF 3 [[a, b, c], [d, e, f], [g, h, i]] = a * (e * i - h * f) - b * (d * i - g * f) + c * (d * h - g * e) := by
  show ((List.range 3).map fun k => sgn k (detF 2 (minorM k [[d, e, f], [g, h, i]])) * (([a, b, c] : List Int).getD k 0)).sum = _
  rw [r3]
  show sgn 0 (detF 2 [[e, f], [h, i]]) * a + (sgn 1 (detF 2 [[d, f], [g, i]]) * b + (sgn 2 (detF 2 [[d, e], [g, h]]) * c + 0)) = _
  rw [det2, det2, det2]
  show (e * i - h * f) * a + ((0 - (d * i - g * f)) * b + ((d * h - g * e) * c + 0)) = _
  grind
theorem lin1 (a : Int) : Lin 1 [[a]] := by
  refine ⟨fun k hk v => ?_, fun k hk v x h => ?_, fun i hi v => ?_⟩
  · obtain rfl : k = 0 := by omega
    show v 0 * detF 1 [[1]] + 0 = detF 1 [[v 0]]
    rw [det1, det1]; omega
  · obtain rfl : k = 0 := by omega
    have h0 := h 0 (by decide)
    have h0 : v 0 = a * x 0 + 0 := h0
    show detF 1 [[v 0]] = _
    rw [det1, det1, h0]; grind
  · obtain rfl : i = 0 := by omega
    show a * detF 1 [[v 0]] + 0 = _
    rw [det1, det1]; omega
theorem lin2 (a b c d : Int) : Lin 2 [[a, b], [c, d]] := by
  refine ⟨fun k hk v => ?_, fun k hk v x h => ?_, fun i hi v => ?_⟩
  · have : k = 0 ∨ k = 1 := by omega
    rcases this with rfl | rfl
    · show v 0 * detF 2 [[1, b], [0, d]] + (v 1 * detF 2 [[0, b], [1, d]] + 0) = detF 2 [[v 0, b], [v 1, d]]
      rw [det2, det2, det2]; grind
    · show v 0 * detF 2 [[a, 1], [c, 0]] + (v 1 * detF 2 [[a, 0], [c, 1]] + 0) = detF 2 [[a, v 0], [c, v 1]]
      rw [det2, det2, det2]; grind
  · have h0 : v 0 = a * x 0 + (b * x 1 + 0) := h 0 (by decide)
    have h1 : v 1 = c * x 0 + (d * x 1 + 0) := h 1 (by decide)
    have : k = 0 ∨ k = 1 := by omega
    rcases this with rfl | rfl
    · show detF 2 [[v 0, b], [v 1, d]] = _
      rw [det2, det2, h0, h1]; grind
    · show detF 2 [[a, v 0], [c, v 1]] = _
      rw [det2, det2, h0, h1]; grind
  · have : i = 0 ∨ i = 1 := by omega
    rcases this with rfl | rfl
    · show a * detF 2 [[v 0, b], [v 1, d]] + (b * detF 2 [[a, v 0], [c, v 1]] + 0) = _
      rw [det2, det2, det2]; grind
    · show c * detF 2 [[v 0, b], [v 1, d]] + (d * detF 2 [[a, v 0], [c, v 1]] + 0) = _
      rw [det2, det2, det2]; grind
theorem lin3 (a b c d e f g h i : Int) : Lin 3 [[a, b, c], [d, e, f], [g, h, i]] := by
  refine ⟨fun k hk v => ?_, fun k hk v x hx => ?_, fun j hj v => ?_⟩
  · have : k = 0 ∨ k = 1 ∨ k = 2 := by omega
    rcases this with rfl | rfl | rfl
    · show v 0 * detF 3 [[1, b, c], [0, e, f], [0, h, i]] + (v 1 * detF 3 [[0, b, c], [1, e, f], [0, h, i]] + (v 2 * detF 3 [[0, b, c], [0, e, f], [1, h, i]] + 0)) = detF 3 [[v 0, b, c], [v 1, e, f], [v 2, h, i]]
      rw [det3', det3', det3', det3']; grind
    · show v 0 * detF 3 [[a, 1, c], [d, 0, f], [g, 0, i]] + (v 1 * detF 3 [[a, 0, c], [d, 1, f], [g, 0, i]] + (v 2 * detF 3 [[a, 0, c], [d, 0, f], [g, 1, i]] + 0)) = detF 3 [[a, v 0, c], [d, v 1, f], [g, v 2, i]]
      rw [det3', det3', det3', det3']; grind
    · show v 0 * detF 3 [[a, b, 1], [d, e, 0], [g, h, 0]] + (v 1 * detF 3 [[a, b, 0], [d, e, 1], [g, h, 0]] + (v 2 * detF 3 [[a, b, 0], [d, e, 0], [g, h, 1]] + 0)) = detF 3 [[a, b, v 0], [d, e, v 1], [g, h, v 2]]
      rw [det3', det3', det3', det3']; grind
  · have h0 : v 0 = a * x 0 + (b * x 1 + (c * x 2 + 0)) := hx 0 (by decide)
    have h1 : v 1 = d * x 0 + (e * x 1 + (f * x 2 + 0)) := hx 1 (by decide)
    have h2 : v 2 = g * x 0 + (h * x 1 + (i * x 2 + 0)) := hx 2 (by decide)
    have : k = 0 ∨ k = 1 ∨ k = 2 := by omega
    rcases this with rfl | rfl | rfl
    · show detF 3 [[v 0, b, c], [v 1, e, f], [v 2, h, i]] = _
      rw [det3', det3', h0, h1, h2]; grind
    · show detF 3 [[a, v 0, c], [d, v 1, f], [g, v 2, i]] = _
      rw [det3', det3', h0, h1, h2]; grind
    · show detF 3 [[a, b, v 0], [d, e, v 1], [g, h, v 2]] = _
      rw [det3', det3', h0, h1, h2]; grind
  · have : j = 0 ∨ j = 1 ∨ j = 2 := by omega
    rcases this with rfl | rfl | rfl
    · show a * detF 3 [[v 0, b, c], [v 1, e, f], [v 2, h, i]] + (b * detF 3 [[a, v 0, c], [d, v 1, f], [g, v 2, i]] + (c * detF 3 [[a, b, v 0], [d, e, v 1], [g, h, v 2]] + 0)) = _
      rw [det3', det3', det3', det3']; grind
    · show d * detF 3 [[v 0, b, c], [v 1, e, f], [v 2, h, i]] + (e * detF 3 [[a, v 0, c], [d, v 1, f], [g, v 2, i]] + (f * detF 3 [[a, b, v 0], [d, e, v 1], [g, h, v 2]] + 0)) = _
      rw [det3', det3', det3', det3']; grind
    · show g * detF 3 [[v 0, b, c], [v 1, e, f], [v 2, h, i]] + (h * detF 3 [[a, v 0, c], [d, v 1, f], [g, v 2, i]] + (i * detF 3 [[a, b, v 0], [d, e, v 1], [g, h, v 2]] + 0)) = _
      rw [det3', det3', det3', det3']; grind
end Kx

/-! KmKey2 -/
namespace Kx
open PySem L2
theorem offB_cons {b : Nat} {q : List Nat} (h : (b :: q).Nodup) : offB (b :: q) b = q := by
  unfold offB
  rw [List.filter_cons_of_neg (by simp)]
  refine List.filter_eq_self.mpr fun c hc => ?_
  have := (List.nodup_cons.mp h).1
  have : c ≠ b := fun z => this (z ▸ hc)
  simp [this]
theorem lM_lin {pl : List Nat} {ts : List (Nat × Nat)} (O : OkPl pl) (T : OkTs pl ts) (hc : Conn pl ts) :
    Lin (pl.drop 1).length (lM pl ts) ∧ 0 < detF (pl.drop 1).length (lM pl ts) ∧ detF (pl.drop 1).length (lM pl ts) < 1073741824 := by
  have few := O.few
  have hn := O.nd
  have hts : TsOk pl ts := T.mem
  have pos := O.pos
  match pl, O, hn, hts, few, pos, hc with
  | b :: q, O, hn, hts, few, pos, hc =>
    have ho := offB_cons hn
    have hb : b ∈ b :: q := List.mem_cons_self
    have B : ∀ p o, bd 6 (-(gr ts p o)) := fun p o => by have := gr_bd T.few p o; unfold bd; omega
    show Lin q.length (q.map fun a => q.map fun c => -(gr ts a c)) ∧ 0 < detF q.length (q.map fun a => q.map fun c => -(gr ts a c)) ∧ detF q.length (q.map fun a => q.map fun c => -(gr ts a c)) < 1073741824
    match q, ho, hn, hts, few, hc, hb with
    | [], _, _, _, _, _, _ => exact ⟨lin0, (show (0 : Int) < 1 by decide), (show (1 : Int) < 1073741824 by decide)⟩
    | [u0], ho, hn, hts, few, hc, hb =>
      have S := sm1 hn hts hb hc ho
      have b0 := B u0 u0
      show Lin 1 [[-(gr ts u0 u0)]] ∧ 0 < detF 1 [[-(gr ts u0 u0)]] ∧ detF 1 [[-(gr ts u0 u0)]] < 1073741824
      rw [det1]
      have e := S.e00
      have c := S.c0
      unfold bd at b0
      exact ⟨lin1 _, by omega, by omega⟩
    | [u0, u1], ho, hn, hts, few, hc, hb =>
      obtain ⟨e00, e11, ⟨e01, e10⟩, ⟨n1, n2, n3⟩, c0, c1, c01⟩ := sm2 hn hts hb hc ho
      have b0 := B u0 u0
      have b1 := B u1 u1
      have b2 := B u0 u1
      have b3 := B u1 u0
      show Lin 2 [[-(gr ts u0 u0), -(gr ts u0 u1)], [-(gr ts u1 u0), -(gr ts u1 u1)]] ∧ 0 < detF 2 [[-(gr ts u0 u0), -(gr ts u0 u1)], [-(gr ts u1 u0), -(gr ts u1 u1)]] ∧ detF 2 [[-(gr ts u0 u0), -(gr ts u0 u1)], [-(gr ts u1 u0), -(gr ts u1 u1)]] < 1073741824
      rw [det2]
      have hB := bd_sub (bd_mul b0 b1 (by decide) (by decide)) (bd_mul b3 b2 (by decide) (by decide))
      refine ⟨lin2 _ _ _ _, ?_, by unfold bd at hB; omega⟩
      have hdet := det2_pos n1 n2 n3 c0 c1 c01
      rw [e10, e00, e11]
      have e1 : (-(-(gr ts b u0 + gr ts u0 u1))) * (-(-(gr ts b u1 + gr ts u0 u1))) - -(gr ts u0 u1) * -(gr ts u0 u1) = (gr ts b u0 + gr ts u0 u1) * (gr ts b u1 + gr ts u0 u1) - gr ts u0 u1 * gr ts u0 u1 := by grind
      rw [e1]; exact hdet
    | [u0, u1, u2], ho, hn, hts, few, hc, hb =>
      obtain ⟨e00, e11, e22, ⟨_, e10⟩, ⟨_, e20⟩, ⟨_, e21⟩, ⟨n1, n2, n3, n4, n5, n6⟩, c0, c1, c2, c01, c02, c12, call⟩ := sm3 hn hts hb hc ho
      have hB : bd 1296 (-(gr ts u0 u0) * (-(gr ts u1 u1) * -(gr ts u2 u2) - -(gr ts u2 u1) * -(gr ts u1 u2)) - -(gr ts u0 u1) * (-(gr ts u1 u0) * -(gr ts u2 u2) - -(gr ts u2 u0) * -(gr ts u1 u2)) + -(gr ts u0 u2) * (-(gr ts u1 u0) * -(gr ts u2 u1) - -(gr ts u2 u0) * -(gr ts u1 u1))) := by
        have two : ∀ {x y z w : Int}, bd 6 x → bd 6 y → bd 6 z → bd 6 w → bd 72 (x * y - z * w) := fun h1 h2 h3 h4 => bd_sub (bd_mul h1 h2 (by decide) (by decide)) (bd_mul h3 h4 (by decide) (by decide))
        have h1 := bd_mul (B u0 u0) (two (B u1 u1) (B u2 u2) (B u2 u1) (B u1 u2)) (by decide) (by decide)
        have h2 := bd_mul (B u0 u1) (two (B u1 u0) (B u2 u2) (B u2 u0) (B u1 u2)) (by decide) (by decide)
        have h3 := bd_mul (B u0 u2) (two (B u1 u0) (B u2 u1) (B u2 u0) (B u1 u1)) (by decide) (by decide)
        unfold bd at h1 h2 h3 ⊢
        omega
      have hdet := det3_pos n1 n2 n3 n4 n5 n6 c0 c1 c2 c01 c02 c12 call
      show Lin 3 [[-(gr ts u0 u0), -(gr ts u0 u1), -(gr ts u0 u2)], [-(gr ts u1 u0), -(gr ts u1 u1), -(gr ts u1 u2)], [-(gr ts u2 u0), -(gr ts u2 u1), -(gr ts u2 u2)]] ∧ 0 < detF 3 [[-(gr ts u0 u0), -(gr ts u0 u1), -(gr ts u0 u2)], [-(gr ts u1 u0), -(gr ts u1 u1), -(gr ts u1 u2)], [-(gr ts u2 u0), -(gr ts u2 u1), -(gr ts u2 u2)]] ∧ detF 3 [[-(gr ts u0 u0), -(gr ts u0 u1), -(gr ts u0 u2)], [-(gr ts u1 u0), -(gr ts u1 u1), -(gr ts u1 u2)], [-(gr ts u2 u0), -(gr ts u2 u1), -(gr ts u2 u2)]] < 1073741824
      rw [det3']
      refine ⟨lin3 _ _ _ _ _ _ _ _ _, ?_, by unfold bd at hB; omega⟩
      rw [e10, e20, e21, e00, e11, e22]
      unfold det3 at hdet
      generalize gr ts u0 u1 = x at *
      generalize gr ts u0 u2 = z at *
      generalize gr ts u1 u2 = w at *
      generalize gr ts b u0 = p at *
      generalize gr ts b u1 = q' at *
      generalize gr ts b u2 = r at *
      have e1 : -(-(p + x + z)) * (-(-(q' + x + w)) * -(-(r + z + w)) - -w * -w) - -x * (-x * -(-(r + z + w)) - -z * -w) + -z * (-x * -w - -z * -(-(q' + x + w))) = (p + x + z) * ((q' + x + w) * (r + z + w) - w * w) - x * (x * (r + z + w) + w * z) - z * (x * w + (q' + x + w) * z) := by grind
      rw [e1]; exact hdet
    | u0 :: u1 :: u2 :: u3 :: r, ho, hn, hts, few, hc, hb => simp only [List.length_cons] at few; omega
theorem sum_range {q : List Nat} (f : Nat → Int) : (q.map f).sum = ((List.range q.length).map fun c => f (q.getD c 0)).sum := by
  congr 1
  apply List.ext_getElem
  · simp
  · intro i h1 h2
    rw [List.length_map] at h1
    rw [List.getElem_map, List.getElem_map, List.getElem_range, List.getD_eq_getElem?_getD, List.getElem?_eq_getElem h1]; rfl
theorem fnL_tail {b : Nat} {q : List Nat} {D : List Int} (hn : (b :: q).Nodup) {i : Nat} (hi : i < q.length) : fnL (b :: q) D (q.getD i 0) = D.getD (i + 1) 0 := by
  have e : q.getD i 0 = (b :: q)[i + 1]'(by rw [List.length_cons]; omega) := by
    rw [List.getElem_cons_succ, List.getD_eq_getElem?_getD, List.getElem?_eq_getElem hi]; rfl
  unfold fnL
  rw [e, hn.idxOf_getElem]
theorem mem_getD {q : List Nat} {i : Nat} (hi : i < q.length) : q.getD i 0 ∈ q := by
  rw [List.getD_eq_getElem?_getD, List.getElem?_eq_getElem hi]; exact List.getElem_mem _
theorem mulV_eq {b : Nat} {q : List Nat} {ts : List (Nat × Nat)} (x : Nat → Int) {i : Nat} (hi : i < q.length) : mulV q.length (lM (b :: q) ts) x i = ((List.range q.length).map fun c => -(gr ts (q.getD i 0) (q.getD c 0)) * x c).sum := by
  unfold mulV
  refine sum_congr fun c hc => ?_
  have hc := List.mem_range.mp hc
  congr 1
  show (((q.map fun a => q.map fun c => -(gr ts a c)).getD i []).getD c 0) = _
  rw [List.getD_eq_getElem?_getD (l := q.map _), List.getElem?_map, List.getElem?_eq_getElem hi]
  show ((q.map fun c => -(gr ts q[i] c)).getD c 0) = _
  rw [List.getD_eq_getElem?_getD, List.getElem?_map, List.getElem?_eq_getElem hc, List.getD_eq_getElem?_getD, List.getElem?_eq_getElem hi, List.getD_eq_getElem?_getD, List.getElem?_eq_getElem hc]
  rfl
theorem lap_q {b : Nat} {q : List Nat} {ts : List (Nat × Nat)} (hn : (b :: q).Nodup) (hts : TsOk (b :: q) ts) (g : Nat → Int) {u : Nat} (hu : u ∈ b :: q) : lap ts g u = ((List.range q.length).map fun c => gr ts u (q.getD c 0) * (g (q.getD c 0) - g b)).sum := by
  have h1 := sum_gr hn g hu hts
  have h2 := sum_gr hn (fun _ => g b) hu hts
  have h3 : lap ts (fun _ => g b) u = 0 := sum_zero fun t _ => by unfold lapT; dsimp only; split <;> split <;> omega
  rw [h3] at h2
  rw [List.map_cons, List.sum_cons] at h1 h2
  rw [← sum_range (fun p => gr ts u p * (g p - g b))]
  have e : (q.map fun p => gr ts u p * (g p - g b)) = q.map fun p => g p * gr ts p u + (-1) * (g b * gr ts p u) := List.map_congr_left fun p _ => by rw [gr_comm ts u p]; grind
  rw [e, sum_add, sum_mul]
  omega
theorem alike_iff {b : Nat} {q : List Nat} {ts : List (Nat × Nat)} (hn : (b :: q).Nodup) (hts : TsOk (b :: q) ts) {D L : List Int} (hD : D.length = q.length + 1) (hL : L.length = q.length + 1) (hs : D.sum = L.sum) :
    Alike (b :: q) ts (fnL (b :: q) D) (fnL (b :: q) L) ↔ ∃ x : Nat → Int, ∀ i, i < q.length → D.getD (i + 1) 0 - L.getD (i + 1) 0 = mulV q.length (lM (b :: q) ts) x i := by
  constructor
  · rintro ⟨g, hg⟩
    refine ⟨fun c => g (q.getD c 0) - g b, fun i hi => ?_⟩
    have hu : q.getD i 0 ∈ b :: q := List.mem_cons_of_mem _ (mem_getD hi)
    have h1 := hg _ hu
    rw [aft_lap hn hts _ _ hu, fnL_tail hn hi, fnL_tail hn hi, lap_q hn hts g hu] at h1
    rw [mulV_eq _ hi]
    have e : ((List.range q.length).map fun c => -(gr ts (q.getD i 0) (q.getD c 0)) * (g (q.getD c 0) - g b)) = (List.range q.length).map fun c => (-1) * (gr ts (q.getD i 0) (q.getD c 0) * (g (q.getD c 0) - g b)) := List.map_congr_left fun c _ => by grind
    rw [e, sum_mul]
    omega
  · rintro ⟨x, hx⟩
    have gq : ∀ c, c < q.length → (fun p => if p = b then 0 else x (q.idxOf p)) (q.getD c 0) = x c := fun c hc => by
      have hne : q.getD c 0 ≠ b := fun z => (List.nodup_cons.mp hn).1 (z ▸ mem_getD hc)
      show (if q.getD c 0 = b then 0 else x (q.idxOf (q.getD c 0))) = _
      rw [if_neg hne]
      congr 1
      have e : q.getD c 0 = q[c] := by rw [List.getD_eq_getElem?_getD, List.getElem?_eq_getElem hc]; rfl
      rw [e, (List.nodup_cons.mp hn).2.idxOf_getElem]
    generalize hG : (fun p => if p = b then 0 else x (q.idxOf p)) = g at gq
    have gb : g b = 0 := by rw [← hG]; exact if_pos rfl
    have tail : ∀ i, i < q.length → fnL (b :: q) L (q.getD i 0) = fnL (b :: q) D (q.getD i 0) + lap ts g (q.getD i 0) := fun i hi => by
      have hu : q.getD i 0 ∈ b :: q := List.mem_cons_of_mem _ (mem_getD hi)
      have h1 := hx i hi
      rw [mulV_eq _ hi] at h1
      rw [lap_q hn hts g hu, fnL_tail hn hi, fnL_tail hn hi]
      have e : ((List.range q.length).map fun c => -(gr ts (q.getD i 0) (q.getD c 0)) * x c) = (List.range q.length).map fun c => (-1) * (gr ts (q.getD i 0) (q.getD c 0) * (g (q.getD c 0) - g b)) := List.map_congr_left fun c hc => by rw [gq c (List.mem_range.mp hc), gb]; grind
      rw [e, sum_mul] at h1
      omega
    refine ⟨g, fun u hu => ?_⟩
    rw [aft_lap hn hts _ _ hu]
    rcases List.mem_cons.mp hu with rfl | hq
    · have s1 : ((u :: q).map (fnL (u :: q) D)).sum = D.sum := by rw [fnL_map hn hD]
      have s2 : ((u :: q).map (fnL (u :: q) L)).sum = L.sum := by rw [fnL_map hn hL]
      have s3 := lap_sum hn hts g
      rw [List.map_cons, List.sum_cons] at s1 s2 s3
      have s4 : (q.map (fnL (u :: q) L)).sum = (q.map (fnL (u :: q) D)).sum + (q.map fun u => lap ts g u).sum := by
        rw [← sum_add, sum_range (fnL (u :: q) L), sum_range (fun a => fnL (u :: q) D a + lap ts g a)]
        exact sum_congr fun c hc => tail c (List.mem_range.mp hc)
      omega
    · obtain ⟨i, hi, e⟩ := List.getElem_of_mem hq
      have := tail i hi
      have e2 : q.getD i 0 = u := by rw [List.getD_eq_getElem?_getD, List.getElem?_eq_getElem hi]; exact e
      rw [e2] at this
      exact this
end Kx

/-! KmKey3 -/
namespace Kx
open PySem L2
theorem markN_sub (R : List (List Int)) (D L : List Int) (m k : Nat) : markN R D m k - markN R L m k = markW R (fun j => D.getD (j + 1) 0 - L.getD (j + 1) 0) m k := by
  unfold markN markW
  have e : ((List.range m).map fun j => (D.getD (j + 1) 0 - L.getD (j + 1) 0) * (R.getD j []).getD k 0) = (List.range m).map fun j => D.getD (j + 1) 0 * (R.getD j []).getD k 0 + (-1) * (L.getD (j + 1) 0 * (R.getD j []).getD k 0) := List.map_congr_left fun j _ => by grind
  rw [e, sum_add, sum_mul]
  omega
theorem key_iff {pl : List Nat} {ts : List (Nat × Nat)} (O : OkPl pl) (T : OkTs pl ts) (hc : Conn pl ts) {D L : List Int} (hD : D.length = pl.length) (hL : L.length = pl.length) (hs : D.sum = L.sum) :
    (∀ k, k < (pl.drop 1).length → markN (rests (pl.drop 1).length (lM pl ts)) D (pl.drop 1).length k % detF (pl.drop 1).length (lM pl ts) = markN (rests (pl.drop 1).length (lM pl ts)) L (pl.drop 1).length k % detF (pl.drop 1).length (lM pl ts)) ↔ Alike pl ts (fnL pl D) (fnL pl L) := by
  obtain ⟨hLin, hw, _⟩ := lM_lin O T hc
  have hn := O.nd
  have hts : TsOk pl ts := T.mem
  have pos := O.pos
  obtain ⟨b, q, rfl⟩ : ∃ b q, pl = b :: q := by
    cases pl with
    | nil => simp at pos
    | cons b q => exact ⟨b, q, rfl⟩
  rw [alike_iff hn hts hD hL hs]
  show (∀ k, k < q.length → _) ↔ _
  have hLin : Lin q.length (lM (b :: q) ts) := hLin
  have hw : 0 < detF q.length (lM (b :: q) ts) := hw
  show (∀ k, k < q.length → markN (rests q.length (lM (b :: q) ts)) D q.length k % detF q.length (lM (b :: q) ts) = markN (rests q.length (lM (b :: q) ts)) L q.length k % detF q.length (lM (b :: q) ts)) ↔ _
  generalize lM (b :: q) ts = M at *
  generalize q.length = m at *
  generalize hwh : detF m M = wh at *
  have hk : ∀ k, k < m → (markN (rests m M) D m k % wh = markN (rests m M) L m k % wh ↔ detF m (mixV m M k fun j => D.getD (j + 1) 0 - L.getD (j + 1) 0) % wh = 0) := fun k hk => by
    rw [Int.emod_eq_emod_iff_emod_sub_eq_zero, markN_sub, hLin.A k hk]
  constructor
  · intro h
    refine ⟨fun k => detF m (mixV m M k fun j => D.getD (j + 1) 0 - L.getD (j + 1) 0) / wh, fun i hi => ?_⟩
    have hC := hLin.C i hi fun j => D.getD (j + 1) 0 - L.getD (j + 1) 0
    rw [hwh] at hC
    have e : mulV m M (fun c => detF m (mixV m M c fun j => D.getD (j + 1) 0 - L.getD (j + 1) 0)) i = wh * mulV m M (fun k => detF m (mixV m M k fun j => D.getD (j + 1) 0 - L.getD (j + 1) 0) / wh) i := by
      unfold mulV
      rw [← sum_mul]
      refine sum_congr fun c hc => ?_
      have hc := List.mem_range.mp hc
      have h1 := (hk c hc).mp (h c hc)
      have h2 := Int.mul_ediv_cancel' (Int.dvd_of_emod_eq_zero h1)
      dsimp only
      conv => lhs; rw [← h2]
      grind
    rw [e] at hC
    exact (Int.eq_of_mul_eq_mul_left (by omega) hC).symm
  · rintro ⟨x, hx⟩ k hkm
    rw [hk k hkm, hLin.B k hkm _ x hx, hwh]
    exact Int.mul_emod_left _ _
theorem doings_div {pl : List Nat} {ts : List (Nat × Nat)} (O : OkPl pl) (T : OkTs pl ts) (hc : Conn pl ts) {D L : List Int} (hD : D.length = pl.length) (hL : L.length = pl.length) (hs : D.sum = L.sum) (hA : Alike pl ts (fnL pl D) (fnL pl L)) :
    ∀ k, k < (pl.drop 1).length → detF (pl.drop 1).length (mixV (pl.drop 1).length (lM pl ts) k fun j => D.getD (j + 1) 0 - L.getD (j + 1) 0) % detF (pl.drop 1).length (lM pl ts) = 0 := by
  obtain ⟨hLin, hw, _⟩ := lM_lin O T hc
  have hn := O.nd
  have hts : TsOk pl ts := T.mem
  have pos := O.pos
  obtain ⟨b, q, rfl⟩ : ∃ b q, pl = b :: q := by
    cases pl with
    | nil => simp at pos
    | cons b q => exact ⟨b, q, rfl⟩
  obtain ⟨x, hx⟩ := (alike_iff hn hts hD hL hs).mp hA
  intro k hk
  rw [hLin.B k hk _ x hx]
  exact Int.mul_emod_left _ _
/-- one number more -/
theorem free_more {pl : List Nat} {ts : List (Nat × Nat)} {D D' : Nat → Int} (h : Free pl ts D) (hle : ∀ u ∈ pl, D u ≤ D' u) : Free pl ts D' := by
  obtain ⟨E, ⟨g, hg⟩, hE⟩ := h
  refine ⟨fun u => E u + (D' u - D u), ⟨g, fun u hu => ?_⟩, fun u hu => ?_⟩
  · show E u + (D' u - D u) = _
    rw [hg u hu]; unfold aft; omega
  · have := hE u hu
    have := hle u hu
    show 0 ≤ E u + (D' u - D u)
    omega
end Kx

/-! Kd1 -/
namespace Kx
open PySem PySem.Spec PyProof.Rows L2
section
variable {P : Program} {w : World} {K : PySem.W.Frag} {mg : Str → Option Value} {base : Heap} {C : Addr}
theorem mk_fnp {x : Str} {st : Stmt} {N ps : List Str} {k : Nat} {pre : PrT} {f : Addr} {fd : FuncData} (D : C8.Def K mg x st f fd) (S : FnScope N ps (C8.fnScope st)) (len : ∀ vs B R, pre vs B R → vs.length = ps.length)
    (body : ∀ (cdv : Value) (A : Around) (outer : List Env) (s : Shared) (H : Hp) (vs : List V) (Q : VK) (E : XK) (B : Hp) (R : V → Hp → Prop), Room k (A.deeper (envOfC x (C8.fnScope st) s.heap.objs.size f cdv)) → Sub B H → pre vs B R →
      (∀ v B' H', Gr B H B' H' → R v B' → Q v H') → ∃ t, PSs (cxOf C8.CX0 P w K mg base N x (C8.fnScope st) f cdv A outer s H E).nox (C8.fnBody st) t ∧ t { nx := fun _ H' => Q .non H', rt := Q } (start N vs) H) :
    FnOk P w K mg base C8.CX0 (k + 1) f fd ps (Pr pre) :=
  C8.fn0 D.fn S (fun vs H Q E ⟨B, R, _, h, _⟩ => len _ _ _ h) fun cdv A outer s H vs Q E hr ⟨B, R, e, h, q⟩ => body cdv A outer s H vs Q E B R hr e h q
/-- a def called by keywords, heap=.., web=.. -/
structure Kw (K : PySem.W.Frag) (mg : Str → Option Value) (x : Str) (st : Stmt) : Prop where
  ex : ∃ (f : Addr) (fd : FuncData), C8.Def K mg x st f fd ∧ KBinds K fd ["web", "heap"] ["heap", "web"] (fun us ws => us ++ ws.reverse) (fun us ws => us ++ ws.reverse)
structure Kal (P : Program) (w : World) (K : PySem.W.Frag) (mg : Str → Option Value) (base : Heap) (k : Nat) (x : Str) (sp : Sp) : Prop where
  ex : ∃ (f : Addr) (fd : FuncData), FnOk P w K mg base C8.CX0 k f fd ["web", "heap"] sp ∧ mg x = some (.ref f) ∧ PySem.W.keepIn K (.ref f) = true ∧ KBinds K fd ["web", "heap"] ["heap", "web"] (fun us ws => us ++ ws.reverse) (fun us ws => us ++ ws.reverse)
theorem kal_is_free (T : Tx K mg C) (W : Kw K mg "is_free" (topS 52)) : Kal P w K mg base 7 "is_free" (Pr (spFree C)) := by
  obtain ⟨f, fd, D, hb⟩ := W.ex
  refine ⟨f, fd, ?_, D.mgf, D.kp, hb⟩
  refine mk_fnp D sc_is_free (by rintro vs B R ⟨pl, ts, v, u, D, rfl, _⟩; rfl) fun cdv A outer s H vs Q E B R hr e h q => ?_
  obtain ⟨pl, ts, v, u, D, rfl, W, hu, hD, hs, rfl⟩ := h
  refine ⟨_, pss_cons (ps_expr (C8.pe_c (ok_check_ranked T) hr (by decide) (by rfl) (pa_cons (pv 0) (pa_cons (pv 1) pa_nil)))) (pss_one (ps_ret (pe_cmpR op_notN (C8.pe_c (ok_without_debt T) hr (by decide) (by rfl) (pa_cons (pv 0) (pa_cons (pv 1) pa_nil))) pe_non (by rfl)))), ?_⟩
  refine s_expr (P := fun z _ => z = .non) (ep_call2 (ep_var 0 rfl W stb_wc) stb_wc (ed_var 1 rfl hu) fun x y B' _ e1 e2 => ⟨pl, ts, x, y, D, rfl, e1, e2, hD, hs, rfl⟩) e fun _ B1 H1 g1 _ => ?_
  have k1 : Ep (tCall (Pr (spWithout C)) [] C8.E0 (tCons (tVar 0) (tCons (tVar 1) tNil))) (L2.start n52 [v, u]) B1 (Wd pl ts D) := ep_call2 (ep_var 0 rfl (W.mono g1.b) stb_wc) stb_wc (ed_var 1 rfl (dp_ex g1.b hu)) fun x y B' _ e1 e2 => ⟨pl, ts, x, y, D, rfl, e1, e2, rfl⟩
  show tRet (tOp (fun x y H Q => y = .non ∧ Q (.bl (!decide (x = .non))) H) (tCall (Pr (spWithout C)) [] C8.E0 (tCons (tVar 0) (tCons (tVar 1) tNil))) (tC .non)) { nx := fun _ H' => Q .non H', rt := Q } (L2.start n52 [v, u]) H1
  refine s_ret (P := fun z _ => ∃ b : Bool, z = .bl b ∧ (b = true ↔ Free pl ts D)) (ep_op k1 (ev_c (v := .non)) stb_wd fun x y B' _ p ey => ?_) g1.s fun v B' H' g p => ?_
  rotate_left
  · exact q v B' H' (g1.tr g) p
  subst ey
  refine fun B2 H2 a2 b2 Q' k => ⟨rfl, k _ B2 H2 (Gr.refl b2) ⟨_, rfl, ?_⟩⟩
  rcases p with ⟨p1, p2⟩ | ⟨E, p1, p2, p3⟩
  · subst p2
    simp [p1]
  · obtain ⟨a, xs, rfl, _, _⟩ := dp_tup p1
    have : ¬ (V.ref a = V.non) := fun z => nomatch z
    simp only [this, decide_false, Bool.not_false, true_iff]
    exact ⟨E, p2, p3⟩
theorem kal_free_heap (T : Tx K mg C) (W : Kw K mg "free_heap" (topS 53)) : Kal P w K mg base 7 "free_heap" (Pr (spFreeHeap C)) := by
  obtain ⟨f, fd, D, hb⟩ := W.ex
  refine ⟨f, fd, ?_, D.mgf, D.kp, hb⟩
  refine mk_fnp D sc_free_heap (by rintro vs B R ⟨pl, ts, v, u, D, rfl, _⟩; rfl) fun cdv A outer s H vs Q E B R hr e h q => ?_
  obtain ⟨pl, ts, v, u, D, rfl, W, hu, hD, hs, rfl⟩ := h
  refine ⟨_, pss_cons (ps_expr (C8.pe_c (ok_check_ranked T) hr (by decide) (by rfl) (pa_cons (pv 0) (pa_cons (pv 1) pa_nil)))) (pss_one (ps_ret (C8.pe_c (ok_without_debt T) hr (by decide) (by rfl) (pa_cons (pv 0) (pa_cons (pv 1) pa_nil))))), ?_⟩
  refine s_expr (P := fun z _ => z = .non) (ep_call2 (ep_var 0 rfl W stb_wc) stb_wc (ed_var 1 rfl hu) fun x y B' _ e1 e2 => ⟨pl, ts, x, y, D, rfl, e1, e2, hD, hs, rfl⟩) e fun _ B1 H1 g1 _ => ?_
  exact s_ret (P := Wd pl ts D) (ep_call2 (ep_var 0 rfl (W.mono g1.b) stb_wc) stb_wc (ed_var 1 rfl (dp_ex g1.b hu)) fun x y B' _ e1 e2 => ⟨pl, ts, x, y, D, rfl, e1, e2, rfl⟩) g1.s fun v B' H' g p => q v B' H' (g1.tr g) p
theorem pe_kal {X : Cx} {k j : Nat} {x : Str} {sp : Sp} {kws : List Keyword} {tk : TA} {p pos' : Pos} (c : Kal X.prog X.w X.K X.mg X.base k x sp) (hr : Room j X.A) (hk : k ≤ j) (hg : Gl X x) (hkw : PK X kws tk)
    (hall : (backToKw pos' (keywordEach kws X.env)).all (·.1.isSome) = true := by rfl) (hks : (backToKw pos' (keywordEach kws X.env)).filterMap (·.1) = (["heap", "web"] : List Str) := by rfl)
    (hdb : (x == ("__debug__" : Str)) = false := by decide)
    (hpl : ((backTo pos' (starEach [] X.env)).any (·.1) || (backToKw pos' (keywordEach kws X.env)).any (·.1.isNone)) = false := by rfl) :
    PE X (.Call (.Name x p) [] kws pos') (tCallK sp (fun us ws => us ++ ws.reverse) C8.E0 tNil tk) := by
  obtain ⟨f, fd, F, hm, kp, hb⟩ := c.ex
  exact pe_callKW F (hr.mono hk) hg hm kp hb C8.pass0 hkw hall hks hdb hpl
end
section
variable {σ : L2.St} {B : Hp} {ta tb : TE} {Pa Pb P : V → Hp → Prop} {pre : PrT} {E : XK}
theorem ep_callK (ha : Ep ta σ B Pa) (sa : Stb Pa) (hb : Ep tb σ B Pb) (hp : ∀ x y B', Evl.Ex B B' → Pa x B' → Pb y B' → pre [y, x] B' P) : Ep (tCallK (Pr pre) (fun us ws => us ++ ws.reverse) E tNil (tCons ta (tCons tb tNil))) σ B P := fun B1 H1 a b Q q =>
  ha B1 H1 a b _ fun x B2 H2 g2 p2 => hb B2 H2 (a.trans g2.b) g2.s _ fun y B3 H3 g3 p3 =>
    ⟨B3, P, g3.s, hp x y B3 ((a.trans g2.b).trans g3.b) (sa _ _ _ g3.b p2) p3, fun v B4 H4 g4 p4 => q v B4 H4 ((g2.tr g3).tr g4) p4⟩
end
end Kx

/-! KxRight -/
namespace Kx
open PySem PySem.Spec PyProof.Rows L2
section
variable {σ : L2.St} {B B' H H' : Hp} {aw : Addr} {ta tb tc td te tl : TE} {D : Ends} {K : PySem.W.Frag} {P Pa Pb Pc Pd : V → Hp → Prop} {α : Type} {E : XK}
theorem epw_call4 {pre : PrWT} (ha : Kx.Ev ta σ B (.ref aw)) (hb : Ep tb σ B Pb) (sb : Stb Pb) (hc : Ep tc σ B Pc) (sc : Stb Pc) (hd : Ep td σ B Pd) (hp : ∀ y z u B', Evl.Ex B B' → Pb y B' → Pc z B' → Pd u B' → pre [.ref aw, y, z, u] aw B' P) : EpW (tCall (PrW pre) [] E (tCons ta (tCons tb (tCons tc (tCons td tNil))))) σ B aw P := fun B1 H1 a b k w Q q =>
  ha B1 H1 a b _ fun x B2 H2 g2 p2 => hb B2 H2 (a.trans g2.b) g2.s _ fun y B3 H3 g3 p3 => hc B3 H3 ((a.trans g2.b).trans g3.b) g3.s _ fun z B4 H4 g4 p4 => hd B4 H4 (((a.trans g2.b).trans g3.b).trans g4.b) g4.s _ fun u B5 H5 g5 p5 => by
    subst p2
    have g := (((g2.tr g3).tr g4).tr g5).w k w
    exact ⟨B5, aw, P, g.s, g.k, g.w, hp y z u B5 (a.trans g.b) (sb _ _ _ (g4.b.trans g5.b) p3) (sc _ _ _ g5.b p4) p5, fun v B6 H6 g6 p6 => q v B6 H6 (g.tr g6) p6⟩
/-- (e,) -/
theorem epw_tup1 {S : Int → Prop} (h : EpW te σ B aw (fun v _ => ∃ i : Int, v = .int i ∧ S i)) : EpW (tTup (tCons te tNil)) σ B aw (fun v B' => ∃ i : Int, S i ∧ Dq B' v (.tuple [.int i])) := fun B1 H1 a b k w Q q =>
  h B1 H1 a b k w _ fun x B2 H2 g2 ⟨i, e1, hS⟩ => by
    subst e1
    refine ⟨Evl.sz_of (show 1 ≤ 100000 by decide), fun c hc => ?_⟩
    have g4 := Gr.new (o := .tup [.int i]) g2.s hc
    exact q _ _ _ (g2.tr (g4.w g2.k g2.w)) ⟨i, hS, .tup upd_same (.cons (.int i) .nil)⟩
theorem epw_cat1 {ds : List PyData} {S : Int → Prop} (ha : Kx.Ed ta σ B (.tuple ds)) (hb : EpW tb σ B aw (fun v B' => ∃ i : Int, S i ∧ Dq B' v (.tuple [.int i]))) (hz : ds.length < 90000) : EpW (tOp (rCatA K) ta tb) σ B aw (fun v B' => ∃ i : Int, S i ∧ Dq B' v (.tuple (ds ++ [.int i]))) :=
  epw_op (epw_of ha) hb (stb_dp _) fun x y B' _ p ⟨i, hS, q⟩ B1 H1 a b Q k => by
    have := ed_catT (K := K) (σ := σ) (B := B1) (ta := tC x) (tb := tC y) (fun B1' H1' a' b' Q' q' => q' x B1' H1' (Gr.refl b') (dp_ex (a.trans a') p)) (fun B1' H1' a' b' Q' q' => q' y B1' H1' (Gr.refl b') (dp_ex (a.trans a') q)) (by show _ + 1 ≤ 100000; omega) B1 H1 (Evl.Ex.refl _) b Q fun v B2 H2 g p2 => k v B2 H2 g ⟨i, hS, p2⟩
    exact this
/-- a comprehension over a list that is not known in advance -/
theorem ed_lcR {S : List α → Prop} {φ : α → PyData} {g : TG} {tt : TT} {vs : List Nat} (h : Ep tl σ B (fun v B' => ∃ L : List α, S L ∧ Dq B' v (.list (L.map φ)))) (p : α → Bool) (r : α → PyData) (hn : ∀ L, S L → L.length ≤ 90000)
    (turn : ∀ L, S L → ∀ a x B1, a ∈ L → Evl.Ex B B1 → Dq B1 x (φ a) → ∃ σ2, (∀ H1 (Q : L2.St → Hp → Prop), Sub B1 H1 → Q σ2 H1 → g x (wipe σ vs) H1 Q) ∧ wipe σ2 vs = wipe σ vs ∧ EpT tt σ2 B1 (p a) ∧ (p a = true → Kx.Ed te σ2 B1 (r a))) :
    Ep (tLc (iList K tl) g tt te vs) σ B (fun v B' => ∃ L : List α, S L ∧ Dq B' v (.list ((L.filter p).map r))) := fun B1 H1 a b Q q =>
  h B1 H1 a b _ fun v B2 H2 g2 ⟨L, hS, hd⟩ => by
    have := ed_lc (σ := σ) (B := B2) (wi := iList K (tC v)) (g := g) (tt := tt) (te := te) (vs := vs) (ei_list (K := K) (tl := tC v) (σ := σ) (xs := L) (φ := φ) (fun B1' H1' a' b' Q' q' => q' v B1' H1' (Gr.refl b') (dp_ex a' hd))) p r (hn L hS) (fun c x B3 hc e3 hx => turn L hS c x B3 hc ((a.trans g2.b).trans e3) hx) B2 H2 (Evl.Ex.refl _) g2.s Q fun v' B3 H3 g3 p3 => q v' B3 H3 (g2.tr g3) ⟨L, hS, p3⟩
    exact this
/-- a for over a list that is not known in advance -/
theorem s_forD {S : List PyData → Prop} {g : TG} {tu : TS} (h : Ep tl σ B (fun v B' => ∃ ds : List PyData, S ds ∧ Dq B' v (.list ds))) (e : Sub B H)
    (k : ∀ ds, S ds → ∀ B2 H2, Gr B H B2 H2 → ∃ Pv : List PyData → L2.St → Hp → Hp → Prop, Pv [] σ B2 H2 ∧ (∀ pre σ' B' H', Pv pre σ' B' H' → Evl.Ex B2 B' ∧ Sub B' H') ∧
      (∀ pre a post, ds = pre ++ a :: post → ∀ σ' B' H', Pv pre σ' B' H' → ∀ x B3 H3, Gr B' H' B3 H3 → Dq B3 x a → g x σ' H3 fun σ2 H4 => tu { D with nx := fun σ5 H5 => ∃ B5, Pv (pre ++ [a]) σ5 B5 H5, ct := fun σ5 H5 => ∃ B5, Pv (pre ++ [a]) σ5 B5 H5, bk := D.nx } σ2 H4) ∧
      ∀ σ' B' H', Pv ds σ' B' H' → D.nx σ' H') : tFor (iList K tl) g tu D σ H := by
  refine h B H (Evl.Ex.refl _) e _ fun v B2 H2 g2 ⟨ds, hS, hd⟩ => ?_
  have hd2 : Dq B2 v (.list (ds.map fun d => d)) := by rw [List.map_id']; exact hd
  have := s_for (D := D) (g := g) (tu := tu) (wi := iList K (tC v)) (σ := σ) (B := B2) (H := H2) (ei_list (K := K) (tl := tC v) (σ := σ) (xs := ds) (φ := fun d => d) (fun B1' H1' a' b' Q' q' => q' v B1' H1' (Gr.refl b') (dp_ex a' hd2))) g2.s fun B3 H3 g3 => k ds hS B3 H3 (g2.tr g3)
  exact this
theorem ep_opE {r : R2} {R : V → Hp → Prop} (ha : Ep ta σ B Pa) (sa : Stb Pa) (hb : Ep tb σ B Pb) (hr : ∀ x y B', Evl.Ex B B' → Pa x B' → Pb y B' → Op2 r x y B' R) : Ep (tOp r ta tb) σ B R := ep_op ha hb sa hr
end
abbrev keyD (s : Int) (ms : List Int) : PyData := .tuple [.int s, .tuple (ms.map .int)]
theorem key_eqv (s s' : Int) (ms ms' : List Int) : PyData.eqv (keyD s ms) (keyD s' ms') = decide (s = s' ∧ ms = ms') := by
  show PyData.eqv (.tuple [.int s, .tuple (ms.map .int)]) (.tuple [.int s', .tuple (ms'.map .int)]) = _
  rw [PyData.eqv, PyData.eqvAll, PyData.eqvAll, PyData.eqvAll, PyData.eqv, PyData.eqv, eqvAll_ints, Bool.eq_iff_iff]
  simp
theorem key_shaped (s : Int) (ms : List Int) : SeqAt.shaped (keyD s ms) = true := shaped_by (by simp [PyData.canLay0, PyData.canLayAll0, lay_ints]) (by simp [PyData.depth, PyData.depthAll, depth_ints])
theorem tup_shapedL (L : List (List Int)) : SeqAt.shaped (.list (L.map tD)) = true := shaped_tups L
end Kx

/-! KmGoal -/
namespace Kx
open PySem L2
abbrev mks (pl : List Nat) (ts : List (Nat × Nat)) (D : List Int) : List Int := (List.range (pl.drop 1).length).map fun k => markN (rests (pl.drop 1).length (lM pl ts)) D (pl.drop 1).length k % detF (pl.drop 1).length (lM pl ts)
def sameKey (pl : List Nat) (ts : List (Nat × Nat)) (D l : List Int) : Bool := decide (l.sum = D.sum ∧ mks pl ts l = mks pl ts D)
theorem sameKey_iff {pl : List Nat} {ts : List (Nat × Nat)} (O : OkPl pl) (T : OkTs pl ts) (hc : Conn pl ts) {D l : List Int} (hD : D.length = pl.length) (hl : l.length = pl.length) : sameKey pl ts D l = true ↔ l.sum = D.sum ∧ Alike pl ts (fnL pl D) (fnL pl l) := by
  unfold sameKey
  rw [decide_eq_true_eq]
  refine and_congr_right fun hs => ?_
  rw [← key_iff O T hc hD hl hs.symm]
  unfold mks
  constructor
  · intro h k hk
    have h2 := congrArg (fun z : List Int => z[k]?) h
    rw [List.getElem?_map, List.getElem?_map, List.getElem?_range hk] at h2
    exact (Option.some.inj h2).symm
  · intro h
    exact List.map_congr_left fun k hk => (h k (List.mem_range.mp hk)).symm
structure Goals (pl : List Nat) (ts : List (Nat × Nat)) (D : List Int) (G : List (List Int)) : Prop where
  mem : ∀ l, l ∈ G ↔ (l.length = pl.length ∧ (∀ x ∈ l, 0 ≤ x) ∧ l.sum = D.sum ∧ Alike pl ts (fnL pl D) (fnL pl l))
  few : G.length ≤ 6561
theorem goals_of {pl : List Nat} {ts : List (Nat × Nat)} (O : OkPl pl) (T : OkTs pl ts) (hc : Conn pl ts) {D : List Int} (hD : D.length = pl.length) {L : List (List Int)} (hL : L.length ≤ 6561) (hm : ∀ l, l ∈ L ↔ (l.length = pl.length ∧ (∀ x ∈ l, 0 ≤ x) ∧ l.sum = D.sum)) : Goals pl ts D (L.filter (sameKey pl ts D)) := by
  refine ⟨fun l => ?_, Nat.le_trans (List.length_filter_le _ _) hL⟩
  rw [List.mem_filter, hm]
  constructor
  · rintro ⟨⟨h1, h2, h3⟩, h4⟩
    exact ⟨h1, h2, h3, ((sameKey_iff O T hc hD h1).mp h4).2⟩
  · rintro ⟨h1, h2, h3, h4⟩
    exact ⟨⟨h1, h2, h3⟩, (sameKey_iff O T hc hD h1).mpr ⟨h3, h4⟩⟩
theorem fnL_at {pl : List Nat} {l : List Int} (hn : pl.Nodup) (hl : l.length = pl.length) {u : Nat} (hu : u ∈ pl) : fnL pl l u ∈ l := by
  unfold fnL
  have := List.idxOf_lt_length_of_mem hu
  rw [List.getD_eq_getElem?_getD, List.getElem?_eq_getElem (by omega)]
  exact List.getElem_mem _
/-- a heap on the places, as a list -/
theorem fnL_of {pl : List Nat} (hn : pl.Nodup) (E : Nat → Int) {u : Nat} (hu : u ∈ pl) : fnL pl (pl.map E) u = E u := by
  unfold fnL
  have h := List.idxOf_lt_length_of_mem hu
  rw [List.getD_eq_getElem?_getD, List.getElem?_map, List.getElem?_eq_getElem h, List.getElem_idxOf]; rfl
theorem goal_of_free {pl : List Nat} {ts : List (Nat × Nat)} (O : OkPl pl) (T : OkTs pl ts) {D : List Int} (hD : D.length = pl.length) {G : List (List Int)} (g : Goals pl ts D G) {E : Nat → Int} (hA : Alike pl ts (fnL pl D) E) (hE : ∀ u ∈ pl, 0 ≤ E u) : pl.map E ∈ G ∧ (pl.map E).sum = D.sum ∧ Alike pl ts (fnL pl D) (fnL pl (pl.map E)) := by
  have h1 := alike_sum O.nd T.mem hA
  rw [fnL_map O.nd hD] at h1
  have h2 : Alike pl ts (fnL pl D) (fnL pl (pl.map E)) := by
    obtain ⟨k, hk⟩ := hA
    exact ⟨k, fun u hu => by rw [fnL_of O.nd E hu, hk u hu]⟩
  refine ⟨(g.mem _).mpr ⟨by rw [List.length_map], fun x hx => ?_, h1, h2⟩, h1, h2⟩
  obtain ⟨u, hu, rfl⟩ := List.mem_map.mp hx
  exact hE u hu
theorem goals_free {pl : List Nat} {ts : List (Nat × Nat)} (O : OkPl pl) (T : OkTs pl ts) {D : List Int} (hD : D.length = pl.length) {G : List (List Int)} (g : Goals pl ts D G) : G ≠ [] ↔ Free pl ts (fnL pl D) := by
  constructor
  · intro h
    obtain ⟨l, hl⟩ := List.exists_mem_of_ne_nil G h
    obtain ⟨h1, h2, _, h4⟩ := (g.mem l).mp hl
    exact ⟨fnL pl l, h4, fun u hu => h2 _ (fnL_at O.nd h1 hu)⟩
  · rintro ⟨E, hA, hE⟩ z
    have := (goal_of_free O T hD g hA hE).1
    rw [z] at this
    cases this
theorem hpok_of {pl : List Nat} {D : List Int} (hn : pl.Nodup) (hD : D.length = pl.length) (h : ∀ x ∈ D, -1000 ≤ x ∧ x ≤ 1000) : HpOk pl (fnL pl D) := fun c hc => by
  have := h _ (fnL_at hn hD hc)
  omega
/-- one number more at a place -/
def moreL (D : List Int) (k : Nat) : List Int := D.take k ++ [D.getD k 0 + 1] ++ D.drop (k + 1)
theorem moreL_eq {D : List Int} {k : Nat} (hk : k < D.length) : moreL D k = D.set k (D.getD k 0 + 1) := by
  unfold moreL
  rw [List.set_eq_take_append_cons_drop, if_pos hk]; simp
theorem moreL_get {D : List Int} {k : Nat} (hk : k < D.length) (i : Nat) : D.getD i 0 ≤ (moreL D k).getD i 0 := by
  rw [moreL_eq hk, List.getD_eq_getElem?_getD, List.getD_eq_getElem?_getD (l := D.set _ _), List.getElem?_set]
  by_cases e : k = i
  · subst e
    rw [if_pos rfl, if_pos hk, List.getElem?_eq_getElem hk]
    show D[k] ≤ D.getD k 0 + 1
    rw [List.getD_eq_getElem?_getD, List.getElem?_eq_getElem hk]
    show D[k] ≤ D[k] + 1
    omega
  · rw [if_neg e]; exact Int.le_refl _
theorem moreL_sum {D : List Int} {k : Nat} (hk : k < D.length) : (moreL D k).sum = D.sum + 1 := by
  unfold moreL
  have e : D = D.take k ++ D.getD k 0 :: D.drop (k + 1) := by
    have : D.getD k 0 = D[k] := by rw [List.getD_eq_getElem?_getD, List.getElem?_eq_getElem hk]; rfl
    rw [this, ← List.drop_eq_getElem_cons hk, List.take_append_drop]
  conv => rhs; rw [e]
  rw [List.sum_append, List.sum_append, List.sum_append, List.sum_cons, List.sum_cons, List.sum_nil]
  omega
theorem moreL_mem {D : List Int} {k : Nat} (hk : k < D.length) {b : Int} (h : ∀ x ∈ D, -b ≤ x ∧ x ≤ b) : ∀ x ∈ moreL D k, -(b + 1) ≤ x ∧ x ≤ b + 1 := fun x hx => by
  have hg : D.getD k 0 ∈ D := by rw [List.getD_eq_getElem?_getD, List.getElem?_eq_getElem hk]; exact List.getElem_mem _
  unfold moreL at hx
  rcases List.mem_append.mp hx with hx | hx
  · rcases List.mem_append.mp hx with hx | hx
    · have := h x (List.mem_of_mem_take hx); omega
    · rw [List.mem_singleton] at hx
      have := h _ hg
      omega
  · have := h x (List.mem_of_mem_drop hx); omega
end Kx

/-! Kd3 -/
namespace Kx
open PySem PySem.Spec PyProof.Rows L2
theorem room65 {k : Nat} {A : Around} (r : Room k A) : A.units + 65 < cLine := by have := r.un; omega
structure Tk (K : PySem.W.Frag) (mg : Str → Option Value) (C : Addr) : Prop where
  tw : Tw K mg C
  kF : Kw K mg "is_free" (topS 52)
  kH : Kw K mg "free_heap" (topS 53)
abbrev n69 : List Str := ["_law_well_here", "_law_signs", "_law_joins", "_law_net_here", "_law_many", "_law_rests_here", "_law_whole", "_law_again", "_law_pile_here", "_law_goals", "_law_due", "_law_told", "_law_home", "_law_k", "_law_more", "_law_goal"]
theorem sc_right : FnScope n69 ["_law_well_here"] (C8.fnScope (topS 69)) := C8.fnScope_by (by decide +kernel)
theorem epw_call3R {σ : L2.St} {B : Hp} {aw : Addr} {tb tc ta : TE} {P Pb Pc : V → Hp → Prop} {pre : PrWT} {E : XK} (ha : Kx.Ev ta σ B (.ref aw)) (hb : EpW tb σ B aw Pb) (sb : Stb Pb) (hc : EpW tc σ B aw Pc) (hp : ∀ y z B', Evl.Ex B B' → Pb y B' → Pc z B' → ∃ R, pre [.ref aw, y, z] aw B' R ∧ ∀ v B'', Evl.Ex B' B'' → R v B'' → P v B'') : EpW (tCall (PrW pre) [] E (tCons ta (tCons tb (tCons tc tNil)))) σ B aw P := fun B1 H1 a b k w Q q =>
  ha B1 H1 a b _ fun x B2 H2 g2 p2 => by
    subst p2
    have g := g2.w k w
    exact hb B2 H2 (a.trans g.b) g.s g.k g.w _ fun y B3 H3 g3 p3 => hc B3 H3 ((a.trans g.b).trans g3.b) g3.s g3.k g3.w _ fun z B4 H4 g4 p4 => by
      obtain ⟨R, h1, h2⟩ := hp y z B4 (((a.trans g.b).trans g3.b).trans g4.b) (sb _ _ _ g4.b p3) p4
      exact ⟨B4, aw, R, g4.s, g4.k, g4.w, h1, fun v B5 H5 g5 p5 => q v B5 H5 (((g.tr g3).tr g4).tr g5) (h2 v B5 g5.b p5)⟩
theorem sum_bds : ∀ {l : List Int}, (∀ x ∈ l, -4 ≤ x ∧ x ≤ 5) → -4 * (l.length : Int) ≤ l.sum ∧ l.sum ≤ 5 * (l.length : Int)
  | [], _ => by simp
  | a :: r, h => by
    have h1 := h a List.mem_cons_self
    have h2 := sum_bds fun x hx => h x (List.mem_cons_of_mem _ hx)
    rw [List.sum_cons, List.length_cons]
    omega
theorem sl_but {α : Type} (l : List α) (a : α) : ((l ++ [a]).drop (HT.sIx (l ++ [a]).length 0 none)).take (HT.sIx (l ++ [a]).length (l ++ [a]).length (some (-1)) - HT.sIx (l ++ [a]).length 0 none) = l := by
  have e : HT.sIx (l ++ [a]).length (l ++ [a]).length (some (-1)) = l.length := by
    show (if (-1 : Int) < 0 then ((-1 : Int) + ((l ++ [a]).length : Int)).toNat else min (-1 : Int).toNat (l ++ [a]).length) = _
    rw [if_pos (by decide), List.length_append, List.length_singleton]; omega
  rw [e, HT.sIx_none, List.drop_zero, Nat.sub_zero]
  exact List.take_left
theorem ep_lst2R {σ : L2.St} {B : Hp} {ta tb : TE} {Sd : PyData → Prop} (ha : Ep ta σ B (fun v B' => ∃ d, Sd d ∧ Dq B' v d)) (hb : Ep tb σ B (fun v B' => ∃ d, Sd d ∧ Dq B' v d)) : Ep (tLst (tCons ta (tCons tb tNil))) σ B (fun v B' => ∃ ds : List PyData, (∀ d ∈ ds, Sd d) ∧ Dq B' v (.list ds)) := fun B1 H1 a b Q q =>
  ha B1 H1 a b _ fun v B2 H2 g2 ⟨d1, s1, p1⟩ => hb B2 H2 (a.trans g2.b) g2.s _ fun w B3 H3 g3 ⟨d2, s2, p2⟩ => ⟨Evl.sz_of (show 2 ≤ 100000 by decide), fun c hc => gr_newL g3.s (.cons (dp_ex g3.b p1) (.cons p2 .nil)) (fun v B4 H4 g4 p4 => q v B4 H4 ((g2.tr g3).tr g4) ⟨[d1, d2], fun d hd => by
    rcases List.mem_cons.mp hd with z | hd
    · rw [z]; exact s1
    · rw [List.mem_singleton] at hd; rw [hd]; exact s2, p4⟩) hc⟩
def ToldD (pl : List Nat) (ts : List (Nat × Nat)) (D : Nat → Int) (d : PyData) : Prop := (¬ Free pl ts D ∧ d = .none) ∨ ∃ E, d = hpT pl E ∧ Alike pl ts D E ∧ ∀ u ∈ pl, 0 ≤ E u
theorem told_of {pl : List Nat} {ts : List (Nat × Nat)} {D : Nat → Int} {v : V} {B : Hp} (h : Wd pl ts D v B) : ∃ d, ToldD pl ts D d ∧ Dq B v d := by
  rcases h with ⟨h1, rfl⟩ | ⟨E, h1, h2, h3⟩
  · exact ⟨.none, .inl ⟨h1, rfl⟩, .non⟩
  · exact ⟨_, .inr ⟨E, rfl, h2, h3⟩, h1⟩
theorem hpT_map (pl : List Nat) (E : Nat → Int) : hpT pl E = tD (pl.map E) := by unfold hpT tD; rw [List.map_map]; rfl
def spRight : PrWT := fun vs aw _ R => vs = [.ref aw] ∧ R = fun v _ => v = .bl true
section
variable {P : Program} {w : World} {K : PySem.W.Frag} {mg : Str → Option Value} {base : Heap} {C : Addr}
theorem body_right (W : Tk K mg C) (f : Addr) (cdv : Value) (A : Around) (outer : List Env) (s : Shared) (H : Hp) (vs : List V) (Q : VK) (E : XK) (hr : Room 9 (A.deeper (envOfC "_law_right" (C8.fnScope (topS 69)) s.heap.objs.size f cdv))) (hg : A.guards = some []) (h : PrW spRight vs H Q E) :
    ∃ t, PSs (cxOf C8.CX0 P w K mg base n69 "_law_right" (C8.fnScope (topS 69)) f cdv A outer s H E).nox (C8.fnBody (topS 69)) t ∧ t { nx := fun _ H' => Q .non H', rt := Q } (start n69 vs) H := by
  have T := W.tw.tx
  have nd := sc_right.nd
  obtain ⟨B, aw, R, e, k0, w0, ⟨rfl, rfl⟩, q⟩ := h
  refine ⟨_, pss_cons (ps_asg (C8.pe_c (ok_net T) hr (by decide) (by rfl) (pa_cons (pv 0) (pa_cons (C8.pe_c (ok_one_of T) hr (by decide) (by rfl) (pa_cons (pv 0) (pa_cons (pe_lst (pa_cons pe_int (pa_cons pe_int (pa_cons pe_int (pa_cons pe_int (pa_cons pe_int (pa_cons pe_int pa_nil))))))) pa_nil))) (pa_cons pe_int pa_nil)))) (pg_tup (by rfl) (pgs_cons (pg_name (i := 1) nd rfl (.inl rfl)) (pgs_cons (pg_name (i := 2) nd rfl (.inl rfl)) pgs_nil))))
    (pss_cons (ps_par (i := 3) (j := 4) rfl nd rfl rfl (by decide) rfl rfl (pa_cons (C8.pe_mk (ok_web W.tw) hr (by decide) (by rfl) (pa_cons (pv 1) (pa_cons (pe_callTy call_tuple_of (by rfl) T.b_tuple PyProof.Rows.boot_tuple (pa_cons (pv 2) pa_nil)) pa_nil))) (pa_cons (pe_callB call_len_str (by rfl) T.b_len boot_len (pa_cons (pv 1) pa_nil)) pa_nil)) (by rfl))
    (pss_cons (ps_asg (pe_tup (pa_cons (C8.pe_c (ok_lrests T) hr (by decide) (by rfl) (pa_cons (pv 1) (pa_cons (pv 2) pa_nil))) (pa_cons (C8.pe_c (ok_ldet T 3) hr (by decide) (by rfl) (pa_cons (C8.pe_c (ok_lrows T) hr (by decide) (by rfl) (pa_cons (pv 1) (pa_cons (pv 2) pa_nil))) pa_nil)) pa_nil))) (pg_tup (by rfl) (pgs_cons (pg_name (i := 5) nd rfl (.inr rfl)) (pgs_cons (pg_name (i := 6) nd rfl (.inr rfl)) pgs_nil))))
    (pss_cons (ps_for PassesOwn.never rfl (pi_range1 (by rfl) T.b_range (pa_cons pe_int pa_nil)) (pg_name (i := 7) nd rfl (.inl rfl))
      (pss_cons (ps_set (i := 8) nd rfl (.inr rfl) (C8.pe_c (ok_lpile T) hr (by decide) (by rfl) (pa_cons (pv 0) (pa_cons (pv 4) (pa_cons (pe_un un_neg pe_int) (pa_cons pe_int pa_nil))))))
      (pss_cons (ps_set (i := 8) nd rfl (.inr rfl) (pe_op op_catA (pe_slice sl_tupA (pv 8) po_none (po_some (pe_un un_neg pe_int))) (pe_tup (pa_cons (pe_op op_sub (pe_op op_sub (pe_op op_add (pe_ix ix_tup (pv 8) (pe_un un_neg pe_int) (fun _ _ => rfl)) (C8.pe_c (ok_dip T) hr (by decide) (by rfl) (pa_cons (pv 0) (pa_cons pe_int pa_nil)))) pe_int) (pe_callB (cr_sumT rfl) (by rfl) T.b_sum PyProof.Rows.boot_sum (pa_cons (pv 8) pa_nil))) pa_nil))))
      (pss_cons (ps_setLc (own := [("_law_goal", 15)]) (g := gName 15) (i := 9) rfl nd rfl rfl (by rfl) (pi_list (C8.pe_c (ok_lheaps T) hr (by decide) (by rfl) (pa_cons (pv 4) (pa_cons (pe_callB (cr_sumT rfl) (by rfl) T.b_sum PyProof.Rows.boot_sum (pa_cons (pv 8) pa_nil)) pa_nil)))) (blkOk_by (own := [("_law_goal", 15)]) (N := n69) (sc := C8.fnScope (topS 69)) (by decide +kernel)) (fun _ _ _ _ _ => pg_name (i := 15) nd rfl (Or.inl rfl))
          (fun _ _ _ _ _ => pts_one (pt_cmpR (r := rEqD K) (op_eqD hr.units) (C8.pe_c (ok_lkey T) hr (by decide) (by rfl) (pa_cons (pv 5) (pa_cons (pv 6) (pa_cons (pv 15) pa_nil)))) (C8.pe_c (ok_lkey T) hr (by decide) (by rfl) (pa_cons (pv 5) (pa_cons (pv 6) (pa_cons (pv 8) pa_nil)))) (nomark _))) (fun _ _ _ _ _ => pv 15))
      (pss_cons (ps_set (i := 10) nd rfl (.inl rfl) (pe_cmpR (op_neD hr.units) (pv 9) (pe_lst pa_nil) (nomark _)))
      (pss_cons (ps_if (pt_cmpR op_ne (pe_callB (cr_reprD hg hr.units) (by rfl) T.b_repr PyProof.Rows.boot_repr (pa_cons (pe_lst (pa_cons (C8.pe_c (ok_is_free T) hr (by decide) (by rfl) (pa_cons (pv 3) (pa_cons (pv 8) pa_nil))) (pa_cons (pe_kal (kal_is_free T W.kF) hr (by decide) (by rfl) (pk_cons (pv 8) (pk_cons (pv 3) pk_nil))) pa_nil))) pa_nil)) (pe_callB (cr_reprD hg hr.units) (by rfl) T.b_repr PyProof.Rows.boot_repr (pa_cons (pe_lst (pa_cons (pv 10) (pa_cons (pv 10) pa_nil))) pa_nil)) (nomark _)) (pss_one (ps_ret pe_bl)) pss_nil)
      (pss_cons (ps_for PassesOwn.never rfl (pi_list (pe_lst (pa_cons (C8.pe_c (ok_free_heap T) hr (by decide) (by rfl) (pa_cons (pv 3) (pa_cons (pv 8) pa_nil))) (pa_cons (pe_kal (kal_free_heap T W.kH) hr (by decide) (by rfl) (pk_cons (pv 8) (pk_cons (pv 3) pk_nil))) pa_nil)))) (pg_name (i := 11) nd rfl (.inl rfl))
        (pss_cons (ps_if (PW.pt (pw_or (PW.pt (pw_and (pt_val (pv 10)) (pw_and1 (pt_cmpR (op_notInD (room65 hr)) (pv 11) (pv 9) (by rfl))))) (pw_or1 (PW.pt (pw_and (pt_not (pt_val (pv 10))) (pw_and1 (pt_cmpR op_notN (pv 11) pe_non (by rfl)))))))) (pss_one (ps_ret pe_bl)) pss_nil)
        (pss_one (ps_if (PW.pt (pw_and (pt_val (pv 10)) (pw_and1 (pt_cmpR op_isN (C8.pe_c (ok_ldoings T) hr (by decide) (by rfl) (pa_cons (pv 1) (pa_cons (pv 2) (pa_cons (pv 8) (pa_cons (pv 11) pa_nil))))) pe_non (by rfl))))) (pss_one (ps_ret pe_bl)) pss_nil))))
      (pss_cons (ps_set (i := 12) nd rfl (.inl rfl) (C8.pe_c (ok_one_of T) hr (by decide) (by rfl) (pa_cons (pv 0) (pa_cons (pv 1) pa_nil))))
      (pss_cons (ps_if (pt_cmpR op_ne (pe_cmpR op_ge (pe_ix ix_tup (C8.pe_c (ok_least_heap T) hr (by decide) (by rfl) (pa_cons (pv 3) (pa_cons (pv 8) (pa_cons (pv 12) pa_nil)))) (pe_m1 PySem.F.slot_str_index PySem.F.type_str_index mt_sindex (pv 1) (pv 12)) (fun _ _ => rfl)) pe_int (nomark _)) (pv 10) (nomark _)) (pss_one (ps_ret pe_bl)) pss_nil)
      (pss_cons (ps_set (i := 13) nd rfl (.inl rfl) (C8.pe_c (ok_dip T) hr (by decide) (by rfl) (pa_cons (pv 0) (pa_cons (pv 4) pa_nil))))
      (pss_cons (ps_set (i := 14) nd rfl (.inl rfl) (pe_op op_catA (pe_op op_catA (pe_slice sl_tupA (pv 8) po_none (po_some (pv 13))) (pe_tup (pa_cons (pe_op op_add (pe_ix ix_tup (pv 8) (pv 13) (fun _ _ => rfl)) pe_int) pa_nil))) (pe_slice sl_tupA (pv 8) (po_some (pe_op op_add (pv 13) pe_int)) po_none)))
      (pss_one (ps_if (PW.pt (pw_and (pt_val (pv 10)) (pw_and (pt_cmpR op_lt (pe_callB (cr_sumT rfl) (by rfl) T.b_sum PyProof.Rows.boot_sum (pa_cons (pv 8) pa_nil)) pe_int (nomark _)) (pw_and1 (pt_not (pt_val (C8.pe_c (ok_is_free T) hr (by decide) (by rfl) (pa_cons (pv 3) (pa_cons (pv 14) pa_nil))))))))) (pss_one (ps_ret pe_bl)) pss_nil)))))))))))))
    (pss_one (ps_ret pe_bl))))), ?_⟩
  have one : EpW (tCall (PrW spOneOf) [] C8.E0 (tCons (tVar 0) (tCons (tLst (tCons (tC (.int 1)) (tCons (tC (.int 2)) (tCons (tC (.int 3)) (tCons (tC (.int 3)) (tCons (tC (.int 4)) (tCons (tC (.int 4)) tNil))))))) tNil))) (L2.start n69 [.ref aw]) B aw (fun u _ => ∃ n : Nat, u = .int ((n : Nat) : Int) ∧ 1 ≤ n ∧ n ≤ 4) :=
    (epw_call2 (pre := spOneOf) (P := fun u _ => ∃ x ∈ ([1, 2, 3, 3, 4, 4] : List Int), u = .int x) (ev_var 0 rfl) (epw_of (ed_lst (ds := ([1, 2, 3, 3, 4, 4] : List Int).map .int) (ea_cons (int_ed ev_c) (ea_cons (int_ed ev_c) (ea_cons (int_ed ev_c) (ea_cons (int_ed ev_c) (ea_cons (int_ed ev_c) (ea_cons (int_ed ev_c) ea_nil)))))) (by decide))) fun y B' _ hy => .inl ⟨_, y, rfl, hy, by decide, by decide, rfl⟩).imp fun u B' _ ⟨x, hx, e⟩ => by
      simp only [List.mem_cons, List.not_mem_nil, or_false] at hx
      rcases hx with rfl | rfl | rfl | rfl | rfl | rfl
      · exact ⟨1, e, by decide, by decide⟩
      · exact ⟨2, e, by decide, by decide⟩
      · exact ⟨3, e, by decide, by decide⟩
      · exact ⟨3, e, by decide, by decide⟩
      · exact ⟨4, e, by decide, by decide⟩
      · exact ⟨4, e, by decide, by decide⟩
  refine sw_unp (P := fun v B' => ∃ (pl : List Nat) (ts : List (Nat × Nat)) (a : Addr) (y : V), v = .ref a ∧ B' a = some (.tup [.str (Sx pl), y]) ∧ Dq B' y (.list (ts.map tieD)) ∧ OkPl pl ∧ OkTs pl ts ∧ Conn pl ts) (epw_call3R (ev_var 0 rfl) one (fun _ _ _ _ h => h) (epw_of ev_c) fun y z B' _ ⟨n, ey, h1, h2⟩ ez => ⟨_, ⟨n, by rw [ey, ez], h1, h2, rfl⟩, fun v B'' _ ⟨pl, ts, a, y, k1, k2, k3, k4, k5, k6, _⟩ => ⟨pl, ts, a, y, k1, k2, k3, k4, k5, k6⟩⟩) e k0 w0 fun v B1 H1 g1 ⟨pl, ts, a1, jv, ev1, ha1, hj, O, OT, hcn⟩ => ⟨a1, _, jv, ev1, ha1, ?_⟩
  have few := O.few
  have pos := O.pos
  have fewt := OT.few
  dsimp only [tSeq]
  refine s_par (A := fun vs B' => ∃ wv, vs = [wv, .int ((pl.length : Nat) : Int)] ∧ WebAt C B' wv pl ts) ?_ g1.s fun vs B2 H2 g2 ⟨wv, ew, hw⟩ => ⟨wv, _, ew, ?_⟩
  · intro B1' H1' a' b' Q' k'
    refine eap_cons (P := fun v B' => WebAt C B' v pl ts) (ep_web (ev_var 1 rfl) (ed_tupL (ed_var 2 rfl hj)) O OT) stb_web (eap_cons (P := fun v _ => v = .int ((pl.length : Nat) : Int)) (ev_is (ev_lenS (ev_var 1 rfl) (by rw [sx_len]; omega)) (by rw [sx_len])) (stb_eq _) eap_nil) B1' H1' a' b' Q' fun vs B2 H2 g2 ⟨v1, w1, e1, q1, v2, w2, e2, q2, e3⟩ => ?_
    subst e1; subst e2; subst e3; subst q2
    exact k' _ B2 H2 g2 ⟨_, rfl, q1⟩
  have Wc2 : Wc C B2 wv pl ts := ⟨⟨hw, O, OT⟩, hcn⟩
  have g2w := g2.w g1.k g1.w
  have hj2 := dp_ex g2.b hj
  have hdl : (pl.drop 1).length ≤ 3 := by rw [List.length_drop]; omega
  have hdl1 : (pl.drop 1).length + 1 = pl.length := by rw [List.length_drop]; omega
  have hMsq := lM_sq (pl := pl) fewt
  obtain ⟨_, hw0, hw1⟩ := lM_lin O OT hcn
  dsimp only
  refine s_unp (P := fun z B' => Dq B' z (.tuple [.list ((rests (pl.drop 1).length (lM pl ts)).map rD), .int (detF (pl.drop 1).length (lM pl ts))])) (ed_tup (ea_cons (ep_call2 (pre := spLRests) (ev_var 1 rfl) (stb_eq _) (ed_var 2 rfl hj2) fun x y B' _ e1 e2 => ⟨pl, ts, y, by rw [e1], e2, O, fewt, rfl⟩) (ea_cons (int_ed (ep_call1 (pre := spDet 3) (Pa := fun z B' => Dq B' z (.list ((lM pl ts).map rD))) (ep_call2 (pre := spLRows) (ev_var 1 rfl) (stb_eq _) (ed_var 2 rfl hj2) fun x y B' _ e1 e2 => ⟨pl, ts, y, by rw [e1], e2, O, fewt, rfl⟩) fun x B' _ hx => ⟨_, lM pl ts, x, rfl, hdl, by omega, hx, hMsq, rfl⟩)) ea_nil)) (by show 2 ≤ 100000; decide)) g2.s fun z B3 H3 g3 p3 => ?_
  obtain ⟨a3, rv, x6, ez, ha3, hrv, hx6⟩ := dq_two p3
  cases hx6
  refine ⟨a3, rv, _, ez, ha3, ?_⟩
  have g3w := g2w.tr (g3.w g2w.k g2w.w)
  have gB3 := g1.tr g3w
  have Wc3 := Wc2.mono g3.b
  have hj3 := dp_ex g3.b hj2
  dsimp only
  refine sw_for (aw := aw) (ei_rng1 (n := 4) (ea_cons (int_ed ev_c) ea_nil) (by decide) (by decide)) g3.s gB3.k gB3.w fun B4 H4 g4 => ⟨fun pre σ' B' H' => (∃ x7 x8 x9 x10 x11 x12 x13 x14 : Option V, σ' = [some (.ref aw), some (.str (Sx pl)), some jv, some wv, some (.int ((pl.length : Nat) : Int)), some rv, some (.int (detF (pl.drop 1).length (lM pl ts))), x7, x8, x9, x10, x11, x12, x13, x14, none]) ∧ GrW aw B H B' H' ∧ Evl.Ex B4 B', ⟨⟨none, none, none, none, none, none, none, none, rfl⟩, gB3.tr (g4.w gB3.k gB3.w), Evl.Ex.refl _⟩, fun _ _ _ _ h => ⟨h.2.2, h.2.1.s, h.2.1.k, h.2.1.w⟩, ?_, ?_⟩
  · rintro pre k post hpre σ' B' H' ⟨⟨x7, x8, x9, x10, x11, x12, x13, x14, rfl⟩, g5, ex5⟩ z B6 H6 g6 hz
    subst hz
    have g6w := g5.tr (g6.w g5.k g5.w)
    dsimp only [gName, tSeq]
    refine sw_set (P := fun u B' => ∃ D : List Int, Dq B' u (tD D) ∧ D.length = pl.length ∧ ∀ x ∈ D, -4 ≤ x ∧ x ≤ 5) (epw_call4 (pre := spPile) (ev_var 0 rfl) (ev_var 4 rfl) (stb_eq _) (ev_un (g := fun i => .int (-i)) (i := 4) ev_c) (stb_eq _) (ev_c (v := .int 5)) fun y z u B' _ e1 e2 e3 => ⟨pl.length, -4, 5, by rw [e1, e2, e3], few, by decide, by decide, by decide, rfl⟩) g6.s g6w.k g6w.w fun dv B7 H7 g7 ⟨D0, hd0, hD0l, hD0b⟩ => ?_
    obtain ⟨Di, dl, rfl⟩ : ∃ Di dl, D0 = Di ++ [dl] := ⟨D0.dropLast, D0.getLast (by intro z; rw [z] at hD0l; simp at hD0l; omega), (List.dropLast_concat_getLast _).symm⟩
    have hDil : Di.length + 1 = pl.length := by rw [← hD0l]; simp
    have hdlb := hD0b dl (by simp)
    have hDib : ∀ x ∈ Di, -4 ≤ x ∧ x ≤ 5 := fun x hx => hD0b x (by simp [hx])
    have hsb : -20 ≤ (Di ++ [dl]).sum ∧ (Di ++ [dl]).sum ≤ 25 := by
      have h1 := sum_bds hD0b
      have h2 : (Di ++ [dl]).length ≤ 4 := by rw [hD0l]; exact few
      omega
    have g7w := g6w.tr g7
    dsimp only
    refine sw_set (P := fun u B' => ∃ D : List Int, Dq B' u (tD D) ∧ D.length = pl.length ∧ (∀ x ∈ D, -100 ≤ x ∧ x ≤ 100) ∧ -2 ≤ D.sum ∧ D.sum ≤ 6) ((epw_cat1 (ds := Di.map .int) (S := fun i => ∃ d : Int, 0 ≤ d ∧ d < 9 ∧ i = dl + d - 2 - (Di ++ [dl]).sum) (ed_slT (ds := (Di ++ [dl]).map .int) (ed_var 8 rfl hd0) eo_no (eo_some (i := -1) (ev_un (g := fun i => .int (-i)) (i := 1) ev_c)) ?_) (epw_tup1 (epw_op (P := fun v _ => ∃ d : Int, v = .int (dl + d - 2) ∧ 0 ≤ d ∧ d < 9) (P' := fun v _ => v = .int (Di ++ [dl]).sum) (epw_op (P := fun v _ => ∃ d : Int, v = .int (dl + d) ∧ 0 ≤ d ∧ d < 9) (P' := fun v _ => v = .int 2) (epw_op (P := fun v _ => v = .int dl) (P' := fun v _ => ∃ d : Int, v = .int d ∧ 0 ≤ d ∧ d < 9) (epw_of (ed_int (ed_ixT (ed_var 8 rfl hd0) (ev_un (g := fun i => .int (-i)) (i := 1) ev_c) (by rw [List.map_append]; exact atI_last _ _)))) (epw_call2 (ev_var 0 rfl) (epw_of (ev_c (v := .int 9))) fun y B' _ hy => ⟨9, by rw [hy], by decide, by decide, rfl⟩) (stb_eq _) fun x y B' _ p ⟨d, e1, d0, d1⟩ => ?_) (epw_of ev_c) (fun _ _ _ _ h => h) fun x y B' _ ⟨d, e1, d0, d1⟩ p => ?_) (epw_of (ev_sumT (ed_var 8 rfl hd0))) (fun _ _ _ _ h => h) fun x y B' _ ⟨d, e1, d0, d1⟩ p => ?_)) ?_).imp fun u B' _ ⟨i, ⟨d, d0, d1, ei⟩, hu⟩ => ⟨Di ++ [i], by unfold tD; rw [List.map_append]; exact hu, by rw [List.length_append]; exact hDil, fun x hx => ?_, ?_⟩) g7.s g7w.k g7w.w fun dv2 B8 H8 g8 ⟨D, hd, hDl, hDb, hs0, hs1⟩ => ?_
    · rw [List.map_append]
      exact sl_but _ _
    · subst p; subst e1
      exact fun B1 H1 a1 b1 Q k => ⟨_, _, rfl, rfl, k _ B1 H1 (Gr.refl b1) ⟨d, rfl, d0, d1⟩⟩
    · subst p; subst e1
      exact fun B1 H1 a1 b1 Q k => ⟨_, _, rfl, rfl, k _ B1 H1 (Gr.refl b1) ⟨d, rfl, d0, d1⟩⟩
    · subst p; subst e1
      exact fun B1 H1 a1 b1 Q k => ⟨_, _, rfl, rfl, k _ B1 H1 (Gr.refl b1) ⟨_, rfl, d, d0, d1, rfl⟩⟩
    · rw [List.length_map]; omega
    · rcases List.mem_append.mp hx with hx | hx
      · have := hDib x hx; omega
      · rw [List.mem_singleton] at hx; subst hx; omega
    · rw [List.sum_append] at ei hsb ⊢
      simp only [List.sum_cons, List.sum_nil, Int.add_zero] at ei hsb ⊢
      omega
    have g8w := g7w.tr g8
    have eB : Evl.Ex B3 B8 := ((g4.b.trans ex5).trans g6.b).trans (g7.b.trans g8.b)
    have hrv8 := dp_ex eB hrv
    have Wc8 := Wc3.mono eB
    have hj8 := dp_ex eB hj3
    have hDk : ∀ x ∈ D, -(2 ^ 64) < x ∧ x < 2 ^ 64 := fun x hx => by have := hDb x hx; omega
    have keyOf : ∀ {σ0 : L2.St} {B0 : Hp} {te : TE} {l : List Int}, Evl.Ex B8 B0 → σ0[5]? = some (some rv) → σ0[6]? = some (some (.int (detF (pl.drop 1).length (lM pl ts)))) → Kx.Ed te σ0 B0 (tD l) → l.length = pl.length → (∀ x ∈ l, -(2 ^ 64) < x ∧ x < 2 ^ 64) →
        Kx.Ed (tCall (Pr spLKey) [] C8.E0 (tCons (tVar 5) (tCons (tVar 6) (tCons te tNil)))) σ0 B0 (keyD l.sum (mks pl ts l)) := fun {σ0 B0 te l} ex h5 h6 hl hll hlb =>
      ep_call3 (pre := spLKey) (ed_var 5 h5 (dp_ex ex hrv8)) (stb_dp _) (ev_var 6 h6) (stb_eq _) hl fun x y z B' _ e1 e2 e3 => ⟨(pl.drop 1).length, rests (pl.drop 1).length (lM pl ts), l, _, x, z, by rw [e2], e1, e3, by omega, by unfold rests; rw [List.length_map, List.length_range], fun r hr => by
        obtain ⟨j, _, rfl⟩ := List.mem_map.mp hr
        rw [List.length_map, List.length_range], by rw [hll, hdl1], hw0, hlb, rfl⟩
    dsimp only
    refine s_set (P := fun z B' => ∃ G : List (List Int), Goals pl ts D G ∧ Dq B' z (.list (G.map tD))) ((ed_lcR (S := fun L : List (List Int) => L.length ≤ 6561 ∧ ∀ l, l ∈ L ↔ (l.length = pl.length ∧ (∀ x ∈ l, 0 ≤ x) ∧ l.sum = D.sum)) (φ := tD) ((ep_call2 (pre := spLHeaps) (P := fun z B' => ∃ L : List (List Int), Dq B' z (.list (L.map tD)) ∧ L.length ≤ 6561 ∧ ∀ l, l ∈ L ↔ (l.length = pl.length ∧ (∀ x ∈ l, 0 ≤ x) ∧ l.sum = D.sum)) (ev_var 4 rfl) (stb_eq _) (ev_sumT (ed_var 8 rfl hd)) fun x y B' _ e1 e2 => ⟨pl.length, D.sum, by rw [e1, e2], few, by omega, rfl⟩).imp fun z B' _ ⟨L, h1, h2, h3⟩ => ⟨L, ⟨h2, h3⟩, h1⟩) (sameKey pl ts D) tD (fun L hL => by omega) fun L hL l x B9 hl e9 hx => ⟨_, tg_name 15, rfl, ?_, fun _ => ed_var 15 rfl hx⟩).imp fun z B' _ ⟨L, ⟨h1, h2⟩, h3⟩ => ⟨_, goals_of O OT hcn hDl h1 h2, h3⟩) g8.s fun gv B9 H9 g9 ⟨G, hG, hgv⟩ => ?_
    · obtain ⟨k1, k2, k3⟩ := (hL.2 l).mp hl
      have hlb : ∀ x ∈ l, -(2 ^ 64) < x ∧ x < 2 ^ 64 := fun x hx => by
        have h1 := k2 x hx
        have h2 := sum_ge (l := l) (f := fun x => x) k2 hx
        rw [List.map_id'] at h2
        omega
      exact et_test (ev_is (ev_eqD (keyOf e9 rfl rfl (ed_var 15 rfl hx) k1 hlb) (keyOf e9 rfl rfl (ed_var 8 rfl (dp_ex e9 hd)) hDl hDk) (key_shaped _ _) (key_shaped _ _)) (by rw [key_eqv]; rfl))
    have hfree := goals_free O OT hDl hG
    have g9w := g8w.tr (g9.w g8w.k g8w.w)
    dsimp only
    refine s_set (P := fun z _ => z = .bl (decide (G ≠ []))) (ev_is (ev_neD (ed_var 9 rfl hgv) (ed_lst ea_nil (by decide)) (tup_shapedL G) (by decide +kernel)) (by rw [eqv_nilL]; congr 1; cases G <;> simp)) g9.s fun z B10 H10 g10 p10 => ?_
    subst p10
    have g10w := g9w.tr (g10.w g9w.k g9w.w)
    generalize hdue : decide (G ≠ []) = due
    have hdueF : due = true ↔ Free pl ts (fnL pl D) := by rw [← hdue, decide_eq_true_eq]; exact hfree
    have hhp := fnL_hp O.nd hDl
    have hok : HpOk pl (fnL pl D) := hpok_of O.nd hDl fun x hx => by have := hDb x hx; omega
    have hsm : (pl.map (fnL pl D)).sum = D.sum := by rw [fnL_map O.nd hDl]
    have eB10 : Evl.Ex B8 B10 := g9.b.trans g10.b
    have Wc10 := Wc8.mono eB10
    have hd10 : Dq B10 dv2 (hpT pl (fnL pl D)) := by rw [hhp]; exact dp_ex eB10 hd
    have free1 : ∀ {σ0 : L2.St} {B0 : Hp}, Evl.Ex B10 B0 → σ0[3]? = some (some wv) → σ0[8]? = some (some dv2) → Kx.Ev (tCall (Pr (spFree C)) [] C8.E0 (tCons (tVar 3) (tCons (tVar 8) tNil))) σ0 B0 (.bl due) := fun {σ0 B0} ex h3 h8 =>
      (ep_call2 (pre := spFree C) (P := fun z _ => ∃ b : Bool, z = .bl b ∧ (b = true ↔ Free pl ts (fnL pl D))) (ep_var 3 h3 (Wc10.mono ex) stb_wc) stb_wc (ed_var 8 h8 (dp_ex ex hd10)) fun x y B' _ e1 e2 => ⟨pl, ts, x, y, fnL pl D, rfl, e1, e2, hok, by rw [hsm]; omega, rfl⟩).imp fun z B' _ ⟨b, h1, h2⟩ => by
        rw [h1]; congr 1
        rw [Bool.eq_iff_iff, h2, hdueF]
    have free2 : Kx.Ev (tCallK (Pr (spFree C)) (fun us ws => us ++ ws.reverse) C8.E0 tNil (tCons (tVar 8) (tCons (tVar 3) tNil))) [some (.ref aw), some (.str (Sx pl)), some jv, some wv, some (.int ((pl.length : Nat) : Int)), some rv, some (.int (detF (pl.drop 1).length (lM pl ts))), some (.int ((k : Nat) : Int)), some dv2, some gv, some (.bl due), x11, x12, x13, x14, none] B10 (.bl due) :=
      (ep_callK (pre := spFree C) (P := fun z _ => ∃ b : Bool, z = .bl b ∧ (b = true ↔ Free pl ts (fnL pl D))) (ed_var 8 rfl hd10) (stb_dp _) (ep_var 3 rfl Wc10 stb_wc) fun x y B' _ e1 e2 => ⟨pl, ts, y, x, fnL pl D, rfl, e2, e1, hok, by rw [hsm]; omega, rfl⟩).imp fun z B' _ ⟨b, h1, h2⟩ => by
        rw [h1]; congr 1
        rw [Bool.eq_iff_iff, h2, hdueF]
    have rep : ∀ {σ0 : L2.St} {B0 : Hp} {te : TE}, Kx.Ed te σ0 B0 (.list [.bool due, .bool due]) → Kx.Ev (tCB (rReprD K) (tCons te tNil)) σ0 B0 (.str (PyData.shown (.list [.bool due, .bool due]))) := fun h => ev_repr h ⟨_, .inl rfl⟩ (by cases due <;> decide +kernel) (by cases due <;> decide +kernel) (by cases due <;> decide +kernel) (by cases due <;> decide +kernel)
    dsimp only
    refine s_if (b := false) (et_test (ev_is (ev_ne (rep (ed_lst (ea_cons (bl_ed (free1 (Evl.Ex.refl _) rfl rfl)) (ea_cons (bl_ed free2) ea_nil)) (by show 2 ≤ 100000; decide))) (rep (ed_lst (ea_cons (bl_ed (ev_var 10 rfl)) (ea_cons (bl_ed (ev_var 10 rfl)) ea_nil)) (by show 2 ≤ 100000; decide))) rfl) (by simp))) g10.s (fun z => nomatch z) fun _ B11 H11 g11 => ?_
    have g11w := g10w.tr (g11.w g10w.k g10w.w)
    have Wc11 := Wc10.mono g11.b
    have hd11 := dp_ex g11.b hd10
    have hgv11 := dp_ex (g10.b.trans g11.b) hgv
    have hj11 := dp_ex (eB10.trans g11.b) hj8
    dsimp only [tNext, tSeq]
    refine s_forD (S := fun ds => ∀ d ∈ ds, ToldD pl ts (fnL pl D) d) (ep_lst2R ((ep_call2 (pre := spFreeHeap C) (P := Wd pl ts (fnL pl D)) (ep_var 3 rfl Wc11 stb_wc) stb_wc (ed_var 8 rfl hd11) fun x y B' _ e1 e2 => ⟨pl, ts, x, y, fnL pl D, rfl, e1, e2, hok, by rw [hsm]; omega, rfl⟩).imp fun z B' _ h => told_of h) ((ep_callK (pre := spFreeHeap C) (P := Wd pl ts (fnL pl D)) (ed_var 8 rfl hd11) (stb_dp _) (ep_var 3 rfl Wc11 stb_wc) fun x y B' _ e1 e2 => ⟨pl, ts, y, x, fnL pl D, rfl, e2, e1, hok, by rw [hsm]; omega, rfl⟩).imp fun z B' _ h => told_of h)) g11.s fun ds hds B12 H12 g12 => ⟨fun pre σ' B' H' => (∃ x11 : Option V, σ' = [some (.ref aw), some (.str (Sx pl)), some jv, some wv, some (.int ((pl.length : Nat) : Int)), some rv, some (.int (detF (pl.drop 1).length (lM pl ts))), some (.int ((k : Nat) : Int)), some dv2, some gv, some (.bl due), x11, x12, x13, x14, none]) ∧ Gr B12 H12 B' H', ⟨⟨x11, rfl⟩, Gr.refl g12.s⟩, fun _ _ _ _ h => ⟨h.2.b, h.2.s⟩, ?_, ?_⟩
    · rintro pre' d post' hpre' σ' B' H' ⟨⟨y11, rfl⟩, g13⟩ z B13 H13 g14 hz
      have hT := hds d (by rw [hpre']; simp)
      have ex13 : Evl.Ex B11 B13 := (g12.tr (g13.tr g14)).b
      have hsd : SeqAt.shaped d = true := by
        rcases hT with ⟨_, rfl⟩ | ⟨E, rfl, _⟩
        · decide +kernel
        · rw [hpT_map]; exact shaped_intsT _
      dsimp only [gName]
      refine s_if (b := false) (et_is (et_or (et_and (et_B (ev_var 10 rfl)) fun _ => et_test (ev_notInD (ed_var 11 rfl hz) (ed_var 9 rfl (dp_ex ex13 hgv11)) hsd (tup_shapedL G))) fun _ => et_and (et_not (et_B (ev_var 10 rfl))) fun _ => et_test (ev_notN (P := fun v _ => v = z) (ev_var 11 rfl) (decide (z = .non)) fun v B' h => by rw [h])) ?_) g14.s (fun z => nomatch z) fun _ B15 H15 g15 => ?_
      · cases hdd : due with
        | true =>
          rw [hdd] at hdueF
          have hF := hdueF.mp rfl
          rcases hT with ⟨h1, _⟩ | ⟨E, rfl, hA, hE⟩
          · exact (h1 hF).elim
          · have hin := (goal_of_free O OT hDl hG hA hE).1
            have : ((G.map tD).any fun z => PyData.eqv z (hpT pl E)) = true := by
              rw [List.any_eq_true]
              exact ⟨tD (pl.map E), List.mem_map.mpr ⟨_, hin, rfl⟩, by rw [hpT_map]; show PyData.eqv (.tuple _) (.tuple _) = true; rw [eqv_intsT]; simp⟩
            rw [this]; rfl
        | false =>
          rw [hdd] at hdueF
          rcases hT with ⟨h1, rfl⟩ | ⟨E, rfl, hA, hE⟩
          · cases hz
            rfl
          · exact (nomatch hdueF.mpr ⟨E, hA, hE⟩)
      · have hz15 := dp_ex g15.b hz
        have ex15 := ex13.trans g15.b
        dsimp only [tNext]
        refine s_if (b := false) (et_is (et_and (b := false) (et_B (ev_var 10 rfl)) fun hdd => ?_) (by simp)) g15.s (fun z => nomatch z) fun _ B16 H16 g16 => ⟨B16, ⟨_, rfl⟩, (g13.tr g14).tr (g15.tr g16)⟩
        have hF := hdueF.mp hdd
        rcases hT with ⟨h1, _⟩ | ⟨E, rfl, hA, hE⟩
        · exact (h1 hF).elim
        obtain ⟨hin, hsE, hAE⟩ := goal_of_free O OT hDl hG hA hE
        have hEl : (pl.map E).length = pl.length := List.length_map _
        have bdD : ∀ j, bd 4294967296 (D.getD j 0) := fun j => by
          by_cases hj : j < D.length
          · have h1 := hDb _ (List.getElem_mem hj)
            rw [List.getD_eq_getElem?_getD, List.getElem?_eq_getElem hj]
            show bd _ D[j]
            unfold bd; omega
          · rw [List.getD_eq_getElem?_getD, List.getElem?_eq_none (by omega)]
            show bd _ 0
            unfold bd; omega
        have bdE : ∀ j, bd 4294967296 ((pl.map E).getD j 0) := fun j => by
          by_cases hj : j < (pl.map E).length
          · have h0 := ((hG.mem _).mp hin).2.1
            have h1 := h0 _ (List.getElem_mem hj)
            have h2 := sum_ge (l := pl.map E) (f := fun x => x) h0 (List.getElem_mem hj)
            rw [List.map_id'] at h2
            rw [List.getD_eq_getElem?_getD, List.getElem?_eq_getElem hj]
            show bd _ (pl.map E)[j]
            unfold bd; omega
          · rw [List.getD_eq_getElem?_getD, List.getElem?_eq_none (by omega)]
            show bd _ 0
            unfold bd; omega
        rw [hpT_map] at hz15
        rw [hhp] at hd11
        refine et_test (ev_isN (P := fun z _ => z ≠ .non) (ep_call4 (pre := spLDo) (ev_var 1 rfl) (stb_eq _) (ed_var 2 rfl (dp_ex ex15 hj11)) (stb_dp _) (ed_var 8 rfl (dp_ex ex15 hd11)) (stb_dp _) (ed_var 11 rfl hz15) fun x y z u B' _ e1 e2 e3 e4 => ⟨pl, ts, D, pl.map E, y, z, u, by rw [e1], e2, e3, e4, O, fewt, hDl, hEl, fun j => ⟨bdD j, bdE j⟩, ⟨hw0, hw1⟩, doings_div O OT hcn hDl hEl hsE.symm hAE, hsE.symm, rfl⟩) false fun v B' h => decide_eq_false h)
    · rintro σ' B' H' ⟨⟨y11, rfl⟩, g13⟩
      have g13w := g11w.tr ((g12.tr g13).w g11w.k g11w.w)
      have ex13 : Evl.Ex B11 B' := (g12.tr g13).b
      dsimp only
      refine sw_set (P := fun u _ => ∃ c ∈ pl, u = .str (sg c)) (epw_call2 (pre := spOneOf) (ev_var 0 rfl) (epw_of (ev_var 1 rfl)) fun y B' _ hy => .inr ⟨pl, by rw [hy], by omega, by omega, rfl⟩) g13.s g13w.k g13w.w fun hv B14 H14 g14 ⟨c, hc, ec⟩ => ?_
      subst ec
      have g14w := g13w.tr g14
      have ex14 : Evl.Ex B11 B14 := ex13.trans g14.b
      have Wc14 := Wc11.mono ex14
      have hd14 := dp_ex ex14 hd11
      dsimp only
      have least : ∀ {σ0 : L2.St}, σ0[3]? = some (some wv) → σ0[8]? = some (some dv2) → σ0[12]? = some (some (.str (sg c))) → σ0[1]? = some (some (.str (Sx pl))) → Ep (tOp (rIxT K) (tCall (Pr (spLHeap C)) [] C8.E0 (tCons (tVar 3) (tCons (tVar 8) (tCons (tVar 12) tNil)))) (tM1 (fun x xs H Q => ∃ a b i rest, x = .str a ∧ xs = [.str b] ∧ Builtin.Str.occurrences a b 0 a.length 1 = i :: rest ∧ Q (.int (i : Nat)) H) (tVar 1) (tVar 12))) σ0 B14 (fun v _ => ∃ x : Int, v = .int x ∧ (0 ≤ x ↔ Free pl ts (fnL pl D))) := fun {σ0} h3 h8 h12 h1 => by
        obtain ⟨n, k1, k2, k3⟩ := idx_at O.nd hc
        refine ep_op (P := fun z B' => ∃ E, Dq B' z (hpT pl E) ∧ Alike pl ts (fnL pl D) E ∧ Red pl ts c E) (P' := fun z _ => z = .int ((n : Nat) : Int)) (ep_call3 (pre := spLHeap C) (ep_var 3 h3 Wc14 stb_wc) stb_wc (ed_var 8 h8 hd14) (stb_dp _) (ev_var 12 h12) fun x y z B' _ e1 e2 e3 => ⟨pl, ts, x, y, c, fnL pl D, by rw [e3], e1, hc, e2, hok, rfl⟩) (ev_sindex (ev_var 1 h1) (ev_var 12 h12) k1 k3) (fun _ _ _ e h => h.imp fun E h => ⟨dp_ex e h.1, h.2⟩) fun x y B' _ ⟨E, p1, p2, p3⟩ ey => ?_
        subst ey
        have hfr := free_iff O.nd OT.mem hc p2 p3
        obtain ⟨a, xs, rfl, hs, hda⟩ := dp_tup p1
        obtain ⟨u, hu1, hu2⟩ := dpa_atI hda (at_map (φ := fun u => PyData.int (E u)) (i := ((n : Nat) : Int)) rfl k1)
        cases hu2
        exact fun B1 H1 a1 b1 Q k => ⟨a, xs, _, _, rfl, rfl, SqT.of (b1 _ _ (a1 _ _ hs)), hu1, k _ B1 H1 (Gr.refl b1) ⟨E c, rfl, hfr.symm⟩⟩
      refine s_if (b := false) (et_test (ev_is (ev_ne (x := .bl due) (y := .bl due) ((ep_op (P := fun v _ => ∃ x : Int, v = .int x ∧ (0 ≤ x ↔ Free pl ts (fnL pl D))) (P' := fun v _ => v = .int 0) (least rfl rfl rfl rfl) ev_c (fun _ _ _ _ h => h) fun x y B' _ ⟨i, ei, hi⟩ ey => ?_)) (ev_var 10 rfl) rfl) (by simp))) g14.s (fun z => nomatch z) fun _ B15 H15 g15 => ?_
      · subst ei; subst ey
        exact fun B1 H1 a1 b1 Q k => ⟨i, 0, rfl, rfl, k _ B1 H1 (Gr.refl b1) (by
          show V.bl (decide (0 ≤ i)) = V.bl due
          congr 1
          rw [Bool.eq_iff_iff, decide_eq_true_eq, hdueF, ← hi])⟩
      have g15w := g14w.tr (g15.w g14w.k g14w.w)
      dsimp only [tNext, tSeq]
      refine sw_set (P := fun v _ => ∃ j : Nat, v = .int ((j : Nat) : Int) ∧ j < pl.length) ((epw_call2 (pre := spDip) (P := fun v _ => ∃ d : Int, v = .int d ∧ 0 ≤ d ∧ d < ((pl.length : Nat) : Int)) (ev_var 0 rfl) (epw_of (ev_var 4 rfl)) fun y B' _ hy => ⟨((pl.length : Nat) : Int), by rw [hy], by omega, by omega, rfl⟩).imp fun v B' _ ⟨d, e1, d0, d1⟩ => ⟨d.toNat, by rw [e1, Int.toNat_of_nonneg d0], by omega⟩) g15.s g15w.k g15w.w fun kv B16 H16 g16 ⟨j, ej, hj⟩ => ?_
      subst ej
      have g16w := g15w.tr g16
      have ex16 : Evl.Ex B11 B16 := (ex14.trans g15.b).trans g16.b
      have hd16 : Dq B16 dv2 (tD D) := by rw [← hhp]; exact dp_ex ex16 hd11
      have Wc16 := Wc11.mono ex16
      have hjD : j < D.length := by omega
      have hDj : D[j]? = some (D.getD j 0) := by rw [List.getD_eq_getElem?_getD, List.getElem?_eq_getElem hjD]; rfl
      dsimp only
      refine s_set (P := fun z B' => Dq B' z (tD (moreL D j))) (ed_is (ed_catT (ed_catT (ed_slT (es := (D.take j).map .int) (ed_var 8 rfl hd16) eo_no (eo_some (i := ((j : Nat) : Int)) (ev_var 13 rfl)) (by rw [sl_to, List.map_take])) (ed_tup (ea_cons (int_ed (ev_I0 (g := fun i j => .int (i + j)) (ed_int (ed_ixT (ed_var 8 rfl hd16) (ev_var 13 rfl) (at_map rfl hDj))) (ev_c (v := .int 1)))) ea_nil) (by show 1 ≤ 100000; decide)) ?_) (ed_slT (es := (D.drop (j + 1)).map .int) (ed_var 8 rfl hd16) (eo_some (i := ((j + 1 : Nat) : Int)) (ev_is (ev_I0 (ev_var 13 rfl) ev_c) (by congr 1))) eo_no (by rw [sl_from, List.map_drop])) ?_) ?_) g16.s fun mv B17 H17 g17 p17 => ?_
      · rw [List.length_map, List.length_take]; show _ + 1 ≤ 100000; omega
      · rw [List.length_append, List.length_map, List.length_map, List.length_take, List.length_drop]; show _ + 1 + _ ≤ 100000; omega
      · unfold tD moreL
        rw [List.map_append, List.map_append]; rfl
      have g17w := g16w.tr (g17.w g16w.k g16w.w)
      have Wc17 := Wc16.mono g17.b
      have hd17 := dp_ex g17.b hd16
      have hml : (moreL D j).length = pl.length := by rw [moreL_eq hjD, List.length_set, hDl]
      have hms := moreL_sum hjD
      have hmb := moreL_mem hjD hDb
      have hokM : HpOk pl (fnL pl (moreL D j)) := hpok_of O.nd hml fun x hx => by have := hmb x hx; omega
      have hsmM : (pl.map (fnL pl (moreL D j))).sum = D.sum + 1 := by rw [fnL_map O.nd hml, hms]
      rw [← fnL_hp O.nd hml] at p17
      dsimp only
      refine s_if (b := false) (et_is (et_and (b := false) (et_B (ev_var 10 rfl)) fun hdd => et_is (et_and (b := false) (et_test (ev_I0 (ev_sumT (ed_var 8 rfl hd17)) (ev_c (v := .int 8)))) fun hlt => et_not (a := true) (et_B ((ep_call2 (pre := spFree C) (P := fun z _ => ∃ b : Bool, z = .bl b ∧ (b = true ↔ Free pl ts (fnL pl (moreL D j)))) (ep_var 3 rfl Wc17 stb_wc) stb_wc (ed_var 14 rfl p17) fun x y B' _ e1 e2 => ⟨pl, ts, x, y, _, rfl, e1, e2, hokM, by rw [hsmM]; omega, rfl⟩).imp fun z B' _ ⟨b, h1, h2⟩ => ?_))) (by simp)) (by simp)) g17.s (fun z => nomatch z) fun _ B18 H18 g18 => ?_
      · rw [h1]; congr 1
        exact h2.mpr (free_more (hdueF.mp hdd) fun u hu => moreL_get hjD _)
      · refine ⟨B18, ⟨_, _, _, _, _, _, _, _, rfl⟩, g17w.tr (g18.w g17w.k g17w.w), ?_⟩
        exact (((((ex5.trans g6.b).trans (g7.b.trans g8.b)).trans eB10).trans g11.b).trans ex16).trans (g17.b.trans g18.b)
  · rintro σ' B' H' ⟨⟨x7, x8, x9, x10, x11, x12, x13, x14, rfl⟩, g5, ex5⟩
    dsimp only
    refine s_ret ev_c g5.s fun v B7 H7 g7 p7 => q v B7 H7 (g5.tr (g7.w g5.k g5.w)) p7
end
end Kx

/-! KxG -/
namespace Kx
open PySem PySem.Spec PyProof.Rows L2
/-- a def's promise where no repr is under way -/
structure FnG (P : Program) (w : World) (K : PySem.W.Frag) (mg : Str → Option Value) (base : Heap) (k : Nat) (f : Addr) (fd : FuncData) (ps : List Str) (sp : Sp) : Prop where
  len : ∀ vs H Q E, sp vs H Q E → vs.length = ps.length
  run : ∀ (A : Around) (outer : List Env) (s : Shared) (H : Hp) (args : Args) (us : List Value) (vs : List V) (Q : VK) (E : XK), Room k A → A.guards = some [] → Env0 P w K mg base A outer s H → BindsTo s fd args (ps.zip us) → Vals vs us → sp vs H Q E →
    codeAny (model P w) A (.call (.ref f) args) (CR C8.CX0 outer P w H s Q E) s
theorem fn_g {P : Program} {w : World} {K : PySem.W.Frag} {mg : Str → Option Value} {base : Heap} {x qual : Str} {st : Stmt} {f : Addr} {fd : FuncData} {N ps : List Str} {k : Nat} {sp : Sp} (F : C8.Fun K x qual st f fd) (S : FnScope N ps (C8.fnScope st)) (len : ∀ vs H Q E, sp vs H Q E → vs.length = ps.length)
    (body : ∀ (cdv : Value) (A : Around) (outer : List Env) (s : Shared) (H : Hp) (vs : List V) (Q : VK) (E : XK), Room k (A.deeper (envOfC qual (C8.fnScope st) s.heap.objs.size f cdv)) → A.guards = some [] → sp vs H Q E →
      ∃ t, PSs (cxOf C8.CX0 P w K mg base N qual (C8.fnScope st) f cdv A outer s H E).nox (C8.fnBody st) t ∧ t { nx := fun _ H' => Q .non H', rt := Q } (start N vs) H) : FnG P w K mg base (k + 1) f fd ps sp := by
  obtain ⟨oc, od, dV, kV, doc, pm, an, cdv, ct, osl, rfl, lk, hcd⟩ := F.ex
  refine ⟨len, fun A outer s H args us vs Q E room gs env bind rel hsp => ?_⟩
  -- the heap at the call holds what the base holds
  have inK : K.In s.heap := env.mod.kin.keeps fun b o h => (env.bs b o h).1
  have noLim : s.heap.NoLimit := env.mod.nolimit.keeps fun b o h => (env.bs b o h).1
  have kinds : ∀ y ∈ ps.zip us, (C8.fnScope st).names.lookup y.1 = some .local ∨ ((C8.fnScope st).names.lookup y.1 = some .cell ∧ ((cellsFrom (s.heap.objs.size + 1) (C8.fnScope st).names []).lookup y.1).isSome = true) := by
    rintro ⟨n, v⟩ hy
    exact (S.par n (List.of_mem_zip hy).1).imp id fun c => ⟨c, PySem.W.cellsFrom_some _ _ _ (.inl c)⟩
  have hlen := len _ _ _ _ hsp
  obtain ⟨t, ht, hq⟩ := body cdv A outer s H vs Q E (room.deeper _) gs hsp
  refine codeAny_call_function room.depth (inK _ _ lk) rfl S.co S.gen rfl (PySem.W.codeRec_of inK hcd) (bind _ _ _ _ (wpAny_newFunctionEnv_cells S.kind kinds fun e1 he s1 inside => ?_))
  subst he
  refine ⟨noLim.keeps inside.toInCall.keep, codeAny_func ?_⟩
  have I := inv_start (CX := C8.CX0) (E := E) (cd := cdv) S room.hd env hlen rel inside
  have run := ht.nox.run [] s1 (start N vs) H _ I hq
  refine wpAny_mono run ?_ fun _ _ h => h
  intro flow s' ends
  cases flow with
  | ret u =>
    obtain ⟨v, _, H', J, rv, q⟩ := ends
    exact ⟨v, H', J.os, J.bare, J.base, J.hok, rv, q⟩
  | next =>
    obtain ⟨_, H', J, q⟩ := ends
    exact ⟨.non, H', J.os, J.bare, J.base, J.hok, rfl, q⟩
  | brk => obtain ⟨_, _, _, q⟩ := ends; exact q.elim
  | cont => obtain ⟨_, _, _, q⟩ := ends; exact q.elim
section
variable {X : Cx} {k : Nat} {f : Addr} {fd : FuncData} {ps : List Str} {sp : Sp} {x : Str} {p pos : Pos} {e : Expr} {es : List Expr} {t : TA}
theorem pe_callG (F : FnG X.prog X.w X.K X.mg X.base k f fd ps sp) (hr : Room k X.A) (gs : X.A.guards = some []) (hg : Gl X x) (hm : X.mg x = some (.ref f)) (hk : PySem.W.keepIn X.K (.ref f) = true) (hb : Binds X.K fd ps [])
    (ha : PA X (e :: es) t) (hdb : (x == ("__debug__" : Str)) = false := by decide) (he : starEach (e :: es) X.env = (false, eval e X.env) :: starEach es X.env := by rfl) (hpl : (backTo pos (starEach es X.env)).any (·.1) = false := by rfl) :
    PE X (.Call (.Name x p) (e :: es) [] pos) (tCall sp [] C8.E0 t) := by
  refine ⟨fun pins s σ H Q I want => wpAny_Call_Name_kw (ld_glob I hg hm ?_ hdb)⟩
  refine PySem.W.callWith_K (h₀ := X.base) I.ok.mod.kin hk (thn (ha.run pos pins s σ H _ I want) ?_) he hpl
  rintro us s1 ⟨vs, H1, J, rel, asked⟩
  refine ⟨J.kIn, ?_⟩
  have asked' : sp vs H1 Q C8.E0 := by
    have z : sp (vs ++ []) H1 Q C8.E0 := asked
    rwa [List.append_nil] at z
  have few : (us ++ []).length = ps.length := by rw [List.append_nil, ← rel.length]; exact F.len _ _ _ _ asked'
  have bound := hb s1 us J.kIn few
  rw [List.append_nil] at bound
  refine wpAny_call (codeAny_mono (F.run X.A X.stack s1 H1 ⟨us, []⟩ us vs Q C8.E0 hr gs J.env0 bound rel asked') fun out s' got => ?_)
  match out, got with
  | .error _, got => exact (C8.pass0 (X := X) (E := C8.E0)) pins σ H1 s1 _ s' J got
  | .ok (.ret _), got => exact J.after got
  | .ok .next, got => exact got.elim
  | .ok .brk, got => exact got.elim
  | .ok .cont, got => exact got.elim
end
end Kx

/-! KxG2 -/
namespace Kx
open PySem PySem.Spec PyProof.Rows L2
section
variable {P : Program} {w : World} {K : PySem.W.Frag} {mg mb : Str → Option Value} {k : Nat} {fa a : Addr} {fd : FuncData} {x : Str} {sp : Sp} {s₁ : Shared} {vs : List Value} {ns : List Int}
/-- the law called by the claim: no repr is under way there -/
theorem law_g (KX : K.In s₁.heap) (hns : s₁.heap.Ns mainGlobals mg) (hb : s₁.heap.Ns builtinsNs mb) (hbb : ∀ x : Str, x ≠ "__name__" → mb x = bootBuiltins x) (hlim : s₁.heap.NoLimit) (hg : s₁.gens = #[])
    (ha : s₁.heap.get? a = some { cls := .type "list", data := .seq vs.toArray }) (hi : IntsAre vs ns) (hl : ns.length ≤ sizeLine) (hr : Room k callerA)
    (F : ∀ base : Heap, K.In base → base.Ns mainGlobals mg → FnG P w K mg base k fa fd [x] sp) (hbind : ∀ (s : Shared) (u : Value), BindsTo s fd ⟨[u], []⟩ [(x, u)])
    (hsp : ∀ H : Hp, SqL K H a (ns.map V.int) → sp [.ref a] H (fun v _ => v = .bl true) C8.E0) :
    codeAny (model P w) callerA (.call (.ref fa) ⟨[.ref a], []⟩) (fun r s' => r = .ok (.ret (.bool true)) ∧ OldK s₁.heap s'.heap ∧ s'.os = s₁.os ∧ AllBare s'.gens) s₁ := by
  have items := vals_ints hi
  have size : vs.length = ns.length := by have := hi.length; omega
  -- one tracked object at most, the script
  have once : ∀ H : Hp, SqL K H a (ns.map V.int) → HOk P w H s₁.heap → (∀ b u, H b = some u → b = a ∧ u = .frz { cls := .type "list", data := .seq vs.toArray } (.lst (ns.map V.int)) ∧ K.lookup a = none) →
      codeAny (model P w) callerA (.call (.ref fa) ⟨[.ref a], []⟩) (fun r s' => r = .ok (.ret (.bool true)) ∧ OldK s₁.heap s'.heap ∧ s'.os = s₁.os ∧ AllBare s'.gens) s₁ := by
    intro H hS hok one
    have at_a : ∀ {b o}, s₁.heap.get? b = some o → H b ≠ none → o = { cls := .type "list", data := .seq vs.toArray } ∧ K.lookup b = none := by
      intro b o e hne
      cases q : H b with
      | none => exact (hne q).elim
      | some u =>
        obtain ⟨rfl, _, h3⟩ := one b u q
        rw [ha] at e
        exact ⟨(Option.some.inj e).symm, h3⟩
    have free_of : ∀ {b o es ep}, s₁.heap.get? b = some o → o.data = .dict es ep → H b = none := by
      intro b o es ep e d
      cases q : H b with
      | none => rfl
      | some u =>
        have := (at_a e (by rw [q]; exact fun z => nomatch z)).1
        rw [this] at d
        cases d
    have space : ∀ {b m}, s₁.heap.Ns b m → (hidT s₁.heap H).Ns b m := fun ⟨o, es, ep, e, d, r⟩ => ⟨o, es, ep, hidT_get e (free_of e d), d, r⟩
    have inBase : K.In (hidT s₁.heap H) := by
      intro b o e
      refine hidT_get (KX b o e) ?_
      cases q : H b with
      | none => rfl
      | some u =>
        have := (at_a (KX b o e) (by rw [q]; exact fun z => nomatch z)).2
        rw [this] at e
        cases e
    obtain ⟨mc, l1, l2⟩ := hlim
    have md : Mod K mg (hidT s₁.heap H) := ⟨inBase, space hns, ⟨mb, space hb, hbb⟩, mc, space l1, l2⟩
    have none_out : ∀ b, b ∉ ([] : List Addr) := fun b h => nomatch h
    have env : Env0 P w K mg (hidT s₁.heap H) callerA [] s₁ H := ⟨rfl, md, fun b o e => of_hidT e, Nat.le_of_eq (hidT_size _ _), trivial, fun b h => (none_out b h).elim, hok, .of_eq hg⟩
    refine codeAny_mono ((F _ inBase (space hns)).run callerA [] s₁ H ⟨[.ref a], []⟩ [.ref a] [.ref a] _ _ hr rfl env (hbind s₁ (.ref a)) (.cons rfl .nil) (hsp H hS)) fun r s' h => ?_
    match r, h with
    | .error e, h => exact h.elim
    | .ok .next, h => exact h.elim
    | .ok .brk, h => exact h.elim
    | .ok .cont, h => exact h.elim
    | .ok (.ret u), ⟨v, H', os, bare, un, hok', rel, q⟩ =>
      have q : v = .bl true := q
      subst q
      obtain rfl : u = Value.bool true := rel
      refine ⟨rfl, OldK.of_keep fun b o e => ?_, os, bare⟩
      cases z : H b with
      | none => exact un.keep b o e z (none_out b) (none_out b)
      | some u =>
        obtain ⟨rfl, rfl, _⟩ := one b u z
        obtain ⟨k1, _⟩ := hok _ _ z
        obtain ⟨k2, _⟩ := hok' _ _ (un.frzs _ _ _ z)
        rw [e] at k1
        cases k1
        exact k2
  cases hk : K.lookup a with
  | some o =>
    have e := KX a o hk
    rw [ha] at e
    cases e
    refine once (fun _ => none) (.inr ⟨_, vs.toArray, _, hk, rfl, rfl, rfl, ?_, by simpa using items⟩) (fun b u z => nomatch (show (none : Option HO) = some u from z)) fun b u z => nomatch (show (none : Option HO) = some u from z)
    rw [List.size_toArray, size]; exact hl
  | none =>
    have here : (fun b => if b = a then some (HO.frz { cls := .type "list", data := .seq vs.toArray } (.lst (ns.map V.int))) else none : Hp) a = some (.frz { cls := .type "list", data := .seq vs.toArray } (.lst (ns.map V.int))) := if_pos rfl
    have only : ∀ b u, (fun b => if b = a then some (HO.frz { cls := .type "list", data := .seq vs.toArray } (.lst (ns.map V.int))) else none : Hp) b = some u → b = a ∧ u = .frz { cls := .type "list", data := .seq vs.toArray } (.lst (ns.map V.int)) := by
      intro b u z
      dsimp only at z
      split at z
      · rename_i hb; exact ⟨hb, (Option.some.inj z).symm⟩
      · cases z
    refine once _ (.inl (.inr ⟨_, here⟩)) (fun b u z => ?_) fun b u z => ⟨(only b u z).1, (only b u z).2, hk⟩
    obtain ⟨rfl, rfl⟩ := only b u z
    exact ⟨ha, by rw [List.length_map]; exact hl, vs, _, items, ha⟩
end
/-- what k_head leaves, from the law's promise -/
theorem walk_g {l : PySem.W.OpenLaw} {n k : Nat} {q : Program} {loose : List Str} {XP : (Str → Option Value) → Heap → Prop} {YP : World → Heap → Prop} {d : DefRec} {K : Params → PySem.W.Frag} {sp : World → Sp} {x : Str}
    (hn : l.most = some n) (hn2 : n ≤ sizeLine) (hdf : d.params.defaults = []) (hr : Room k callerA)
    (hY : ∀ (w : World) (h : Heap), YP w h → (K w.params).In h)
    (F : ∀ (w : World) (mg : Str → Option Value) (fa : Addr) (h : Heap), (K w.params).In h → h.Ns mainGlobals mg → mg d.name = some (.ref fa) →
      ∃ fd : FuncData, (∀ (s : Shared) (u : Value), BindsTo s fd ⟨[u], []⟩ [(x, u)]) ∧
        ∀ base : Heap, (K w.params).In base → base.Ns mainGlobals mg → FnG l.prog w (K w.params) mg base k fa fd [x] (sp w))
    (hsp : ∀ (w : World) (H : Hp) (a : Addr) (ns : List Int), ns.length ≤ n → SqL (K w.params) H a (ns.map V.int) → sp w [.ref a] H (fun v _ => v = .bl true) C8.E0) :
    PySem.W.WalkO q loose XP YP l.row.toRowW d [] (fun f vs => PySem.call f vs) :=
  Att.attach_call hn hdf fun w s₀ s₁ mg mb fa o pm cd doc a vs ns G Y ho hd hcd hmg hobj hints hlen hg => by
    obtain ⟨fd, hb, hF⟩ := F w mg fa _ (hY w _ Y) G.T.g hmg
    exact law_g (hY w _ Y) G.T.g G.T.b G.T.builtins G.T.nolimit hg hobj hints (Nat.le_trans hlen hn2) hr hF hb fun H hS => hsp w H a ns hlen hS
end Kx

/-! Ke1 -/
namespace Kx
open PySem PySem.Spec PyProof.Rows L2
/-- a list of the caller's, read only -/
def Kq (K : PySem.W.Frag) (B : Hp) (a : Addr) (xs : List V) : Prop := ∀ B1 H1, Evl.Ex B B1 → Sub B1 H1 → SqL K H1 a xs
theorem Kq.mono {K : PySem.W.Frag} {B B' : Hp} {a : Addr} {xs : List V} (h : Kq K B a xs) (e : Evl.Ex B B') : Kq K B' a xs := fun B1 H1 a b => h B1 H1 (e.trans a) b
theorem kq_of {K : PySem.W.Frag} {H : Hp} {a : Addr} {xs : List V} (h : SqL K H a xs) : ∃ B, Sub B H ∧ Kq K B a xs := by
  cases z : H a with
  | none =>
    refine ⟨fun _ => none, fun b u q => (nomatch (show (none : Option HO) = some u from q)), fun B1 H1 _ _ => ?_⟩
    rcases h with h | h
    · rcases h with h | ⟨o, h⟩ <;> rw [z] at h <;> cases h
    · exact .inr h
  | some u =>
    have hs : ∀ (B1 H1 : Hp), B1 a = some (wat u) → Sub B1 H1 → SqL K H1 a xs := fun B1 H1 k s => by
      have k2 : H1 a = some u := s a _ k
      rcases h with h | h
      · rcases h with h | ⟨o, h⟩ <;> rw [z] at h <;> cases h
        · exact .inl (.inl k2)
        · exact .inl (.inr ⟨_, k2⟩)
      · exact .inr h
    refine ⟨upd (fun _ => none) a (wat u), fun b v q => ?_, fun B1 H1 e s => hs B1 H1 (e a _ upd_same) s⟩
    by_cases hb : b = a
    · subst hb; rw [upd_same] at q; cases q; exact z
    · rw [upd_ne hb] at q; cases q
section
variable {K : PySem.W.Frag} {σ : L2.St} {B : Hp} {ta tb te : TE} {a : Addr} {ns : List Int}
theorem ev_ixQ {i c : Int} (hq : Kq K B a (ns.map V.int)) (ha : Kx.Ev ta σ B (.ref a)) (hb : Kx.Ev tb σ B (.int i)) (hi : atI (ns.map V.int) i = some (.int c)) : Kx.Ev (tOp (rIxL K) ta tb) σ B (.int c) :=
  ep_op ha hb (stb_eq _) fun x y B' e p q B1 H1 a1 b1 Q k => by
    subst p; subst q
    exact ⟨a, _, i, _, rfl, rfl, hq B1 H1 (e.trans a1) b1, hi, k _ B1 H1 (Gr.refl b1) rfl⟩
theorem ev_lenQ (hq : Kq K B a (ns.map V.int)) (h : Kx.Ev te σ B (.ref a)) : Kx.Ev (tCB (rLenS K) (tCons te tNil)) σ B (.int (ns.length : Int)) :=
  ep_cb (eap_cons h (stb_eq _) eap_nil) fun vs B1 H1 a1 b ⟨v, ws, e1, e2, e3⟩ Q q => by
    subst e1; subst e2; subst e3
    exact ⟨a, _, rfl, .inl (hq B1 H1 a1 b), q _ B1 H1 (Gr.refl b) (by rw [List.length_map])⟩
theorem ed_slQ {th : TO} {k : Nat} (hq : Kq K B a (ns.map V.int)) (h : Kx.Ev te σ B (.ref a)) (hh : EpO th σ B (some ((k : Nat) : Int))) : Kx.Ed (tSl (rSlL K) te tNoPart th) σ B (.list ((ns.take k).map .int)) := fun B1 H1 a1 b Q q =>
  h B1 H1 a1 b _ fun v B2 H2 g2 p2 => hh B2 H2 (a1.trans g2.b) g2.s _ fun B4 H4 g4 => by
    subst p2
    have gx := g2.tr g4
    have hc := dpa_cut none (some ((k : Nat) : Int)) (ints_dpa (B := B4) ns)
    rw [sl_to, ← List.map_take] at hc
    exact ⟨a, _, rfl, hq B4 H4 (a1.trans gx.b) g4.s, fun p hp => gr_newL g4.s hc (fun v B5 H5 g5 p5 => q v B5 H5 (gx.tr g5) p5) hp⟩
end
section
variable {P : Program} {w : World} {K : PySem.W.Frag} {mg : Str → Option Value} {base : Heap} {C : Addr}
def spWell (K : PySem.W.Frag) : Sp := fun vs H Q _ => ∃ (B : Hp) (a : Addr) (ns : List Int) (k : Nat), vs = [.ref a, .int ((k : Nat) : Int)] ∧ Sub B H ∧ Kq K B a (ns.map V.int) ∧ k ≤ 3 ∧ ∀ aw B' H', Gr B H B' H' → H aw = none → B' aw = none → Wl H' aw → Q (.ref aw) H'
abbrev n55 : List Str := ["_law_script", "_law_k", "_law_cell", "_law_stirred", "_law_each"]
theorem sc_well : FnScope n55 ["_law_script", "_law_k"] (C8.fnScope (topS 55)) := C8.fnScope_by (by decide +kernel)
theorem ok_well (T : Tx K mg C) : C8.Cal P w K mg base 1 "_law_well" (spWell K) [] := by
  obtain ⟨f, fd, D, hb⟩ := T.well.ex
  refine C8.cal0 D hb .nil sc_well (fun vs H Q E h => ?_) (fun cdv A outer s H vs Q E hr h => ?_)
  · obtain ⟨B, a, ns, k, rfl, _⟩ := h; rfl
  obtain ⟨B, a, ns, k, rfl, e, hq, hk, q⟩ := h
  have nd := sc_well.nd
  refine ⟨_, pss_cons (ps_set (i := 2) nd rfl (.inl rfl) (pe_ifExp (pt_cmpR op_lt (pv 1) (pe_callB call_len_seq (by rfl) T.b_len boot_len (pa_cons (pv 0) pa_nil)) (nomark _)) (pe_ix ix_list (pv 0) (pv 1) (fun _ _ => rfl)) (pe_op op_add (pe_op op_mul pe_int (pv 1)) pe_int)))
    (pss_cons (ps_set (i := 3) nd rfl (.inl rfl) (pe_op op_add pe_int (pe_op op_mul pe_int (pv 1))))
    (pss_cons (ps_for PassesOwn.never rfl (pi_list (pe_op op_cat (pe_slice sl_list (pv 0) po_none (po_some pe_int)) (pe_lst (pa_cons (pv 2) pa_nil)))) (pg_name (i := 4) nd rfl (.inl rfl))
      (pss_one (ps_set (i := 3) nd rfl (.inl rfl) (pe_op op_mod (pe_callTy call_int1 (by rfl) T.b_int PyProof.Rows.boot_int (pa_cons (pe_op op_add (pe_op op_add (pe_op op_mul (pv 3) pe_int) (pe_op op_mod (pe_callTy call_int1 (by rfl) T.b_int PyProof.Rows.boot_int (pa_cons (pv 4) pa_nil)) pe_int)) pe_int) pa_nil)) pe_int))))
    (pss_one (ps_ret (pe_lst (pa_cons (pe_ifExp (PW.pt (pw_or (pt_cmpR op_lt (pv 2) pe_int (nomark _)) (pw_or1 (pt_cmpR op_ge (pv 2) (pe_op op_pow pe_int pe_int) (nomark _))))) (pe_callB call_abs (by rfl) T.b_abs PyProof.Rows.boot_abs (pa_cons (pv 2) pa_nil)) pe_int) (pa_cons (pv 3) pa_nil))))))), ?_⟩
  refine s_set (P := fun v _ => ∃ c : Int, v = .int c) (ep_if (b := decide (k < ns.length)) (et_test (ev_is (ev_I0 (ev_var 1 rfl) (ev_lenQ hq (ev_var 0 rfl))) (by congr 1; rw [decide_eq_decide]; omega))) (fun hlt => ?_) (fun hlt => (ev_I0 (g := fun i j => .int (i + j)) (ev_I (C := CMul) (g := fun i j => .int (i * j)) (ev_c (v := .int 8101)) (ev_var 1 rfl) (.inl (by decide))) (ev_c (v := .int 2971))).imp fun v _ _ h => ⟨_, h⟩)) e fun cv B1 H1 g1 ⟨c, ec⟩ => ?_
  · have hlt := of_decide_eq_true hlt
    have h1 : (ns.map V.int)[k]? = some (.int ns[k]) := by rw [List.getElem?_map, List.getElem?_eq_getElem hlt]; rfl
    exact (ev_ixQ hq (ev_var 0 rfl) (ev_var 1 rfl) (at_nat rfl h1)).imp fun v _ _ h => ⟨_, h⟩
  subst ec
  dsimp only [tSeq]
  refine s_set (P := fun v _ => ∃ s : Int, v = .int s ∧ 0 ≤ s ∧ s < 2147483563) ((ev_I0 (g := fun i j => .int (i + j)) (ev_c (v := .int 60013)) (ev_I (C := CMul) (g := fun i j => .int (i * j)) (ev_c (v := .int 7001)) (ev_var 1 rfl) (.inl (by decide)))).imp fun v _ _ h => ⟨_, h, by omega, by omega⟩) g1.s fun sv B2 H2 g2 ⟨s0, es, hs0, hs1⟩ => ?_
  subst es
  have hq2 := hq.mono (g1.tr g2).b
  refine s_for (ei_list (xs := ns.take 6 ++ [c]) (φ := PyData.int) (ed_is (ed_cat (ed_slQ (k := 6) hq2 (ev_var 0 rfl) (eo_some ev_c)) (ed_lst (ea_cons (int_ed (ev_var 2 rfl)) ea_nil) (by show 1 ≤ 100000; decide)) (by rw [List.length_map, List.length_take]; show _ + 1 ≤ 100000; omega)) (by rw [List.map_append]; rfl))) g2.s fun B3 H3 g3 => ⟨fun _ σ' B' H' => (∃ (s : Int) (x4 : Option V), σ' = [some (.ref a), some (.int ((k : Nat) : Int)), some (.int c), some (.int s), x4] ∧ 0 ≤ s ∧ s < 2147483563) ∧ Gr B3 H3 B' H', ⟨⟨s0, none, rfl, hs0, hs1⟩, Gr.refl g3.s⟩, fun _ _ _ _ h => ⟨h.2.b, h.2.s⟩, ?_, ?_⟩
  · rintro pre d post hpre σ' B' H' ⟨⟨s, x4, rfl, h0, h1⟩, g4⟩ z B5 H5 g5 hz
    cases hz
    dsimp only [gName]
    refine s_set (ev_I (g := fun i j => .int (i % j)) (ev_int (ev_I0 (g := fun i j => .int (i + j)) (ev_I0 (g := fun i j => .int (i + j)) (ev_I (C := CMul) (g := fun i j => .int (i * j)) (ev_var 3 rfl) (ev_c (v := .int 40127)) (.inr (by decide))) (ev_I (g := fun i j => .int (i % j)) (ev_int (ev_var 4 rfl)) (ev_c (v := .int 2147483563)) (show (0 : Int) < 2147483563 by decide))) (ev_c (v := .int 37)))) (ev_c (v := .int 2147483563)) (show (0 : Int) < 2147483563 by decide)) g5.s fun nv B6 H6 g6 p6 => ?_
    subst p6
    exact ⟨B6, ⟨_, _, rfl, Int.emod_nonneg _ (by decide), Int.emod_lt_of_pos _ (by decide)⟩, (g4.tr g5).tr g6⟩
  · rintro σ' B' H' ⟨⟨s, x4, rfl, h0, h1⟩, g4⟩
    have gA := (g1.tr g2).tr (g3.tr g4)
    dsimp only
    have ab : Ep (tIf (tOr (tTest (tOp (rI0 fun i j => .bl (decide (i < j))) (tVar 2) (tC (.int 0)))) (tTest (tOp (rI0 fun i j => .bl (decide (j ≤ i))) (tVar 2) (tOp (rI CPow fun i j => .int (i ^ j.toNat)) (tC (.int 10)) (tC (.int 18)))))) (tCB (fun xs H Q => ∃ i, xs = [.int i] ∧ Q (.int (if i < 0 then -i else i)) H) (tCons (tVar 2) tNil)) (tC (.int 0))) [some (.ref a), some (.int ((k : Nat) : Int)), some (.int c), some (.int s), x4] B' (fun v _ => ∃ i : Int, v = .int i ∧ 0 ≤ i) :=
      ep_if (et_or (et_test (ev_I0 (ev_var 2 rfl) ev_c)) fun _ => et_test (ev_I0 (ev_var 2 rfl) (ev_I (C := CPow) (g := fun i j => .int (i ^ j.toNat)) (ev_c (v := .int 10)) (ev_c (v := .int 18)) ⟨by decide, by decide, by decide⟩))) (fun _ => (ev_abs (ev_var 2 rfl)).imp fun v _ _ h => ⟨_, h, by split <;> omega⟩) (fun _ => (ev_c (v := .int 0)).imp fun v _ _ h => ⟨0, h, by decide⟩)
    show tRet (tLst (tCons _ (tCons _ tNil))) _ _ _
    refine ab B' H' (Evl.Ex.refl _) g4.s _ fun v B5 H5 g5 ⟨i, ei, hi⟩ => ?_
    subst ei
    refine (ev_var (B := B5) 3 rfl) B5 H5 (Evl.Ex.refl _) g5.s _ fun v2 B6 H6 g6 p6 => ?_
    subst p6
    refine ⟨Evl.sz_of (show 2 ≤ 100000 by decide), fun aw haw => ?_⟩
    have gB := gA.tr (g5.tr g6)
    exact q aw B6 _ (gB.tr (Gr.newM g6.s haw)) (Evl.fresh_back gB.h haw) (sub_back g6.s haw) ⟨i, s, upd_same, hi, h0, h1⟩

def spLaw (K : PySem.W.Frag) : Sp := fun vs H Q _ => ∃ (a : Addr) (ns : List Int), vs = [.ref a] ∧ SqL K H a (ns.map V.int) ∧ ∀ H', Q (.bl true) H'
abbrev n70 : List Str := ["_law_script", "_law_k"]
theorem sc_lawS : FnScope n70 ["_law_script"] (C8.fnScope (topS 70)) := C8.fnScope_by (by decide +kernel)
structure Tl (K : PySem.W.Frag) (mg : Str → Option Value) (C : Addr) : Prop where
  tk : Tk K mg C
  right : Cl K mg "_law_right" (topS 69) ["_law_well_here"]
theorem ok_law (W : Tl K mg C) {f : Addr} {fd : FuncData} (F : C8.Fun K "law" "law" (topS 70) f fd) : FnG P w K mg base 11 f fd ["_law_script"] (spLaw K) := by
  have T := W.tk.tw.tx
  obtain ⟨fr, fdr, Dr, hbr⟩ := W.right.ex
  have GR : FnG P w K mg base 10 fr fdr ["_law_well_here"] (PrW spRight) := fn_g Dr.fn sc_right (fun vs H Q E ⟨B, aw, R, _, _, _, ⟨h, _⟩, _⟩ => by rw [h]; rfl) fun cdv A outer s H vs Q E hr hg h => body_right W.tk fr cdv A outer s H vs Q E hr hg h
  refine fn_g F sc_lawS (fun vs H Q E ⟨a, ns, h, _⟩ => by rw [h]; rfl) fun cdv A outer s H vs Q E hr hg h => ?_
  obtain ⟨a, ns, rfl, hS, q⟩ := h
  have nd := sc_lawS.nd
  refine ⟨_, pss_one (ps_ret (pe_callB (cr_all rfl) (by rfl) T.b_all PyProof.Rows.boot_all (pa_cons (pe_lc (own := [("_law_k", 1)]) (g := gName 1) rfl nd (pi_range1 (by rfl) T.b_range (pa_cons (pe_callB (call_max2 rfl) (by rfl) T.b_max PyProof.Rows.boot_max (pa_cons pe_int (pa_cons (pe_callB (call_min2 rfl) (by rfl) T.b_min PyProof.Rows.boot_min (pa_cons (pe_callB call_len_seq (by rfl) T.b_len boot_len (pa_cons (pv 0) pa_nil)) (pa_cons pe_int pa_nil))) pa_nil))) pa_nil)) (blkOk_by (own := [("_law_k", 1)]) (N := n70) (sc := C8.fnScope (topS 70)) (by decide +kernel)) (fun _ _ _ _ _ => pg_name (i := 1) nd rfl (Or.inl rfl)) (fun _ _ _ _ _ => pts_nil) (fun _ _ _ _ _ => pe_callG GR hr hg (by rfl) Dr.mgf Dr.kp hbr (pa_cons (C8.pe_c (ok_well T) hr (by decide) (by rfl) (pa_cons (pv 0) (pa_cons (pv 1) pa_nil))) pa_nil))) pa_nil))), ?_⟩
  obtain ⟨B, e, hq⟩ := kq_of hS
  obtain ⟨M, hM, hM2, hM3⟩ : ∃ M : Int, M = (if (if (3 : Int) < (ns.length : Int) then (3 : Int) else (ns.length : Int)) > 2 then (if (3 : Int) < (ns.length : Int) then (3 : Int) else (ns.length : Int)) else 2) ∧ 2 ≤ M ∧ M ≤ 3 := ⟨_, rfl, by split <;> split <;> omega, by split <;> split <;> omega⟩
  refine s_ret (ev_is (ev_allL (bs := List.replicate M.toNat true) (ed_is (ed_lc (ei_rng1 (n := M) (ea_cons (int_ed (ev_is (ev_max2 (i := 2) (j := if (3 : Int) < (ns.length : Int) then 3 else (ns.length : Int)) ev_c (ev_min2 (i := (ns.length : Int)) (j := 3) (ev_lenQ hq (ev_var 0 rfl)) ev_c)) (by rw [hM]))) ea_nil) (by omega) (by omega)) (fun _ => true) (fun _ => .bool true) (by rw [List.length_range]; omega) fun k x B1 hk e1 hx => ⟨_, tg_name 1, rfl, et_yes, fun _ => ?_⟩) ?_)) (by rw [all_true])) e fun v B' H' g p => ?_
  · subst hx
    rw [List.mem_range] at hk
    intro B2 H2 a2 b2 Q' k2
    refine ⟨_, rfl, _, rfl, B2, a, ns, k, rfl, b2, hq.mono (e1.trans a2), by omega, fun aw B3 H3 g3 f3 b3 w3 => ?_⟩
    refine ⟨B3, aw, _, g3.s, b3, w3, ⟨rfl, rfl⟩, fun v B4 H4 g4 p4 => k2 v B4 H4 ⟨g3.b.trans g4.b, fun x o z => ?_, g4.s, fun x z1 z2 => ?_⟩ ?_⟩
    · exact g4.h x o (fun h => by rw [h, f3] at z; cases z) (g3.h x o z)
    · refine g4.n x (g3.n x z1 z2) ?_
      cases z3 : H2 x with
      | none => exact (z2 z3).elim
      | some o => rw [g3.h x o z3]; exact fun z => nomatch z
    · rw [p4]; exact .bl true
  · rw [filter_id_len _ _ (fun _ _ => rfl), List.map_const', List.length_range, List.map_replicate]
  · rw [p]; exact q H'
end
end Kx

/-! Kf1 -/
namespace Kx
open PySem PySem.Spec PyProof.Rows L2
abbrev BdAll (x : Str) (st : Stmt) (ps : List Str) : Prop := ∀ (kV doc pm : Value) (an : Option Addr) (cdv ct : Value) (us : List Value), us.length = ps.length → bindArgs (PySem.W.fnOf x x (C8.fnArgs st) (C8.fnBody st) (C8.fnScope st) .none kV doc pm an cdv ct) ⟨us, []⟩ = pure (ps.zip us)
theorem cl_mk {K : PySem.W.Frag} {h : Heap} {mg : Str → Option Value} {x : Str} {st : Stmt} {ps : List Str} {f : Addr} {od an : Option Addr} {sl : Array (Option Value)} {oc kV dc pm cd ct : Value} (hb : BdAll x st ps) (X : K.In h) (G : h.Ns mainGlobals mg)
    (a : PySem.W.nsIn K mainGlobals x = some (some (.ref f))) (l : K.lookup f = some ⟨oc, od, .func (PySem.W.fnOf x x (C8.fnArgs st) (C8.fnBody st) (C8.fnScope st) .none kV dc pm an cd ct), sl⟩) (c : PySem.W.codeIn K cd x = true) (k : PySem.W.keepIn K (.ref f) = true) : Cl K mg x st ps := by
  have F : C8.Fun K x x st f (PySem.W.fnOf x x (C8.fnArgs st) (C8.fnBody st) (C8.fnScope st) .none kV dc pm an cd ct) := ⟨_, _, _, _, _, _, _, _, _, _, rfl, l, c⟩
  exact ⟨f, _, ⟨F, PySem.W.mg_of X G a, k⟩, F.binds rfl hb⟩
theorem vals_rev {vs : List V} {us : List Value} (h : Vals vs us) : Vals vs.reverse us.reverse := by
  induction h with
  | nil => exact .nil
  | cons r _ ih => rw [List.reverse_cons, List.reverse_cons]; exact ih.append (.cons r .nil)
theorem kw_mk {K : PySem.W.Frag} {h : Heap} {mg : Str → Option Value} {x : Str} {st : Stmt} {f : Addr} {od an : Option Addr} {sl : Array (Option Value)} {oc kV dc pm cd ct : Value}
    (hb : ∀ (kV doc pm : Value) (an : Option Addr) (cdv ct : Value) (us ws : List Value), (us ++ ws.reverse).length = 2 → bindArgs (PySem.W.fnOf x x (C8.fnArgs st) (C8.fnBody st) (C8.fnScope st) .none kV doc pm an cdv ct) ⟨us, (["heap", "web"] : List Str).zip ws⟩ = pure ((["web", "heap"] : List Str).zip (us ++ ws.reverse))) (X : K.In h) (G : h.Ns mainGlobals mg)
    (a : PySem.W.nsIn K mainGlobals x = some (some (.ref f))) (l : K.lookup f = some ⟨oc, od, .func (PySem.W.fnOf x x (C8.fnArgs st) (C8.fnBody st) (C8.fnScope st) .none kV dc pm an cd ct), sl⟩) (c : PySem.W.codeIn K cd x = true) (k : PySem.W.keepIn K (.ref f) = true) : Kw K mg x st := by
  have F : C8.Fun K x x st f (PySem.W.fnOf x x (C8.fnArgs st) (C8.fnBody st) (C8.fnScope st) .none kV dc pm an cd ct) := ⟨_, _, _, _, _, _, _, _, _, _, rfl, l, c⟩
  exact ⟨f, _, ⟨F, PySem.W.mg_of X G a, k⟩, ⟨fun s us ws _ hl => .of_eq (hb _ _ _ _ _ _ us ws hl), fun r rz => r.append (vals_rev rz)⟩⟩
theorem bd_18 : BdAll "is_integer" (topS 18) ["value"] := fun _ _ _ _ _ _ us hl => match us, hl with | [_], _ => rfl
theorem bd_19 : BdAll "is_between" (topS 19) ["value", "least", "most"] := fun _ _ _ _ _ _ us hl => match us, hl with | [_, _, _], _ => rfl
theorem bd_22 : BdAll "are_letters" (topS 22) ["value"] := fun _ _ _ _ _ _ us hl => match us, hl with | [_], _ => rfl
theorem bd_23 : BdAll "are_places" (topS 23) ["value"] := fun _ _ _ _ _ _ us hl => match us, hl with | [_], _ => rfl
theorem bd_24 : BdAll "is_tie" (topS 24) ["places", "value"] := fun _ _ _ _ _ _ us hl => match us, hl with | [_, _], _ => rfl
theorem bd_25 : BdAll "wrong_tie" (topS 25) ["places", "ties"] := fun _ _ _ _ _ _ us hl => match us, hl with | [_, _], _ => rfl
theorem bd_27 : BdAll "check_web" (topS 27) ["web"] := fun _ _ _ _ _ _ us hl => match us, hl with | [_], _ => rfl
theorem bd_28 : BdAll "is_place" (topS 28) ["web", "value"] := fun _ _ _ _ _ _ us hl => match us, hl with | [_, _], _ => rfl
theorem bd_29 : BdAll "check_place" (topS 29) ["web", "place"] := fun _ _ _ _ _ _ us hl => match us, hl with | [_, _], _ => rfl
theorem bd_30 : BdAll "herds_of" (topS 30) ["places", "ties"] := fun _ _ _ _ _ _ us hl => match us, hl with | [_, _], _ => rfl
theorem bd_31 : BdAll "is_one" (topS 31) ["web"] := fun _ _ _ _ _ _ us hl => match us, hl with | [_], _ => rfl
theorem bd_33 : BdAll "check_heap" (topS 33) ["web", "heap"] := fun _ _ _ _ _ _ us hl => match us, hl with | [_, _], _ => rfl
theorem bd_34 : BdAll "check_heaped" (topS 34) ["web"] := fun _ _ _ _ _ _ us hl => match us, hl with | [_], _ => rfl
theorem bd_35 : BdAll "between" (topS 35) ["web", "one", "other"] := fun _ _ _ _ _ _ us hl => match us, hl with | [_, _, _], _ => rfl
theorem bd_36 : BdAll "ties_at" (topS 36) ["web", "place"] := fun _ _ _ _ _ _ us hl => match us, hl with | [_, _], _ => rfl
theorem bd_37 : BdAll "gift_rows" (topS 37) ["web"] := fun _ _ _ _ _ _ us hl => match us, hl with | [_], _ => rfl
theorem bd_38 : BdAll "after" (topS 38) ["web", "heap", "gives"] := fun _ _ _ _ _ _ us hl => match us, hl with | [_, _, _], _ => rfl
theorem bd_39 : BdAll "solved" (topS 39) ["rows", "due"] := fun _ _ _ _ _ _ us hl => match us, hl with | [_, _], _ => rfl
theorem bd_40 : BdAll "small_rows" (topS 40) ["web", "bank"] := fun _ _ _ _ _ _ us hl => match us, hl with | [_, _], _ => rfl
theorem bd_41 : BdAll "near_heap" (topS 41) ["web", "heap", "bank"] := fun _ _ _ _ _ _ us hl => match us, hl with | [_, _, _], _ => rfl
theorem bd_42 : BdAll "layers_from" (topS 42) ["web", "bank"] := fun _ _ _ _ _ _ us hl => match us, hl with | [_, _], _ => rfl
theorem bd_43 : BdAll "lifted" (topS 43) ["web", "heap", "bank"] := fun _ _ _ _ _ _ us hl => match us, hl with | [_, _, _], _ => rfl
theorem bd_44 : BdAll "burnt" (topS 44) ["web", "heap", "bank"] := fun _ _ _ _ _ _ us hl => match us, hl with | [_, _, _], _ => rfl
theorem bd_45 : BdAll "lowered" (topS 45) ["web", "heap", "bank"] := fun _ _ _ _ _ _ us hl => match us, hl with | [_, _, _], _ => rfl
theorem bd_46 : BdAll "least_of" (topS 46) ["web", "heap", "bank"] := fun _ _ _ _ _ _ us hl => match us, hl with | [_, _, _], _ => rfl
theorem bd_47 : BdAll "check_both" (topS 47) ["web", "heap", "bank"] := fun _ _ _ _ _ _ us hl => match us, hl with | [_, _, _], _ => rfl
theorem bd_48 : BdAll "least_heap" (topS 48) ["web", "heap", "bank"] := fun _ _ _ _ _ _ us hl => match us, hl with | [_, _, _], _ => rfl
theorem bd_50 : BdAll "check_ranked" (topS 50) ["web", "heap"] := fun _ _ _ _ _ _ us hl => match us, hl with | [_, _], _ => rfl
theorem bd_51 : BdAll "without_debt" (topS 51) ["web", "heap"] := fun _ _ _ _ _ _ us hl => match us, hl with | [_, _], _ => rfl
theorem bd_52 : BdAll "is_free" (topS 52) ["web", "heap"] := fun _ _ _ _ _ _ us hl => match us, hl with | [_, _], _ => rfl
theorem bd_53 : BdAll "free_heap" (topS 53) ["web", "heap"] := fun _ _ _ _ _ _ us hl => match us, hl with | [_, _], _ => rfl
theorem bd_55 : BdAll "_law_well" (topS 55) ["_law_script", "_law_k"] := fun _ _ _ _ _ _ us hl => match us, hl with | [_, _], _ => rfl
theorem bd_56 : BdAll "_law_dip" (topS 56) ["_law_well_here", "_law_size"] := fun _ _ _ _ _ _ us hl => match us, hl with | [_, _], _ => rfl
theorem bd_57 : BdAll "_law_one_of" (topS 57) ["_law_well_here", "_law_some"] := fun _ _ _ _ _ _ us hl => match us, hl with | [_, _], _ => rfl
theorem bd_58 : BdAll "_law_mixed" (topS 58) ["_law_well_here", "_law_some"] := fun _ _ _ _ _ _ us hl => match us, hl with | [_, _], _ => rfl
theorem bd_59 : BdAll "_law_net" (topS 59) ["_law_well_here", "_law_many", "_law_more"] := fun _ _ _ _ _ _ us hl => match us, hl with | [_, _, _], _ => rfl
theorem bd_60 : BdAll "_law_at" (topS 60) ["_law_joins", "_law_a"] := fun _ _ _ _ _ _ us hl => match us, hl with | [_, _], _ => rfl
theorem bd_61 : BdAll "_law_shared" (topS 61) ["_law_joins", "_law_a", "_law_b"] := fun _ _ _ _ _ _ us hl => match us, hl with | [_, _, _], _ => rfl
theorem bd_62 : BdAll "_law_det" (topS 62) ["_law_rows_here"] := fun _ _ _ _ _ _ us hl => match us, hl with | [_], _ => rfl
theorem bd_63 : BdAll "_law_rows" (topS 63) ["_law_signs", "_law_joins"] := fun _ _ _ _ _ _ us hl => match us, hl with | [_, _], _ => rfl
theorem bd_64 : BdAll "_law_doings" (topS 64) ["_law_signs", "_law_joins", "_law_pile_here", "_law_goal"] := fun _ _ _ _ _ _ us hl => match us, hl with | [_, _, _, _], _ => rfl
theorem bd_65 : BdAll "_law_pile" (topS 65) ["_law_well_here", "_law_many", "_law_low", "_law_high"] := fun _ _ _ _ _ _ us hl => match us, hl with | [_, _, _, _], _ => rfl
theorem bd_66 : BdAll "_law_rests" (topS 66) ["_law_signs", "_law_joins"] := fun _ _ _ _ _ _ us hl => match us, hl with | [_, _], _ => rfl
theorem bd_67 : BdAll "_law_key" (topS 67) ["_law_rests_here", "_law_whole", "_law_pile_here"] := fun _ _ _ _ _ _ us hl => match us, hl with | [_, _, _], _ => rfl
theorem bd_68 : BdAll "_law_heaps_of" (topS 68) ["_law_many", "_law_whole"] := fun _ _ _ _ _ _ us hl => match us, hl with | [_, _], _ => rfl
theorem bd_69 : BdAll "_law_right" (topS 69) ["_law_well_here"] := fun _ _ _ _ _ _ us hl => match us, hl with | [_], _ => rfl
theorem bk_52 (kV doc pm : Value) (an : Option Addr) (cdv ct : Value) : ∀ us ws : List Value, (us ++ ws.reverse).length = 2 → bindArgs (PySem.W.fnOf "is_free" "is_free" (C8.fnArgs (topS 52)) (C8.fnBody (topS 52)) (C8.fnScope (topS 52)) .none kV doc pm an cdv ct) ⟨us, (["heap", "web"] : List Str).zip ws⟩ = pure ((["web", "heap"] : List Str).zip (us ++ ws.reverse))
  | [], [_, _], _ => rfl
  | [_], [_], _ => rfl
  | [_, _], [], _ => rfl
  | [], [], h => by simp at h
  | [], [_], h => by simp at h
  | [], _ :: _ :: _ :: _, h => by simp at h
  | [_], [], h => by simp at h
  | [_], _ :: _ :: _, h => by simp at h
  | [_, _], _ :: _, h => by simp at h
  | _ :: _ :: _ :: _, _, h => by simp at h
theorem bk_53 (kV doc pm : Value) (an : Option Addr) (cdv ct : Value) : ∀ us ws : List Value, (us ++ ws.reverse).length = 2 → bindArgs (PySem.W.fnOf "free_heap" "free_heap" (C8.fnArgs (topS 53)) (C8.fnBody (topS 53)) (C8.fnScope (topS 53)) .none kV doc pm an cdv ct) ⟨us, (["heap", "web"] : List Str).zip ws⟩ = pure ((["web", "heap"] : List Str).zip (us ++ ws.reverse))
  | [], [_, _], _ => rfl
  | [_], [_], _ => rfl
  | [_, _], [], _ => rfl
  | [], [], h => by simp at h
  | [], [_], h => by simp at h
  | [], _ :: _ :: _ :: _, h => by simp at h
  | [_], [], h => by simp at h
  | [_], _ :: _ :: _, h => by simp at h
  | [_, _], _ :: _, h => by simp at h
  | _ :: _ :: _ :: _, _, h => by simp at h
end Kx

/-! HeadF -/
namespace Kx
open PySem PySem.Spec PyProof.Rows L2
theorem cut_ {p q : Prop} (a : p) (h : p → q) : q := h a
theorem wc_mk {K : PySem.W.Frag} {C : Addr} (pg : PySem.W.plainGet K C Str.empty = true) (hd : PySem.W.hasDictIn K C = true) (po : PySem.W.plainOver K C = true) (sa : PySem.W.findIn K (.ref C) "__setattr__" = some (some (.builtin "object.__setattr__")))
    (n1 : PySem.W.findIn K (.ref C) "places" = some none) (n2 : PySem.W.findIn K (.ref C) "ties" = some none) : WebC K C := ⟨⟨pg, hd, po, sa⟩, n1, n2⟩
theorem mw_mk {K : PySem.W.Frag} {C f : Addr} {od an : Option Addr} {sl : Array (Option Value)} {oc kV dc pm cd ct : Value} (mk : PySem.W.makesIn K C = true) (a : PySem.W.findIn K (.ref C) "__init__" = some (some (.ref f))) (i : PySem.W.isFn K (.ref f) = true) (kc : PySem.W.keepIn K (.ref C) = true)
    (l : K.lookup f = some ⟨oc, od, .func (PySem.W.fnOf "__init__" "Web.__init__" (C8.fnArgs initS) (C8.fnBody initS) (C8.fnScope initS) .none kV dc pm an cd ct), sl⟩) (c : PySem.W.codeIn K cd "Web.__init__" = true) :
    ∃ (f : Addr) (fd : FuncData), Mk K C f ∧ C8.Fun K "__init__" "Web.__init__" initS f fd ∧ Binds K fd ["self", "places", "ties"] [] := by
  have F : C8.Fun K "__init__" "Web.__init__" initS f (PySem.W.fnOf "__init__" "Web.__init__" (C8.fnArgs initS) (C8.fnBody initS) (C8.fnScope initS) .none kV dc pm an cd ct) := ⟨_, _, _, _, _, _, _, _, _, _, rfl, l, c⟩
  exact ⟨f, _, ⟨mk, a, i, kc⟩, F, F.binds rfl fun _ _ _ _ _ _ us hl => match us, hl with | [_, _, _], _ => rfl⟩
theorem law_mk {l : PySem.W.OpenLaw} {w : World} {K : PySem.W.Frag} {h : Heap} {mg : Str → Option Value} {C fa f : Addr} {od an : Option Addr} {sl : Array (Option Value)} {oc kV dc pm cd ct : Value} (W : Tl K mg C) (X : K.In h) (G : h.Ns mainGlobals mg) (hfa : mg "law" = some (.ref fa))
    (a : PySem.W.nsIn K mainGlobals "law" = some (some (.ref f))) (lk : K.lookup f = some ⟨oc, od, .func (PySem.W.fnOf "law" "law" (C8.fnArgs (topS 70)) (C8.fnBody (topS 70)) (C8.fnScope (topS 70)) .none kV dc pm an cd ct), sl⟩) (c : PySem.W.codeIn K cd "law" = true) :
    ∃ fd : FuncData, (∀ (s : Shared) (u : Value), BindsTo s fd ⟨[u], []⟩ [("_law_script", u)]) ∧ ∀ base : Heap, K.In base → base.Ns mainGlobals mg → FnG l.prog w K mg base 11 fa fd ["_law_script"] (spLaw K) := by
  have e := hfa.symm.trans (PySem.W.mg_of X G a)
  cases e
  exact ⟨PySem.W.fnOf "law" "law" (C8.fnArgs (topS 70)) (C8.fnBody (topS 70)) (C8.fnScope (topS 70)) .none kV dc pm an cd ct, fun s v => .of_eq rfl, fun base _ _ => ok_law W ⟨_, _, _, _, _, _, _, _, _, _, rfl, lk, c⟩⟩
theorem gi_mk {K : PySem.W.Frag} {h : Heap} {mg : Str → Option Value} {x : Str} {i : Int} {t : Tok} (X : K.In h) (G : h.Ns mainGlobals mg) (a : PySem.W.nsIn K mainGlobals x = some (some (.int i t))) : ∃ u, mg x = some u ∧ RelV (.int i) u := ⟨_, PySem.W.mg_of X G a, t, rfl⟩
theorem gs_mk {K : PySem.W.Frag} {h : Heap} {mg : Str → Option Value} {x z : Str} {t : Tok} (X : K.In h) (G : h.Ns mainGlobals mg) (a : PySem.W.nsIn K mainGlobals x = some (some (.str z t))) : ∃ u, mg x = some u ∧ RelV (.str z) u := ⟨_, PySem.W.mg_of X G a, t, rfl⟩
end Kx
open PySem PySem.W PyProof.Rows
set_option maxHeartbeats 0 in
theorem PySem.Challenge.cw_webreckon_k44_whole_heaps_in_debt_holds : PySem.Challenge.rw_webreckon_k44_whole_heaps_in_debt.Holds := by
  w_on; o_law; k_head; (case hw => w_witness2)
  k_fill
  refine Kx.walk_g (l := PySem.Challenge.rw_webreckon_k44_whole_heaps_in_debt) (k := 11) (x := "_law_script") (sp := fun w => Kx.spLaw _) rfl (by decide) rfl ⟨rfl, by decide, by decide⟩ (fun w h Y => PySem.W.kIn_of Y) ?F (fun _ _ a ns _ hS => ⟨a, ns, rfl, hS, fun _ => rfl⟩)
  case F =>
    intro w mg fa h KX G hmg
    refine' Kx.cut_ (Kx.cl_mk Kx.bd_18 KX G ?a1 ?l1 ?c1 ?k1) ?n1
    (case a1 => k_is); (case l1 => k_is); (case c1 => k_is); (case k1 => k_is)
    intro h_is_integer
    refine' Kx.cut_ (Kx.cl_mk Kx.bd_19 KX G ?a2 ?l2 ?c2 ?k2) ?n2
    (case a2 => k_is); (case l2 => k_is); (case c2 => k_is); (case k2 => k_is)
    intro h_is_between
    refine' Kx.cut_ (Kx.cl_mk Kx.bd_22 KX G ?a3 ?l3 ?c3 ?k3) ?n3
    (case a3 => k_is); (case l3 => k_is); (case c3 => k_is); (case k3 => k_is)
    intro h_are_letters
    refine' Kx.cut_ (Kx.cl_mk Kx.bd_23 KX G ?a4 ?l4 ?c4 ?k4) ?n4
    (case a4 => k_is); (case l4 => k_is); (case c4 => k_is); (case k4 => k_is)
    intro h_are_places
    refine' Kx.cut_ (Kx.cl_mk Kx.bd_24 KX G ?a5 ?l5 ?c5 ?k5) ?n5
    (case a5 => k_is); (case l5 => k_is); (case c5 => k_is); (case k5 => k_is)
    intro h_is_tie
    refine' Kx.cut_ (Kx.cl_mk Kx.bd_25 KX G ?a6 ?l6 ?c6 ?k6) ?n6
    (case a6 => k_is); (case l6 => k_is); (case c6 => k_is); (case k6 => k_is)
    intro h_wrong_tie
    refine' Kx.cut_ (Kx.cl_mk Kx.bd_27 KX G ?a7 ?l7 ?c7 ?k7) ?n7
    (case a7 => k_is); (case l7 => k_is); (case c7 => k_is); (case k7 => k_is)
    intro h_check_web
    refine' Kx.cut_ (Kx.cl_mk Kx.bd_28 KX G ?a8 ?l8 ?c8 ?k8) ?n8
    (case a8 => k_is); (case l8 => k_is); (case c8 => k_is); (case k8 => k_is)
    intro h_is_place
    refine' Kx.cut_ (Kx.cl_mk Kx.bd_29 KX G ?a9 ?l9 ?c9 ?k9) ?n9
    (case a9 => k_is); (case l9 => k_is); (case c9 => k_is); (case k9 => k_is)
    intro h_check_place
    refine' Kx.cut_ (Kx.cl_mk Kx.bd_30 KX G ?a10 ?l10 ?c10 ?k10) ?n10
    (case a10 => k_is); (case l10 => k_is); (case c10 => k_is); (case k10 => k_is)
    intro h_herds_of
    refine' Kx.cut_ (Kx.cl_mk Kx.bd_31 KX G ?a11 ?l11 ?c11 ?k11) ?n11
    (case a11 => k_is); (case l11 => k_is); (case c11 => k_is); (case k11 => k_is)
    intro h_is_one
    refine' Kx.cut_ (Kx.cl_mk Kx.bd_33 KX G ?a12 ?l12 ?c12 ?k12) ?n12
    (case a12 => k_is); (case l12 => k_is); (case c12 => k_is); (case k12 => k_is)
    intro h_check_heap
    refine' Kx.cut_ (Kx.cl_mk Kx.bd_34 KX G ?a13 ?l13 ?c13 ?k13) ?n13
    (case a13 => k_is); (case l13 => k_is); (case c13 => k_is); (case k13 => k_is)
    intro h_check_heaped
    refine' Kx.cut_ (Kx.cl_mk Kx.bd_35 KX G ?a14 ?l14 ?c14 ?k14) ?n14
    (case a14 => k_is); (case l14 => k_is); (case c14 => k_is); (case k14 => k_is)
    intro h_between
    refine' Kx.cut_ (Kx.cl_mk Kx.bd_36 KX G ?a15 ?l15 ?c15 ?k15) ?n15
    (case a15 => k_is); (case l15 => k_is); (case c15 => k_is); (case k15 => k_is)
    intro h_ties_at
    refine' Kx.cut_ (Kx.cl_mk Kx.bd_37 KX G ?a16 ?l16 ?c16 ?k16) ?n16
    (case a16 => k_is); (case l16 => k_is); (case c16 => k_is); (case k16 => k_is)
    intro h_gift_rows
    refine' Kx.cut_ (Kx.cl_mk Kx.bd_38 KX G ?a17 ?l17 ?c17 ?k17) ?n17
    (case a17 => k_is); (case l17 => k_is); (case c17 => k_is); (case k17 => k_is)
    intro h_after
    refine' Kx.cut_ (Kx.cl_mk Kx.bd_39 KX G ?a18 ?l18 ?c18 ?k18) ?n18
    (case a18 => k_is); (case l18 => k_is); (case c18 => k_is); (case k18 => k_is)
    intro h_solved
    refine' Kx.cut_ (Kx.cl_mk Kx.bd_40 KX G ?a19 ?l19 ?c19 ?k19) ?n19
    (case a19 => k_is); (case l19 => k_is); (case c19 => k_is); (case k19 => k_is)
    intro h_small_rows
    refine' Kx.cut_ (Kx.cl_mk Kx.bd_41 KX G ?a20 ?l20 ?c20 ?k20) ?n20
    (case a20 => k_is); (case l20 => k_is); (case c20 => k_is); (case k20 => k_is)
    intro h_near_heap
    refine' Kx.cut_ (Kx.cl_mk Kx.bd_42 KX G ?a21 ?l21 ?c21 ?k21) ?n21
    (case a21 => k_is); (case l21 => k_is); (case c21 => k_is); (case k21 => k_is)
    intro h_layers_from
    refine' Kx.cut_ (Kx.cl_mk Kx.bd_43 KX G ?a22 ?l22 ?c22 ?k22) ?n22
    (case a22 => k_is); (case l22 => k_is); (case c22 => k_is); (case k22 => k_is)
    intro h_lifted
    refine' Kx.cut_ (Kx.cl_mk Kx.bd_44 KX G ?a23 ?l23 ?c23 ?k23) ?n23
    (case a23 => k_is); (case l23 => k_is); (case c23 => k_is); (case k23 => k_is)
    intro h_burnt
    refine' Kx.cut_ (Kx.cl_mk Kx.bd_45 KX G ?a24 ?l24 ?c24 ?k24) ?n24
    (case a24 => k_is); (case l24 => k_is); (case c24 => k_is); (case k24 => k_is)
    intro h_lowered
    refine' Kx.cut_ (Kx.cl_mk Kx.bd_46 KX G ?a25 ?l25 ?c25 ?k25) ?n25
    (case a25 => k_is); (case l25 => k_is); (case c25 => k_is); (case k25 => k_is)
    intro h_least_of
    refine' Kx.cut_ (Kx.cl_mk Kx.bd_47 KX G ?a26 ?l26 ?c26 ?k26) ?n26
    (case a26 => k_is); (case l26 => k_is); (case c26 => k_is); (case k26 => k_is)
    intro h_check_both
    refine' Kx.cut_ (Kx.cl_mk Kx.bd_48 KX G ?a27 ?l27 ?c27 ?k27) ?n27
    (case a27 => k_is); (case l27 => k_is); (case c27 => k_is); (case k27 => k_is)
    intro h_least_heap
    refine' Kx.cut_ (Kx.cl_mk Kx.bd_50 KX G ?a28 ?l28 ?c28 ?k28) ?n28
    (case a28 => k_is); (case l28 => k_is); (case c28 => k_is); (case k28 => k_is)
    intro h_check_ranked
    refine' Kx.cut_ (Kx.cl_mk Kx.bd_51 KX G ?a29 ?l29 ?c29 ?k29) ?n29
    (case a29 => k_is); (case l29 => k_is); (case c29 => k_is); (case k29 => k_is)
    intro h_without_debt
    refine' Kx.cut_ (Kx.cl_mk Kx.bd_52 KX G ?a30 ?l30 ?c30 ?k30) ?n30
    (case a30 => k_is); (case l30 => k_is); (case c30 => k_is); (case k30 => k_is)
    intro h_is_free
    refine' Kx.cut_ (Kx.cl_mk Kx.bd_53 KX G ?a31 ?l31 ?c31 ?k31) ?n31
    (case a31 => k_is); (case l31 => k_is); (case c31 => k_is); (case k31 => k_is)
    intro h_free_heap
    refine' Kx.cut_ (Kx.cl_mk Kx.bd_55 KX G ?a32 ?l32 ?c32 ?k32) ?n32
    (case a32 => k_is); (case l32 => k_is); (case c32 => k_is); (case k32 => k_is)
    intro h_well
    refine' Kx.cut_ (Kx.cl_mk Kx.bd_56 KX G ?a33 ?l33 ?c33 ?k33) ?n33
    (case a33 => k_is); (case l33 => k_is); (case c33 => k_is); (case k33 => k_is)
    intro h_dip
    refine' Kx.cut_ (Kx.cl_mk Kx.bd_57 KX G ?a34 ?l34 ?c34 ?k34) ?n34
    (case a34 => k_is); (case l34 => k_is); (case c34 => k_is); (case k34 => k_is)
    intro h_one_of
    refine' Kx.cut_ (Kx.cl_mk Kx.bd_58 KX G ?a35 ?l35 ?c35 ?k35) ?n35
    (case a35 => k_is); (case l35 => k_is); (case c35 => k_is); (case k35 => k_is)
    intro h_mixed
    refine' Kx.cut_ (Kx.cl_mk Kx.bd_59 KX G ?a36 ?l36 ?c36 ?k36) ?n36
    (case a36 => k_is); (case l36 => k_is); (case c36 => k_is); (case k36 => k_is)
    intro h_net
    refine' Kx.cut_ (Kx.cl_mk Kx.bd_60 KX G ?a37 ?l37 ?c37 ?k37) ?n37
    (case a37 => k_is); (case l37 => k_is); (case c37 => k_is); (case k37 => k_is)
    intro h_lat
    refine' Kx.cut_ (Kx.cl_mk Kx.bd_61 KX G ?a38 ?l38 ?c38 ?k38) ?n38
    (case a38 => k_is); (case l38 => k_is); (case c38 => k_is); (case k38 => k_is)
    intro h_lshared
    refine' Kx.cut_ (Kx.cl_mk Kx.bd_62 KX G ?a39 ?l39 ?c39 ?k39) ?n39
    (case a39 => k_is); (case l39 => k_is); (case c39 => k_is); (case k39 => k_is)
    intro h_ldet
    refine' Kx.cut_ (Kx.cl_mk Kx.bd_63 KX G ?a40 ?l40 ?c40 ?k40) ?n40
    (case a40 => k_is); (case l40 => k_is); (case c40 => k_is); (case k40 => k_is)
    intro h_lrows
    refine' Kx.cut_ (Kx.cl_mk Kx.bd_64 KX G ?a41 ?l41 ?c41 ?k41) ?n41
    (case a41 => k_is); (case l41 => k_is); (case c41 => k_is); (case k41 => k_is)
    intro h_ldoings
    refine' Kx.cut_ (Kx.cl_mk Kx.bd_65 KX G ?a42 ?l42 ?c42 ?k42) ?n42
    (case a42 => k_is); (case l42 => k_is); (case c42 => k_is); (case k42 => k_is)
    intro h_lpile
    refine' Kx.cut_ (Kx.cl_mk Kx.bd_66 KX G ?a43 ?l43 ?c43 ?k43) ?n43
    (case a43 => k_is); (case l43 => k_is); (case c43 => k_is); (case k43 => k_is)
    intro h_lrests
    refine' Kx.cut_ (Kx.cl_mk Kx.bd_67 KX G ?a44 ?l44 ?c44 ?k44) ?n44
    (case a44 => k_is); (case l44 => k_is); (case c44 => k_is); (case k44 => k_is)
    intro h_lkey
    refine' Kx.cut_ (Kx.cl_mk Kx.bd_68 KX G ?a45 ?l45 ?c45 ?k45) ?n45
    (case a45 => k_is); (case l45 => k_is); (case c45 => k_is); (case k45 => k_is)
    intro h_lheaps
    refine' Kx.cut_ (Kx.cl_mk Kx.bd_69 KX G ?a46 ?l46 ?c46 ?k46) ?n46
    (case a46 => k_is); (case l46 => k_is); (case c46 => k_is); (case k46 => k_is)
    intro h_right
    refine' Kx.cut_ (Kx.kw_mk Kx.bk_52 KX G ?a47 ?l47 ?c47 ?k47) ?n47
    (case a47 => k_is); (case l47 => k_is); (case c47 => k_is); (case k47 => k_is)
    intro k_is_free
    refine' Kx.cut_ (Kx.kw_mk Kx.bk_53 KX G ?a48 ?l48 ?c48 ?k48) ?n48
    (case a48 => k_is); (case l48 => k_is); (case c48 => k_is); (case k48 => k_is)
    intro k_free_heap
    refine' Kx.cut_ (Kx.gi_mk (x := "MOST_PLACES") (i := 7) KX G ?a49) ?n49
    (case a49 => k_is)
    intro mP
    refine' Kx.cut_ (Kx.gi_mk (x := "MOST_TIES") (i := 11) KX G ?a50) ?n50
    (case a50 => k_is)
    intro mT
    refine' Kx.cut_ (Kx.gi_mk (x := "MOST_HEAP") (i := 1000000) KX G ?a51) ?n51
    (case a51 => k_is)
    intro mH
    refine' Kx.cut_ (Kx.gi_mk (x := "MOST_SUM") (i := 8) KX G ?a52) ?n52
    (case a52 => k_is)
    intro mS
    refine' Kx.cut_ (Kx.gs_mk (x := "LETTERS") (z := "abcdefgh") KX G ?a53) ?n53
    (case a53 => k_is)
    intro mL
    refine' Kx.cut_ (PySem.W.mg_none_of (n := "len") KX G ?a54) ?n54
    (case a54 => k_is)
    intro b_len
    refine' Kx.cut_ (PySem.W.mg_none_of (n := "isinstance") KX G ?a55) ?n55
    (case a55 => k_is)
    intro b_isinstance
    refine' Kx.cut_ (PySem.W.mg_none_of (n := "int") KX G ?a56) ?n56
    (case a56 => k_is)
    intro b_int
    refine' Kx.cut_ (PySem.W.mg_none_of (n := "bool") KX G ?a57) ?n57
    (case a57 => k_is)
    intro b_bool
    refine' Kx.cut_ (PySem.W.mg_none_of (n := "str") KX G ?a58) ?n58
    (case a58 => k_is)
    intro b_str
    refine' Kx.cut_ (PySem.W.mg_none_of (n := "tuple") KX G ?a59) ?n59
    (case a59 => k_is)
    intro b_tuple
    refine' Kx.cut_ (PySem.W.mg_none_of (n := "list") KX G ?a60) ?n60
    (case a60 => k_is)
    intro b_list
    refine' Kx.cut_ (PySem.W.mg_none_of (n := "dict") KX G ?a61) ?n61
    (case a61 => k_is)
    intro b_dict
    refine' Kx.cut_ (PySem.W.mg_none_of (n := "all") KX G ?a62) ?n62
    (case a62 => k_is)
    intro b_all
    refine' Kx.cut_ (PySem.W.mg_none_of (n := "any") KX G ?a63) ?n63
    (case a63 => k_is)
    intro b_any
    refine' Kx.cut_ (PySem.W.mg_none_of (n := "sorted") KX G ?a64) ?n64
    (case a64 => k_is)
    intro b_sorted
    refine' Kx.cut_ (PySem.W.mg_none_of (n := "enumerate") KX G ?a65) ?n65
    (case a65 => k_is)
    intro b_enumerate
    refine' Kx.cut_ (PySem.W.mg_none_of (n := "zip") KX G ?a66) ?n66
    (case a66 => k_is)
    intro b_zip
    refine' Kx.cut_ (PySem.W.mg_none_of (n := "range") KX G ?a67) ?n67
    (case a67 => k_is)
    intro b_range
    refine' Kx.cut_ (PySem.W.mg_none_of (n := "max") KX G ?a68) ?n68
    (case a68 => k_is)
    intro b_max
    refine' Kx.cut_ (PySem.W.mg_none_of (n := "min") KX G ?a69) ?n69
    (case a69 => k_is)
    intro b_min
    refine' Kx.cut_ (PySem.W.mg_none_of (n := "sum") KX G ?a70) ?n70
    (case a70 => k_is)
    intro b_sum
    refine' Kx.cut_ (PySem.W.mg_none_of (n := "abs") KX G ?a71) ?n71
    (case a71 => k_is)
    intro b_abs
    refine' Kx.cut_ (PySem.W.mg_none_of (n := "divmod") KX G ?a72) ?n72
    (case a72 => k_is)
    intro b_divmod
    refine' Kx.cut_ (PySem.W.mg_none_of (n := "repr") KX G ?a73) ?n73
    (case a73 => k_is)
    intro b_repr
    refine' Kx.law_mk (C := ?C) ⟨⟨⟨⟨?web, ?ins, PySem.W.mg_of KX G ?aC, mP, mT, mH, mS, mL, b_len, b_isinstance, b_int, b_bool, b_str, b_tuple, b_list, b_dict, b_all, b_any, b_sorted, b_enumerate, b_zip, b_range, b_max, b_min, b_sum, b_abs, b_divmod, b_repr, h_is_integer, h_is_between, h_are_letters, h_are_places, h_is_tie, h_wrong_tie, h_check_web, h_is_place, h_check_place, h_herds_of, h_is_one, h_check_heap, h_check_heaped, h_between, h_ties_at, h_gift_rows, h_after, h_solved, h_small_rows, h_near_heap, h_layers_from, h_lifted, h_burnt, h_lowered, h_least_of, h_check_both, h_least_heap, h_check_ranked, h_without_debt, h_is_free, h_free_heap, h_well, h_dip, h_one_of, h_mixed, h_net, h_lat, h_lshared, h_ldet, h_lrows, h_ldoings, h_lpile, h_lrests, h_lkey, h_lheaps⟩, ?mkw⟩, k_is_free, k_free_heap⟩, h_right⟩ KX G hmg ?aL ?lL ?cL
    case aC => k_is
    case web =>
      refine' Kx.wc_mk ?w1 ?w2 ?w3 ?w4 ?w5 ?w6
      (case w1 => k_is); (case w2 => k_is); (case w3 => k_is); (case w4 => k_is); (case w5 => k_is); (case w6 => k_is)
    case ins =>
      refine' ⟨⟨?i1, ?i2, ?i3, ?i4⟩, ?i5, ?i6, ?i7, ?i8, ?i9⟩
      (case i1 => k_is); (case i2 => k_is); (case i3 => k_is); (case i4 => k_is); (case i5 => k_is); (case i6 => k_is); (case i7 => k_is); (case i8 => k_is); (case i9 => exact if_pos (beq_self_eq_true _))
    case mkw =>
      refine' Kx.mw_mk ?m1 ?m2 ?m3 ?m4 ?m5 ?m6
      (case m1 => k_is); (case m2 => k_is); (case m3 => k_is); (case m4 => k_is); (case m5 => k_is); (case m6 => k_is)
    case aL => k_is
    case lL => k_is
    case cL => k_is
