import PyProof.Rows.All
import Wide.All
import OpenK.AllK
import Wide.FinOn
import KE.KStateDown
import Lean
import HandS.ForMost
import HandS.Wide
import HandS.WideBits
import HandS.SortInts
import HandS.FStr
import HandS.IsInst
import HandS.TupAny
import HandS.Exc
import HandS.TryOnly
import HandS.ExcOwn
import HandS.WordsExc
import HandS.Defaults
import HandS.Walk
import HandS.Zip
import HandS.Style
import HandS.Head0
import HandS.Head1
import HandS.Head2
import HandS.HeadEnd
import HandS.HeadHook1
import HandS.HeadHook2
import HandS.HeadHook3
import HandS.HeadHook4
import PySem.Challenge.RW_holdfast_k72_sayings_as_texts
set_option Elab.async false
set_option linter.all false
set_option maxRecDepth 100000
set_option maxHeartbeats 4000000
namespace Hf
open PySem PySem.Spec PyProof.Rows L2
/-! ## heaps: what is visible beside some hidden objects -/
abbrev Ext (H H' : Hp) : Prop := ∀ b o, H b = some o → H' b = some o
theorem Ext.refl (H : Hp) : Ext H H := fun _ _ h => h
theorem Ext.trans {H H1 H2 : Hp} (a : Ext H H1) (b : Ext H1 H2) : Ext H H2 := fun c o h => b c o (a c o h)
theorem Ext.trans' {H H1 H2 : Hp} (b : Ext H1 H2) (a : Ext H H1) : Ext H H2 := a.trans b
/-- all but one object stands -/
abbrev But (a : Addr) (H H' : Hp) : Prop := ∀ b o, b ≠ a → H b = some o → H' b = some o
theorem Ext.but {a : Addr} {H H' : Hp} (e : Ext H H') : But a H H' := fun b o _ h => e b o h
theorem But.trans {a : Addr} {H H1 H2 : Hp} (x : But a H H1) (y : But a H1 H2) : But a H H2 := fun c o n h => y c o n (x c o n h)
theorem ext_new {H : Hp} {p : Addr} {o : HO} (h : H p = none) : Ext H (upd H p o) := fun b u e => by
  rw [upd_ne (ne_of_none e h)]; exact e
/-- an object that was not known ahead may change -/
theorem ext_mut {H H' : Hp} {p : Addr} {o : HO} (e : Ext H H') (h : H p = none) : Ext H (upd H' p o) := fun b u hb => by
  rw [upd_ne (ne_of_none hb h)]; exact e b u hb
theorem fresh_back {H H' : Hp} {p : Addr} (e : Ext H H') (h : H' p = none) : H p = none := by
  cases q : H p with
  | none => rfl
  | some o => rw [e p o q] at h; cases h
def vis (M : List Addr) (H : Hp) : Hp := fun b => if b ∈ M then none else H b
theorem vis_nil (H : Hp) : vis [] H = H := by
  funext b; unfold vis; rw [if_neg (by simp)]
theorem vis_out {M : List Addr} {H : Hp} {b : Addr} (h : b ∉ M) : vis M H b = H b := by unfold vis; rw [if_neg h]
theorem vis_some {M : List Addr} {H : Hp} {b : Addr} {o : HO} (h : vis M H b = some o) : b ∉ M ∧ H b = some o := by
  unfold vis at h
  by_cases c : b ∈ M
  · rw [if_pos c] at h; cases h
  · rw [if_neg c] at h; exact ⟨c, h⟩
theorem vis_le (M : List Addr) (H : Hp) : Ext (vis M H) H := fun b o h => (vis_some h).2
theorem vis_mono {M : List Addr} {H H' : Hp} (e : Ext H H') : Ext (vis M H) (vis M H') := fun b o h => by
  obtain ⟨n, q⟩ := vis_some h
  rw [vis_out n]; exact e b o q
theorem vis_sub {M M' : List Addr} {H : Hp} (s : ∀ b ∈ M, b ∈ M') : Ext (vis M' H) (vis M H) := fun b o h => by
  obtain ⟨n, q⟩ := vis_some h
  rw [vis_out fun z => n (s b z)]; exact q
theorem vis_cons (M : List Addr) (H : Hp) (l : Addr) : Ext (vis (l :: M) H) (vis M H) := vis_sub fun _ h => List.mem_cons_of_mem _ h
theorem vis_but {M : List Addr} {H H' : Hp} {a : Addr} (e : But a H H') (h : a ∈ M) : Ext (vis M H) (vis M H') := fun b o q => by
  obtain ⟨n, q⟩ := vis_some q
  rw [vis_out n]; exact e b o (fun z => n (z ▸ h)) q
/-- a new object is hidden from what was known -/
theorem vis_hide {M : List Addr} {H H' : Hp} {l : Addr} (e : Ext H H') (h : H l = none) : Ext (vis M H) (vis (l :: M) H') := fun b o q => by
  obtain ⟨n, q⟩ := vis_some q
  rw [vis_out (by
    intro z
    rcases List.mem_cons.mp z with z | z
    · subst z; rw [h] at q; cases q
    · exact n z)]
  exact e b o q
theorem vis_upd {M : List Addr} {H : Hp} {l : Addr} {o : HO} (h : l ∈ M) : vis M (upd H l o) = vis M H := by
  funext b; unfold vis
  by_cases c : b ∈ M
  · rw [if_pos c, if_pos c]
  · rw [if_neg c, if_neg c, upd_ne fun z => c (by rw [z]; exact h)]
/-- the hidden objects stand -/
def Dom (M : List Addr) (H : Hp) : Prop := ∀ b ∈ M, H b ≠ none
theorem Dom.nil {H : Hp} : Dom [] H := fun _ h => by cases h
theorem some_ne {H : Hp} {b : Addr} {o : HO} (h : H b = some o) : H b ≠ none := by rw [h]; exact fun z => nomatch z
theorem ne_some {H : Hp} {b : Addr} (h : H b ≠ none) : ∃ o, H b = some o := by
  cases e : H b with
  | none => exact absurd e h
  | some o => exact ⟨o, rfl⟩
theorem Dom.ext {M : List Addr} {H H' : Hp} (d : Dom M H) (e : Ext H H') : Dom M H' := fun b hb => by
  obtain ⟨o, h⟩ := ne_some (d b hb)
  exact some_ne (e b o h)
theorem Dom.cons {M : List Addr} {H : Hp} {l : Addr} (d : Dom M H) (h : H l ≠ none) : Dom (l :: M) H := fun b hb => by
  rcases List.mem_cons.mp hb with z | z
  · subst z; exact h
  · exact d b z
theorem Dom.tail {M : List Addr} {H : Hp} {l : Addr} (d : Dom (l :: M) H) : Dom M H := fun b hb => d b (List.mem_cons_of_mem _ hb)
theorem Dom.upd {M : List Addr} {H : Hp} {l : Addr} {o : HO} (d : Dom M H) : Dom M (upd H l o) := fun b hb => by
  by_cases c : b = l
  · subst c; rw [upd_same]; exact fun z => nomatch z
  · rw [upd_ne c]; exact d b hb
theorem Dom.but {M : List Addr} {H H' : Hp} {a : Addr} (d : Dom M H) (e : But a H H') (h : H' a ≠ none) : Dom M H' := fun b hb => by
  by_cases c : b = a
  · subst c; exact h
  · obtain ⟨o, q⟩ := ne_some (d b hb)
    exact some_ne (e b o c q)
theorem Dom.new {M : List Addr} {H : Hp} {p : Addr} (d : Dom M H) (h : H p = none) : p ∉ M := fun z => d p z h
/-! ## data in the heap -/
theorem sql_ext {K : PySem.W.Frag} {G G' : Hp} {a : Addr} {xs : List V} (e : Ext G G') (h : SqL K G a xs) : SqL K G' a xs := by
  rcases h with (h | ⟨o, h⟩) | h
  · exact .inl (.inl (e _ _ h))
  · exact .inl (.inr ⟨o, e _ _ h⟩)
  · exact .inr h
theorem sqt_ext {K : PySem.W.Frag} {G G' : Hp} {a : Addr} {xs : List V} (e : Ext G G') (h : SqT K G a xs) : SqT K G' a xs := by
  rcases h with (h | ⟨o, h⟩) | h
  · exact .inl (.inl (e _ _ h))
  · exact .inl (.inr ⟨o, e _ _ h⟩)
  · exact .inr h
theorem rd_inj {G : Hp} {a : Addr} {u u' : HO} (nf : ∀ o w, u ≠ .frz o w) (nf' : ∀ o w, u' ≠ .frz o w) (h : Rd G a u) (h' : Rd G a u') : u = u' := by
  rcases h with h | ⟨o, h⟩ <;> rcases h' with h' | ⟨o', h'⟩
  · rw [h] at h'; exact Option.some.inj h'
  · rw [h] at h'; exact absurd (Option.some.inj h') (nf _ _)
  · rw [h] at h'; exact absurd (Option.some.inj h').symm (nf' _ _)
  · rw [h] at h'; have := Option.some.inj h'; injection this
mutual
theorem dp_ext {K : PySem.W.Frag} {G G' : Hp} (e : Ext G G') : ∀ {v : V} {d : PyData}, Dp K G v d → Dp K G' v d
  | _, _, .non => .non
  | _, _, .bl b => .bl b
  | _, _, .int i => .int i
  | _, _, .str x => .str x
  | _, _, .lst h r => .lst (sql_ext e h) (dpAll_ext e r)
  | _, _, .tup h r => .tup (sqt_ext e h) (dpAll_ext e r)
theorem dpAll_ext {K : PySem.W.Frag} {G G' : Hp} (e : Ext G G') : ∀ {vs : List V} {ds : List PyData}, DpAll K G vs ds → DpAll K G' vs ds
  | _, _, .nil => .nil
  | _, _, .cons h r => .cons (dp_ext e h) (dpAll_ext e r)
end
section
variable {K : PySem.W.Frag} {G : Hp} {v : V} {vs : List V} {ds : List PyData} {d : PyData}
theorem dp_int {i : Int} (h : Dp K G v (.int i)) : v = .int i := by cases h; rfl
theorem dp_str {x : Str} (h : Dp K G v (.str x)) : v = .str x := by cases h; rfl
theorem dp_bl {x : Bool} (h : Dp K G v (.bool x)) : v = .bl x := by cases h; rfl
theorem dp_non (h : Dp K G v .none) : v = .non := by cases h; rfl
theorem dp_list (h : Dp K G v (.list ds)) : ∃ a vs, v = .ref a ∧ SqL K G a vs ∧ DpAll K G vs ds := by
  cases h with
  | lst h r => exact ⟨_, _, rfl, h, r⟩
theorem dp_tup (h : Dp K G v (.tuple ds)) : ∃ a vs, v = .ref a ∧ SqT K G a vs ∧ DpAll K G vs ds := by
  cases h with
  | tup h r => exact ⟨_, _, rfl, h, r⟩
theorem dpAll_len : ∀ {vs : List V} {ds : List PyData}, DpAll K G vs ds → vs.length = ds.length
  | _, _, .nil => rfl
  | _, _, .cons _ r => by simp [dpAll_len r]
theorem dpAll_get : ∀ {vs : List V} {ds : List PyData} {i : Nat} {d : PyData}, DpAll K G vs ds → ds[i]? = some d → ∃ v, vs[i]? = some v ∧ Dp K G v d
  | _, _, _, _, .nil, e => by simp at e
  | _, _, 0, _, .cons h _, e => by simp at e; subst e; exact ⟨_, rfl, h⟩
  | _, _, i + 1, _, .cons _ r, e => by
    obtain ⟨v, h1, h2⟩ := dpAll_get (i := i) r (by simpa using e)
    exact ⟨v, by simpa using h1, h2⟩
theorem dpAll_get' : ∀ {vs : List V} {ds : List PyData} {i : Nat} {v : V}, DpAll K G vs ds → vs[i]? = some v → ∃ d, ds[i]? = some d ∧ Dp K G v d
  | _, _, _, _, .nil, e => by simp at e
  | _, _, 0, _, .cons h _, e => by simp at e; subst e; exact ⟨_, rfl, h⟩
  | _, _, i + 1, _, .cons _ r, e => by
    obtain ⟨v, h1, h2⟩ := dpAll_get' (i := i) r (by simpa using e)
    exact ⟨v, by simpa using h1, h2⟩
theorem dpAll_append : ∀ {vs us : List V} {ds es : List PyData}, DpAll K G vs ds → DpAll K G us es → DpAll K G (vs ++ us) (ds ++ es)
  | _, _, _, _, .nil, s => s
  | _, _, _, _, .cons h r, s => .cons h (dpAll_append r s)
theorem dpAll_ints : ∀ (ns : List Int), DpAll K G (ns.map V.int) (ns.map PyData.int)
  | [] => .nil
  | n :: r => .cons (.int n) (dpAll_ints r)
theorem dpAll_strs : ∀ (ns : List Str), DpAll K G (ns.map V.str) (ns.map PyData.str)
  | [] => .nil
  | n :: r => .cons (.str n) (dpAll_strs r)
theorem dpAll_bls : ∀ (ns : List Bool), DpAll K G (ns.map V.bl) (ns.map PyData.bool)
  | [] => .nil
  | n :: r => .cons (.bl n) (dpAll_bls r)
theorem ints_of_dp : ∀ {vs : List V} {ns : List Int}, DpAll K G vs (ns.map PyData.int) → vs = ns.map V.int
  | _, [], h => by cases h; rfl
  | _, n :: r, h => by
    cases h with
    | cons h1 h2 => rw [dp_int h1, ints_of_dp h2]; rfl
theorem strs_of_dp : ∀ {vs : List V} {ns : List Str}, DpAll K G vs (ns.map PyData.str) → vs = ns.map V.str
  | _, [], h => by cases h; rfl
  | _, n :: r, h => by
    cases h with
    | cons h1 h2 => rw [dp_str h1, strs_of_dp h2]; rfl
theorem bls_of_dp : ∀ {vs : List V} {ns : List Bool}, DpAll K G vs (ns.map PyData.bool) → vs = ns.map V.bl
  | _, [], h => by cases h; rfl
  | _, n :: r, h => by
    cases h with
    | cons h1 h2 => rw [dp_bl h1, bls_of_dp h2]; rfl
theorem dpAll_take (n : Nat) : ∀ {vs : List V} {ds : List PyData}, DpAll K G vs ds → DpAll K G (vs.take n) (ds.take n) := by
  induction n with
  | zero => intro vs ds _; exact .nil
  | succ n ih =>
    intro vs ds h
    cases h with
    | nil => exact .nil
    | cons h r => exact .cons h (ih r)
theorem dpAll_drop (n : Nat) : ∀ {vs : List V} {ds : List PyData}, DpAll K G vs ds → DpAll K G (vs.drop n) (ds.drop n) := by
  induction n with
  | zero => intro vs ds h; exact h
  | succ n ih =>
    intro vs ds h
    cases h with
    | nil => exact .nil
    | cons h r => exact ih r
end
section
variable {K : PySem.W.Frag} {M : List Addr} {H H' : Hp} {v : V} {d : PyData}
theorem dpx (e : Ext H H') (h : Dp K (vis M H) v d) : Dp K (vis M H') v d := dp_ext (vis_mono e) h
theorem dpb {a : Addr} (e : But a H H') (m : a ∈ M) (h : Dp K (vis M H) v d) : Dp K (vis M H') v d := dp_ext (vis_but e m) h
theorem dpAllx {vs : List V} {ds : List PyData} (e : Ext H H') (h : DpAll K (vis M H) vs ds) : DpAll K (vis M H') vs ds := dpAll_ext (vis_mono e) h
theorem dpAllb {a : Addr} {vs : List V} {ds : List PyData} (e : But a H H') (m : a ∈ M) (h : DpAll K (vis M H) vs ds) : DpAll K (vis M H') vs ds := dpAll_ext (vis_but e m) h
theorem sqlv {a : Addr} {xs : List V} (h : SqL K (vis M H) a xs) : SqL K H a xs := sql_ext (vis_le M H) h
theorem sqtv {a : Addr} {xs : List V} (h : SqT K (vis M H) a xs) : SqT K H a xs := sqt_ext (vis_le M H) h
end
end Hf

namespace Hf
open PySem PySem.Spec PyProof.Rows L2
/-- tells which written part is meant -/
def KTok (K : PySem.W.Frag) : Prop := K = K
/-! ## readings, step by step (what follows is Q) -/
section
variable {K : PySem.W.Frag} {σ : L2.St} {H : Hp} {Q : VK} {v x y : V} {ta tb tc te : TE} {t : TA} {r : R2} {M : List Addr}
theorem w_var {i : Nat} (h : σ[i]? = some (some v)) (q : Q v H) : tVar i σ H Q := ⟨v, h, q⟩
theorem w_c (q : Q v H) : tC v σ H Q := q
theorem w_op (q : ta σ H fun x H1 => tb σ H1 fun y H2 => r x y H2 Q) : tOp r ta tb σ H Q := q
theorem w_un {r : V → Hp → VK → Prop} (q : ta σ H fun x H1 => r x H1 Q) : tUn r ta σ H Q := q
theorem w_I0 {g : Int → Int → V} {i j : Int} (q : Q (g i j) H) : rI0 g (.int i) (.int j) H Q := ⟨i, j, rfl, rfl, q⟩
theorem w_I {C : Int → Int → Prop} {g : Int → Int → V} {i j : Int} (c : C i j) (q : Q (g i j) H) : rI C g (.int i) (.int j) H Q := ⟨i, j, rfl, rfl, c, q⟩
theorem w_U {g : Int → V} {i : Int} (q : Q (g i) H) : rU g (.int i) H Q := ⟨i, rfl, q⟩
theorem w_eq (h : scal x y = true) (q : Q (.bl (decide (x = y))) H) : rEq x y H Q := ⟨h, q⟩
theorem w_ne (h : scal x y = true) (q : Q (.bl (!decide (x = y))) H) : rNe x y H Q := ⟨h, q⟩
theorem w_eqI {i j : Int} (q : Q (.bl (decide (i = j))) H) : rEq (.int i) (.int j) H Q := ⟨rfl, by
  have e : (decide (V.int i = V.int j)) = decide (i = j) := by
    by_cases h : i = j
    · subst h; simp
    · rw [decide_eq_false h, decide_eq_false fun z => h (V.int.inj z)]
  rw [e]; exact q⟩
theorem w_neI {i j : Int} (q : Q (.bl (!decide (i = j))) H) : rNe (.int i) (.int j) H Q := ⟨rfl, by
  have e : (decide (V.int i = V.int j)) = decide (i = j) := by
    by_cases h : i = j
    · subst h; simp
    · rw [decide_eq_false h, decide_eq_false fun z => h (V.int.inj z)]
  rw [e]; exact q⟩
theorem w_eqS {i j : Str} (q : Q (.bl (decide (i = j))) H) : rEq (.str i) (.str j) H Q := ⟨rfl, by
  have e : (decide (V.str i = V.str j)) = decide (i = j) := by
    by_cases h : i = j
    · subst h; simp
    · rw [decide_eq_false h, decide_eq_false fun z => h (V.str.inj z)]
  rw [e]; exact q⟩
theorem w_neS {i j : Str} (q : Q (.bl (!decide (i = j))) H) : rNe (.str i) (.str j) H Q := ⟨rfl, by
  have e : (decide (V.str i = V.str j)) = decide (i = j) := by
    by_cases h : i = j
    · subst h; simp
    · rw [decide_eq_false h, decide_eq_false fun z => h (V.str.inj z)]
  rw [e]; exact q⟩
theorem w_cons {tr : TA} {Q : List V → Hp → Prop} (q : ta σ H fun x H1 => tr σ H1 fun xs H2 => Q (x :: xs) H2) : tCons ta tr σ H Q := q
theorem w_nil {Q : List V → Hp → Prop} (q : Q [] H) : tNil σ H Q := q
theorem w_cb {r : List V → Hp → VK → Prop} (q : t σ H fun vs H1 => r vs H1 Q) : tCB r t σ H Q := q
theorem w_test {Q : Bool → Hp → Prop} (q : te σ H fun x H' => ∃ k, x = .bl k ∧ Q k H') : tTest te σ H Q := q
theorem w_B {Q : Bool → Hp → Prop} (q : te σ H fun x H' => ∃ k, x = .bl k ∧ Q k H') : tB te σ H Q := q
theorem w_bl {b : Bool} {Q : Bool → Hp → Prop} (q : Q b H) : ∃ k, V.bl b = .bl k ∧ Q k H := ⟨b, rfl, q⟩
theorem w_and {tt uu : TT} {Q : Bool → Hp → Prop} (q : tt σ H fun c H1 => if c = true then uu σ H1 Q else Q false H1) : tAnd tt uu σ H Q := q
theorem w_or {tt uu : TT} {Q : Bool → Hp → Prop} (q : tt σ H fun c H1 => if c = true then Q true H1 else uu σ H1 Q) : tOr tt uu σ H Q := q
theorem w_not {tt : TT} {Q : Bool → Hp → Prop} (q : tt σ H fun c H1 => Q (!c) H1) : tNot tt σ H Q := q
theorem w_andV (q : ta σ H fun x H1 => ∃ c, x = .bl c ∧ if c = true then tb σ H1 Q else Q (.bl false) H1) : tAndV ta tb σ H Q := q
theorem w_orV (q : ta σ H fun x H1 => ∃ c, x = .bl c ∧ if c = true then Q (.bl true) H1 else tb σ H1 Q) : tOrV ta tb σ H Q := q
theorem w_notV (q : ta σ H fun x H1 => ∃ c, x = .bl c ∧ Q (.bl (!c)) H1) : tNotV ta σ H Q := q
theorem w_blV {b : Bool} {P : Bool → Prop} (q : P b) : ∃ k, V.bl b = .bl k ∧ P k := ⟨b, rfl, q⟩
theorem w_if {tt : TT} (q : tt σ H fun c H1 => if c = true then ta σ H1 Q else tb σ H1 Q) : tIf tt ta tb σ H Q := q
/-- a test whose answer is open -/
theorem w_ite {p A B : Prop} [Decidable p] (h1 : p → A) (h2 : ¬ p → B) : if decide p = true then A else B := by
  by_cases c : p
  · rw [if_pos (decide_eq_true c)]; exact h1 c
  · rw [if_neg (by rw [decide_eq_false c]; exact Bool.false_ne_true)]; exact h2 c
theorem w_iteN {p A B : Prop} [Decidable p] (h1 : ¬ p → A) (h2 : p → B) : if (!decide p) = true then A else B := by
  by_cases c : p
  · rw [decide_eq_true c]; exact iteF (h2 c)
  · rw [decide_eq_false c]; exact iteT (h1 c)
theorem w_iteB {b : Bool} {A B : Prop} (h1 : b = true → A) (h2 : b = false → B) : if b = true then A else B := by
  cases b with
  | true => exact iteT (h1 rfl)
  | false => exact iteF (h2 rfl)
theorem w_iteNB {b : Bool} {A B : Prop} (h1 : b = false → A) (h2 : b = true → B) : if (!b) = true then A else B := by
  cases b with
  | true => exact iteF (h2 rfl)
  | false => exact iteT (h1 rfl)
theorem w_yes {p A B : Prop} [Decidable p] (c : p) (h : A) : if decide p = true then A else B := w_ite (fun _ => h) fun n => absurd c n
theorem w_no {p A B : Prop} [Decidable p] (c : ¬ p) (h : B) : if decide p = true then A else B := w_ite (fun n => absurd n c) fun _ => h
theorem w_yesN {p A B : Prop} [Decidable p] (c : ¬ p) (h : A) : if (!decide p) = true then A else B := w_iteN (fun _ => h) fun n => absurd n c
theorem w_noN {p A B : Prop} [Decidable p] (c : p) (h : B) : if (!decide p) = true then A else B := w_iteN (fun n => absurd c n) fun _ => h
theorem ite_nT {A B : Prop} (h : B) : if (!true) = true then A else B := iteF h
theorem ite_nF {A B : Prop} (h : A) : if (!false) = true then A else B := iteT h
/-! ### shapes of data -/
def Shp (k : Nat) (d : PyData) : Prop := d.canLay0 = true ∧ d.depth ≤ k
theorem Shp.int {k : Nat} (i : Int) : Shp k (.int i) := ⟨rfl, Nat.zero_le _⟩
theorem Shp.bool {k : Nat} (i : Bool) : Shp k (.bool i) := ⟨rfl, Nat.zero_le _⟩
theorem Shp.none {k : Nat} : Shp k .none := ⟨rfl, Nat.zero_le _⟩
theorem Shp.str {k : Nat} {x : Str} (h : (PyData.str x).canLay0 = true) : Shp k (.str x) := ⟨h, Nat.zero_le _⟩
theorem Shp.all {k : Nat} : ∀ {ds : List PyData}, (∀ d ∈ ds, Shp k d) → PyData.canLayAll0 ds = true ∧ PyData.depthAll ds ≤ k
  | [], _ => ⟨rfl, Nat.zero_le _⟩
  | d :: r, h => by
    obtain ⟨h1, h2⟩ := h d List.mem_cons_self
    obtain ⟨h3, h4⟩ := Shp.all fun x hx => h x (List.mem_cons_of_mem _ hx)
    exact ⟨by rw [PyData.canLayAll0, h1, h3]; rfl, Nat.max_le.mpr ⟨h2, h4⟩⟩
theorem Shp.list {k : Nat} {ds : List PyData} (h : ∀ d ∈ ds, Shp k d) : Shp (k + 1) (.list ds) := ⟨(Shp.all h).1, Nat.succ_le_succ (Shp.all h).2⟩
theorem Shp.tup {k : Nat} {ds : List PyData} (h : ∀ d ∈ ds, Shp k d) : Shp (k + 1) (.tuple ds) := ⟨(Shp.all h).1, Nat.succ_le_succ (Shp.all h).2⟩
theorem Shp.mono {j k : Nat} {d : PyData} (h : Shp j d) (l : j ≤ k) : Shp k d := ⟨h.1, Nat.le_trans h.2 l⟩
theorem Shp.ok {k : Nat} {d : PyData} (h : Shp k d) (l : k ≤ 64) : SeqAt.shaped d = true := Bool.and_eq_true_iff.mpr ⟨h.1, decide_eq_true (Nat.le_trans h.2 l)⟩
/-- a new tuple, a new list -/
def newT (xs : List V) (H : Hp) (Q : VK) : Prop := xs.length ≤ sizeLine ∧ ∀ p, H p = none → Q (.ref p) (upd H p (.tup xs))
def newL (xs : List V) (H : Hp) (Q : VK) : Prop := xs.length ≤ sizeLine ∧ ∀ p, H p = none → Q (.ref p) (upd H p (.lst xs))
theorem w_tup (q : t σ H fun xs H1 => newT xs H1 Q) : tTup t σ H Q := q
theorem w_lst (q : t σ H fun xs H1 => newL xs H1 Q) : tLst t σ H Q := q
theorem sz {n : Nat} (h : n ≤ 100000) : n ≤ sizeLine := Nat.le_trans h (by decide)
theorem szl {n : Nat} (h : n < 100000) : n < sizeLine := Nat.lt_of_lt_of_le h (by decide)
theorem w_newT {xs : List V} {ds : List PyData} (kt : KTok K) (hM : Dom M H) (h : DpAll K (vis M H) xs ds) (hl : xs.length ≤ 100000) (q : ∀ p H', Ext H H' → Dom M H' → Dp K (vis M H') (.ref p) (.tuple ds) → Q (.ref p) H') : newT xs H Q := ⟨sz hl, fun p hp => by
  have e : Ext H (upd H p (.tup xs)) := ext_new hp
  have n := hM.new hp
  refine q p _ e (hM.ext e) (.tup (.inl (.inl ?_)) (dpAllx e h))
  rw [vis_out n, upd_same]⟩
theorem w_newL {xs : List V} {ds : List PyData} (kt : KTok K) (hM : Dom M H) (h : DpAll K (vis M H) xs ds) (hl : xs.length ≤ 100000) (q : ∀ p H', Ext H H' → Dom M H' → Dp K (vis M H') (.ref p) (.list ds) → Q (.ref p) H') : newL xs H Q := ⟨sz hl, fun p hp => by
  have e : Ext H (upd H p (.lst xs)) := ext_new hp
  have n := hM.new hp
  refine q p _ e (hM.ext e) (.lst (.inl (.inl ?_)) (dpAllx e h))
  rw [vis_out n, upd_same]⟩
/-- a new list that will be changed: hidden from now on -/
theorem w_newM {xs : List V} {ds : List PyData} (kt : KTok K) (hM : Dom M H) (h : DpAll K (vis M H) xs ds) (hl : xs.length ≤ 100000) (q : ∀ p H', H p = none → Ext H H' → Dom (p :: M) H' → H' p = some (.lst xs) → DpAll K (vis (p :: M) H') xs ds → Q (.ref p) H') : newL xs H Q := ⟨sz hl, fun p hp => by
  have e : Ext H (upd H p (.lst xs)) := ext_new hp
  refine q p _ hp e ((hM.ext e).cons (some_ne upd_same)) upd_same (dpAll_ext (vis_hide e hp) h)⟩
/-- a new list, raw -/
theorem w_newR {xs : List V} (hl : xs.length ≤ 100000) (q : ∀ p H', H p = none → Ext H H' → H' p = some (.lst xs) → Q (.ref p) H') : newL xs H Q := ⟨sz hl, fun p hp => q p _ hp (ext_new hp) upd_same⟩
theorem w_newTR {xs : List V} (hl : xs.length ≤ 100000) (q : ∀ p H', H p = none → Ext H H' → H' p = some (.tup xs) → Q (.ref p) H') : newT xs H Q := ⟨sz hl, fun p hp => q p _ hp (ext_new hp) upd_same⟩
/-! ### subscripts -/
theorem at_nat {α : Type} {xs : List α} {i : Int} {x : α} (h0 : 0 ≤ i) (h : xs[i.toNat]? = some x) : atI xs i = some x := by
  have e : i = ((i.toNat : Nat) : Int) := by omega
  rw [e]; exact atI_nat h
theorem at_len {α β : Type} {xs : List α} {ys : List β} (e : xs.length = ys.length) {i : Int} {d : β} (h : atI ys i = some d) : ∃ j, ixN xs.length i = some j ∧ ys[j]? = some d := by
  unfold atI at h
  rw [e]
  cases q : ixN ys.length i with
  | none => rw [q] at h; cases h
  | some j => rw [q] at h; exact ⟨j, rfl, h⟩
theorem dp_at {G : Hp} {xs : List V} {ds : List PyData} {i : Int} {d : PyData} (r : DpAll K G xs ds) (h : atI ds i = some d) : ∃ v, atI xs i = some v ∧ Dp K G v d := by
  obtain ⟨j, h1, h2⟩ := at_len (dpAll_len r) h
  obtain ⟨v, h3, h4⟩ := dpAll_get r h2
  refine ⟨v, ?_, h4⟩
  unfold atI
  rw [h1]; exact h3
theorem w_ixL {a : V} {ds : List PyData} {i : Int} {d : PyData} (h : Dp K (vis M H) a (.list ds)) (g : atI ds i = some d) (q : ∀ v, Dp K (vis M H) v d → Q v H) : rIxL K a (.int i) H Q := by
  obtain ⟨p, vs, rfl, h1, h2⟩ := dp_list h
  obtain ⟨v, h3, h4⟩ := dp_at h2 g
  exact ⟨p, vs, i, v, rfl, rfl, sqlv h1, h3, q v h4⟩
theorem w_ixT {a : V} {ds : List PyData} {i : Int} {d : PyData} (h : Dp K (vis M H) a (.tuple ds)) (g : atI ds i = some d) (q : ∀ v, Dp K (vis M H) v d → Q v H) : rIxT K a (.int i) H Q := by
  obtain ⟨p, vs, rfl, h1, h2⟩ := dp_tup h
  obtain ⟨v, h3, h4⟩ := dp_at h2 g
  exact ⟨p, vs, i, v, rfl, rfl, sqtv h1, h3, q v h4⟩
/-- a raw list -/
theorem w_ixR {p : Addr} {xs : List V} {i : Int} (h : H p = some (.lst xs)) (g : atI xs i = some v) (q : Q v H) : rIxL K (.ref p) (.int i) H Q := ⟨p, xs, i, v, rfl, rfl, .inl (.inl h), g, q⟩
theorem w_ixS {z : Str} {i : Int} {c : Nat} (hl : z.length ≤ 100000) (g : atI z.cps.toList i = some c) (q : Q (.str ⟨#[c]⟩) H) : rIxS (.str z) (.int i) H Q := ⟨z, i, c, rfl, rfl, sz hl, g, q⟩
theorem len_dp {a : V} {ds : List PyData} (h : Dp K (vis M H) a (.list ds) ∨ Dp K (vis M H) a (.tuple ds)) : ∃ p ys, a = .ref p ∧ (SqL K H p ys ∨ SqT K H p ys) ∧ ys.length = ds.length ∧ DpAll K (vis M H) ys ds := by
  rcases h with h | h
  · obtain ⟨p, vs, rfl, h1, h2⟩ := dp_list h
    exact ⟨p, vs, rfl, .inl (sqlv h1), dpAll_len h2, h2⟩
  · obtain ⟨p, vs, rfl, h1, h2⟩ := dp_tup h
    exact ⟨p, vs, rfl, .inr (sqtv h1), dpAll_len h2, h2⟩
/-! ### the built-ins' readings, by name -/
def rLenQ (K : PySem.W.Frag) : List V → Hp → VK → Prop := fun xs H Q => ∃ p ys, xs = [.ref p] ∧ (SqL K H p ys ∨ SqT K H p ys) ∧ Q (.int ys.length) H
def rLenZ : List V → Hp → VK → Prop := fun xs H Q => ∃ z, xs = [.str z] ∧ z.length ≤ sizeLine ∧ Q (.int z.length) H
def rAbsI : List V → Hp → VK → Prop := fun xs H Q => ∃ i, xs = [.int i] ∧ Q (.int (if i < 0 then -i else i)) H
def rMaxI : List V → Hp → VK → Prop := fun xs H Q => ∃ i j, xs = [.int i, .int j] ∧ Q (.int (if j > i then j else i)) H
def rMinI : List V → Hp → VK → Prop := fun xs H Q => ∃ i j, xs = [.int i, .int j] ∧ Q (.int (if j < i then j else i)) H
def rIntI : List V → Hp → VK → Prop := fun xs H Q => (∃ i, xs = [.int i] ∧ Q (.int i) H) ∨ ∃ k, xs = [.bl k] ∧ Q (.int (if k then 1 else 0)) H
def rStrI : List V → Hp → VK → Prop := fun xs H Q => ∃ i, xs = [.int i] ∧ i.natAbs.log2 < 1920 ∧ Q (.str (toString i)) H
def rIntZ : List V → Hp → VK → Prop := fun xs H Q => ∃ a n, xs = [.str a] ∧ PySem.intText? a = some n ∧ a.length ≤ 640 ∧ Q (.int n) H
def rListO (K : PySem.W.Frag) : List V → Hp → VK → Prop := fun xs H Q => ∃ p ys, xs = [.ref p] ∧ (SqL K H p ys ∨ SqT K H p ys) ∧ ∀ l, H l = none → Q (.ref l) (upd H l (.lst ys))
def rTupO (K : PySem.W.Frag) : List V → Hp → VK → Prop := fun xs H Q => ∃ p ys, xs = [.ref p] ∧ ((SqL K H p ys ∧ ∀ l, H l = none → Q (.ref l) (upd H l (.tup ys))) ∨ (SqT K H p ys ∧ Q (.ref p) H))
def rAddZ : R2 := fun x y H Q => ∃ i j, x = .str i ∧ y = .str j ∧ i.length + j.length ≤ sizeLine ∧ Q (.str (i ++ j)) H
def rInSg : R2 := fun x y H Q => ∃ (c : Nat) (z : Str), x = .str ⟨#[c]⟩ ∧ y = .str z ∧ Q (.bl (decide (c ∈ z.cps.toList))) H
def rNiSg : R2 := fun x y H Q => ∃ (c : Nat) (z : Str), x = .str ⟨#[c]⟩ ∧ y = .str z ∧ Q (.bl (!decide (c ∈ z.cps.toList))) H
def rIsNn : R2 := fun x y H Q => y = .non ∧ Q (.bl (decide (x = .non))) H
def rNoNn : R2 := fun x y H Q => y = .non ∧ Q (.bl (!decide (x = .non))) H
def rSplitZ : V → List V → Hp → VK → Prop := fun x xs H Q => ∃ a b, x = .str a ∧ xs = [.str b] ∧ (b.length == 0) = false ∧ a.length + 2 ≤ sizeLine ∧ rNewStrs (Txt.split a b) H Q
def rPartZ : V → List V → Hp → VK → Prop := fun x xs H Q => ∃ a b, x = .str a ∧ xs = [.str b] ∧ (b.length == 0) = false ∧ a.length ≤ sizeLine ∧
  ∀ p, H p = none → Q (.ref p) (upd H p (.tup [.str (Txt.partition a b).1, .str (Txt.partition a b).2.1, .str (Txt.partition a b).2.2]))
def rJoinZ (K : PySem.W.Frag) : V → List V → Hp → VK → Prop := fun x xs H Q => ∃ a p, ∃ ys : List Str, x = .str a ∧ xs = [.ref p] ∧ (SqL K H p (ys.map V.str) ∨ SqT K H p (ys.map V.str)) ∧
  (ys.map (·.length)).sum + ys.length * a.length ≤ 16777216 ∧ Q (.str (Txt.join a ys)) H
section
variable {X : Cx}
theorem cn_len : CallR X (.builtin "len") (rLenQ X.K) := call_len_seq
theorem cn_lenZ : CallR X (.builtin "len") rLenZ := call_len_str
theorem cn_abs : CallR X (.builtin "abs") rAbsI := call_abs
theorem cn_max (hc : X.calm = true) : CallR X (.builtin "max") rMaxI := call_max2 hc
theorem cn_min (hc : X.calm = true) : CallR X (.builtin "min") rMinI := call_min2 hc
theorem cn_int : CallR X (.type "int") rIntI := call_int1
theorem cn_str : CallR X (.type "str") rStrI := call_str_int
theorem cn_intZ : CallR X (.type "int") rIntZ := call_int_str
theorem cn_list : CallR X (.type "list") (rListO X.K) := call_list_of
theorem cn_tuple : CallR X (.type "tuple") (rTupO X.K) := call_tuple_of
theorem on_addZ : OpR X (binaryOp .Add) rAddZ := op_add_str
theorem on_inSg : OpR X (compareOp .In) rInSg := op_in_sign
theorem on_niSg : OpR X (compareOp .NotIn) rNiSg := op_notIn_sign
theorem on_isN : OpR X (compareOp .Is) rIsNn := op_isN
theorem on_noN : OpR X (compareOp .IsNot) rNoNn := op_notN
variable {o e : Expr} {to te : TE}
theorem pn_split {apos pos : Pos} (ho : PE X o to) (he : PE X e te) (hs : starEach [e] X.env = [(false, eval e X.env)] := by rfl) (hb : attributeBase o "split" X.env (eval o X.env) = eval o X.env := by rfl) (hl : (apos.endLine == pos.line) = true := by rfl) :
    PE X (.Call (.Attribute o "split" apos) [e] [] pos) (tM1 rSplitZ to te) := pe_split ho he hs hb hl
theorem pn_part {apos pos : Pos} (ho : PE X o to) (he : PE X e te) (hs : starEach [e] X.env = [(false, eval e X.env)] := by rfl) (hb : attributeBase o "partition" X.env (eval o X.env) = eval o X.env := by rfl) (hl : (apos.endLine == pos.line) = true := by rfl) :
    PE X (.Call (.Attribute o "partition" apos) [e] [] pos) (tM1 rPartZ to te) := pe_partition ho he hs hb hl
theorem pn_join {apos pos : Pos} (ho : PE X o to) (he : PE X e te) (hs : starEach [e] X.env = [(false, eval e X.env)] := by rfl) (hb : attributeBase o "join" X.env (eval o X.env) = eval o X.env := by rfl) (hl : (apos.endLine == pos.line) = true := by rfl) :
    PE X (.Call (.Attribute o "join" apos) [e] [] pos) (tM1 (rJoinZ X.K) to te) := pe_join ho he hs hb hl
end
theorem w_m1 {r : V → List V → Hp → VK → Prop} {to : TE} (q : to σ H fun x H1 => (∃ a, x = .str a) ∧ te σ H1 fun y H2 => r x [y] H2 Q) : tM1 r to te σ H Q := q
theorem w_isS {a : Str} {P : Prop} (q : P) : (∃ b, V.str a = .str b) ∧ P := ⟨⟨a, rfl⟩, q⟩
theorem w_lenL {a : V} {ds : List PyData} (h : Dp K (vis M H) a (.list ds)) (q : Q (.int (ds.length : Int)) H) : rLenQ K [a] H Q := by
  obtain ⟨p, ys, rfl, h1, h2, _⟩ := len_dp (.inl h)
  exact ⟨p, ys, rfl, h1, by rw [h2]; exact q⟩
theorem w_lenT {a : V} {ds : List PyData} (h : Dp K (vis M H) a (.tuple ds)) (q : Q (.int (ds.length : Int)) H) : rLenQ K [a] H Q := by
  obtain ⟨p, ys, rfl, h1, h2, _⟩ := len_dp (.inr h)
  exact ⟨p, ys, rfl, h1, by rw [h2]; exact q⟩
theorem w_lenZ {z : Str} (hl : z.length ≤ 100000) (q : Q (.int (z.length : Int)) H) : rLenZ [.str z] H Q := ⟨z, rfl, sz hl, q⟩
theorem w_lenR {p : Addr} {xs : List V} (h : SqL K H p xs) (q : Q (.int (xs.length : Int)) H) : rLenQ K [.ref p] H Q := ⟨p, xs, rfl, .inl h, q⟩
theorem w_abs {i : Int} (q : Q (.int (if i < 0 then -i else i)) H) : rAbsI [.int i] H Q := ⟨i, rfl, q⟩
theorem w_max {i j : Int} (q : Q (.int (if j > i then j else i)) H) : rMaxI [.int i, .int j] H Q := ⟨i, j, rfl, q⟩
theorem w_min {i j : Int} (q : Q (.int (if j < i then j else i)) H) : rMinI [.int i, .int j] H Q := ⟨i, j, rfl, q⟩
theorem w_intI {i : Int} (q : Q (.int i) H) : rIntI [.int i] H Q := .inl ⟨i, rfl, q⟩
theorem w_intB {b : Bool} (q : Q (.int (if b = true then 1 else 0)) H) : rIntI [.bl b] H Q := .inr ⟨b, rfl, q⟩
theorem w_strI {i : Int} (h : i.natAbs.log2 < 1920) (q : Q (.str (toString i)) H) : rStrI [.int i] H Q := ⟨i, rfl, h, q⟩
theorem w_intZ {a : Str} {n : Int} (h : PySem.intText? a = some n) (hl : a.length ≤ 640) (q : Q (.int n) H) : rIntZ [.str a] H Q := ⟨a, n, rfl, h, hl, q⟩
theorem w_addZ {i j : Str} (h : i.length + j.length ≤ 100000) (q : Q (.str (i ++ j)) H) : rAddZ (.str i) (.str j) H Q := ⟨i, j, rfl, rfl, sz h, q⟩
theorem w_inSg {c : Nat} {z : Str} (q : Q (.bl (decide (c ∈ z.cps.toList))) H) : rInSg (.str ⟨#[c]⟩) (.str z) H Q := ⟨c, z, rfl, rfl, q⟩
theorem w_niSg {c : Nat} {z : Str} (q : Q (.bl (!decide (c ∈ z.cps.toList))) H) : rNiSg (.str ⟨#[c]⟩) (.str z) H Q := ⟨c, z, rfl, rfl, q⟩
theorem w_isNn {x : V} (q : Q (.bl (decide (x = .non))) H) : rIsNn x .non H Q := ⟨rfl, q⟩
theorem w_noNn {x : V} (q : Q (.bl (!decide (x = .non))) H) : rNoNn x .non H Q := ⟨rfl, q⟩
theorem w_split {a b : Str} (kt : KTok K) (hM : Dom M H) (hb : (b.length == 0) = false) (ha : a.length ≤ 100000) (q : ∀ p H', Ext H H' → Dom M H' → Dp K (vis M H') (.ref p) (.list ((Txt.split a b).map PyData.str)) → Q (.ref p) H') : rSplitZ (.str a) [.str b] H Q := by
  refine ⟨a, b, rfl, rfl, hb, Nat.le_trans (Nat.add_le_add_right ha 2) (by decide), fun p hp => ?_⟩
  have e : Ext H (upd H p (.lst ((Txt.split a b).map V.str))) := ext_new hp
  refine q p _ e (hM.ext e) (.lst (.inl (.inl ?_)) (dpAll_strs _))
  rw [vis_out (hM.new hp), upd_same]
theorem w_partZ {a b : Str} (kt : KTok K) (hM : Dom M H) (hb : (b.length == 0) = false) (ha : a.length ≤ 100000)
    (q : ∀ p H', Ext H H' → Dom M H' → Dp K (vis M H') (.ref p) (.tuple [.str (Txt.partition a b).1, .str (Txt.partition a b).2.1, .str (Txt.partition a b).2.2]) → Q (.ref p) H') : rPartZ (.str a) [.str b] H Q := by
  refine ⟨a, b, rfl, rfl, hb, sz ha, fun p hp => ?_⟩
  have e : Ext H (upd H p (.tup [.str (Txt.partition a b).1, .str (Txt.partition a b).2.1, .str (Txt.partition a b).2.2])) := ext_new hp
  refine q p _ e (hM.ext e) (.tup (.inl (.inl ?_)) (.cons (.str _) (.cons (.str _) (.cons (.str _) .nil))))
  rw [vis_out (hM.new hp), upd_same]
theorem w_join {a : Str} {x : V} (ys : List Str) (h : Dp K (vis M H) x (.list (ys.map PyData.str))) (hl : (ys.map (·.length)).sum + ys.length * a.length ≤ 16777216) (q : Q (.str (Txt.join a ys)) H) : rJoinZ K (.str a) [x] H Q := by
  obtain ⟨p, vs, rfl, h1, h2⟩ := dp_list h
  cases strs_of_dp h2
  exact ⟨a, p, ys, rfl, rfl, .inl (sqlv h1), hl, q⟩
/-- tuple(x) of a list -/
theorem w_tupL {a : V} {ds : List PyData} (hM : Dom M H) (h : Dp K (vis M H) a (.list ds)) (q : ∀ p H', Ext H H' → Dom M H' → Dp K (vis M H') (.ref p) (.tuple ds) → Q (.ref p) H') : rTupO K [a] H Q := by
  obtain ⟨p, ys, rfl, h1, h2⟩ := dp_list h
  refine ⟨p, ys, rfl, .inl ⟨sqlv h1, fun l hl => ?_⟩⟩
  have e : Ext H (upd H l (.tup ys)) := ext_new hl
  refine q l _ e (hM.ext e) (.tup (.inl (.inl ?_)) (dpAllx e h2))
  rw [vis_out (hM.new hl), upd_same]
/-- == of data -/
theorem w_eqD {x y : V} {d e : PyData} (h : Dp K (vis M H) x d) (h' : Dp K (vis M H) y e) (s1 : SeqAt.shaped d = true) (s2 : SeqAt.shaped e = true) (q : Q (.bl (PyData.eqv d e)) H) : rEqD K x y H Q :=
  ⟨d, e, dp_ext (vis_le M H) h, dp_ext (vis_le M H) h', s1, s2, q⟩
theorem w_neD {x y : V} {d e : PyData} (h : Dp K (vis M H) x d) (h' : Dp K (vis M H) y e) (s1 : SeqAt.shaped d = true) (s2 : SeqAt.shaped e = true) (q : Q (.bl (!PyData.eqv d e)) H) : rNeD K x y H Q :=
  ⟨d, e, dp_ext (vis_le M H) h, dp_ext (vis_le M H) h', s1, s2, q⟩
theorem w_eqSame {x y : V} {d : PyData} {k : Nat} (h : Dp K (vis M H) x d) (h' : Dp K (vis M H) y d) (s : Shp k d) (l : k ≤ 64) (q : Q (.bl true) H) : rEqD K x y H Q := w_eqD h h' (s.ok l) (s.ok l) (by rw [SeqAt.eqv_refl d s.1]; exact q)
theorem w_neSame {x y : V} {d : PyData} {k : Nat} (h : Dp K (vis M H) x d) (h' : Dp K (vis M H) y d) (s : Shp k d) (l : k ≤ 64) (q : Q (.bl false) H) : rNeD K x y H Q := w_neD h h' (s.ok l) (s.ok l) (by rw [SeqAt.eqv_refl d s.1]; exact q)
/-! ### slices -/
theorem w_sl {r : V → Option Int → Option Int → Hp → VK → Prop} {tl th : TO} (q : te σ H fun x H1 => tl σ H1 fun l H2 => th σ H2 fun u H3 => r x l u H3 Q) : tSl r te tl th σ H Q := q
theorem w_noPart {Q : Option Int → Hp → Prop} (q : Q none H) : tNoPart σ H Q := q
theorem w_part {Q : Option Int → Hp → Prop} (q : te σ H fun x H1 => ∃ i, x = .int i ∧ Q (some i) H1) : tPart te σ H Q := q
theorem w_int1 {i : Int} {P : Int → Prop} (q : P i) : ∃ j, V.int i = .int j ∧ P j := ⟨i, rfl, q⟩
def cutD {α : Type} (xs : List α) (lo hi : Option Int) : List α := (xs.drop (HT.sIx xs.length 0 lo)).take (HT.sIx xs.length xs.length hi - HT.sIx xs.length 0 lo)
theorem dp_cut {G : Hp} {xs : List V} {ds : List PyData} (r : DpAll K G xs ds) (lo hi : Option Int) : DpAll K G (cutV xs lo hi) (cutD ds lo hi) := by
  unfold cutV cutD
  rw [dpAll_len r]
  exact dpAll_take _ (dpAll_drop _ r)
theorem w_slL {a : V} {ds : List PyData} {lo hi : Option Int} (hM : Dom M H) (h : Dp K (vis M H) a (.list ds)) (q : ∀ p H', Ext H H' → Dom M H' → Dp K (vis M H') (.ref p) (.list (cutD ds lo hi)) → Q (.ref p) H') : rSlL K a lo hi H Q := by
  obtain ⟨a', vs, rfl, h1, h2⟩ := dp_list h
  refine ⟨a', vs, rfl, sqlv h1, fun p hp => ?_⟩
  have e : Ext H (upd H p (.lst (cutV vs lo hi))) := ext_new hp
  refine q p _ e (hM.ext e) (.lst (.inl (.inl ?_)) (dpAllx e (dp_cut h2 lo hi)))
  rw [vis_out (hM.new hp), upd_same]
theorem cutD_from {α : Type} (xs : List α) (n : Nat) : cutD xs (some (n : Int)) none = xs.drop n := by
  unfold cutD
  rw [HT.sIx_nat, HT.sIx_none]
  by_cases h : n ≤ xs.length
  · rw [Nat.min_eq_left h]
    exact List.take_of_length_le (by rw [List.length_drop]; omega)
  · rw [Nat.min_eq_right (by omega), List.drop_of_length_le (Nat.le_refl _), List.drop_of_length_le (by omega)]
    exact List.take_nil
theorem cutD_to {α : Type} (xs : List α) (n : Nat) : cutD xs none (some (n : Int)) = xs.take n := by
  unfold cutD
  rw [HT.sIx_nat, HT.sIx_none]
  simp only [List.drop_zero, Nat.sub_zero]
  by_cases h : n ≤ xs.length
  · rw [Nat.min_eq_left h]
  · rw [Nat.min_eq_right (by omega), List.take_of_length_le (Nat.le_refl _), List.take_of_length_le (by omega)]
/-! ### in, not in over flat things -/
theorem w_inL {neg : Bool} {p : Addr} {xs : List V} (h : SqL K H p xs ∨ SqT K H p xs) (hx : flatV x = true) (hf : xs.all flatV = true) (q : Q (.bl (if neg then !inV x xs else inV x xs)) H) : rIn K neg x (.ref p) H Q := ⟨p, xs, rfl, h, hx, hf, q⟩
/-! ### list + list, extend, append of raw lists -/
theorem w_bm {T : String} {r : V → List V → Hp → VK → Prop} {to : TE} (q : to σ H fun x H1 => tyV K T x H1 ∧ t σ H1 fun xs H2 => r x xs H2 Q) : tBM K T r to t σ H Q := q
theorem w_bm0 {T : String} {r : V → List V → Hp → VK → Prop} {to : TE} (q : to σ H fun x H1 => tyV K T x H1 ∧ r x [] H1 Q) : tBM0 K T r to σ H Q := q
theorem ty_lst {p : Addr} {xs : List V} (h : H p = some (.lst xs)) : tyV K "list" (.ref p) H := .inl ⟨rfl, _, .inl (.inl h)⟩
theorem w_app {l : Addr} {xs : List V} (h : H l = some (.lst xs)) (hz : xs.length < 100000) (q : Q .non (upd H l (.lst (xs ++ [y])))) : rAppend (.ref l) [y] H Q := ⟨l, xs, y, rfl, rfl, h, szl hz, q⟩
/-- a list object of the heap and what it holds -/
def Lst (K : PySem.W.Frag) (M : List Addr) (H : Hp) (D : Addr) (ds : List PyData) : Prop := D ∉ M ∧ ∃ acc, H D = some (.lst acc) ∧ DpAll K (vis M H) acc ds
theorem w_catD {ds es : List PyData} {p p' : Addr} (hM : Dom M H) (h1 : Lst K M H p ds) (h2 : Lst K M H p' es) (hz : ds.length + es.length ≤ 100000)
    (q : ∀ p H', Ext H H' → Dom M H' → Lst K M H' p (ds ++ es) → Q (.ref p) H') : rCat (.ref p) (.ref p') H Q := by
  obtain ⟨_, xs, h1, r1⟩ := h1
  obtain ⟨_, zs, h2, r2⟩ := h2
  have e1 := dpAll_len r1
  have e2 := dpAll_len r2
  refine ⟨p, p', xs, zs, rfl, rfl, h1, h2, sz (by omega), fun l hl => ?_⟩
  have e : Ext H (upd H l (.lst (xs ++ zs))) := ext_new hl
  exact q l _ e (hM.ext e) ⟨hM.new hl, _, upd_same, dpAllx e (dpAll_append r1 r2)⟩
/-- list(x) -/
theorem w_listD {a : V} {ds : List PyData} (hM : Dom M H) (h : Dp K (vis M H) a (.list ds) ∨ Dp K (vis M H) a (.tuple ds)) (q : ∀ p H', Ext H H' → Dom M H' → H p = none → Lst K M H' p ds → Q (.ref p) H') : rListO K [a] H Q := by
  obtain ⟨p, ys, rfl, h1, _, h2⟩ := len_dp h
  refine ⟨p, ys, rfl, h1, fun l hl => ?_⟩
  have e : Ext H (upd H l (.lst ys)) := ext_new hl
  exact q l _ e (hM.ext e) hl ⟨hM.new hl, _, upd_same, dpAllx e h2⟩
theorem w_listT {a : V} {ds : List PyData} (hM : Dom M H) (h : Dp K (vis M H) a (.tuple ds)) (q : ∀ p H', Ext H H' → Dom M H' → H p = none → Lst K M H' p ds → Q (.ref p) H') : rListO K [a] H Q := w_listD hM (.inr h) q
theorem w_listL {a : V} {ds : List PyData} (hM : Dom M H) (h : Dp K (vis M H) a (.list ds)) (q : ∀ p H', Ext H H' → Dom M H' → H p = none → Lst K M H' p ds → Q (.ref p) H') : rListO K [a] H Q := w_listD hM (.inl h) q
theorem dpAll_rep {G : Hp} {vs : List V} {ds : List PyData} (h : DpAll K G vs ds) : ∀ k : Nat, DpAll K G (List.replicate k vs).flatten (List.replicate k ds).flatten
  | 0 => .nil
  | k + 1 => by
    rw [List.replicate_succ, List.replicate_succ, List.flatten_cons, List.flatten_cons]
    exact dpAll_append h (dpAll_rep h k)
theorem w_repD {ds : List PyData} {p : Addr} {k : Nat} (hM : Dom M H) (h1 : Lst K M H p ds) (hk : k < 100000) (hz : ds.length * k ≤ 100000)
    (q : ∀ p H', Ext H H' → Dom M H' → Lst K M H' p (List.replicate k ds).flatten → Q (.ref p) H') : rRep (.ref p) (.int (k : Int)) H Q := by
  obtain ⟨_, xs, h1, r1⟩ := h1
  have e1 := dpAll_len r1
  refine ⟨p, k, xs, rfl, rfl, h1, by omega, by omega, sz (by rw [Int.toNat_natCast, e1]; exact hz), fun l hl => ?_⟩
  rw [Int.toNat_natCast]
  have e : Ext H (upd H l (.lst (List.replicate k xs).flatten)) := ext_new hl
  exact q l _ e (hM.ext e) ⟨hM.new hl, _, upd_same, dpAllx e (dpAll_rep r1 k)⟩
theorem w_newLst {xs : List V} {ds : List PyData} (kt : KTok K) (hM : Dom M H) (h : DpAll K (vis M H) xs ds) (hl : xs.length ≤ 100000) (q : ∀ p H', Ext H H' → Dom M H' → Lst K M H' p ds → Q (.ref p) H') : newL xs H Q := ⟨sz hl, fun p hp => by
  have e : Ext H (upd H p (.lst xs)) := ext_new hp
  exact q p _ e (hM.ext e) ⟨hM.new hp, _, upd_same, dpAllx e h⟩⟩
end
/-! ## statements -/
section
variable {K : PySem.W.Frag} {σ : L2.St} {H : Hp} {D : Ends} {te tl : TE} {u t w : TS} {v : V} {M : List Addr}
theorem s_asg {i : Nat} (q : te σ H fun x H1 => u D (σ.set i (some x)) H1) : tSeq (tAsg te (gName i)) u D σ H := q
theorem s_asgG {g : TG} (q : te σ H fun x H1 => g x σ H1 (u D)) : tSeq (tAsg te g) u D σ H := q
theorem s_asg1 {i : Nat} {nx : L2.St → Hp → Prop} {rt bk ct} (q : te σ H fun x H1 => nx (σ.set i (some x)) H1) : tAsg te (gName i) ⟨nx, rt, bk, ct⟩ σ H := q
theorem s_asgG1 {g : TG} {nx : L2.St → Hp → Prop} {rt bk ct} (q : te σ H fun x H1 => g x σ H1 nx) : tAsg te g ⟨nx, rt, bk, ct⟩ σ H := q
theorem s_par {i j : Nat} {ta : TA} (q : ta σ H fun vs H1 => ∃ v w, vs = [v, w] ∧ u D ((σ.set i (some v)).set j (some w)) H1) : tSeq (tPar i j ta) u D σ H := q
theorem s_par2 {v w : V} {P : V → V → Prop} (q : P v w) : ∃ a b, [v, w] = [a, b] ∧ P a b := ⟨v, w, rfl, q⟩
theorem s_drop (q : te σ H fun _ H1 => u D σ H1) : tSeq (tDrop te) u D σ H := q
theorem s_drop1 {nx : L2.St → Hp → Prop} {rt bk ct} (q : te σ H fun _ H1 => nx σ H1) : tDrop te ⟨nx, rt, bk, ct⟩ σ H := q
theorem s_ret {nx : L2.St → Hp → Prop} {rt : VK} {bk ct} (q : te σ H rt) : tRet te ⟨nx, rt, bk, ct⟩ σ H := q
theorem s_retN {nx : L2.St → Hp → Prop} {rt : VK} {bk ct} (q : rt .non H) : tRetN ⟨nx, rt, bk, ct⟩ σ H := q
theorem s_retS {nx : L2.St → Hp → Prop} {rt : VK} {bk ct} (q : te σ H rt) : tSeq (tRet te) u ⟨nx, rt, bk, ct⟩ σ H := q
theorem s_next {nx : L2.St → Hp → Prop} {rt bk ct} (q : nx σ H) : tNext ⟨nx, rt, bk, ct⟩ σ H := q
theorem s_nextS (q : u D σ H) : tSeq tNext u D σ H := q
theorem s_seq {nx : L2.St → Hp → Prop} {rt bk ct} (q : t ⟨u ⟨nx, rt, bk, ct⟩, rt, bk, ct⟩ σ H) : tSeq t u ⟨nx, rt, bk, ct⟩ σ H := q
theorem s_if {c : TT} {nx : L2.St → Hp → Prop} {rt bk ct} (q : c σ H fun b H1 => if b = true then t ⟨u ⟨nx, rt, bk, ct⟩, rt, bk, ct⟩ σ H1 else w ⟨u ⟨nx, rt, bk, ct⟩, rt, bk, ct⟩ σ H1) : tSeq (tIfS c t w) u ⟨nx, rt, bk, ct⟩ σ H := q
theorem s_if1 {c : TT} (q : c σ H fun b H1 => if b = true then t D σ H1 else w D σ H1) : tIfS c t w D σ H := q
theorem s_brk {nx : L2.St → Hp → Prop} {rt bk ct} (q : bk σ H) : tBreak ⟨nx, rt, bk, ct⟩ σ H := q
theorem s_cnt {nx : L2.St → Hp → Prop} {rt bk ct} (q : ct σ H) : tCont ⟨nx, rt, bk, ct⟩ σ H := q
/-- a for, from the iterator on -/
def forW (J : It) (g : TG) (tb : TS) (rt : VK) (nx : L2.St → Hp → Prop) (σ : L2.St) (H : Hp) : Prop := ∃ W : Nat → Nat → L2.St → Hp → Prop, (∃ m, W 0 m σ H) ∧ ∀ i m σ H, W i m σ H →
  (J.stop i H ∧ nx σ H) ∨ (J.go i H ∧ ∃ N : L2.St → Hp → Prop, (∀ σ' H', N σ' H' → ∃ m', m' < m ∧ W (i + 1) m' σ' H') ∧ ∀ x H', J.yld i H x H' → g x σ H' fun σ2 H2 => tb ⟨N, rt, nx, N⟩ σ2 H2)
theorem s_for {wi : TI} {g : TG} {tb : TS} {nx : L2.St → Hp → Prop} {rt bk ct} (q : wi σ H fun J H1 => forW J g tb rt (u ⟨nx, rt, bk, ct⟩) σ H1) : tSeq (tFor wi g tb) u ⟨nx, rt, bk, ct⟩ σ H := q
theorem s_for1 {wi : TI} {g : TG} {tb : TS} {nx : L2.St → Hp → Prop} {rt bk ct} (q : wi σ H fun J H1 => forW J g tb rt nx σ H1) : tFor wi g tb ⟨nx, rt, bk, ct⟩ σ H := q
theorem f_it {J : It} {n : Nat} {G : Hp → Prop} {Y : Nat → Hp → V → Hp → Prop} {g : TG} {tb : TS} {rt : VK} {nx : L2.St → Hp → Prop} (W : Walk J n G Y) (Pv : Nat → L2.St → Hp → Prop) (h0 : Pv 0 σ H) (hG : ∀ i σ H, i ≤ n → Pv i σ H → G H)
    (hs : ∀ i x σ H H', i < n → Pv i σ H → Y i H x H' → g x σ H' fun σ2 H2 => tb ⟨Pv (i + 1), rt, nx, Pv (i + 1)⟩ σ2 H2) (hd : ∀ σ H, Pv n σ H → nx σ H) : forW J g tb rt nx σ H :=
  for_it (D := ⟨nx, rt, nx, nx⟩) W Pv h0 hG hs hd
/-- over a list of data that stands -/
theorem f_L {α : Type} {a : Addr} {xs : List V} {g : TG} {tb : TS} {rt : VK} {nx : L2.St → Hp → Prop} (l : List α) (enc : α → PyData) (hL : SqL K (vis M H) a xs) (hds : DpAll K (vis M H) xs (l.map enc)) (Pv : Nat → L2.St → Hp → Prop) (h0 : Pv 0 σ H) (hG : ∀ i σ H', i ≤ l.length → Pv i σ H' → Ext (vis M H) (vis M H'))
    (hs : ∀ i z x σ H', l[i]? = some z → Pv i σ H' → Dp K (vis M H') x (enc z) → g x σ H' fun σ2 H2 => tb ⟨Pv (i + 1), rt, nx, Pv (i + 1)⟩ σ2 H2) (hd : ∀ σ H, Pv l.length σ H → nx σ H) : forW (Itl K a) g tb rt nx σ H := by
  have hlen : xs.length = l.length := by rw [dpAll_len hds, List.length_map]
  refine f_it (walk_list (K := K) (a := a) (xs := xs)) Pv h0 (fun i σ H' hi p => sql_ext (vis_le M H') (sql_ext (hG i σ H' (by omega) p) hL)) ?_ (by rw [hlen]; exact hd)
  intro i x σ' H1 H2 hi p hy
  obtain ⟨rfl, hx⟩ := hy
  have hl : i < l.length := by omega
  have hz : l[i]? = some l[i] := List.getElem?_eq_getElem hl
  obtain ⟨v, h1, h2⟩ := dpAll_get (i := i) (d := enc l[i]) hds (by rw [List.getElem?_map, hz]; rfl)
  rw [hx] at h1
  have h1 := Option.some.inj h1
  subst h1
  exact hs i l[i] x σ' H2 hz p (dp_ext (hG i σ' H2 (by omega) p) h2)
/-- over a range -/
theorem f_R {lo : Int} {n : Nat} {g : TG} {tb : TS} {rt : VK} {nx : L2.St → Hp → Prop} (Pv : Nat → L2.St → Hp → Prop) (h0 : Pv 0 σ H)
    (hs : ∀ (i : Nat) σ H', i < n → Pv i σ H' → g (.int (lo + (i : Int))) σ H' fun σ2 H2 => tb ⟨Pv (i + 1), rt, nx, Pv (i + 1)⟩ σ2 H2) (hd : ∀ σ H, Pv n σ H → nx σ H) : forW (Itr lo n) g tb rt nx σ H := by
  refine f_it (walk_range (lo := lo) (n := n)) Pv h0 (fun _ _ _ _ _ => trivial) ?_ hd
  intro i x σ' H1 H2 hi p hy
  obtain ⟨rfl, rfl⟩ := hy
  exact hs i σ' H2 hi p
/-- over enumerate of a list of data that stands -/
theorem f_E {α : Type} {a : Addr} {xs : List V} {g : TG} {tb : TS} {rt : VK} {nx : L2.St → Hp → Prop} (l : List α) (enc : α → PyData) (hL : SqL K (vis M H) a xs) (hds : DpAll K (vis M H) xs (l.map enc)) (Pv : Nat → L2.St → Hp → Prop) (h0 : Pv 0 σ H) (hG : ∀ i σ H', i ≤ l.length → Pv i σ H' → Ext (vis M H) (vis M H'))
    (hs : ∀ i z x T σ H1 H', l[i]? = some z → Pv i σ H1 → Ext H1 H' → H1 T = none → SqT K H' T [.int (i : Nat), x] → Dp K (vis M H') x (enc z) → g (.ref T) σ H' fun σ2 H2 => tb ⟨Pv (i + 1), rt, nx, Pv (i + 1)⟩ σ2 H2) (hd : ∀ σ H, Pv l.length σ H → nx σ H) : forW (Ite K a) g tb rt nx σ H := by
  have hlen : xs.length = l.length := by rw [dpAll_len hds, List.length_map]
  refine f_it (walk_enum (K := K) (a := a) (xs := xs)) Pv h0 (fun i σ H' hi p => sql_ext (vis_le M H') (sql_ext (hG i σ H' (by omega) p) hL)) ?_ (by rw [hlen]; exact hd)
  intro i x σ' H1 H2 hi p hy
  obtain ⟨T, u, y, rfl, hT, rfl, hu, hx⟩ := hy
  cases hu
  have hl : i < l.length := by omega
  have hz : l[i]? = some l[i] := List.getElem?_eq_getElem hl
  obtain ⟨v, h1, h2⟩ := dpAll_get (i := i) (d := enc l[i]) hds (by rw [List.getElem?_map, hz]; rfl)
  have hx : xs[i]? = some y := hx
  rw [hx] at h1
  have h1 := Option.some.inj h1
  subst h1
  exact hs i l[i] y T σ' H1 _ hz p (ext_new hT) hT (.inl (.inl upd_same)) (dpx (ext_new hT) (dp_ext (hG i σ' H1 (by omega) p) h2))
/-! ### targets -/
theorem g_name {i : Nat} {Q : L2.St → Hp → Prop} (q : Q (σ.set i (some v)) H) : gName i v σ H Q := q
theorem g_raw2 {i j : Nat} {a : Addr} {v1 v2 : V} {Q : L2.St → Hp → Prop} (h : SqT K H a [v1, v2]) (q : Q ((σ.set i (some v1)).set j (some v2)) H) :
    gTup K 2 (gCons (gName i) (gCons (gName j) gNil)) (.ref a) σ H Q := ⟨a, _, rfl, h, rfl, _, _, rfl, _, _, rfl, rfl, q⟩
theorem g_tup2 {i j : Nat} {d1 d2 : PyData} {x : V} {Q : L2.St → Hp → Prop} (h : Dp K (vis M H) x (.tuple [d1, d2])) (q : ∀ v1 v2, Dp K (vis M H) v1 d1 → Dp K (vis M H) v2 d2 → Q ((σ.set i (some v1)).set j (some v2)) H) :
    gTup K 2 (gCons (gName i) (gCons (gName j) gNil)) x σ H Q := by
  obtain ⟨a, vs, rfl, h1, h2⟩ := dp_tup h
  cases h2 with
  | cons r1 h2 =>
    cases h2 with
    | cons r2 h2 =>
      cases h2
      exact g_raw2 (sqtv h1) (q _ _ r1 r2)
theorem g_tup3 {i j k : Nat} {d1 d2 d3 : PyData} {x : V} {Q : L2.St → Hp → Prop} (h : Dp K (vis M H) x (.tuple [d1, d2, d3])) (q : ∀ v1 v2 v3, Dp K (vis M H) v1 d1 → Dp K (vis M H) v2 d2 → Dp K (vis M H) v3 d3 → Q (((σ.set i (some v1)).set j (some v2)).set k (some v3)) H) :
    gTup K 3 (gCons (gName i) (gCons (gName j) (gCons (gName k) gNil))) x σ H Q := by
  obtain ⟨a, vs, rfl, h1, h2⟩ := dp_tup h
  cases h2 with
  | cons r1 h2 =>
    cases h2 with
    | cons r2 h2 =>
      cases h2 with
      | cons r3 h2 =>
        cases h2
        exact ⟨a, _, rfl, sqtv h1, rfl, _, _, rfl, _, _, rfl, _, _, rfl, rfl, q _ _ _ r1 r2 r3⟩
end
/-! ### what is walked -/
section
variable {K : PySem.W.Frag} {σ : L2.St} {H : Hp} {M : List Addr} {R : It → Hp → Prop} {tl : TE} {ta : TA}
def iListR (K : PySem.W.Frag) (x : V) (H : Hp) (R : It → Hp → Prop) : Prop := ∃ a, x = .ref a ∧ (∃ xs, SqL K H a xs) ∧ R (Itl K a) H
def iTupR (K : PySem.W.Frag) (x : V) (H : Hp) (R : It → Hp → Prop) : Prop := ∃ a, x = .ref a ∧ (∃ xs, SqT K H a xs) ∧ R (Itt K a) H
def iStrR (x : V) (H : Hp) (R : It → Hp → Prop) : Prop := ∃ z, x = .str z ∧ R (Its z) H
def iRngR (vs : List V) (H : Hp) (R : It → Hp → Prop) : Prop := ∃ j : Int, vs = [.int j] ∧ -(2 ^ 62) ≤ j ∧ j < 2 ^ 62 ∧ R (Itr 0 j.toNat) H
def iRng2R (vs : List V) (H : Hp) (R : It → Hp → Prop) : Prop := ∃ i j : Int, vs = [.int i, .int j] ∧ (-(2 ^ 62) ≤ i ∧ i < 2 ^ 62 ∧ -(2 ^ 62) ≤ j ∧ j < 2 ^ 62) ∧ R (Itr i (j - i).toNat) H
def iEnumR (K : PySem.W.Frag) (vs : List V) (H : Hp) (R : It → Hp → Prop) : Prop := ∃ a xs, vs = [.ref a] ∧ SqL K H a xs ∧ R (Ite K a) H
def iZipR (K : PySem.W.Frag) (vs : List V) (H : Hp) (R : It → Hp → Prop) : Prop := ∃ a b xs ys, vs = [.ref a, .ref b] ∧ SqL K H a xs ∧ SqL K H b ys ∧ R (Itz K a b) H
theorem i_list (q : tl σ H fun x H1 => iListR K x H1 R) : iList K tl σ H R := q
theorem i_tup (q : tl σ H fun x H1 => iTupR K x H1 R) : iTup K tl σ H R := q
theorem i_str (q : tl σ H fun v H1 => iStrR v H1 R) : iStr tl σ H R := q
theorem i_rng1 (q : ta σ H fun vs H1 => iRngR vs H1 R) : iRng1 ta σ H R := q
theorem i_rng2 (q : ta σ H fun vs H1 => iRng2R vs H1 R) : iRng2 ta σ H R := q
theorem i_enum (q : ta σ H fun vs H1 => iEnumR K vs H1 R) : iEnum K ta σ H R := q
theorem i_zip (q : ta σ H fun vs H1 => iZipR K vs H1 R) : iZip K ta σ H R := q
theorem i_listD {x : V} {ds : List PyData} (h : Dp K (vis M H) x (.list ds)) (q : ∀ a xs, x = .ref a → SqL K (vis M H) a xs → DpAll K (vis M H) xs ds → R (Itl K a) H) : iListR K x H R := by
  obtain ⟨a, xs, rfl, h1, h2⟩ := dp_list h
  exact ⟨a, rfl, ⟨xs, sqlv h1⟩, q a xs rfl h1 h2⟩
theorem i_tupD {x : V} {ds : List PyData} (h : Dp K (vis M H) x (.tuple ds)) (q : ∀ a xs, x = .ref a → SqT K (vis M H) a xs → DpAll K (vis M H) xs ds → R (Itt K a) H) : iTupR K x H R := by
  obtain ⟨a, xs, rfl, h1, h2⟩ := dp_tup h
  exact ⟨a, rfl, ⟨xs, sqtv h1⟩, q a xs rfl h1 h2⟩
theorem i_strD {x : Str} (q : R (Its x) H) : iStrR (.str x) H R := ⟨x, rfl, q⟩
theorem i_rng1D {n : Int} (h0 : -(2 ^ 62) ≤ n) (h1 : n < 2 ^ 62) (q : R (Itr 0 n.toNat) H) : iRngR [.int n] H R := ⟨n, rfl, h0, h1, q⟩
theorem i_rng2D {a n : Int} (h : -(2 ^ 62) ≤ a ∧ a < 2 ^ 62 ∧ -(2 ^ 62) ≤ n ∧ n < 2 ^ 62) (q : R (Itr a (n - a).toNat) H) : iRng2R [.int a, .int n] H R := ⟨a, n, rfl, h, q⟩
theorem i_enumD {x : V} {ds : List PyData} (h : Dp K (vis M H) x (.list ds)) (q : ∀ a xs, x = .ref a → SqL K (vis M H) a xs → DpAll K (vis M H) xs ds → R (Ite K a) H) : iEnumR K [x] H R := by
  obtain ⟨a, xs, rfl, h1, h2⟩ := dp_list h
  exact ⟨a, xs, rfl, sqlv h1, q a xs rfl h1 h2⟩
theorem i_zipD {x y : V} {ds es : List PyData} (h : Dp K (vis M H) x (.list ds)) (h' : Dp K (vis M H) y (.list es)) (q : ∀ a b xs ys, x = .ref a → y = .ref b → SqL K (vis M H) a xs → SqL K (vis M H) b ys → DpAll K (vis M H) xs ds → DpAll K (vis M H) ys es → R (Itz K a b) H) :
    iZipR K [x, y] H R := by
  obtain ⟨a, xs, rfl, h1, h2⟩ := dp_list h
  obtain ⟨b, ys, rfl, h3, h4⟩ := dp_list h'
  exact ⟨a, b, xs, ys, rfl, sqlv h1, sqlv h3, q a b xs ys rfl rfl h1 h3 h2 h4⟩
end
/-! ### comprehensions over data -/
theorem Lst.dp {K : PySem.W.Frag} {M : List Addr} {H : Hp} {D : Addr} {ds : List PyData} (h : Lst K M H D ds) : Dp K (vis M H) (.ref D) (.list ds) := by
  obtain ⟨n, acc, h1, h2⟩ := h
  exact .lst (.inl (.inl (by rw [vis_out n]; exact h1))) h2
theorem Lst.ext {K : PySem.W.Frag} {M : List Addr} {H H' : Hp} {D : Addr} {ds : List PyData} (h : Lst K M H D ds) (e : Ext H H') : Lst K M H' D ds := by
  obtain ⟨n, acc, h1, h2⟩ := h
  exact ⟨n, acc, e _ _ h1, dpAllx e h2⟩
theorem Lst.ext' {K : PySem.W.Frag} {M : List Addr} {H H' : Hp} {D : Addr} {ds : List PyData} (e : Ext H H') (h : Lst K M H D ds) : Lst K M H' D ds := h.ext e
section
variable {K : PySem.W.Frag} {σ : L2.St} {H H1 : Hp} {M : List Addr} {Q : VK} {g : TG} {tt : TT} {te : TE} {vsl : List Nat} {wi : TI}
/-- a comprehension, from the iterator on -/
def lcW (J : It) (g : TG) (tt : TT) (te : TE) (vsl : List Nat) (σ : L2.St) (H1 : Hp) (Q : VK) : Prop := ∀ D, H1 D = none → ∃ W : Nat → Nat → Hp → Prop, (∃ m, W 0 m (upd H1 D (.lst []))) ∧ ∀ i m H, W i m H →
  (J.stop i H ∧ Q (.ref D) H) ∨ (J.go i H ∧ ∃ Nx : Hp → Prop, (∀ H', Nx H' → ∃ m', m' < m ∧ W (i + 1) m' H') ∧ ∀ x H', J.yld i H x H' → g x (wipe σ vsl) H' fun σ2 H2 => wipe σ2 vsl = wipe σ vsl ∧ tt σ2 H2 fun b H3 =>
    if b = true then te σ2 H3 fun y H4 => ∃ acc, H4 D = some (.lst acc) ∧ acc.length < sizeLine ∧ Nx (upd H4 D (.lst (acc ++ [y]))) else Nx H3)
theorem w_lc (q : wi σ H fun J H1 => lcW J g tt te vsl σ H1 Q) : tLc wi g tt te vsl σ H Q := q
/-- n turns; what the i-th gives is f i; nothing else is changed -/
theorem lc_core' {J : It} {n : Nat} {G : Hp → Prop} {Y : Nat → Hp → V → Hp → Prop} (W : Walk J n G Y) (f : Nat → Option PyData) (hn : n < 100000) (hM : Dom M H1) (hG : ∀ H2, Ext H1 H2 → G H2)
    (turn : ∀ (D : Addr) (i : Nat) (x : V) (H2 H3 : Hp), i < n → Ext H1 H2 → Dom (D :: M) H2 → H1 D = none → Y i H2 x H3 → ∀ (Ky : V → Hp → Prop) (Kn : Hp → Prop),
      (∀ y H' d, f i = some d → Ext H2 H' → Dp K (vis (D :: M) H') y d → Ky y H') → (f i = none → ∀ H', Ext H2 H' → Kn H') →
      g x (wipe σ vsl) H3 fun σ2 H4 => wipe σ2 vsl = wipe σ vsl ∧ tt σ2 H4 fun b H5 => if b = true then te σ2 H5 Ky else Kn H5)
    (q : ∀ D H', Ext H1 H' → Dom M H' → H1 D = none → Lst K M H' D ((List.range n).filterMap f) → Q (.ref D) H') :
    lcW (J) g tt te vsl σ H1 Q := by
  intro D hD
  have hDM : D ∉ M := hM.new hD
  refine lc_it W (fun i H => ∃ acc, H D = some (.lst acc) ∧ Ext H1 H ∧ acc.length ≤ i ∧ DpAll K (vis (D :: M) H) acc ((List.range i).filterMap f)) ⟨[], upd_same, ext_new hD, Nat.le_refl _, .nil⟩ (fun i H _ ⟨_, _, e, _⟩ => hG H e) ?_ ?_
  · intro i x H2 H3 hi ⟨acc, h1, h2, h3, h4⟩ hy
    have dm : Dom (D :: M) H2 := (hM.ext h2).cons (some_ne h1)
    refine turn D i x H2 H3 hi h2 dm hD hy _ _ (fun y H' d hf e hd => ⟨acc, e _ _ h1, szl (by omega), acc ++ [y], upd_same, ext_mut (h2.trans e) hD, by rw [List.length_append]; show acc.length + 1 ≤ i + 1; omega, ?_⟩) (fun hf H' e => ⟨acc, e _ _ h1, h2.trans e, by omega, ?_⟩)
    · rw [vis_upd List.mem_cons_self, List.range_succ, List.filterMap_append]
      refine dpAll_append (dpAllx e h4) ?_
      simp only [List.filterMap_cons, List.filterMap_nil, hf]
      exact .cons hd .nil
    · rw [List.range_succ, List.filterMap_append]
      simp only [List.filterMap_cons, List.filterMap_nil, hf, List.append_nil]
      exact dpAllx e h4
  · intro H ⟨acc, h1, h2, h3, h4⟩
    exact q D H h2 (hM.ext h2) hD ⟨hDM, acc, h1, dpAll_ext (vis_cons M H D) h4⟩
theorem range_filterMap {α β : Type} (f : α → Option β) : ∀ (ds : List α), (List.range ds.length).filterMap (fun i => ds[i]?.bind f) = ds.filterMap f
  | [] => rfl
  | a :: r => by
    rw [List.length_cons, List.range_succ_eq_map, List.filterMap_cons, List.filterMap_map]
    have ih := range_filterMap f r
    have e : ((fun i => (a :: r)[i]?.bind f) ∘ Nat.succ) = fun i => r[i]?.bind f := by
      funext i; simp
    rw [e, ih, List.filterMap_cons]
    simp
/-- over a list of data: l by its items' data -/
theorem lc_L {α : Type} {a : Addr} {xs : List V} (l : List α) (enc : α → PyData) (f : α → Option PyData) (hn : l.length < 100000) (hM : Dom M H1) (hL : SqL K (vis M H1) a xs) (hds : DpAll K (vis M H1) xs (l.map enc))
    (turn : ∀ (D : Addr) (i : Nat) (z : α) (x : V) (H2 : Hp), l[i]? = some z → Ext H1 H2 → Dom (D :: M) H2 → H1 D = none → Dp K (vis (D :: M) H2) x (enc z) → ∀ (Ky : V → Hp → Prop) (Kn : Hp → Prop),
      (∀ y H' d, f z = some d → Ext H2 H' → Dp K (vis (D :: M) H') y d → Ky y H') → (f z = none → ∀ H', Ext H2 H' → Kn H') →
      g x (wipe σ vsl) H2 fun σ2 H4 => wipe σ2 vsl = wipe σ vsl ∧ tt σ2 H4 fun b H5 => if b = true then te σ2 H5 Ky else Kn H5)
    (q : ∀ D H', Ext H1 H' → Dom M H' → H1 D = none → Lst K M H' D (l.filterMap f) → Q (.ref D) H') :
    lcW (Itl K a) g tt te vsl σ H1 Q := by
  have hlen : xs.length = l.length := by rw [dpAll_len hds, List.length_map]
  refine lc_core' (M := M) (K := K) (walk_list (K := K) (a := a) (xs := xs)) (fun i => l[i]?.bind f) (by omega) hM (fun H2 e => sql_ext e (sqlv hL)) ?_ ?_
  · intro D i x H2 H3 hi e dm hD hy Ky Kn k1 k2
    obtain ⟨rfl, hx⟩ := hy
    have hl : i < l.length := by omega
    have hz : l[i]? = some l[i] := List.getElem?_eq_getElem hl
    obtain ⟨v, h1, h2⟩ := dpAll_get (i := i) (d := enc l[i]) hds (by rw [List.getElem?_map, hz]; rfl)
    rw [hx] at h1
    have h1 := Option.some.inj h1
    subst h1
    refine turn D i l[i] x H3 hz e dm hD (dp_ext (vis_hide e hD) h2) Ky Kn (fun y H' d hf => k1 y H' d (by rw [hz]; exact hf)) (fun hf => k2 (by rw [hz]; exact hf))
  · intro D H' e dm hD hd
    rw [hlen, range_filterMap] at hd
    exact q D H' e dm hD hd
/-- over a tuple of data: l by its items' data -/
theorem lc_T {α : Type} {a : Addr} {xs : List V} (l : List α) (enc : α → PyData) (f : α → Option PyData) (hn : l.length < 100000) (hM : Dom M H1) (hL : SqT K (vis M H1) a xs) (hds : DpAll K (vis M H1) xs (l.map enc))
    (turn : ∀ (D : Addr) (i : Nat) (z : α) (x : V) (H2 : Hp), l[i]? = some z → Ext H1 H2 → Dom (D :: M) H2 → H1 D = none → Dp K (vis (D :: M) H2) x (enc z) → ∀ (Ky : V → Hp → Prop) (Kn : Hp → Prop),
      (∀ y H' d, f z = some d → Ext H2 H' → Dp K (vis (D :: M) H') y d → Ky y H') → (f z = none → ∀ H', Ext H2 H' → Kn H') →
      g x (wipe σ vsl) H2 fun σ2 H4 => wipe σ2 vsl = wipe σ vsl ∧ tt σ2 H4 fun b H5 => if b = true then te σ2 H5 Ky else Kn H5)
    (q : ∀ D H', Ext H1 H' → Dom M H' → H1 D = none → Lst K M H' D (l.filterMap f) → Q (.ref D) H') :
    lcW (Itt K a) g tt te vsl σ H1 Q := by
  have hlen : xs.length = l.length := by rw [dpAll_len hds, List.length_map]
  refine lc_core' (M := M) (K := K) (walk_tup (K := K) (a := a) (xs := xs)) (fun i => l[i]?.bind f) (by omega) hM (fun H2 e => sqt_ext e (sqtv hL)) ?_ ?_
  · intro D i x H2 H3 hi e dm hD hy Ky Kn k1 k2
    obtain ⟨rfl, hx⟩ := hy
    have hl : i < l.length := by omega
    have hz : l[i]? = some l[i] := List.getElem?_eq_getElem hl
    obtain ⟨v, h1, h2⟩ := dpAll_get (i := i) (d := enc l[i]) hds (by rw [List.getElem?_map, hz]; rfl)
    rw [hx] at h1
    have h1 := Option.some.inj h1
    subst h1
    refine turn D i l[i] x H3 hz e dm hD (dp_ext (vis_hide e hD) h2) Ky Kn (fun y H' d hf => k1 y H' d (by rw [hz]; exact hf)) (fun hf => k2 (by rw [hz]; exact hf))
  · intro D H' e dm hD hd
    rw [hlen, range_filterMap] at hd
    exact q D H' e dm hD hd
/-- over a range -/
theorem lc_R {lo : Int} {n : Nat} (f : Int → Option PyData) (hn : n < 100000) (hM : Dom M H1)
    (turn : ∀ (D : Addr) (i : Nat) (H2 : Hp), i < n → Ext H1 H2 → Dom (D :: M) H2 → H1 D = none → ∀ (Ky : V → Hp → Prop) (Kn : Hp → Prop),
      (∀ y H' d, f (lo + i) = some d → Ext H2 H' → Dp K (vis (D :: M) H') y d → Ky y H') → (f (lo + i) = none → ∀ H', Ext H2 H' → Kn H') →
      g (.int (lo + i)) (wipe σ vsl) H2 fun σ2 H4 => wipe σ2 vsl = wipe σ vsl ∧ tt σ2 H4 fun b H5 => if b = true then te σ2 H5 Ky else Kn H5)
    (q : ∀ D H', Ext H1 H' → Dom M H' → H1 D = none → Lst K M H' D ((List.range n).filterMap fun i => f (lo + (i : Nat))) → Q (.ref D) H') :
    lcW (Itr lo n) g tt te vsl σ H1 Q := by
  refine lc_core' (M := M) (K := K) (walk_range (lo := lo) (n := n)) (fun i => f (lo + (i : Nat))) hn hM (fun _ _ => trivial) ?_ q
  intro D i x H2 H3 hi e dm hD hy Ky Kn k1 k2
  obtain ⟨rfl, rfl⟩ := hy
  exact turn D i H3 hi e dm hD Ky Kn k1 k2
/-- over a text's signs -/
theorem lc_S {z : Str} (f : Nat → Option PyData) (hn : z.length < 100000) (hM : Dom M H1)
    (turn : ∀ (D : Addr) (i c : Nat) (H2 : Hp), z.cps.toList[i]? = some c → Ext H1 H2 → Dom (D :: M) H2 → H1 D = none → ∀ (Ky : V → Hp → Prop) (Kn : Hp → Prop),
      (∀ y H' d, f c = some d → Ext H2 H' → Dp K (vis (D :: M) H') y d → Ky y H') → (f c = none → ∀ H', Ext H2 H' → Kn H') →
      g (.str ⟨#[c]⟩) (wipe σ vsl) H2 fun σ2 H4 => wipe σ2 vsl = wipe σ vsl ∧ tt σ2 H4 fun b H5 => if b = true then te σ2 H5 Ky else Kn H5)
    (q : ∀ D H', Ext H1 H' → Dom M H' → H1 D = none → Lst K M H' D (z.cps.toList.filterMap f) → Q (.ref D) H') :
    lcW (Its z) g tt te vsl σ H1 Q := by
  refine lc_core' (M := M) (K := K) (walk_str (z := z)) (fun i => z.cps.toList[i]?.bind f) hn hM (fun _ _ => trivial) ?_ ?_
  · intro D i x H2 H3 hi e dm hD hy Ky Kn k1 k2
    obtain ⟨rfl, c, hc, rfl⟩ := hy
    have hz : z.cps.toList[i]? = some c := by simpa using hc
    exact turn D i c H3 hz e dm hD Ky Kn (fun y H' d hf => k1 y H' d (by rw [hz]; exact hf)) (fun hf => k2 (by rw [hz]; exact hf))
  · intro D H' e dm hD hd
    have e1 : z.cps.size = z.cps.toList.length := by simp
    rw [e1, range_filterMap] at hd
    exact q D H' e dm hD hd
/-! total ones -/
theorem fm_map {α β : Type} (f : α → β) : ∀ l : List α, l.filterMap (fun x => some (f x)) = l.map f
  | [] => rfl
  | a :: r => by rw [List.filterMap_cons, List.map_cons, fm_map f r]
theorem w_tyes {Q : Bool → Hp → Prop} (q : Q true H) : tYes σ H Q := q
theorem lm_L {α β : Type} {a : Addr} {xs : List V} (l : List α) (enc : α → PyData) (h : α → β) (enc' : β → PyData) (hn : l.length < 100000) (hM : Dom M H1) (hL : SqL K (vis M H1) a xs) (hds : DpAll K (vis M H1) xs (l.map enc))
    (turn : ∀ (D : Addr) (i : Nat) (z : α) (x : V) (H2 : Hp), l[i]? = some z → Ext H1 H2 → Dom (D :: M) H2 → H1 D = none → Dp K (vis (D :: M) H2) x (enc z) → ∀ (Ky : V → Hp → Prop),
      (∀ y H', Ext H2 H' → Dp K (vis (D :: M) H') y (enc' (h z)) → Ky y H') → g x (wipe σ vsl) H2 fun σ2 H4 => wipe σ2 vsl = wipe σ vsl ∧ te σ2 H4 Ky)
    (q : ∀ D H', Ext H1 H' → Dom M H' → H1 D = none → Lst K M H' D ((l.map h).map enc') → Q (.ref D) H') : lcW (Itl K a) g tYes te vsl σ H1 Q := by
  refine lc_L (K := K) (M := M) l enc (fun z => some (enc' (h z))) hn hM hL hds (fun D i z x H2 hz e dm hD hd Ky Kn k1 k2 => ?_) (fun D H' e dm hD hd => ?_)
  · exact turn D i z x H2 hz e dm hD hd Ky fun y H' e' hd' => k1 y H' _ rfl e' hd'
  · rw [fm_map] at hd
    exact q D H' e dm hD (by rw [List.map_map]; exact hd)
theorem lm_T {α β : Type} {a : Addr} {xs : List V} (l : List α) (enc : α → PyData) (h : α → β) (enc' : β → PyData) (hn : l.length < 100000) (hM : Dom M H1) (hL : SqT K (vis M H1) a xs) (hds : DpAll K (vis M H1) xs (l.map enc))
    (turn : ∀ (D : Addr) (i : Nat) (z : α) (x : V) (H2 : Hp), l[i]? = some z → Ext H1 H2 → Dom (D :: M) H2 → H1 D = none → Dp K (vis (D :: M) H2) x (enc z) → ∀ (Ky : V → Hp → Prop),
      (∀ y H', Ext H2 H' → Dp K (vis (D :: M) H') y (enc' (h z)) → Ky y H') → g x (wipe σ vsl) H2 fun σ2 H4 => wipe σ2 vsl = wipe σ vsl ∧ te σ2 H4 Ky)
    (q : ∀ D H', Ext H1 H' → Dom M H' → H1 D = none → Lst K M H' D ((l.map h).map enc') → Q (.ref D) H') : lcW (Itt K a) g tYes te vsl σ H1 Q := by
  refine lc_T (K := K) (M := M) l enc (fun z => some (enc' (h z))) hn hM hL hds (fun D i z x H2 hz e dm hD hd Ky Kn k1 k2 => ?_) (fun D H' e dm hD hd => ?_)
  · exact turn D i z x H2 hz e dm hD hd Ky fun y H' e' hd' => k1 y H' _ rfl e' hd'
  · rw [fm_map] at hd
    exact q D H' e dm hD (by rw [List.map_map]; exact hd)
theorem lm_R {β : Type} {lo : Int} {n : Nat} (h : Int → β) (enc' : β → PyData) (hn : n < 100000) (hM : Dom M H1)
    (turn : ∀ (D : Addr) (i : Nat) (H2 : Hp), i < n → Ext H1 H2 → Dom (D :: M) H2 → H1 D = none → ∀ (Ky : V → Hp → Prop),
      (∀ y H', Ext H2 H' → Dp K (vis (D :: M) H') y (enc' (h (lo + i))) → Ky y H') → g (.int (lo + i)) (wipe σ vsl) H2 fun σ2 H4 => wipe σ2 vsl = wipe σ vsl ∧ te σ2 H4 Ky)
    (q : ∀ D H', Ext H1 H' → Dom M H' → H1 D = none → Lst K M H' D (((List.range n).map fun i => h (lo + (i : Nat))).map enc') → Q (.ref D) H') : lcW (Itr lo n) g tYes te vsl σ H1 Q := by
  refine lc_R (K := K) (M := M) (fun z => some (enc' (h z))) hn hM (fun D i H2 hi e dm hD Ky Kn k1 k2 => ?_) (fun D H' e dm hD hd => ?_)
  · exact turn D i H2 hi e dm hD Ky fun y H' e' hd' => k1 y H' _ rfl e' hd'
  · rw [fm_map] at hd
    exact q D H' e dm hD (by rw [List.map_map]; exact hd)
theorem lm_S {β : Type} {z : Str} (h : Nat → β) (enc' : β → PyData) (hn : z.length < 100000) (hM : Dom M H1)
    (turn : ∀ (D : Addr) (i c : Nat) (H2 : Hp), z.cps.toList[i]? = some c → Ext H1 H2 → Dom (D :: M) H2 → H1 D = none → ∀ (Ky : V → Hp → Prop),
      (∀ y H', Ext H2 H' → Dp K (vis (D :: M) H') y (enc' (h c)) → Ky y H') → g (.str ⟨#[c]⟩) (wipe σ vsl) H2 fun σ2 H4 => wipe σ2 vsl = wipe σ vsl ∧ te σ2 H4 Ky)
    (q : ∀ D H', Ext H1 H' → Dom M H' → H1 D = none → Lst K M H' D ((z.cps.toList.map h).map enc') → Q (.ref D) H') : lcW (Its z) g tYes te vsl σ H1 Q := by
  refine lc_S (K := K) (M := M) (fun c => some (enc' (h c))) hn hM (fun D i c H2 hc e dm hD Ky Kn k1 k2 => ?_) (fun D H' e dm hD hd => ?_)
  · exact turn D i c H2 hc e dm hD Ky fun y H' e' hd' => k1 y H' _ rfl e' hd'
  · rw [fm_map] at hd
    exact q D H' e dm hD (by rw [List.map_map]; exact hd)
end
end Hf

namespace Hf
open PySem PySem.Spec PyProof.Rows L2
/-! ## rules of our own -/
section
variable {X : Cx} {a b c d : Expr} {ta tb tc td : TE} {pos : Pos}
/-- a op b op' c op'' d -/
def tChain3 (r r' r'' : R2) (ta tb tc td : TE) : TE := fun σ H Q => ta σ H fun x H1 => tb σ H1 fun y H2 => r x y H2 fun z H3 => ∃ k, z = .bl k ∧
  (if k = true then tc σ H3 fun y' H4 => r' y y' H4 fun z' H5 => ∃ k', z' = .bl k' ∧ (if k' = true then td σ H5 fun y'' H6 => r'' y' y'' H6 Q else Q (.bl false) H5) else Q (.bl false) H3)
theorem pe_chain3 {op op' op'' : CmpOp} {r r' r'' : R2} (ho : OpR X (compareOp op) r) (ho' : OpR X (compareOp op') r') (ho'' : OpR X (compareOp op'') r'') (ha : PE X a ta) (hb : PE X b tb) (hc : PE X c tc) (hd : PE X d td)
    (hm : lastMarks [op, op', op''] [b, c, d] = false := by with_unfolding_all rfl) : PE X (.Compare a [op, op', op''] [b, c, d] pos) (tChain3 r r' r'' ta tb tc td) := by
  refine ⟨fun pins s σ H Q I h => ?_⟩
  refine Compare_chain (thn (ha.run pins s σ H _ I h) fun v s1 hx => ?_) hm
  obtain ⟨x, H1, I1, r1, q1⟩ := hx
  refine chain_link (thn (hb.run pins s1 σ H1 _ I1 q1) fun u s2 hy => ?_)
  obtain ⟨y, H2, I2, r2, q2⟩ := hy
  refine thn (ho pins s2 σ H2 x y v u _ I2 r1 r2 q2) fun e s3 hz => ?_
  obtain ⟨z, H3, I3, r3, k, ez, q3⟩ := hz
  subst ez
  cases r3
  refine wpAny_truthy_bool ?_
  cases k with
  | false => exact ite_ff ⟨.bl false, H3, I3, rfl, q3⟩
  | true =>
    refine ite_tt (chain_link (thn (hc.run pins s3 σ H3 _ I3 q3) fun w4 s4 h4 => ?_))
    obtain ⟨y', H4, I4, r4, q4⟩ := h4
    refine thn (ho' pins s4 σ H4 y y' u w4 _ I4 r2 r4 q4) fun e5 s5 h5 => ?_
    obtain ⟨z', H5, I5, r5, k', ez', q5⟩ := h5
    subst ez'
    cases r5
    refine wpAny_truthy_bool ?_
    cases k' with
    | false => exact ite_ff ⟨.bl false, H5, I5, rfl, q5⟩
    | true =>
      refine ite_tt (chain_last (thn (hd.run pins s5 σ H5 _ I5 q5) fun w6 s6 h6 => ?_))
      obtain ⟨y'', H6, I6, r6, q6⟩ := h6
      exact ho'' pins s6 σ H6 y' y'' w4 w6 Q I6 r4 r6 q6
/-- a block cut behind its first statement: one word for all ways -/
def tCutH (t u : TS) : TS := fun D σ H => ∃ Mid : L2.St → Hp → Prop, t { D with nx := Mid } σ H ∧ ∀ σ' H', Mid σ' H' → u D σ' H'
theorem pss_cutH {st : Stmt} {rest : List Stmt} {t u : TS} (h1 : PS X st t) (h2 : PSs X rest u) : PSs X (st :: rest) (tCutH t u) := by
  refine ⟨fun pins s σ H D I h => ?_⟩
  obtain ⟨Mid, q1, q2⟩ := h
  refine wpAny_execs_cons (thn (h1.run pins s σ H { D with nx := Mid } I q1) fun f s1 q => ?_)
  cases f with
  | next =>
    obtain ⟨σ', H', I', m⟩ := q
    exact h2.run pins s1 σ' H' D I' (q2 σ' H' m)
  | ret v => exact q
  | brk => exact q
  | cont => exact q
/-! ### constants of the module -/
theorem pe_gS {x : Str} {z : Str} (hg : Gl X x) (h : ∃ t, X.mg x = some (.str z t)) (hd : (x == ("__debug__" : Str)) = false := by decide) : PE X (.Name x pos) (tC (.str z)) := by
  obtain ⟨t, e⟩ := h
  exact pe_glob hg e ⟨t, rfl⟩ hd
theorem pe_gI {x : Str} {z : Int} (hg : Gl X x) (h : ∃ t, X.mg x = some (.int z t)) (hd : (x == ("__debug__" : Str)) = false := by decide) : PE X (.Name x pos) (tC (.int z)) := by
  obtain ⟨t, e⟩ := h
  exact pe_glob hg e ⟨t, rfl⟩ hd
/-- an object of the module: a class, a table -/
theorem pe_gC {x : Str} {a : Addr} (hg : Gl X x) (h : X.mg x = some (.ref a)) (hd : (x == ("__debug__" : Str)) = false := by decide) : PE X (.Name x pos) (tC (.ref a)) := pe_glob hg h rfl hd
end
/-! ## a def by its name -/
structure OkF (P : Program) (w : World) (K : PySem.W.Frag) (mg : Str → Option Value) (base : Heap) (CX : CXT) (k : Nat) (f : Str) (ps : List Str) (sp : Sp) : Prop where
  ex : ∃ fd, FnOk P w K mg base CX k (He.ga K f) fd ps sp ∧ Binds K fd ps [] ∧ (∀ (s : Shared) (us : List Value), us.length = ps.length → BindsTo s fd ⟨us, []⟩ (ps.zip us)) ∧ ∃ oc od sl, K.lookup (He.ga K f) = some ⟨oc, od, .func fd, sl⟩
  kp : PySem.W.keepIn K (.ref (He.ga K f)) = true
  gl : mg f = some (.ref (He.ga K f))
/-- the def st of the module, as the top has left it -/
structure At (K : PySem.W.Frag) (mg : Str → Option Value) (f : Str) (st : Stmt) : Prop where
  fn : ∃ fd, FunD K f f (defArgs st) (defBody st) (defScope st) [] [] (He.ga K f) fd
  gl : mg f = some (.ref (He.ga K f))
/-- f(..) -/
def tFn (sp : Sp) (E : XK) (t : TA) : TE := fun σ H Q => t σ H fun vs H1 => sp vs H1 Q E
section
variable {X : Cx} {P : Program} {w : World} {K : PySem.W.Frag} {mg : Str → Option Value} {base : Heap}
theorem tCall_tFn {sp : Sp} {E : XK} {t : TA} : tCall sp [] E t = tFn sp E t := by
  funext σ H Q
  unfold tCall tFn
  congr 1
  funext vs H1
  rw [List.append_nil]
theorem pe_callF {CX : CXT} {k : Nat} {f : Str} {ps : List Str} {sp : Sp} {E : XK} {e : Expr} {es : List Expr} {t : TA} {p pos : Pos} (O : OkF X.prog X.w X.K X.mg X.base CX k f ps sp) (hr : Room k X.A) (hg : Gl X f) (hx : Passes CX X E) (h : PA X (e :: es) t)
    (hdb : (f == ("__debug__" : Str)) = false := by decide) (he : starEach (e :: es) X.env = (false, eval e X.env) :: starEach es X.env := by rfl) (hpl : (backTo pos (starEach es X.env)).any (·.1) = false := by rfl) : PE X (.Call (.Name f p) (e :: es) [] pos) (tFn sp E t) := by
  obtain ⟨fd, F, b, b2⟩ := O.ex
  rw [← tCall_tFn]
  exact pe_call F hr hg O.gl O.kp b .nil hx h hdb he hpl
theorem pe_callF0 {CX : CXT} {k : Nat} {f : Str} {ps : List Str} {sp : Sp} {E : XK} {p pos : Pos} (O : OkF X.prog X.w X.K X.mg X.base CX k f ps sp) (hr : Room k X.A) (hg : Gl X f) (hx : Passes CX X E) (hdb : (f == ("__debug__" : Str)) = false := by decide) : PE X (.Call (.Name f p) [] [] pos) (tFn sp E tNil) := by
  obtain ⟨fd, F, b, b2⟩ := O.ex
  rw [← tCall_tFn]
  exact pe_call0 F hr hg O.gl O.kp b .nil hx hdb
/-- THE RULE for a def from which nothing leaves -/
theorem okF0 {f : Str} {st : Stmt} {N ps : List Str} {k : Nat} {sp : Sp} (A : At K mg f st) (S : FnScope N ps (defScope st)) (len : ∀ vs H Q E, sp vs H Q E → vs.length = ps.length)
    (hb : ∀ (kV doc pm : Value) (an : Option Addr) (cdv ct : Value) (us : List Value), us.length = ps.length → bindArgs (PySem.W.fnOf f f (defArgs st) (defBody st) (defScope st) .none kV doc pm an cdv ct) ⟨us, []⟩ = pure (ps.zip us))
    (hbody : ∀ (cdv : Value) (A : Around) (outer : List Env) (s : Shared) (H : Hp) (vs : List V) (Q : VK) (E : XK), Room k (A.deeper (envOfC f (defScope st) s.heap.objs.size (He.ga K f) cdv)) → sp vs H Q E →
      ∃ t, PSs (cxOf CX0 P w K mg base N f (defScope st) (He.ga K f) cdv A outer s H E).nox (defBody st) t ∧ t { nx := fun _ H' => Q .non H', rt := Q } (start N vs) H) : OkF P w K mg base CX0 (k + 1) f ps sp := by
  obtain ⟨fd, F⟩ := A.fn
  refine ⟨⟨fd, F.ok S len fun cdv A outer s H vs Q E hr h => ?_, ?_⟩, F.kp, A.gl⟩
  · obtain ⟨t, h1, h2⟩ := hbody cdv A outer s H vs Q E hr h
    exact ⟨t, h1.nox, h2⟩
  · obtain ⟨oc, od, dV, kV, doc, pm, an, cdv, ct, osl, e, lk, _⟩ := F.ex
    exact ⟨F.bindsN hb, F.bindsA hb, _, _, _, lk⟩
/-- .. and for one that errors may leave -/
theorem okFX {f : Str} {st : Stmt} {N ps : List Str} {k : Nat} {sp : Sp} (A : At K mg f st) (S : FnScope N ps (defScope st)) (len : ∀ vs H Q E, sp vs H Q E → vs.length = ps.length)
    (hb : ∀ (kV doc pm : Value) (an : Option Addr) (cdv ct : Value) (us : List Value), us.length = ps.length → bindArgs (PySem.W.fnOf f f (defArgs st) (defBody st) (defScope st) .none kV doc pm an cdv ct) ⟨us, []⟩ = pure (ps.zip us))
    (hbody : ∀ (cdv : Value) (A : Around) (outer : List Env) (s : Shared) (H : Hp) (vs : List V) (Q : VK) (E : XK), Room k (A.deeper (envOfC f (defScope st) s.heap.objs.size (He.ga K f) cdv)) → sp vs H Q E →
      ∃ t, PSs (cxOf (L2.CX P w) P w K mg base N f (defScope st) (He.ga K f) cdv A outer s H E) (defBody st) t ∧ t { nx := fun _ H' => Q .non H', rt := Q } (start N vs) H) : OkF P w K mg base (L2.CX P w) (k + 1) f ps sp := by
  obtain ⟨fd, F⟩ := A.fn
  refine ⟨⟨fd, F.ok S len hbody, ?_⟩, F.kp, A.gl⟩
  obtain ⟨oc, od, dV, kV, doc, pm, an, cdv, ct, osl, e, lk, _⟩ := F.ex
  exact ⟨F.bindsN hb, F.bindsA hb, _, _, _, lk⟩
theorem OkF.mono {CX : CXT} {j k : Nat} {f : Str} {ps : List Str} {sp : Sp} (O : OkF P w K mg base CX j f ps sp) (h : j ≤ k) : OkF P w K mg base CX k f ps sp := by
  obtain ⟨fd, F, b, b2⟩ := O.ex
  exact ⟨⟨fd, F.mono h, b, b2⟩, O.kp, O.gl⟩
end
section
variable {K : PySem.W.Frag} {σ : L2.St} {H : Hp} {Q : VK} {r r' r'' : R2} {ta tb tc td : TE} {t : TA}
theorem w_fn {sp : Sp} {E : XK} (q : t σ H fun vs H1 => sp vs H1 Q E) : tFn sp E t σ H Q := q
theorem w_chain (q : ta σ H fun x H1 => tb σ H1 fun y H2 => r x y H2 fun z H3 => ∃ k, z = .bl k ∧ (if k = true then tc σ H3 fun w' H4 => r' y w' H4 Q else Q (.bl false) H3)) : tChain r r' ta tb tc σ H Q := q
theorem w_chain3 (q : ta σ H fun x H1 => tb σ H1 fun y H2 => r x y H2 fun z H3 => ∃ k, z = .bl k ∧
  (if k = true then tc σ H3 fun y' H4 => r' y y' H4 fun z' H5 => ∃ k', z' = .bl k' ∧ (if k' = true then td σ H5 fun y'' H6 => r'' y' y'' H6 Q else Q (.bl false) H5) else Q (.bl false) H3)) : tChain3 r r' r'' ta tb tc td σ H Q := q
end
end Hf

namespace Hf
open PySem PySem.Spec PyProof.Rows L2
/-! ## small facts that the steps ask -/
theorem c_mul {i j : Int} (h : (-18446744073709551616 < i ∧ i < 18446744073709551616) ∨ (-18446744073709551616 < j ∧ j < 18446744073709551616)) : CMul i j := by
  unfold CMul
  rcases h with h | h
  · exact .inl ⟨by have := h.1; omega, by have := h.2; omega⟩
  · exact .inr ⟨by have := h.1; omega, by have := h.2; omega⟩
theorem c_div {i j : Int} (h : 0 < j ∧ j < 1073741824) : CDiv i j := h
theorem c_pow {i j : Int} (h : 0 ≤ j ∧ j ≤ 1000000 ∧ i.natAbs < 2 ^ 64) : CPow i j := h
theorem c_mulW {i j : Int} (h : i.natAbs.log2 + j.natAbs.log2 < 1000000) : CMulW i j := h
theorem at_zero {α : Type} {x : α} {xs : List α} : atI (x :: xs) 0 = some x := atI_nat (j := 0) rfl
theorem at_one {α : Type} {x y : α} {xs : List α} : atI (x :: y :: xs) 1 = some y := atI_nat (j := 1) rfl
theorem w_one {α : Type} {a : α} {P : α → Prop} (q : P a) : ∃ i, [a] = [i] ∧ P i := ⟨a, rfl, q⟩
section
variable {K : PySem.W.Frag} {σ : L2.St} {H : Hp} {Q : VK} {M : List Addr} {v x : V}
theorem s_cut {t u : TS} {nx : L2.St → Hp → Prop} {rt bk ct} (Mid : L2.St → Hp → Prop) (h1 : t ⟨Mid, rt, bk, ct⟩ σ H) (h2 : ∀ σ' H', Mid σ' H' → u ⟨nx, rt, bk, ct⟩ σ' H') : tCutH t u ⟨nx, rt, bk, ct⟩ σ H := ⟨Mid, h1, h2⟩
theorem eqV_int (i j : Int) : eqV (.int i) (.int j) = decide (i = j) := by
  show (i == j) = _
  exact Bool.beq_eq_decide_eq i j
theorem eqV_str (i j : Str) : eqV (.str i) (.str j) = decide (i = j) := by
  show (i == j) = _
  exact Bool.beq_eq_decide_eq i j
theorem inV_ints (a : Int) : ∀ ns : List Int, inV (.int a) (ns.map V.int) = decide (a ∈ ns)
  | [] => by simp [inV]
  | n :: r => by
    have ih := inV_ints a r
    unfold inV at ih ⊢
    rw [List.map_cons, List.any_cons, ih, eqV_int]
    by_cases h : n = a
    · subst h; simp
    · have h' : ¬ a = n := fun z => h z.symm
      simp [h, h']
theorem inV_strs (a : Str) : ∀ ns : List Str, inV (.str a) (ns.map V.str) = decide (a ∈ ns)
  | [] => by simp [inV]
  | n :: r => by
    have ih := inV_strs a r
    unfold inV at ih ⊢
    rw [List.map_cons, List.any_cons, ih, eqV_str]
    by_cases h : n = a
    · subst h; simp
    · have h' : ¬ a = n := fun z => h z.symm
      simp [h, h']
theorem flat_ints : ∀ ns : List Int, (ns.map V.int).all flatV = true
  | [] => rfl
  | n :: r => by rw [List.map_cons, List.all_cons, flat_ints r]; rfl
theorem flat_strs : ∀ ns : List Str, (ns.map V.str).all flatV = true
  | [] => rfl
  | n :: r => by rw [List.map_cons, List.all_cons, flat_strs r]; rfl
theorem seq_dp {y : V} {ds : List PyData} (h : Dp K (vis M H) y (.list ds) ∨ Dp K (vis M H) y (.tuple ds)) : ∃ p xs, y = .ref p ∧ (SqL K H p xs ∨ SqT K H p xs) ∧ DpAll K (vis M H) xs ds := by
  obtain ⟨p, ys, h1, h2, _, h3⟩ := len_dp h
  exact ⟨p, ys, h1, h2, h3⟩
theorem w_inI {a : Int} {y : V} (ns : List Int) (h : Dp K (vis M H) y (.list (ns.map PyData.int)) ∨ Dp K (vis M H) y (.tuple (ns.map PyData.int))) (q : Q (.bl (decide (a ∈ ns))) H) : rIn K false (.int a) y H Q := by
  obtain ⟨p, xs, rfl, h1, h2⟩ := seq_dp h
  cases ints_of_dp h2
  refine ⟨p, _, rfl, h1, rfl, flat_ints ns, ?_⟩
  rw [inV_ints]; exact q
theorem w_niI {a : Int} {y : V} (ns : List Int) (h : Dp K (vis M H) y (.list (ns.map PyData.int)) ∨ Dp K (vis M H) y (.tuple (ns.map PyData.int))) (q : Q (.bl (!decide (a ∈ ns))) H) : rIn K true (.int a) y H Q := by
  obtain ⟨p, xs, rfl, h1, h2⟩ := seq_dp h
  cases ints_of_dp h2
  refine ⟨p, _, rfl, h1, rfl, flat_ints ns, ?_⟩
  rw [inV_ints]; exact q
theorem w_inS {a : Str} {y : V} (ns : List Str) (h : Dp K (vis M H) y (.list (ns.map PyData.str)) ∨ Dp K (vis M H) y (.tuple (ns.map PyData.str))) (q : Q (.bl (decide (a ∈ ns))) H) : rIn K false (.str a) y H Q := by
  obtain ⟨p, xs, rfl, h1, h2⟩ := seq_dp h
  cases strs_of_dp h2
  refine ⟨p, _, rfl, h1, rfl, flat_strs ns, ?_⟩
  rw [inV_strs]; exact q
theorem w_niS {a : Str} {y : V} (ns : List Str) (h : Dp K (vis M H) y (.list (ns.map PyData.str)) ∨ Dp K (vis M H) y (.tuple (ns.map PyData.str))) (q : Q (.bl (!decide (a ∈ ns))) H) : rIn K true (.str a) y H Q := by
  obtain ⟨p, xs, rfl, h1, h2⟩ := seq_dp h
  cases strs_of_dp h2
  refine ⟨p, _, rfl, h1, rfl, flat_strs ns, ?_⟩
  rw [inV_strs]; exact q
theorem at_any {α : Type} {xs : List α} {i : Int} (h0 : 0 ≤ i) (h1 : i < xs.length) : ∃ x, atI xs i = some x ∧ x ∈ xs := by
  have h2 : i.toNat < xs.length := by omega
  exact ⟨xs[i.toNat], at_nat h0 (List.getElem?_eq_getElem h2), List.getElem_mem h2⟩
/-- an item at an open place -/
theorem w_ixLa {a : V} {ds : List PyData} {i : Int} (h : Dp K (vis M H) a (.list ds)) (h0 : 0 ≤ i) (h1 : i < ds.length) (q : ∀ v d, d ∈ ds → Dp K (vis M H) v d → Q v H) : rIxL K a (.int i) H Q := by
  obtain ⟨d, g, m⟩ := at_any h0 h1
  exact w_ixL h g fun v hv => q v d m hv
/-- ints at an open place -/
theorem w_ixI {a : V} (ns : List Int) {i : Int} (h : Dp K (vis M H) a (.list (ns.map PyData.int))) (h0 : 0 ≤ i) (h1 : i < ns.length) (q : ∀ n, n ∈ ns → Q (.int n) H) : rIxL K a (.int i) H Q := by
  refine w_ixLa h h0 (by rw [List.length_map]; exact h1) fun v d m hv => ?_
  obtain ⟨n, hn, rfl⟩ := List.mem_map.mp m
  rw [dp_int hv]
  exact q n hn
theorem w_ixInt {a : V} {ds : List PyData} {i j : Int} (h : Dp K (vis M H) a (.list ds)) (g : atI ds i = some (.int j)) (q : Q (.int j) H) : rIxL K a (.int i) H Q := w_ixL h g fun v hv => by rw [dp_int hv]; exact q
theorem w_ixStr {a : V} {ds : List PyData} {i : Int} {j : Str} (h : Dp K (vis M H) a (.list ds)) (g : atI ds i = some (.str j)) (q : Q (.str j) H) : rIxL K a (.int i) H Q := w_ixL h g fun v hv => by rw [dp_str hv]; exact q
theorem w_ixTInt {a : V} {ds : List PyData} {i j : Int} (h : Dp K (vis M H) a (.tuple ds)) (g : atI ds i = some (.int j)) (q : Q (.int j) H) : rIxT K a (.int i) H Q := w_ixT h g fun v hv => by rw [dp_int hv]; exact q
theorem w_ixTStr {a : V} {ds : List PyData} {i : Int} {j : Str} (h : Dp K (vis M H) a (.tuple ds)) (g : atI ds i = some (.str j)) (q : Q (.str j) H) : rIxT K a (.int i) H Q := w_ixT h g fun v hv => by rw [dp_str hv]; exact q
theorem w_ixTR {p : Addr} {xs : List V} {i : Int} (h : H p = some (.tup xs)) (g : atI xs i = some v) (q : Q v H) : rIxT K (.ref p) (.int i) H Q := ⟨p, xs, i, v, rfl, rfl, .inl (.inl h), g, q⟩
/-- xs[i] = e on a raw list -/
theorem g_set {to ti : TE} {Q : L2.St → Hp → Prop} (q : to σ H fun o H1 => ti σ H1 fun i H2 => rSetL o i v H2 fun H3 => Q σ H3) : gSub to ti rSetL v σ H Q := q
theorem w_setL {p : Addr} {xs : List V} {k : Int} {j : Nat} {Q : Hp → Prop} (h : H p = some (.lst xs)) (g : ixN xs.length k = some j) (q : Q (upd H p (.lst (xs.set j v)))) : rSetL (.ref p) (.int k) v H Q := ⟨p, xs, k, j, rfl, rfl, h, g, q⟩
/-- .. the heap behind it a letter -/
theorem w_setB {p : Addr} {xs : List V} {k : Int} {j : Nat} {Q : Hp → Prop} (h : H p = some (.lst xs)) (g : ixN xs.length k = some j) (q : ∀ H', But p H H' → H' p = some (.lst (xs.set j v)) → Q H') : rSetL (.ref p) (.int k) v H Q :=
  w_setL h g (q _ (fun b o n e => by rw [upd_ne n]; exact e) upd_same)
theorem w_appB {p : Addr} {xs : List V} {y : V} (h : H p = some (.lst xs)) (hz : xs.length < 100000) (q : ∀ H', But p H H' → H' p = some (.lst (xs ++ [y])) → Q .non H') : rAppend (.ref p) [y] H Q :=
  w_app h hz (q _ (fun b o n e => by rw [upd_ne n]; exact e) upd_same)
theorem w_clrB {p : Addr} {xs : List V} (h : H p = some (.lst xs)) (q : ∀ H', But p H H' → H' p = some (.lst []) → Q .non H') : rClear (.ref p) [] H Q :=
  ⟨p, xs, rfl, rfl, h, q _ (fun b o n e => by rw [upd_ne n]; exact e) upd_same⟩
end
theorem c_divW {i j : Int} (h : 0 < j ∧ j < 2 ^ 200) : CDivW i j := wide_div (b := 200) h.1 (by have := h.1; have := h.2; omega) (by decide) (by decide)
theorem start_as {N : List Str} {vs : List V} {σ : L2.St} {t : TS} {D : Ends} {H : Hp} (e : L2.start N vs = σ) (h : t D σ H) : t D (L2.start N vs) H := by rw [e]; exact h
/-- the last step: what a law's def promises is enough -/
theorem law_end {l : PySem.W.OpenLaw} {w : World} {K : PySem.W.Frag} {h : Heap} {mg : Str → Option Value} {k : Nat} {x : Str} {sp : Sp} (KX : K.In h) (G : h.Ns mainGlobals mg)
    (ok : ∀ base : Heap, OkF l.prog w K mg base L2.CX0 k "law" [x] sp) (hin : ∀ (H : Hp) (a : Addr) (ns : List Int), ns.length ≤ 63 → SqL K H a (ns.map V.int) → sp [.ref a] H (fun v _ => v = .bl true) fun _ _ _ => False) :
    ∃ (K' : PySem.W.Frag) (fd : FuncData) (sp : Sp), K'.In h ∧ (∀ (s : Shared) (u : Value), BindsTo s fd ⟨[u], []⟩ [(x, u)]) ∧
      (∀ (H : Hp) (a : Addr) (ns : List Int), ns.length ≤ 63 → Only H → SqL K' H a (ns.map V.int) → sp [.ref a] H (fun v _ => v = .bl true) fun _ _ _ => False) ∧
      ∀ base : Heap, K'.In base → base.Ns mainGlobals mg → FnOk l.prog w K' mg base L2.CX0 k (He.ga K "law") fd [x] sp := by
  obtain ⟨fd, _, _, hb, _, _, _, lk⟩ := (ok h).ex
  refine ⟨K, fd, sp, KX, fun s u => hb s [u] rfl, fun H a ns hl _ hS => hin H a ns hl hS, fun base _ _ => ?_⟩
  obtain ⟨fd', F, _, _, _, _, _, lk'⟩ := (ok base).ex
  rw [lk] at lk'
  cases lk'
  exact F
end Hf

namespace Hf
open PySem PySem.Spec PyProof.Rows L2
/-! ## numbers as texts -/
/-- the text of a number -/
abbrev nz (n : Nat) : Str := Str.ofString (toString ((n : Nat) : Int))
open TL in
theorem nz_tl (n : Nat) : tl (nz n) = numL n := tl_num n
open TL in
theorem nz_len (n : Nat) : (nz n).length = (numL n).length := by rw [len_tl, nz_tl]
open TL in
theorem nz_cps (n : Nat) : (nz n).cps.toList = numL n := nz_tl n
open TL in
theorem nz_ne (n : Nat) : nz n ≠ "" := fun z => by
  have e := congrArg tl z
  rw [nz_tl] at e
  exact numL_ne n e
open TL in
theorem nz_le {n : Nat} (h : n < 10 ^ 40) : (nz n).length ≤ 40 := by
  rw [nz_len]
  exact numL_len (by decide) h
open TL in
/-- a number whose first figure is 0 is 0 -/
theorem numL_zero : ∀ (n : Nat), (numL n)[0]? = some 48 → n = 0 := by
  intro n
  induction n using Nat.strongRecOn with
  | ind n ih =>
    intro h
    by_cases c : n < 10
    · rw [numL_lt c] at h
      simp at h
      omega
    · rw [numL_step (by omega)] at h
      have ne := numL_ne (n / 10)
      have h2 : (numL (n / 10))[0]? = some 48 := by
        cases e : numL (n / 10) with
        | nil => exact absurd e ne
        | cons a r => rw [e] at h; simpa using h
      have := ih (n / 10) (by omega) h2
      omega
open TL in
theorem numL_mem {n c : Nat} (h : c ∈ numL n) : 48 ≤ c ∧ c ≤ 57 := by
  by_cases h1 : c < 48
  · exact absurd h (numL_free (.inl h1))
  · by_cases h2 : 57 < c
    · exact absurd h (numL_free (.inr h2))
    · omega
open TL in
theorem nz_int {n : Nat} (h : n < 10 ^ 40) : PySem.intText? (nz n) = some (n : Int) := int_num (by
  have := numL_len (n := n) (k := 40) (by decide) h
  omega)
theorem rAny_ok {K : PySem.W.Frag} {M : List Addr} {H : Hp} {Q : VK} {x : V} (bs : List Bool) (h : Dp K (vis M H) x (.list (bs.map PyData.bool))) (q : Q (.bl (bs.any id)) H) : rAny K [x] H Q := by
  obtain ⟨p, vs, rfl, h1, h2⟩ := dp_list h
  cases bls_of_dp h2
  exact ⟨p, bs, rfl, sqlv h1, q⟩
theorem rAll_ok {K : PySem.W.Frag} {M : List Addr} {H : Hp} {Q : VK} {x : V} (bs : List Bool) (h : Dp K (vis M H) x (.list (bs.map PyData.bool))) (q : Q (.bl (bs.all id)) H) : rAll K [x] H Q := by
  obtain ⟨p, vs, rfl, h1, h2⟩ := dp_list h
  cases bls_of_dp h2
  exact ⟨p, bs, rfl, sqlv h1, q⟩
theorem any_false {α : Type} (l : List α) : ((l.map fun _ => false).any id) = false := by
  induction l with
  | nil => rfl
  | cons a r ih => exact ih
theorem all_true {α : Type} (l : List α) : ((l.map fun _ => true).all id) = true := by
  induction l with
  | nil => rfl
  | cons a r ih => exact ih
theorem figs : ("0123456789" : Str).cps.toList = [48, 49, 50, 51, 52, 53, 54, 55, 56, 57] := by decide +kernel
theorem in_figs {c : Nat} (h : 48 ≤ c ∧ c ≤ 57) : c ∈ ("0123456789" : Str).cps.toList := by
  rw [figs]
  obtain ⟨h1, h2⟩ := h
  rcases (by omega : c = 48 ∨ c = 49 ∨ c = 50 ∨ c = 51 ∨ c = 52 ∨ c = 53 ∨ c = 54 ∨ c = 55 ∨ c = 56 ∨ c = 57) with e | e | e | e | e | e | e | e | e | e <;> subst e <;> decide
open TL in
theorem nz_first {n : Nat} : ∃ c, atI (nz n).cps.toList 0 = some c ∧ (c = 48 → nz n = "0") := by
  rw [nz_cps]
  cases e : numL n with
  | nil => exact absurd e (numL_ne n)
  | cons a r =>
    refine ⟨a, atI_nat (j := 0) rfl, fun h => ?_⟩
    subst h
    have := numL_zero n (by rw [e]; rfl)
    subst this
    decide +kernel
theorem one_sign {c : Nat} (h : (⟨#[c]⟩ : Str) = "0") : c = 48 := by
  have e : (⟨#[c]⟩ : Str).cps = ("0" : Str).cps := congrArg Str.cps h
  have e2 : ("0" : Str).cps = #[48] := by decide +kernel
  rw [e2] at e
  have := congrArg Array.toList e
  simpa using this
theorem log2_small {i : Int} (h : i.natAbs < 2 ^ 1900) : i.natAbs.log2 < 1920 := by
  by_cases c : i.natAbs = 0
  · rw [c]; decide
  · exact Nat.lt_of_lt_of_le (Nat.log2_lt c |>.mpr h) (by decide)
theorem all_filterMap_false {α : Type} (l : List α) (p : α → Bool) (h : ∀ c ∈ l, p c = false) : ((l.map p).any id) = false := by
  induction l with
  | nil => rfl
  | cons a r ih =>
    rw [List.map_cons, List.any_cons, ih fun c hc => h c (List.mem_cons_of_mem _ hc), h a List.mem_cons_self]
    rfl
open TL in
theorem len_app (a b : Str) : (a ++ b).length = a.length + b.length := by
  rw [len_tl, len_tl, len_tl, tl_append, List.length_append]
theorem pz_len (a b : Nat) : (nz a ++ "-" ++ nz b).length = (nz a).length + 1 + (nz b).length := by
  rw [len_app, len_app]
  have : ("-" : Str).length = 1 := by decide +kernel
  rw [this]
theorem app_assoc (a b c : Str) : a ++ b ++ c = a ++ (b ++ c) := TL.ext_tl (by rw [TL.tl_append, TL.tl_append, TL.tl_append, TL.tl_append, List.append_assoc])
open TL in
theorem join2 (s a b : Str) : Txt.join s [a, b] = a ++ s ++ b := by
  rw [join_eq]
  apply ext_tl
  rw [tl_join, tl_append, tl_append]
  show joinL (tl s) [tl a, tl b] = _
  simp [joinL]
open TL in
theorem split_pz (a b : Nat) : Txt.split (nz a ++ "-" ++ nz b) "-" = [nz a, nz b] := by
  rw [← join2 "-" (nz a) (nz b)]
  refine split_join (s := 45) (S := []) (by decide +kernel) (by decide +kernel) (by simp) fun p hp => ?_
  simp only [List.mem_cons, List.not_mem_nil, or_false] at hp
  rcases hp with rfl | rfl <;> (rw [nz_tl]; exact numL_free (.inl (by decide)))
open TL in
theorem joinL_le (s : List Nat) : ∀ ps : List (List Nat), (joinL s ps).length ≤ (ps.map (·.length)).sum + ps.length * s.length
  | [] => Nat.zero_le _
  | [p] => by simp [joinL]
  | p :: p' :: r => by
    have ih := joinL_le s (p' :: r)
    simp only [joinL, List.length_append, List.map_cons, List.sum_cons, List.length_cons] at ih ⊢
    have : (r.length + 1 + 1) * s.length = (r.length + 1) * s.length + s.length := Nat.succ_mul _ _
    omega
open TL in
theorem join_len (s : Str) (ps : List Str) : (Txt.join s ps).length ≤ (ps.map (·.length)).sum + ps.length * s.length := by
  rw [join_eq, len_tl, tl_join, len_tl]
  have := joinL_le (tl s) (ps.map tl)
  rw [List.length_map, List.map_map] at this
  have e : (List.map ((fun x => x.length) ∘ tl) ps) = ps.map (·.length) := by
    apply List.map_congr_left
    intro a _
    rw [len_tl]; rfl
  rw [e] at this
  exact this
theorem sum_leC (c : Nat) : ∀ l : List Nat, (∀ x ∈ l, x ≤ c) → l.sum ≤ l.length * c
  | [], _ => Nat.zero_le _
  | a :: r, h => by
    rw [List.sum_cons, List.length_cons, Nat.succ_mul]
    have h1 := h a List.mem_cons_self
    have h2 := sum_leC c r fun x hx => h x (List.mem_cons_of_mem _ hx)
    omega
theorem pz_le {a b : Nat} (ha : a < 10 ^ 40) (hb : b < 10 ^ 40) : (nz a ++ "-" ++ nz b).length ≤ 81 := by
  have := nz_le ha
  have := nz_le hb
  rw [pz_len]; omega
/-! ### f-strings -/
def jsR (ts : List TE) (acc : Str) (σ : L2.St) (x : V) (H : Hp) (Q : Str → Hp → Prop) : Prop := ∃ y : Str, x = .str y ∧ (acc ++ y).length ≤ sizeLine ∧ tJs ts (acc ++ y) σ H Q
def fmtR (x : V) (H : Hp) (Q : VK) : Prop := (∃ y : Str, x = .str y ∧ y.length ≤ sizeLine ∧ Q (.str y) H) ∨ ∃ i : Int, x = .int i ∧ i.natAbs.log2 < 1920 ∧ Q (.str (toString i)) H
section
variable {σ : L2.St} {H : Hp} {t te : TE} {ts : List TE} {acc : Str}
theorem w_js {Q : Str → Hp → Prop} (q : t σ H fun x H1 => jsR ts acc σ x H1 Q) : tJs (t :: ts) acc σ H Q := q
theorem w_js0 {Q : Str → Hp → Prop} (q : Q acc H) : tJs [] acc σ H Q := q
theorem w_jsS {y : Str} {Q : Str → Hp → Prop} (h : acc.length + y.length ≤ 100000) (q : tJs ts (acc ++ y) σ H Q) : jsR ts acc σ (.str y) H Q := ⟨y, rfl, sz (by rw [len_app]; exact h), q⟩
theorem w_fmt {Q : VK} (q : te σ H fun x H1 => fmtR x H1 Q) : tFmt te σ H Q := q
theorem w_fmtI {i : Int} {Q : VK} (h : i.natAbs.log2 < 1920) (q : Q (.str (toString i)) H) : fmtR (.int i) H Q := .inr ⟨i, rfl, h, q⟩
theorem w_fmtS {y : Str} {Q : VK} (h : y.length ≤ 100000) (q : Q (.str y) H) : fmtR (.str y) H Q := .inl ⟨y, rfl, sz h, q⟩
end
theorem empty_app (y : Str) : Str.empty ++ y = y := TL.ext_tl (by rw [TL.tl_append]; rfl)
theorem nat_log {n : Nat} (h : n < 10 ^ 40) : ((n : Nat) : Int).natAbs.log2 < 1920 := log2_small (by rw [Int.natAbs_natCast]; omega)
theorem w_fmtN {H : Hp} {n : Nat} {Q : VK} (h : n < 10 ^ 40) (q : Q (.str (nz n)) H) : fmtR (.int n) H Q := w_fmtI (nat_log h) q
theorem w_strN {H : Hp} {n : Nat} {Q : VK} (h : n < 10 ^ 40) (q : Q (.str (nz n)) H) : rStrI [.int n] H Q := w_strI (nat_log h) q
theorem len_empty : Str.empty.length = 0 := rfl
theorem one_dash : ("-" : Str).length = 1 := by decide +kernel
theorem one_blank : (" " : Str).length = 1 := by decide +kernel
def dNums (ns : List Nat) : List PyData := ns.map fun (n : Nat) => PyData.int (n : Int)
theorem dNums_len (ns : List Nat) : (dNums ns).length = ns.length := List.length_map _
theorem w_lenTn {K : PySem.W.Frag} {H : Hp} {Q : VK} {M : List Addr} {a : V} {ds : List PyData} {n : Nat} (h : Dp K (vis M H) a (.tuple ds)) (e : ds.length = n) (q : Q (.int (n : Int)) H) : rLenQ K [a] H Q := w_lenT h (by rw [e]; exact q)
theorem w_lenLn {K : PySem.W.Frag} {H : Hp} {Q : VK} {M : List Addr} {a : V} {ds : List PyData} {n : Nat} (h : Dp K (vis M H) a (.list ds)) (e : ds.length = n) (q : Q (.int (n : Int)) H) : rLenQ K [a] H Q := w_lenL h (by rw [e]; exact q)
theorem dec_t {p : Prop} [Decidable p] {Q : V → Hp → Prop} {H : Hp} (h : p) (q : Q (.bl true) H) : Q (.bl (decide p)) H := by rw [decide_eq_true h]; exact q
theorem dec_f {p : Prop} [Decidable p] {Q : V → Hp → Prop} {H : Hp} (h : ¬ p) (q : Q (.bl false) H) : Q (.bl (decide p)) H := by rw [decide_eq_false h]; exact q
/-- the text of a pair -/
abbrev pz (a b : Nat) : Str := nz a ++ "-" ++ nz b
/-- a web by its places and ties, as data -/
def dTie (t : Nat × Nat) : PyData := .tuple [.int t.1, .int t.2]
def dWeb (n : Nat) (ts : List (Nat × Nat)) : PyData := .tuple [.int n, .list (ts.map dTie)]
/-- its line -/
def pzs (ts : List (Nat × Nat)) : List Str := ts.map fun t => pz t.1 t.2
def lineOf (n : Nat) (ts : List (Nat × Nat)) : Str := Txt.join " " (nz n :: pzs ts)
def okTies (n : Nat) (ts : List (Nat × Nat)) : Prop := ∀ t ∈ ts, t.1 < t.2 ∧ t.2 < n
theorem pzs_sum {n : Nat} {ts : List (Nat × Nat)} (hn : n ≤ 7) (ok : okTies n ts) : ((pzs ts).map (·.length)).sum ≤ ts.length * 81 := by
  have := sum_leC 81 ((pzs ts).map (·.length)) (by
    intro x hx
    simp only [pzs, List.map_map, List.mem_map, Function.comp] at hx
    obtain ⟨t, ht, rfl⟩ := hx
    have ot := ok t ht
    exact pz_le (by omega) (by omega))
  rw [List.length_map, pzs, List.length_map] at this
  exact this
theorem split_line (n : Nat) (ts : List (Nat × Nat)) : Txt.split (lineOf n ts) " " = nz n :: pzs ts := by
  refine TL.split_join (s := 32) (S := []) (by decide +kernel) (by decide +kernel) (by simp) fun p hp => ?_
  rcases List.mem_cons.mp hp with rfl | hp
  · rw [nz_tl]; exact TL.numL_free (.inl (by decide))
  · obtain ⟨t, _, rfl⟩ := List.mem_map.mp hp
    rw [TL.tl_append, TL.tl_append, nz_tl, nz_tl]
    intro h
    rcases List.mem_append.mp h with h | h
    · rcases List.mem_append.mp h with h | h
      · exact TL.numL_free (.inl (by decide)) h
      · revert h; decide +kernel
    · exact TL.numL_free (.inl (by decide)) h
theorem line_len {n : Nat} {ts : List (Nat × Nat)} (hn : n ≤ 7) (hl : ts.length ≤ 40) (ok : okTies n ts) : (lineOf n ts).length ≤ 4000 := by
  have h1 := join_len " " (nz n :: pzs ts)
  have h2 := pzs_sum hn ok
  have h3 := nz_le (n := n) (by omega)
  have l2 : (pzs ts).length = ts.length := List.length_map _
  rw [one_blank, List.map_cons, List.sum_cons, List.length_cons, l2] at h1
  unfold lineOf
  omega
open TL in
theorem joinL_sep (s : List Nat) : ∀ (p : List Nat) (ps : List (List Nat)), joinL s (p :: ps) = p ++ joinL [] (ps.map fun x => s ++ x)
  | p, [] => by simp [joinL]
  | p, q :: r => by
    have ih := joinL_sep s q r
    cases r with
    | nil => simp [joinL]
    | cons c r => simp only [joinL, List.map_cons, List.nil_append] at ih ⊢; rw [ih]; simp
open TL in
theorem due_eq (n : Nat) (ts : List (Nat × Nat)) : nz n ++ Txt.join "" (ts.map fun t => " " ++ nz t.1 ++ "-" ++ nz t.2) = lineOf n ts := by
  apply ext_tl
  unfold lineOf pzs
  rw [tl_append, join_eq, join_eq, tl_join, tl_join, List.map_cons, joinL_sep, List.map_map, List.map_map, List.map_map]
  congr 2
  apply List.map_congr_left
  intro t _
  simp only [Function.comp, tl_append, List.append_assoc]
theorem due_len {n : Nat} {ts : List (Nat × Nat)} (hn : n ≤ 7) (hl : ts.length ≤ 40) (ok : okTies n ts) : (nz n).length + (Txt.join "" (ts.map fun t => " " ++ nz t.1 ++ "-" ++ nz t.2)).length ≤ 4000 := by
  rw [← len_app, due_eq]; exact line_len hn hl ok
theorem due_sum {n : Nat} {ts : List (Nat × Nat)} (hn : n ≤ 7) (ok : okTies n ts) : ((ts.map fun t => " " ++ nz t.1 ++ "-" ++ nz t.2).map (·.length)).sum ≤ ts.length * 82 := by
  have := sum_leC 82 ((ts.map fun t => " " ++ nz t.1 ++ "-" ++ nz t.2).map (·.length)) (by
    intro x hx
    simp only [List.map_map, List.mem_map, Function.comp] at hx
    obtain ⟨t, ht, rfl⟩ := hx
    have ot := ok t ht
    have := pz_le (a := t.1) (b := t.2) (by omega) (by omega)
    rw [pz_len] at this
    rw [len_app, len_app, len_app, one_dash, one_blank]
    omega)
  rw [List.length_map, List.length_map] at this
  exact this
theorem shp_tie (t : Nat × Nat) : Shp 1 (dTie t) := .tup fun d hd => by
  rcases List.mem_cons.mp hd with rfl | hd
  · exact .int _
  · rw [List.mem_singleton.mp hd]; exact .int _
theorem shp_ties (ts : List (Nat × Nat)) : Shp 2 (.list (ts.map dTie)) := .list fun d hd => by
  obtain ⟨t, _, rfl⟩ := List.mem_map.mp hd
  exact shp_tie t
theorem shp_web (n : Nat) (ts : List (Nat × Nat)) : Shp 3 (dWeb n ts) := .tup fun d hd => by
  rcases List.mem_cons.mp hd with rfl | hd
  · exact .int _
  · rw [List.mem_singleton.mp hd]; exact shp_ties ts
theorem ties_of {n : Nat} : ∀ {ds : List PyData}, (∀ d ∈ ds, ∃ t : Nat × Nat, d = dTie t ∧ t.1 < t.2 ∧ t.2 < n) → ∃ ts, ds = ts.map dTie ∧ okTies n ts
  | [], _ => ⟨[], rfl, fun _ h => nomatch h⟩
  | d :: r, h => by
    obtain ⟨t, rfl, h1⟩ := h d List.mem_cons_self
    obtain ⟨ts, rfl, h2⟩ := ties_of fun x hx => h x (List.mem_cons_of_mem _ hx)
    refine ⟨t :: ts, rfl, fun x hx => ?_⟩
    rcases List.mem_cons.mp hx with rfl | hx
    · exact h1
    · exact h2 x hx
end Hf

namespace Hf
open PySem PySem.Spec PyProof.Rows L2
/-! ## isinstance -/
section
variable {K : PySem.W.Frag} {H : Hp} {M : List Addr} {Q : VK} {x : V}
theorem tyx_list {ds : List PyData} (h : Dp K (vis M H) x (.list ds)) : TyX K H x (.type "list") := by
  obtain ⟨p, vs, rfl, h1, _⟩ := dp_list h
  rcases sqlv h1 with (e | ⟨o, e⟩) | ⟨o, _, _, e, c, _⟩
  · exact .base (.lst e)
  · exact .base (.frz e)
  · exact .kList e c
theorem tyx_tup {ds : List PyData} (h : Dp K (vis M H) x (.tuple ds)) : TyX K H x (.type "tuple") := by
  obtain ⟨p, vs, rfl, h1, _⟩ := dp_tup h
  rcases sqtv h1 with (e | ⟨o, e⟩) | ⟨o, _, _, e, c, _⟩
  · exact .base (.tup e)
  · exact .fTuple e
  · exact .kTuple e c
theorem w_isi {t c : String} (b : Bool) (h : TyX K H x (.type t)) (e : PySem.W.kitOne K (.type t) (.type c) = some b) (q : Q (.bl b) H) : rIsi K [x, .ty c] H Q := ⟨x, _, _, _, b, rfl, .ty c, h, e, q⟩
theorem w_isiII {i : Int} (q : Q (.bl true) H) : rIsi K [.int i, .ty "int"] H Q := w_isi true (.base (.int i)) (by rfl) q
theorem w_isiIB {i : Int} (q : Q (.bl false) H) : rIsi K [.int i, .ty "bool"] H Q := w_isi false (.base (.int i)) (by rfl) q
theorem w_isiSS {z : Str} (q : Q (.bl true) H) : rIsi K [.str z, .ty "str"] H Q := w_isi true (.base (.str z)) (by rfl) q
theorem w_isiTT {ds : List PyData} (h : Dp K (vis M H) x (.tuple ds)) (q : Q (.bl true) H) : rIsi K [x, .ty "tuple"] H Q := w_isi true (tyx_tup h) (by rfl) q
theorem w_isiLL {ds : List PyData} (h : Dp K (vis M H) x (.list ds)) (q : Q (.bl true) H) : rIsi K [x, .ty "list"] H Q := w_isi true (tyx_list h) (by rfl) q
end
/-! ## draws -/
theorem mod_two {x n : Int} (h0 : 0 ≤ x) (h1 : x < 2 * n) : x % n = if x < n then x else x - n := by
  by_cases c : x < n
  · rw [if_pos c, Int.emod_eq_of_lt h0 c]
  · rw [if_neg c]
    have e : x = x - n + n * 1 := by omega
    rw [e, Int.add_mul_emod_self_left, Int.emod_eq_of_lt (by omega) (by omega)]
    omega
/-- a pile: three ints -/
def PileAt (H : Hp) (pl : Addr) : Prop := ∃ a b c : Int, H pl = some (.lst [.int a, .int b, .int c])
theorem PileAt.ext {H H' : Hp} {pl : Addr} (e : Ext H H') (h : PileAt H pl) : PileAt H' pl := by
  obtain ⟨a, b, c, h⟩ := h
  exact ⟨a, b, c, e _ _ h⟩
theorem PileAt.some {H : Hp} {pl : Addr} (h : PileAt H pl) : H pl ≠ none := by
  obtain ⟨a, b, c, h⟩ := h
  exact some_ne h
theorem but_upd {a p : Addr} {H H' : Hp} {o : HO} (e : But a H H') (h : H p = none) : But a H (upd H' p o) := fun b u n hb => by
  rw [upd_ne (ne_of_none hb h)]; exact e b u n hb
theorem fresh_but {p l : Addr} {H H1 : Hp} (b : But p H H1) (hp : H1 p ≠ none) (h : H1 l = none) : H l = none := by
  cases e : H l with
  | none => rfl
  | some o =>
    by_cases c : l = p
    · rw [← c, h] at hp; exact absurd rfl hp
    · rw [b l o c e] at h; cases h
theorem ext_but {p : Addr} {H H1 H2 : Hp} (e : Ext H H1) (h : H p = none) (b : But p H1 H2) : Ext H H2 := fun c o hc => b c o (ne_of_none hc h) (e c o hc)
section
variable {K : PySem.W.Frag} {σ : L2.St} {H H1 : Hp} {M : List Addr} {Q : VK} {g : TG} {tt : TT} {te : TE} {vsl : List Nat} {wi : TI}
theorem vis_hideB {a l : Addr} {H H' : Hp} (e : But a H H') (m : a ∈ M) (h : H l = none) : Ext (vis M H) (vis (l :: M) H') := fun b o q => by
  obtain ⟨n, q⟩ := vis_some q
  rw [vis_out (by
    intro z
    rcases List.mem_cons.mp z with z | z
    · subst z; rw [h] at q; cases q
    · exact n z)]
  exact e b o (fun z => n (z ▸ m)) q
/-- a comprehension over a range whose turns draw from a pile -/
theorem lx_R {lo : Int} {n : Nat} (a : Addr) (Ok : PyData → Prop) (hn : n < 100000) (hM : Dom M H1) (ha : a ∈ M) (hP : PileAt H1 a)
    (turn : ∀ (D : Addr) (i : Nat) (H2 : Hp), i < n → But a H1 H2 → Dom (D :: M) H2 → H1 D = none → PileAt H2 a → ∀ (Ky : V → Hp → Prop),
      (∀ y H' d, Ok d → But a H2 H' → PileAt H' a → Dp K (vis (D :: M) H') y d → Ky y H') → g (.int (lo + i)) (wipe σ vsl) H2 fun σ2 H4 => wipe σ2 vsl = wipe σ vsl ∧ te σ2 H4 Ky)
    (q : ∀ D H' ds, ds.length = n → (∀ d ∈ ds, Ok d) → But a H1 H' → Dom M H' → PileAt H' a → H1 D = none → Lst K M H' D ds → Q (.ref D) H') : lcW (Itr lo n) g tYes te vsl σ H1 Q := by
  intro D hD
  have hDM : D ∉ M := hM.new hD
  have hDa : a ≠ D := fun z => hDM (z ▸ ha)
  refine lc_it (walk_range (lo := lo) (n := n)) (fun i H => ∃ acc ds, H D = some (.lst acc) ∧ But a H1 H ∧ acc.length = i ∧ PileAt H a ∧ (∀ d ∈ ds, Ok d) ∧ DpAll K (vis (D :: M) H) acc ds) ⟨[], [], upd_same, (ext_new hD).but, rfl, hP.ext (ext_new hD), (fun _ z => nomatch z), .nil⟩ (fun i H _ _ => trivial) ?_ ?_
  · intro i x H2 H3 hi ⟨acc, ds, h1, h2, h3, h5, h6, h4⟩ hy
    obtain ⟨rfl, rfl⟩ := hy
    have dm : Dom (D :: M) H3 := (hM.but h2 h5.some).cons (some_ne h1)
    refine turn D i H3 hi h2 dm hD h5 _ (fun y H' d hf e hp hd => ⟨acc, e _ _ (Ne.symm hDa) h1, szl (by omega), acc ++ [y], ds ++ [d], upd_same, but_upd (h2.trans e) hD, by rw [List.length_append, h3]; rfl, ?_, ?_, ?_⟩)
    · obtain ⟨u, v, w, h⟩ := hp
      exact ⟨u, v, w, by rw [upd_ne hDa]; exact h⟩
    · intro d' hd'
      rcases List.mem_append.mp hd' with z | z
      · exact h6 d' z
      · rw [List.mem_singleton.mp z]; exact hf
    · rw [vis_upd List.mem_cons_self]
      exact dpAll_append (dpAllb e (List.mem_cons_of_mem _ ha) h4) (.cons hd .nil)
  · intro H ⟨acc, ds, h1, h2, h3, h5, h6, h4⟩
    exact q D H ds (by rw [← dpAll_len h4]; exact h3) h6 h2 (hM.but h2 h5.some) h5 hD ⟨hDM, acc, h1, dpAll_ext (vis_cons M H D) h4⟩
end
end Hf

namespace Hf
open PySem PySem.Spec PyProof.Rows L2
/-! ## sayings, as data and as texts -/
def dSay (w : Str) (r : Bool) (ns : List Nat) : PyData := .tuple (if r = true then [.str w, .list (dNums ns)] else .str w :: dNums ns)
def sayLine (w : Str) (ns : List Nat) : Str := Txt.join " " (w :: ns.map nz)
def okNum (w : Str) (ns : List Nat) : Prop :=
  (w ∈ (["holds", "parts"] : List Str) ∧ ∃ k, ns = [k] ∧ 2 ≤ k ∧ k ≤ 40 ∧ k % 2 = 0) ∨
  (w ∈ (["strong", "not strong"] : List Str) ∧ ∃ k, ns = [k] ∧ 1 ≤ k ∧ k ≤ 20) ∨
  (w ∈ (["trees", "no trees", "woods", "no woods"] : List Str) ∧ ∃ k, ns = [k] ∧ 1 ≤ k ∧ k ≤ 40) ∨
  (w ∈ (["firmer", "not firmer"] : List Str) ∧ ∃ r k, ns = [r, k] ∧ 2 ≤ r ∧ r ≤ 8 ∧ k ≤ 40) ∨
  (w ∈ (["apart", "barred"] : List Str) ∧ ∃ a b k, ns = [a, b, k] ∧ a ≠ b ∧ 1 ≤ k ∧ k ≤ 40 ∧ a < 10 ^ 40 ∧ b < 10 ^ 40)
def okSay (w : Str) (r : Bool) (ns : List Nat) : Prop :=
  (r = true ∧ w ∈ (["room", "no room"] : List Str) ∧ 2 ≤ ns.length ∧ ns.length ≤ 7 ∧ ∀ n ∈ ns, n < 10 ^ 40) ∨ (r = false ∧ okNum w ns)
theorem okNum_le {w : Str} {ns : List Nat} (h : okNum w ns) : 1 ≤ ns.length ∧ ns.length ≤ 7 ∧ ∀ n ∈ ns, n < 10 ^ 40 := by
  rcases h with ⟨_, k, rfl, h⟩ | ⟨_, k, rfl, h⟩ | ⟨_, k, rfl, h⟩ | ⟨_, r, k, rfl, h⟩ | ⟨_, a, b, k, rfl, h⟩
  all_goals
    refine ⟨by simp, by simp, fun n hn => ?_⟩
    simp only [List.mem_cons, List.not_mem_nil, or_false] at hn
    omega
theorem okSay_le {w : Str} {r : Bool} {ns : List Nat} (h : okSay w r ns) : 1 ≤ ns.length ∧ ns.length ≤ 7 ∧ ∀ n ∈ ns, n < 10 ^ 40 := by
  rcases h with ⟨_, _, h1, h2, h3⟩ | ⟨_, h⟩
  · exact ⟨by omega, h2, h3⟩
  · exact okNum_le h
/-- the words, each in its pieces -/
def words14 : List (Str × List Str) := [("holds", ["holds"]), ("parts", ["parts"]), ("strong", ["strong"]), ("not strong", ["not", "strong"]), ("trees", ["trees"]), ("no trees", ["no", "trees"]), ("woods", ["woods"]), ("no woods", ["no", "woods"]),
  ("firmer", ["firmer"]), ("not firmer", ["not", "firmer"]), ("apart", ["apart"]), ("barred", ["barred"]), ("room", ["room"]), ("no room", ["no", "room"])]
structure IsWord (w : Str) (ws : List Str) : Prop where
  joined : Txt.join " " ws = w
  clean : ∀ p ∈ ws, 32 ∉ TL.tl p
  len : w.length ≤ 10
  cnt : ws.length ≤ 2
  sum : (ws.map (·.length)).sum + ws.length * (" " : Str).length ≤ 100
  ne : ws ≠ []
  many : (ws = [w] ∧ w ∉ (["not", "no"] : List Str)) ∨ ∃ a b, ws = [a, b] ∧ a ∈ (["not", "no"] : List Str)
  strOk : (PyData.str w).canLay0 = true
instance (w : Str) (ws : List Str) : Decidable (ws = [w] ∧ w ∉ (["not", "no"] : List Str)) := inferInstance
theorem word_ok : ∀ p ∈ words14, IsWord p.1 p.2 := by
  intro p hp
  simp only [words14, List.mem_cons, List.not_mem_nil, or_false] at hp
  rcases hp with rfl | rfl | rfl | rfl | rfl | rfl | rfl | rfl | rfl | rfl | rfl | rfl | rfl | rfl
  all_goals
    refine ⟨by decide +kernel, by decide +kernel, by decide +kernel, by decide +kernel, by decide +kernel, by decide +kernel, ?_, by decide +kernel⟩
    first
    | exact .inl (by decide +kernel)
    | exact .inr ⟨_, _, rfl, by decide +kernel⟩
theorem word_of {w : Str} {r : Bool} {ns : List Nat} (h : okSay w r ns) : ∃ ws, IsWord w ws := by
  have : ∃ ws, (w, ws) ∈ words14 := by
    have key : ∀ L : List Str, (∀ x ∈ L, x ∈ words14.map Prod.fst) → w ∈ L → ∃ ws, (w, ws) ∈ words14 := fun L hL hw => by
      obtain ⟨p, hp, e⟩ := List.mem_map.mp (hL w hw)
      exact ⟨p.2, by rw [← e]; exact hp⟩
    rcases h with ⟨_, h, _⟩ | ⟨_, h⟩
    · exact key _ (by decide +kernel) h
    · rcases h with ⟨h, _⟩ | ⟨h, _⟩ | ⟨h, _⟩ | ⟨h, _⟩ | ⟨h, _⟩ <;> exact key _ (by decide +kernel) h
  obtain ⟨ws, h⟩ := this
  exact ⟨ws, word_ok _ h⟩
open TL in
theorem join_app (s : Str) (a : List Str) (b : List Str) (ha : a ≠ []) : Txt.join s (Txt.join s a :: b) = Txt.join s (a ++ b) := by
  apply ext_tl
  rw [join_eq, join_eq, join_eq, tl_join, tl_join, List.map_cons, tl_join, List.map_append]
  obtain ⟨x, r, rfl⟩ := List.exists_cons_of_ne_nil ha
  rw [joinL_sep, List.map_cons, List.cons_append, joinL_sep, joinL_sep, List.map_append]
  have flat : ∀ l : List (List Nat), joinL [] l = l.flatten := by
    intro l
    induction l with
    | nil => rfl
    | cons a r ih =>
      cases r with
      | nil => simp [joinL]
      | cons b r => rw [joinL, ih]; simp
  rw [flat, flat, flat, List.flatten_append, List.append_assoc]
theorem split_say {w : Str} {ws : List Str} {ns : List Nat} (h : IsWord w ws) : Txt.split (sayLine w ns) " " = ws ++ ns.map nz := by
  unfold sayLine
  conv => lhs; rw [← h.joined]
  rw [join_app _ _ _ h.ne]
  refine TL.split_join (s := 32) (S := []) (by decide +kernel) (by decide +kernel) (by simp [h.ne]) fun p hp => ?_
  rcases List.mem_append.mp hp with hp | hp
  · exact h.clean p hp
  · obtain ⟨n, _, rfl⟩ := List.mem_map.mp hp
    rw [nz_tl]; exact TL.numL_free (.inl (by decide))
theorem nums_sum {ns : List Nat} (h : ∀ n ∈ ns, n < 10 ^ 40) : ((ns.map nz).map (·.length)).sum ≤ ns.length * 40 := by
  have := sum_leC 40 ((ns.map nz).map (·.length)) (by
    intro x hx
    simp only [List.map_map, List.mem_map, Function.comp] at hx
    obtain ⟨n, hn, rfl⟩ := hx
    exact nz_le (h n hn))
  rw [List.length_map, List.length_map] at this
  exact this
theorem blank_sum {ns : List Nat} (h : ∀ n ∈ ns, n < 10 ^ 40) : ((ns.map fun n => " " ++ nz n).map (·.length)).sum ≤ ns.length * 41 := by
  have := sum_leC 41 ((ns.map fun n => " " ++ nz n).map (·.length)) (by
    intro x hx
    simp only [List.map_map, List.mem_map, Function.comp] at hx
    obtain ⟨n, hn, rfl⟩ := hx
    have := nz_le (h n hn)
    rw [len_app, one_blank]; omega)
  rw [List.length_map, List.length_map] at this
  exact this
open TL in
theorem say_eq (w : Str) (ns : List Nat) : w ++ Txt.join "" (ns.map fun n => " " ++ nz n) = sayLine w ns := by
  apply ext_tl
  unfold sayLine
  rw [tl_append, join_eq, join_eq, tl_join, tl_join, List.map_cons, joinL_sep, List.map_map, List.map_map, List.map_map]
  congr 2
  apply List.map_congr_left
  intro t _
  simp only [Function.comp, tl_append]
theorem say_len {w : Str} {ns : List Nat} (hw : w.length ≤ 10) (h7 : ns.length ≤ 7) (h : ∀ n ∈ ns, n < 10 ^ 40) : (sayLine w ns).length ≤ 400 := by
  have h1 := join_len " " (w :: ns.map nz)
  have h2 := nums_sum h
  rw [one_blank, List.map_cons, List.sum_cons, List.length_cons, List.length_map] at h1
  unfold sayLine
  omega
theorem shp_nums {k : Nat} (ns : List Nat) : ∀ d ∈ dNums ns, Shp k d := fun d hd => by
  obtain ⟨n, _, rfl⟩ := List.mem_map.mp hd
  exact .int _
theorem shp_say {w : Str} {r : Bool} {ns : List Nat} (h : (PyData.str w).canLay0 = true) : Shp 2 (dSay w r ns) := .tup fun d hd => by
  cases r with
  | true =>
    rw [if_pos rfl] at hd
    rcases List.mem_cons.mp hd with rfl | hd
    · exact .str h
    · rw [List.mem_singleton.mp hd]
      exact .list (shp_nums ns)
  | false =>
    rw [if_neg Bool.false_ne_true] at hd
    rcases List.mem_cons.mp hd with rfl | hd
    · exact .str h
    · exact shp_nums ns d hd
theorem nums_dp {K : PySem.W.Frag} {G : Hp} : ∀ {vs : List V} {ns : List Nat}, DpAll K G vs (dNums ns) → vs = ns.map fun (n : Nat) => V.int (n : Int)
  | _, [], h => by cases h; rfl
  | _, n :: r, h => by
    cases h with
    | cons h1 h2 => rw [dp_int h1, nums_dp h2]; rfl
theorem dp_nums {K : PySem.W.Frag} {G : Hp} : ∀ (ns : List Nat), DpAll K G (ns.map fun (n : Nat) => V.int (n : Int)) (dNums ns)
  | [] => .nil
  | n :: r => .cons (.int _) (dp_nums r)
theorem lst_but {K : PySem.W.Frag} {M : List Addr} {H H' : Hp} {p a : Addr} {ns : List Nat} (h : Lst K M H p (dNums ns)) (b : But a H H') (n : p ≠ a) : Lst K M H' p (dNums ns) := by
  obtain ⟨m, acc, h1, h2⟩ := h
  have e := nums_dp h2
  subst e
  exact ⟨m, _, b p _ n h1, dp_nums ns⟩
section
variable {K : PySem.W.Frag} {σ : L2.St} {H : Hp} {Q : VK} {M : List Addr} {v x : V}
/-- a slice of a tuple -/
theorem w_slT {a : V} {ds : List PyData} {lo hi : Option Int} (hM : Dom M H) (h : Dp K (vis M H) a (.tuple ds)) (q : ∀ p H', Ext H H' → Dom M H' → Dp K (vis M H') (.ref p) (.tuple (cutD ds lo hi)) → Q (.ref p) H') : rSlA K a lo hi H Q := by
  obtain ⟨p, vs, rfl, h1, h2⟩ := dp_tup h
  refine ⟨p, vs, rfl, sqtv h1, fun z => ?_, fun _ l hl => ?_⟩
  · refine q p H (Ext.refl H) hM ?_
    have e : cutD ds lo hi = ds := by
      unfold cutD
      rw [← dpAll_len h2, z.1, z.2, List.drop_zero, Nat.sub_zero]
      exact List.take_of_length_le (by rw [dpAll_len h2]; exact Nat.le_refl _)
    rw [e]; exact h
  · have e : Ext H (upd H l (.tup (cutV vs lo hi))) := ext_new hl
    refine q l _ e (hM.ext e) (.tup (.inl (.inl ?_)) (dpAllx e (dp_cut h2 lo hi)))
    rw [vis_out (hM.new hl), upd_same]
end
end Hf

namespace L72
open PySem PySem.Spec PyProof.Rows L2 Hf
local macro_rules | `(tactic| walk_at "lst") => `(tactic| first | assumption | (apply Lst.ext'; (assumption); (walk_at "lst")))
local macro_rules | `(tactic| walk_at "dp") => `(tactic| first | assumption | exact .int _ | exact .str _ | exact .bl _ | exact .non | (apply Lst.dp; (walk_at "lst")) | (apply dpx; (assumption); (walk_at "dp")) | (apply dpb; (assumption); (first | assumption | simp); (walk_at "dp")))
local macro_rules | `(tactic| walk_at "ext") => `(tactic| first | assumption | exact Ext.refl _ | exact Ext.trans' (by assumption) (by walk_at "ext"))
local macro_rules | `(tactic| walk_at "dpk") => `(tactic| first | assumption | (apply dpx; (assumption); (walk_at "dpk")))
local macro_rules | `(tactic| walk_at "dps") => `(tactic| first | exact .nil | (apply DpAll.cons; (walk_at "dp"); (walk_at "dps")))
local macro_rules | `(tactic| walk_at "s0") => `(tactic| first
  | ((with_reducible apply w_var); exact rfl)
  | with_reducible refine w_op ?_
  | with_reducible refine iteT ?_
  | with_reducible refine iteF ?_
  | with_reducible refine ite_nT ?_
  | with_reducible refine ite_nF ?_
  | with_reducible refine w_c ?_
  | with_reducible refine w_js ?_
  | with_reducible refine w_js0 ?_
  | with_reducible refine w_fmt ?_
  | with_reducible refine w_tyes ?_
  | with_reducible refine w_cons ?_
  | with_reducible refine w_nil ?_
  | with_reducible refine w_I0 ?_
  | with_reducible refine w_U ?_
  | with_reducible refine w_un ?_
  | with_reducible refine w_cb ?_
  | with_reducible refine w_test ?_
  | with_reducible refine w_B ?_
  | with_reducible refine w_blV ?_
  | with_reducible refine w_eqI ?_
  | with_reducible refine w_neI ?_
  | with_reducible refine w_eqS ?_
  | with_reducible refine w_neS ?_
  | with_reducible refine w_int1 ?_
  | with_reducible refine w_and ?_
  | with_reducible refine w_or ?_
  | with_reducible refine w_not ?_
  | with_reducible refine w_andV ?_
  | with_reducible refine w_orV ?_
  | with_reducible refine w_notV ?_
  | with_reducible refine w_if ?_
  | with_reducible refine w_tup ?_
  | with_reducible refine w_lst ?_
  | with_reducible refine w_fn ?_
  | with_reducible refine w_chain ?_
  | with_reducible refine w_chain3 ?_
  | with_reducible refine w_sl ?_
  | with_reducible refine w_part ?_
  | with_reducible refine w_noPart ?_
  | with_reducible refine w_bm ?_
  | with_reducible refine w_bm0 ?_
  | with_reducible refine w_lc ?_
  | with_reducible refine w_m1 ?_
  | with_reducible refine w_isS ?_
  | with_reducible refine w_abs ?_
  | with_reducible refine w_max ?_
  | with_reducible refine w_min ?_
  | with_reducible refine w_intI ?_
  | with_reducible refine w_intB ?_
  | with_reducible refine w_isiII ?_
  | with_reducible refine w_isiIB ?_
  | with_reducible refine w_isiSS ?_
  | with_reducible refine w_inSg ?_
  | with_reducible refine w_niSg ?_
  | with_reducible refine w_isNn ?_
  | with_reducible refine w_noNn ?_
  | with_reducible refine i_list ?_
  | with_reducible refine i_tup ?_
  | with_reducible refine i_str ?_
  | with_reducible refine i_strD ?_
  | with_reducible refine i_rng1 ?_
  | with_reducible refine i_rng2 ?_
  | with_reducible refine i_enum ?_
  | with_reducible refine i_zip ?_
  | with_reducible refine s_asg ?_
  | with_reducible refine s_asg1 ?_
  | with_reducible refine s_asgG ?_
  | with_reducible refine s_asgG1 ?_
  | with_reducible refine s_par ?_
  | with_reducible refine s_par2 ?_
  | with_reducible refine s_drop ?_
  | with_reducible refine s_drop1 ?_
  | with_reducible refine s_ret ?_
  | with_reducible refine s_retN ?_
  | with_reducible refine s_retS ?_
  | with_reducible refine s_next ?_
  | with_reducible refine s_nextS ?_
  | with_reducible refine s_if ?_
  | with_reducible refine s_if1 ?_
  | with_reducible refine s_for ?_
  | with_reducible refine s_for1 ?_
  | with_reducible refine s_brk ?_
  | with_reducible refine s_cnt ?_
  | with_reducible refine g_name ?_
  | with_reducible refine g_set ?_
  | ((with_reducible apply w_ixR); assumption; exact rfl)
  | ((with_reducible apply w_lenTn); (walk_at "dpk"); (first | (simp only [List.length_map, List.length_cons, List.length_nil, dNums_len, List.length_append, List.length_replicate]; exact rfl) | exact rfl))
  | ((with_reducible apply w_lenLn); (walk_at "dpk"); (first | (simp only [List.length_map, List.length_cons, List.length_nil, dNums_len, List.length_append, List.length_replicate]; exact rfl) | exact rfl))
  | ((with_reducible apply w_ixInt); (walk_at "dpk"); (first | exact rfl | exact at_zero | exact at_one))
  | ((with_reducible apply w_ixTInt); (walk_at "dpk"); (first | exact rfl | exact at_zero | exact at_one))
  | ((with_reducible apply w_ixStr); (walk_at "dpk"); (first | exact rfl | exact at_zero | exact at_one))
  | ((with_reducible apply w_ixTStr); (walk_at "dpk"); (first | exact rfl | exact at_zero | exact at_one))
  | (refine w_I (c_mul ?h1) ?h2; (case h1 => omega))
  | (refine w_I (c_div ?h1) ?h2; (case h1 => omega))
  | (refine w_I (c_divW ?h1) ?h2; (case h1 => first | omega | exact ⟨by assumption, by assumption⟩))
  | (refine w_I ?h1 ?h2; (case h1 => (show (0 : Int) < _; first | omega | decide +kernel)))
  | (refine w_I (c_mulW ?h1) ?h2; (case h1 => decide +kernel))
  | (refine w_I (c_pow ?h1) ?h2; (case h1 => decide)))
local macro_rules | `(tactic| walk_at "st") => `(tactic| first
  | (walk_at "s0")
  | ((with_reducible refine w_newT (by assumption) (by assumption) (by walk_at "dps") (by first | exact Nat.le_of_ble_eq_true rfl | omega) ?_); intro p H' e hM hd)
  | ((with_reducible refine w_newL (by assumption) (by assumption) (by walk_at "dps") (by first | exact Nat.le_of_ble_eq_true rfl | omega) ?_); intro p H' e hM hd))
local macro_rules | `(tactic| walk_at "go0") => `(tactic| repeat (walk_at "s0"))
local macro_rules | `(tactic| walk_at "raw") => `(tactic| first | assumption | (refine (by assumption : Ext _ _) _ _ ?_; walk_at "raw"))
local macro_rules | `(tactic| walk_at "go") => `(tactic| repeat (walk_at "st"))

local macro_rules | `(tactic| walk_at "gy") => `(tactic| repeat (first | (walk_at "st") | refine w_yes (by omega) ?_ | refine w_no (by omega) ?_ | refine w_yesN (by omega) ?_ | refine w_noN (by omega) ?_))
local macro_rules | `(tactic| walk_at "sl") => `(tactic| first
  | (walk_at "s0")
  | ((with_reducible refine w_newT (by assumption) (by assumption) (by walk_at "dps") (by first | exact Nat.le_of_ble_eq_true rfl | omega) ?_); intro p H' e hM hd)
  | ((with_reducible refine w_newLst (by assumption) (by assumption) (by walk_at "dps") (by first | exact Nat.le_of_ble_eq_true rfl | omega) ?_); intro p H' e hM hl)
  | ((with_reducible apply w_catD); (assumption); (walk_at "lst"); (walk_at "lst"); (first | exact Nat.le_of_ble_eq_true rfl | (simp; omega)); (intro p H' e hM hl)))
local macro_rules | `(tactic| walk_at "gl") => `(tactic| repeat (walk_at "sl"))
def topS (i : Nat) : Stmt := PySem.Challenge.pw_holdfast_k72_sayings_as_texts.main.body.getD i (.Pass ⟨0, 0, 0, 0⟩)
abbrev s__law_pile : Stmt := topS 13
theorem sc__law_pile : FnScope ["_law_script", "_law_k", "_law_cell"] ["_law_script", "_law_k"] (defScope s__law_pile) := ⟨rfl, rfl, rfl, by decide +kernel, rfl, by decide +kernel, by decide +kernel⟩
abbrev s__law_mixed : Stmt := topS 12
theorem sc__law_mixed : FnScope ["_law_cell", "_law_k", "_law_number"] ["_law_cell", "_law_k"] (defScope s__law_mixed) := ⟨rfl, rfl, rfl, by decide +kernel, rfl, by decide +kernel, by decide +kernel⟩
abbrev s__law_take : Stmt := topS 14
theorem sc__law_take : FnScope ["_law_pile_here", "_law_many", "_law_digit"] ["_law_pile_here", "_law_many"] (defScope s__law_take) := ⟨rfl, rfl, rfl, by decide +kernel, rfl, by decide +kernel, by decide +kernel⟩
abbrev s__law_great : Stmt := topS 16
theorem sc__law_great : FnScope ["_law_pile_here", "_law_way", "_law_number"] ["_law_pile_here"] (defScope s__law_great) := ⟨rfl, rfl, rfl, by decide +kernel, rfl, by decide +kernel, by decide +kernel⟩
abbrev s_is_saying_of_numbers : Stmt := topS 4
theorem sc_is_saying_of_numbers : FnScope ["word", "numbers", "a", "b", "k"] ["word", "numbers"] (defScope s_is_saying_of_numbers) := ⟨rfl, rfl, rfl, by decide +kernel, rfl, by decide +kernel, by decide +kernel⟩
abbrev s_is_saying : Stmt := topS 5
theorem sc_is_saying : FnScope ["saying", "word", "things", "thing", "number"] ["saying"] (defScope s_is_saying) := ⟨rfl, rfl, rfl, by decide +kernel, rfl, by decide +kernel, by decide +kernel⟩
abbrev s_show_saying : Stmt := topS 9
theorem sc_show_saying : FnScope ["saying", "numbers", "number"] ["saying"] (defScope s_show_saying) := ⟨rfl, rfl, rfl, by decide +kernel, rfl, by decide +kernel, by decide +kernel⟩
abbrev s_number_in : Stmt := topS 8
theorem sc_number_in : FnScope ["word", "sign"] ["word"] (defScope s_number_in) := ⟨rfl, rfl, rfl, by decide +kernel, rfl, by decide +kernel, by decide +kernel⟩
abbrev s_read_saying : Stmt := topS 10
theorem sc_read_saying : FnScope ["text", "words", "many", "word", "saying", "one"] ["text"] (defScope s_read_saying) := ⟨rfl, rfl, rfl, by decide +kernel, rfl, by decide +kernel, by decide +kernel⟩
abbrev s__law_saying : Stmt := topS 17
theorem sc__law_saying : FnScope ["_law_pile_here", "_law_way", "_law_word", "_law_a", "_law_b", "_law_k"] ["_law_pile_here"] (defScope s__law_saying) := ⟨rfl, rfl, rfl, by decide +kernel, rfl, by decide +kernel, by decide +kernel⟩
abbrev s__law_saying_text : Stmt := topS 18
theorem sc__law_saying_text : FnScope ["_law_saying_here", "_law_numbers", "_law_number"] ["_law_saying_here"] (defScope s__law_saying_text) := ⟨rfl, rfl, rfl, by decide +kernel, rfl, by decide +kernel, by decide +kernel⟩
abbrev s__law_edges : Stmt := topS 19
theorem sc__law_edges : FnScope ["_law_found"] [] (defScope s__law_edges) := ⟨rfl, rfl, rfl, by decide +kernel, rfl, by decide +kernel, by decide +kernel⟩
abbrev s__law_whole : Stmt := topS 15
theorem sc__law_whole : FnScope ["_law_number"] ["_law_number"] (defScope s__law_whole) := ⟨rfl, rfl, rfl, by decide +kernel, rfl, by decide +kernel, by decide +kernel⟩
abbrev s__law_kept : Stmt := topS 20
theorem sc__law_kept : FnScope ["_law_saying_here", "_law_due", "_law_numbers", "_law_turn", "_law_told", "_law_other", "_law_mine", "_law_number"] ["_law_saying_here"] (defScope s__law_kept) := ⟨rfl, rfl, rfl, by decide +kernel, rfl, by decide +kernel, by decide +kernel⟩
abbrev s_law : Stmt := topS 21
theorem sc_law : FnScope ["_law_script", "_law_at", "_law_saying_here"] ["_law_script"] (defScope s_law) := ⟨rfl, rfl, rfl, by decide +kernel, rfl, by decide +kernel, by decide +kernel⟩
structure Txt (K : PySem.W.Frag) (mg : Str → Option Value) : Prop where
  c_FIGURES : ∃ t, mg "FIGURES" = some (.str "0123456789" t)
  m_abs : mg "abs" = none
  m_all : mg "all" = none
  m_any : mg "any" = none
  m_bool : mg "bool" = none
  m_int : mg "int" = none
  m_isinstance : mg "isinstance" = none
  m_len : mg "len" = none
  m_list : mg "list" = none
  m_range : mg "range" = none
  m_str : mg "str" = none
  m_tuple : mg "tuple" = none
  f__law_pile : At K mg "_law_pile" s__law_pile
  f__law_mixed : At K mg "_law_mixed" s__law_mixed
  f__law_take : At K mg "_law_take" s__law_take
  f__law_great : At K mg "_law_great" s__law_great
  f_is_saying_of_numbers : At K mg "is_saying_of_numbers" s_is_saying_of_numbers
  f_is_saying : At K mg "is_saying" s_is_saying
  f_show_saying : At K mg "show_saying" s_show_saying
  f_number_in : At K mg "number_in" s_number_in
  f_read_saying : At K mg "read_saying" s_read_saying
  f__law_saying : At K mg "_law_saying" s__law_saying
  f__law_saying_text : At K mg "_law_saying_text" s__law_saying_text
  f__law_edges : At K mg "_law_edges" s__law_edges
  f__law_whole : At K mg "_law_whole" s__law_whole
  f__law_kept : At K mg "_law_kept" s__law_kept
  f_law : At K mg "law" s_law
def sp__law_pile (K : PySem.W.Frag) : Sp := fun vs H Q _ => ∃ (a : Addr) (ns : List Int) (k : Int), vs = [.ref a, .int k] ∧ SqL K H a (ns.map V.int) ∧ 0 ≤ k ∧ ∀ H' p, H p = none → Ext H H' → PileAt H' p → Q (.ref p) H'
theorem ok__law_pile {P : Program} {w : World} {K : PySem.W.Frag} {mg : Str → Option Value} {base : Heap} (T : Txt K mg) : OkF P w K mg base CX0 1 "_law_pile" ["_law_script", "_law_k"] (sp__law_pile K) := by
  refine okF0 T.f__law_pile sc__law_pile (fun vs H Q E h => ?_) (fun _ _ _ _ _ _ us hl => match us, hl with | [_, _], _ => rfl) (fun cdv A outer s H vs Q E hr h => ?_)
  · obtain ⟨a, ns, k, rfl, hS, hk, q⟩ := h
    rfl
  · have hu := hu_of hr
    have kt : KTok K := rfl
    refine ⟨_, (pss_cons (ps_set (i := 2) sc__law_pile.nd rfl (Or.inl rfl) pe_int)
      (pss_cutH (ps_if (pt_cmpR op_lt (pv 1) (pe_callB cn_len (by rfl) T.m_len (by decide +kernel) (pa_cons (pv 0) pa_nil)) (nomark _)) (pss_one (ps_set (i := 2) sc__law_pile.nd rfl (Or.inl rfl) (pe_ix ix_list (pv 0) (pv 1) (fun _ _ => rfl)))) pss_nil)
      (pss_one (ps_ret (pe_lst (pa_cons (pe_ix ix_list (pe_lst (pa_cons pe_int (pa_cons (pe_op op_mod (pv 2) (pe_op op_mulW (pe_op op_mulW (pe_op op_pow pe_int pe_int) (pe_op op_pow pe_int pe_int)) (pe_op op_pow pe_int pe_int))) pa_nil))) (pe_callTy cn_int (by rfl) T.m_int (by decide +kernel) (pa_cons (pe_cmpR op_ge (pe_callB cn_abs (by rfl) T.m_abs (by decide +kernel) (pa_cons (pv 2) pa_nil)) (pe_op op_pow pe_int pe_int) (nomark _)) pa_nil)) (fun _ _ => rfl)) (pa_cons (pe_op op_mod (pv 2) pe_int) (pa_cons (pe_op op_mul pe_int (pv 1)) pa_nil)))))))), ?_⟩
    obtain ⟨a, ns, k, rfl, hS, hk, q⟩ := h
    try dsimp only [cxOf, Cx.nox, Cx.wish]
    refine start_as (σ := [some _, some _, none]) rfl ?_
    have hM : Dom [] H := Dom.nil
    walk_at "go"
    refine s_cut (fun σ' H' => ∃ c, σ' = [some (.ref a), some (.int k), some (.int c)] ∧ H' = H) ?_ ?_
    · walk_at "go"
      refine w_lenR hS ?_
      walk_at "go"
      refine w_ite (fun c => ?_) (fun c => ?_)
      · rw [List.length_map] at c
        obtain ⟨j, rfl⟩ : ∃ j : Nat, k = (j : Int) := ⟨k.toNat, by omega⟩
        have hj : j < ns.length := by omega
        walk_at "go"
        refine ⟨a, _, _, .int ns[j], rfl, rfl, hS, atI_nat (by rw [List.getElem?_map, List.getElem?_eq_getElem hj]; rfl), ?_⟩
        exact ⟨_, rfl, rfl⟩
      · walk_at "go"
        exact ⟨_, rfl, rfl⟩
    · rintro σ' H' ⟨c, rfl, rfl⟩
      walk_at "go"
      refine w_ixI [0, _] (by assumption) (by split <;> omega) (by show _ < (2 : Int); split <;> omega) fun n _ => ?_
      walk_at "go0"
      rename_i p₁ H₁ e₁ _ _ _
      refine w_newR (by exact Nat.le_of_ble_eq_true rfl) fun p H₂ hp e h => ?_
      exact q H₂ p (fresh_back e₁ hp) (e₁.trans e) ⟨_, _, _, h⟩
def sp__law_mixed (K : PySem.W.Frag) : Sp := fun vs H Q _ => ∃ b c : Int, vs = [.int b, .int c] ∧ ∀ r : Int, 0 ≤ r → Q (.int r) H
theorem ok__law_mixed {P : Program} {w : World} {K : PySem.W.Frag} {mg : Str → Option Value} {base : Heap} (T : Txt K mg) : OkF P w K mg base CX0 1 "_law_mixed" ["_law_cell", "_law_k"] (sp__law_mixed K) := by
  refine okF0 T.f__law_mixed sc__law_mixed (fun vs H Q E h => ?_) (fun _ _ _ _ _ _ us hl => match us, hl with | [_, _], _ => rfl) (fun cdv A outer s H vs Q E hr h => ?_)
  · obtain ⟨b, c, rfl, q⟩ := h
    rfl
  · have hu := hu_of hr
    have kt : KTok K := rfl
    refine ⟨_, (pss_cons (ps_set (i := 2) sc__law_mixed.nd rfl (Or.inl rfl) (pe_op op_mod (pe_op op_add (pe_op op_add (pe_op op_mul (pe_op op_mod (pv 0) pe_int) pe_int) (pe_op op_mul (pv 1) pe_int)) pe_int) pe_int))
      (pss_cons (ps_set (i := 2) sc__law_mixed.nd rfl (Or.inl rfl) (pe_op op_mod (pe_op op_mul (pv 2) (pv 2)) pe_int))
      (pss_one (ps_ret (pe_op op_fdiv (pe_op op_mod (pe_op op_mul (pv 2) (pv 2)) pe_int) pe_int))))), ?_⟩
    obtain ⟨b, c, rfl, q⟩ := h
    try dsimp only [cxOf, Cx.nox, Cx.wish]
    refine start_as (σ := [some _, some _, none]) rfl ?_
    walk_at "go"
    exact q _ (by omega)
def sp__law_take (K : PySem.W.Frag) : Sp := fun vs H Q _ => ∃ (pl : Addr) (m : Int), vs = [.ref pl, .int m] ∧ 0 < m ∧ m < 2 ^ 200 ∧ PileAt H pl ∧ ∀ H' r, But pl H H' → PileAt H' pl → 0 ≤ r → r < m → Q (.int r) H'
theorem ok__law_take {P : Program} {w : World} {K : PySem.W.Frag} {mg : Str → Option Value} {base : Heap} (T : Txt K mg) (O__law_mixed : OkF P w K mg base CX0 1 "_law_mixed" ["_law_cell", "_law_k"] (sp__law_mixed K)) : OkF P w K mg base CX0 2 "_law_take" ["_law_pile_here", "_law_many"] (sp__law_take K) := by
  refine okF0 T.f__law_take sc__law_take (fun vs H Q E h => ?_) (fun _ _ _ _ _ _ us hl => match us, hl with | [_, _], _ => rfl) (fun cdv A outer s H vs Q E hr h => ?_)
  · obtain ⟨pl, m, rfl, hm, hm2, ⟨a, b, c, hp⟩, q⟩ := h
    rfl
  · have hu := hu_of hr
    have kt : KTok K := rfl
    refine ⟨_, (pss_cons (ps_if (pt_cmpR op_in_seq (pe_ix ix_list (pv 0) pe_int (fun _ _ => rfl)) (pe_lst (pa_cons pe_int (pa_cons (pe_un un_neg pe_int) pa_nil))) (by rfl)) (pss_cons (ps_asg (pe_op op_add (pe_ix ix_list (pv 0) pe_int (fun _ _ => rfl)) pe_int) (pg_sub (pv 0) pe_int set_list))
      (pss_one (ps_ret (pe_op op_mod (pe_callF O__law_mixed (hr.mono (by decide)) (by rfl) pass0 (pa_cons (pe_ix ix_list (pv 0) pe_int (fun _ _ => rfl)) (pa_cons (pe_ix ix_list (pv 0) pe_int (fun _ _ => rfl)) pa_nil))) (pv 1))))) pss_nil)
      (pss_cons (ps_set (i := 2) sc__law_take.nd rfl (Or.inl rfl) (pe_op op_mod (pe_ix ix_list (pv 0) pe_int (fun _ _ => rfl)) (pv 1)))
      (pss_cons (ps_asg (pe_op op_fdivW (pe_ix ix_list (pv 0) pe_int (fun _ _ => rfl)) (pv 1)) (pg_sub (pv 0) pe_int set_list))
      (pss_one (ps_ret (pv 2)))))), ?_⟩
    obtain ⟨pl, m, rfl, hm, hm2, ⟨a, b, c, hp⟩, q⟩ := h
    try dsimp only [cxOf, Cx.nox, Cx.wish]
    refine start_as (σ := [some _, some _, none]) rfl ?_
    have hM : Dom [pl] H := Dom.nil.cons (some_ne hp)
    walk_at "go"
    refine w_inI [0, -1] (.inl (by assumption)) ?_
    rename_i p₁ H₁ e₁ hM₁ hd₁
    have hp1 := e₁ _ _ hp
    walk_at "go"
    refine w_ite (fun c => ?_) (fun c => ?_)
    · walk_at "go"
      refine w_setB hp1 rfl fun H2 e2 hp2 => ?_
      walk_at "go"
      refine ⟨_, _, rfl, fun r hr => ?_⟩
      walk_at "go"
      exact q _ _ (e₁.but.trans e2) ⟨_, _, _, hp2⟩ (Int.emod_nonneg _ (by omega)) (Int.emod_lt_of_pos _ hm)
    · walk_at "go"
      refine w_setB hp1 rfl fun H2 e2 hp2 => ?_
      walk_at "go"
      exact q _ _ (e₁.but.trans e2) ⟨_, _, _, hp2⟩ (Int.emod_nonneg _ (by omega)) (Int.emod_lt_of_pos _ hm)
def sp__law_great (K : PySem.W.Frag) : Sp := fun vs H Q _ => ∃ (pl : Addr), vs = [.ref pl] ∧ PileAt H pl ∧ ∀ H' (n : Nat), But pl H H' → PileAt H' pl → n < 9 * 10 ^ 39 → Q (.int n) H'
theorem ok__law_great {P : Program} {w : World} {K : PySem.W.Frag} {mg : Str → Option Value} {base : Heap} (T : Txt K mg) (O__law_take : OkF P w K mg base CX0 2 "_law_take" ["_law_pile_here", "_law_many"] (sp__law_take K)) : OkF P w K mg base CX0 3 "_law_great" ["_law_pile_here"] (sp__law_great K) := by
  refine okF0 T.f__law_great sc__law_great (fun vs H Q E h => ?_) (fun _ _ _ _ _ _ us hl => match us, hl with | [_], _ => rfl) (fun cdv A outer s H vs Q E hr h => ?_)
  · obtain ⟨pl, rfl, hP, q⟩ := h
    rfl
  · have hu := hu_of hr
    have kt : KTok K := rfl
    refine ⟨_, (pss_cons (ps_set (i := 1) sc__law_great.nd rfl (Or.inl rfl) (pe_callF O__law_take (hr.mono (by decide)) (by rfl) pass0 (pa_cons (pv 0) (pa_cons pe_int pa_nil))))
      (pss_cons (ps_set (i := 2) sc__law_great.nd rfl (Or.inl rfl) (pe_callF O__law_take (hr.mono (by decide)) (by rfl) pass0 (pa_cons (pv 0) (pa_cons (pe_op op_pow pe_int pe_int) pa_nil))))
      (pss_one (ps_ret (pe_ix ix_list (pe_lst (pa_cons (pe_op op_mod (pv 2) pe_int) (pa_cons (pe_op op_mod (pv 2) pe_int) (pa_cons (pv 2) (pa_cons (pe_op op_add (pe_op op_mul (pe_op op_add (pe_op op_mul (pv 2) (pe_op op_pow pe_int pe_int)) (pe_callF O__law_take (hr.mono (by decide)) (by rfl) pass0 (pa_cons (pv 0) (pa_cons (pe_op op_pow pe_int pe_int) pa_nil)))) pe_int) (pe_op op_mod (pv 2) pe_int)) pa_nil))))) (pv 1) (fun _ _ => rfl)))))), ?_⟩
    obtain ⟨pl, rfl, hP, q⟩ := h
    try dsimp only [cxOf, Cx.nox, Cx.wish]
    refine start_as (σ := [some _, none, none]) rfl ?_
    have hM : Dom [pl] H := Dom.nil.cons hP.some
    walk_at "go"
    refine ⟨pl, 4, rfl, by omega, by omega, hP, fun H1 r1 e1 hP1 r10 r11 => ?_⟩
    walk_at "go"
    refine ⟨pl, 10 ^ 20, rfl, by decide, by decide, hP1, fun H2 r2 e2 hP2 r20 r21 => ?_⟩
    have hM2 := hM.but (e1.trans e2) hP2.some
    walk_at "go"
    refine w_I (c_mul (.inr (by decide +kernel))) ?_
    walk_at "go"
    refine ⟨pl, 10 ^ 19, rfl, by decide, by decide, hP2, fun H3 r3 e3 hP3 r30 r31 => ?_⟩
    have hM3 := hM2.but e3 hP3.some
    have e19 : (10 : Int) ^ Int.toNat 19 = 10000000000000000000 := by decide +kernel
    rw [e19]
    walk_at "go"
    rename_i p4 H4 e4 hM4 h4
    refine w_ixI [r2 % 8, r2 % 100, r2, (r2 * 10000000000000000000 + r3) * 9 + r2 % 9] h4 r10 r11 fun n hn => ?_
    have hn2 : 0 ≤ n ∧ n < 9 * 10 ^ 39 := by
      simp only [List.mem_cons, List.not_mem_nil, or_false] at hn
      omega
    obtain ⟨m, rfl⟩ : ∃ m : Nat, n = (m : Int) := ⟨n.toNat, by omega⟩
    exact q _ m (e1.trans (e2.trans (e3.trans e4.but))) (hP3.ext e4) (by omega)
def sp_is_saying_of_numbers (K : PySem.W.Frag) : Sp := fun vs H Q _ => ∃ (x : V) (w : Str) (ns : List Nat) (M : List Addr), vs = [.str w, x] ∧ Dp K (vis M H) x (.tuple (dNums ns)) ∧ okNum w ns ∧ Dom M H ∧ ∀ H', Ext H H' → Q (.bl true) H'
theorem notin {w : Str} {A B : List Str} (h : w ∈ A) (d : ∀ x ∈ A, x ∉ B) : w ∉ B := d w h
theorem ok_is_saying_of_numbers {P : Program} {w : World} {K : PySem.W.Frag} {mg : Str → Option Value} {base : Heap} (T : Txt K mg) : OkF P w K mg base CX0 1 "is_saying_of_numbers" ["word", "numbers"] (sp_is_saying_of_numbers K) := by
  refine okF0 T.f_is_saying_of_numbers sc_is_saying_of_numbers (fun vs H Q E h => ?_) (fun _ _ _ _ _ _ us hl => match us, hl with | [_, _], _ => rfl) (fun cdv A outer s H vs Q E hr h => ?_)
  · obtain ⟨x, w, ns, M, rfl, hd, ok, hM, q⟩ := h
    rfl
  · have hu := hu_of hr
    have kt : KTok K := rfl
    refine ⟨_, (pss_cons (ps_if (pt_cmpR op_in_seq (pv 0) (pe_lst (pa_cons pe_str (pa_cons pe_str pa_nil))) (by rfl)) (pss_one (ps_ret (pe_and (pe_cmpR op_eq (pe_callB cn_len (by rfl) T.m_len (by decide +kernel) (pa_cons (pv 1) pa_nil)) pe_int (nomark _)) (pe_and (pe_chain op_le op_le pe_int (pe_ix ix_tup (pv 1) pe_int (fun _ _ => rfl)) pe_int) (pe_one (pe_cmpR op_eq (pe_op op_mod (pe_ix ix_tup (pv 1) pe_int (fun _ _ => rfl)) pe_int) pe_int (nomark _))))))) pss_nil)
      (pss_cons (ps_if (pt_cmpR op_in_seq (pv 0) (pe_lst (pa_cons pe_str (pa_cons pe_str pa_nil))) (by rfl)) (pss_one (ps_ret (pe_and (pe_cmpR op_eq (pe_callB cn_len (by rfl) T.m_len (by decide +kernel) (pa_cons (pv 1) pa_nil)) pe_int (nomark _)) (pe_one (pe_chain op_le op_le pe_int (pe_ix ix_tup (pv 1) pe_int (fun _ _ => rfl)) pe_int))))) pss_nil)
      (pss_cons (ps_if (pt_cmpR op_in_seq (pv 0) (pe_lst (pa_cons pe_str (pa_cons pe_str (pa_cons pe_str (pa_cons pe_str pa_nil))))) (by rfl)) (pss_one (ps_ret (pe_and (pe_cmpR op_eq (pe_callB cn_len (by rfl) T.m_len (by decide +kernel) (pa_cons (pv 1) pa_nil)) pe_int (nomark _)) (pe_one (pe_chain op_le op_le pe_int (pe_ix ix_tup (pv 1) pe_int (fun _ _ => rfl)) pe_int))))) pss_nil)
      (pss_cons (ps_if (pt_cmpR op_in_seq (pv 0) (pe_lst (pa_cons pe_str (pa_cons pe_str pa_nil))) (by rfl)) (pss_one (ps_ret (pe_and (pe_cmpR op_eq (pe_callB cn_len (by rfl) T.m_len (by decide +kernel) (pa_cons (pv 1) pa_nil)) pe_int (nomark _)) (pe_and (pe_chain op_le op_le pe_int (pe_ix ix_tup (pv 1) pe_int (fun _ _ => rfl)) pe_int) (pe_one (pe_chain op_le op_le pe_int (pe_ix ix_tup (pv 1) pe_int (fun _ _ => rfl)) pe_int)))))) pss_nil)
      (pss_cons (ps_if (PW.pt (pw_or (pt_cmpR op_notIn_seq (pv 0) (pe_lst (pa_cons pe_str (pa_cons pe_str pa_nil))) (by rfl)) (pw_or1 (pt_cmpR op_ne (pe_callB cn_len (by rfl) T.m_len (by decide +kernel) (pa_cons (pv 1) pa_nil)) pe_int (nomark _))))) (pss_one (ps_ret pe_bl)) pss_nil)
      (pss_cons (ps_asg (pv 1) (pg_tup rfl (pgs_cons (pg_name (i := 2) sc_is_saying_of_numbers.nd rfl (Or.inl rfl)) (pgs_cons (pg_name (i := 3) sc_is_saying_of_numbers.nd rfl (Or.inl rfl)) (pgs_cons (pg_name (i := 4) sc_is_saying_of_numbers.nd rfl (Or.inl rfl)) pgs_nil)))))
      (pss_one (ps_ret (pe_and (pe_cmpR op_ge (pv 2) pe_int (nomark _)) (pe_and (pe_cmpR op_ge (pv 3) pe_int (nomark _)) (pe_and (pe_cmpR op_ne (pv 2) (pv 3) (nomark _)) (pe_one (pe_chain op_le op_le pe_int (pv 4) pe_int))))))))))))), ?_⟩
    obtain ⟨x, w, ns, M, rfl, hd, ok, hM, q⟩ := h
    try dsimp only [cxOf, Cx.nox, Cx.wish]
    refine start_as (σ := [some _, some _, none, none, none]) rfl ?_
    rcases ok with ⟨hw, k, rfl, h1, h2, h3⟩ | ⟨hw, k, rfl, h1, h2⟩ | ⟨hw, k, rfl, h1, h2⟩ | ⟨hw, r, k, rfl, h1, h2, h3⟩ | ⟨hw, a, b, k, rfl, h1, h2, h3, h4, h5⟩
    · walk_at "go"
      rename_i p0 H0 e0 hM0 l0
      refine w_inS ["holds", "parts"] (.inl l0) ?_
      walk_at "go"
      refine w_yes hw ?_
      walk_at "gy"
      rw [decide_eq_true (by omega)]
      exact q _ (by walk_at "ext")
    · walk_at "go"
      rename_i p0 H0 e0 hM0 l0
      refine w_inS ["holds", "parts"] (.inl l0) ?_
      walk_at "go"
      refine w_no (notin hw (by decide +kernel)) ?_
      walk_at "go"
      rename_i p1 H1 e1 hM1 l1
      refine w_inS ["strong", "not strong"] (.inl l1) ?_
      walk_at "go"
      refine w_yes hw ?_
      walk_at "gy"
      rw [decide_eq_true (by omega)]
      exact q _ (by walk_at "ext")
    · walk_at "go"
      rename_i p0 H0 e0 hM0 l0
      refine w_inS ["holds", "parts"] (.inl l0) ?_
      walk_at "go"
      refine w_no (notin hw (by decide +kernel)) ?_
      walk_at "go"
      rename_i p1 H1 e1 hM1 l1
      refine w_inS ["strong", "not strong"] (.inl l1) ?_
      walk_at "go"
      refine w_no (notin hw (by decide +kernel)) ?_
      walk_at "go"
      rename_i p2 H2 e2 hM2 l2
      refine w_inS ["trees", "no trees", "woods", "no woods"] (.inl l2) ?_
      walk_at "go"
      refine w_yes hw ?_
      walk_at "gy"
      rw [decide_eq_true (by omega)]
      exact q _ (by walk_at "ext")
    · walk_at "go"
      rename_i p0 H0 e0 hM0 l0
      refine w_inS ["holds", "parts"] (.inl l0) ?_
      walk_at "go"
      refine w_no (notin hw (by decide +kernel)) ?_
      walk_at "go"
      rename_i p1 H1 e1 hM1 l1
      refine w_inS ["strong", "not strong"] (.inl l1) ?_
      walk_at "go"
      refine w_no (notin hw (by decide +kernel)) ?_
      walk_at "go"
      rename_i p2 H2 e2 hM2 l2
      refine w_inS ["trees", "no trees", "woods", "no woods"] (.inl l2) ?_
      walk_at "go"
      refine w_no (notin hw (by decide +kernel)) ?_
      walk_at "go"
      rename_i p3 H3 e3 hM3 l3
      refine w_inS ["firmer", "not firmer"] (.inl l3) ?_
      walk_at "go"
      refine w_yes hw ?_
      walk_at "gy"
      rw [decide_eq_true (by omega)]
      exact q _ (by walk_at "ext")
    · walk_at "go"
      rename_i p0 H0 e0 hM0 l0
      refine w_inS ["holds", "parts"] (.inl l0) ?_
      walk_at "go"
      refine w_no (notin hw (by decide +kernel)) ?_
      walk_at "go"
      rename_i p1 H1 e1 hM1 l1
      refine w_inS ["strong", "not strong"] (.inl l1) ?_
      walk_at "go"
      refine w_no (notin hw (by decide +kernel)) ?_
      walk_at "go"
      rename_i p2 H2 e2 hM2 l2
      refine w_inS ["trees", "no trees", "woods", "no woods"] (.inl l2) ?_
      walk_at "go"
      refine w_no (notin hw (by decide +kernel)) ?_
      walk_at "go"
      rename_i p3 H3 e3 hM3 l3
      refine w_inS ["firmer", "not firmer"] (.inl l3) ?_
      walk_at "go"
      refine w_no (notin hw (by decide +kernel)) ?_
      walk_at "go"
      rename_i p4 H4 e4 hM4 l4
      refine w_niS ["apart", "barred"] (.inl l4) ?_
      walk_at "go"
      refine w_noN hw ?_
      walk_at "gy"
      refine g_tup3 (d1 := .int a) (d2 := .int b) (d3 := .int k) (M := M) (dpx (by walk_at "ext") hd) fun v1 v2 v3 d1 d2 d3 => ?_
      cases dp_int d1
      cases dp_int d2
      cases dp_int d3
      walk_at "gy"
      rw [decide_eq_true (by omega)]
      exact q _ (by walk_at "ext")
def sp_is_saying (K : PySem.W.Frag) : Sp := fun vs H Q _ => ∃ (x : V) (w : Str) (r : Bool) (ns : List Nat) (M : List Addr), vs = [x] ∧ Dp K (vis M H) x (dSay w r ns) ∧ okSay w r ns ∧ Dom M H ∧ ∀ H', Ext H H' → Q (.bl true) H'
theorem words_apart (A : List Str) (d : ∀ x ∈ A, x ∉ (["room", "no room"] : List Str)) (w : Str) (h : w ∈ A) : w ∉ (["room", "no room"] : List Str) := d w h
theorem ok_is_saying {P : Program} {w : World} {K : PySem.W.Frag} {mg : Str → Option Value} {base : Heap} (T : Txt K mg) (O_is_saying_of_numbers : OkF P w K mg base CX0 1 "is_saying_of_numbers" ["word", "numbers"] (sp_is_saying_of_numbers K)) : OkF P w K mg base CX0 2 "is_saying" ["saying"] (sp_is_saying K) := by
  refine okF0 T.f_is_saying sc_is_saying (fun vs H Q E h => ?_) (fun _ _ _ _ _ _ us hl => match us, hl with | [_], _ => rfl) (fun cdv A outer s H vs Q E hr h => ?_)
  · obtain ⟨x, w, r, ns, M, rfl, hd, ok, hM, q⟩ := h
    rfl
  · have hu := hu_of hr
    have kt : KTok K := rfl
    refine ⟨_, (pss_cons (ps_par (i := 1) (j := 2) (by rfl) sc_is_saying.nd rfl rfl (by decide) rfl rfl (pa_cons (pe_ix ix_tup (pv 0) pe_int (fun _ _ => rfl)) (pa_cons (pe_slice sl_tupA (pv 0) (po_some pe_int) po_none) pa_nil)) (by rfl))
      (pss_cons (ps_if (pt_cmpR op_in_seq (pv 1) (pe_lst (pa_cons pe_str (pa_cons pe_str pa_nil))) (by rfl)) (pss_cons (ps_if (PW.pt (pw_or (pt_cmpR op_ne (pe_callB cn_len (by rfl) T.m_len (by decide +kernel) (pa_cons (pv 2) pa_nil)) pe_int (nomark _)) (pw_or1 (pt_not (pt_val (pe_callB call_isi (by rfl) T.m_isinstance (by decide +kernel) (pa_cons (pe_ix ix_tup (pv 2) pe_int (fun _ _ => rfl)) (pa_cons (pe_bltn (v := .ty "list") (by rfl) T.m_list (by decide +kernel) rfl) pa_nil)))))))) (pss_one (ps_ret pe_bl)) pss_nil)
      (pss_one (ps_ret (pe_and (pe_chain op_le op_le pe_int (pe_callB cn_len (by rfl) T.m_len (by decide +kernel) (pa_cons (pe_ix ix_tup (pv 2) pe_int (fun _ _ => rfl)) pa_nil)) pe_int) (pe_one (pe_callB (cr_all rfl) (by rfl) T.m_all (by decide +kernel) (pa_cons (pe_lc (own := [("number", 4)]) (g := (gName 4)) (tt := tYes) (by rfl) sc_is_saying.nd (pi_list (pe_ix ix_tup (pv 2) pe_int (fun _ _ => rfl))) (blkOk_by (own := [("number", 4)]) (N := ["saying", "word", "things", "thing", "number"]) (sc := defScope s_is_saying) (by decide +kernel)) (fun _ _ _ _ _ => (pg_name (i := 4) sc_is_saying.nd rfl (Or.inl rfl))) (fun _ _ _ _ _ => pts_nil) (fun _ _ _ _ _ => (pe_cmpR op_ge (pv 4) pe_int (nomark _)))) pa_nil))))))) pss_nil)
      (pss_cons (ps_if (pt_val (pe_callB (cr_any rfl) (by rfl) T.m_any (by decide +kernel) (pa_cons (pe_lc (own := [("thing", 3)]) (g := (gName 3)) (tt := tYes) (by rfl) sc_is_saying.nd (pi_tup (pv 2)) (blkOk_by (own := [("thing", 3)]) (N := ["saying", "word", "things", "thing", "number"]) (sc := defScope s_is_saying) (by decide +kernel)) (fun _ _ _ _ _ => (pg_name (i := 3) sc_is_saying.nd rfl (Or.inl rfl))) (fun _ _ _ _ _ => pts_nil) (fun _ _ _ _ _ => (pe_callB (id := "isinstance") (r := rIsi K) call_isi (by rfl) T.m_isinstance (by decide +kernel) (pa_cons (pv 3) (pa_cons (pe_bltn (v := .ty "list") (by rfl) T.m_list (by decide +kernel) rfl) pa_nil))))) pa_nil))) (pss_one (ps_ret pe_bl)) pss_nil)
      (pss_one (ps_ret (pe_callF O_is_saying_of_numbers (hr.mono (by decide)) (by rfl) pass0 (pa_cons (pv 1) (pa_cons (pv 2) pa_nil)))))))), ?_⟩
    obtain ⟨x, w, r, ns, M, rfl, hd, ok, hM, q⟩ := h
    try dsimp only [cxOf, Cx.nox, Cx.wish]
    refine start_as (σ := [some _, none, none, none, none]) rfl ?_
    rcases ok with ⟨rfl, hw, hl1, hl2, hn⟩ | ⟨rfl, ok⟩
    · have hd : Dp K (vis M H) x (.tuple [.str w, .list (dNums ns)]) := hd
      walk_at "go"
      refine w_slT hM hd fun p1 H1 e1 hM1 h1 => ?_
      have h1 : Dp K (vis M H1) (.ref p1) (.tuple [.list (dNums ns)]) := h1
      walk_at "go"
      rename_i p2 H2 e2 hM2 l2
      refine w_inS ["room", "no room"] (.inl l2) ?_
      walk_at "go"
      refine w_yes hw ?_
      have h2 := dpx e2 h1
      walk_at "gy"
      refine w_ixT h2 rfl fun v hv => ?_
      walk_at "gy"
      refine w_isiLL hv ?_
      walk_at "gy"
      refine w_ixT h2 rfl fun v' hv' => ?_
      walk_at "gy"
      refine w_ixT h2 rfl fun v2 hv2 => ?_
      walk_at "go"
      refine i_listD hv2 fun a xs ea hL hA => ?_
      refine lm_L (K := K) (M := M) ns (fun (n : Nat) => PyData.int (n : Int)) (fun _ => true) PyData.bool (by omega) hM2 hL hA (fun D i n x2 H5 hi e5 dm hD hx Ky k1 => ?_) (fun D H5 e5 hM5 hD h5 => ?_)
      · cases dp_int hx
        walk_at "go"
        refine ⟨rfl, ?_⟩
        walk_at "go"
        rw [decide_eq_true (by omega)]
        exact k1 _ _ (Ext.refl _) (.bl _)
      · refine rAll_ok _ h5.dp ?_
        rw [all_true]
        exact q _ (by walk_at "ext")
    · have hd : Dp K (vis M H) x (.tuple (.str w :: dNums ns)) := hd
      walk_at "go"
      refine w_slT hM hd fun p1 H1 e1 hM1 h1 => ?_
      rw [show (1 : Int) = ((1 : Nat) : Int) from rfl, cutD_from] at h1
      have h1 : Dp K (vis M H1) (.ref p1) (.tuple (dNums ns)) := h1
      walk_at "go"
      rename_i p2 H2 e2 hM2 l2
      refine w_inS ["room", "no room"] (.inl l2) ?_
      have nw : w ∉ (["room", "no room"] : List Str) := by
        rcases ok with ⟨h, _⟩ | ⟨h, _⟩ | ⟨h, _⟩ | ⟨h, _⟩ | ⟨h, _⟩
        all_goals exact words_apart _ (by decide +kernel) w h
      walk_at "go"
      refine w_no nw ?_
      walk_at "go"
      have h2 := dpx e2 h1
      refine i_tupD h2 fun a xs ea hT hA => ?_
      have l1 := (okNum_le ok).2.1
      refine lm_T (K := K) (M := M) ns (fun (n : Nat) => PyData.int (n : Int)) (fun _ => false) PyData.bool (by omega) hM2 hT hA (fun D i n x2 H5 hi e5 dm hD hx Ky k1 => ?_) (fun D H5 e5 hM5 hD h5 => ?_)
      · cases dp_int hx
        walk_at "go"
        refine ⟨rfl, ?_⟩
        walk_at "go"
        refine w_isi false (.base (.int _)) (by rfl) ?_
        exact k1 _ _ (Ext.refl _) (.bl _)
      · walk_at "go"
        refine rAny_ok _ h5.dp ?_
        rw [any_false]
        walk_at "go"
        exact ⟨.ref p1, w, ns, M, rfl, dpx e5 h2, ok, hM5, fun H6 e6 => q _ (by walk_at "ext")⟩
def sp_show_saying (K : PySem.W.Frag) : Sp := fun vs H Q _ => ∃ (x : V) (w : Str) (r : Bool) (ns : List Nat) (M : List Addr), vs = [x] ∧ Dp K (vis M H) x (dSay w r ns) ∧ okSay w r ns ∧ Dom M H ∧ ∀ H', Ext H H' → Q (.str (sayLine w ns)) H'
theorem ok_show_saying {P : Program} {w : World} {K : PySem.W.Frag} {mg : Str → Option Value} {base : Heap} (T : Txt K mg) : OkF P w K mg base CX0 1 "show_saying" ["saying"] (sp_show_saying K) := by
  refine okF0 T.f_show_saying sc_show_saying (fun vs H Q E h => ?_) (fun _ _ _ _ _ _ us hl => match us, hl with | [_], _ => rfl) (fun cdv A outer s H vs Q E hr h => ?_)
  · obtain ⟨x, w, r, ns, M, rfl, hd, ok, hM, q⟩ := h
    rfl
  · have hu := hu_of hr
    have kt : KTok K := rfl
    refine ⟨_, (pss_cons (ps_set (i := 1) sc_show_saying.nd rfl (Or.inl rfl) (pe_callTy cn_list (by rfl) T.m_list (by decide +kernel) (pa_cons (pe_slice sl_tupA (pv 0) (po_some pe_int) po_none) pa_nil)))
      (pss_cutH (ps_if (pt_cmpR op_in_seq (pe_ix ix_tup (pv 0) pe_int (fun _ _ => rfl)) (pe_tup (pa_cons pe_str (pa_cons pe_str pa_nil))) (by rfl)) (pss_one (ps_set (i := 1) sc_show_saying.nd rfl (Or.inl rfl) (pe_ix ix_tup (pv 0) pe_int (fun _ _ => rfl)))) pss_nil)
      (pss_one (ps_ret (pn_join pe_str (pe_op op_cat (pe_lst (pa_cons (pe_ix ix_tup (pv 0) pe_int (fun _ _ => rfl)) pa_nil)) (pe_lc (own := [("number", 2)]) (g := (gName 2)) (tt := tYes) (by rfl) sc_show_saying.nd (pi_list (pv 1)) (blkOk_by (own := [("number", 2)]) (N := ["saying", "numbers", "number"]) (sc := defScope s_show_saying) (by decide +kernel)) (fun _ _ _ _ _ => (pg_name (i := 2) sc_show_saying.nd rfl (Or.inl rfl))) (fun _ _ _ _ _ => pts_nil) (fun _ _ _ _ _ => (pe_callTy (T := "str") (r := rStrI) cn_str (by rfl) T.m_str (by decide +kernel) (pa_cons (pv 2) pa_nil)))))))))), ?_⟩
    obtain ⟨x, w, r, ns, M, rfl, hd, ok, hM, q⟩ := h
    try dsimp only [cxOf, Cx.nox, Cx.wish]
    refine start_as (σ := [some _, none, none]) rfl ?_
    obtain ⟨n1, n7, nb⟩ := okSay_le ok
    obtain ⟨ds, hdd, hds⟩ : ∃ ds, Dp K (vis M H) x (.tuple (.str w :: ds)) ∧ ((r = true ∧ w ∈ (["room", "no room"] : List Str) ∧ ds = [.list (dNums ns)]) ∨ (w ∉ (["room", "no room"] : List Str) ∧ ds = dNums ns)) := by
      rcases ok with ⟨rfl, hw, _⟩ | ⟨rfl, ok⟩
      · exact ⟨_, hd, .inl ⟨rfl, hw, rfl⟩⟩
      · refine ⟨_, hd, .inr ⟨?_, rfl⟩⟩
        rcases ok with ⟨h, _⟩ | ⟨h, _⟩ | ⟨h, _⟩ | ⟨h, _⟩ | ⟨h, _⟩
        all_goals exact words_apart _ (by decide +kernel) w h
    walk_at "go"
    refine w_slT hM hdd fun p1 H1 e1 hM1 h1 => ?_
    walk_at "go"
    refine w_listT hM1 h1 fun p2 H2 e2 hM2 _ h2 => ?_
    refine s_cut (fun σ' H' => ∃ p, σ' = [some x, some (.ref p), none] ∧ Ext H H' ∧ Dom M H' ∧ Dp K (vis M H') (.ref p) (.list (dNums ns))) ?_ ?_
    · have hd2 := dpx e2 (dpx e1 hdd)
      walk_at "go"
      rename_i p3 H3 e3 hM3 h3
      refine w_inS ["room", "no room"] (.inr h3) ?_
      walk_at "go"
      refine w_ite (fun c => ?_) (fun c => ?_)
      · rcases hds with ⟨_, _, rfl⟩ | ⟨n, _⟩
        · walk_at "go"
          refine w_ixT (dpx e3 hd2) rfl fun v hv => ?_
          obtain ⟨pv, _, rfl, _, _⟩ := dp_list hv
          exact ⟨pv, rfl, by walk_at "ext", by assumption, hv⟩
        · exact absurd c n
      · rcases hds with ⟨_, n, _⟩ | ⟨_, rfl⟩
        · exact absurd n c
        · walk_at "go"
          refine ⟨p2, rfl, by walk_at "ext", by assumption, dpx e3 ?_⟩
          have h2 := h2.dp
          rw [show (1 : Int) = ((1 : Nat) : Int) from rfl, cutD_from] at h2
          exact h2
    · rintro σ' H' ⟨p, rfl, e, hM', hp⟩
      have hd2 := dpx e hdd
      walk_at "go0"
      refine w_newLst kt hM' (.cons (.str w) .nil) (by exact Nat.le_of_ble_eq_true rfl) fun p4 H4 e4 hM4 h4 => ?_
      walk_at "go"
      refine i_listD (dpx e4 hp) fun a xs ea hL hA => ?_
      refine lm_L (K := K) (M := M) ns (fun (n : Nat) => PyData.int (n : Int)) nz PyData.str (by omega) hM4 hL hA (fun D i n x2 H5 hi e5 dm hD hx Ky k1 => ?_) (fun D H5 e5 hM5 hD h5 => ?_)
      · cases dp_int hx
        walk_at "go"
        refine ⟨rfl, ?_⟩
        walk_at "go"
        exact w_strN (nb n (List.mem_of_getElem? hi)) (k1 _ _ (Ext.refl _) (.str _))
      · refine w_catD hM5 (h4.ext e5) h5 (by simp; omega) fun p6 H6 e6 hM6 h6 => ?_
        refine w_join (w :: ns.map nz) h6.dp ?_ (q _ (by walk_at "ext"))
        obtain ⟨ws, W⟩ := word_of ok
        have := nums_sum nb
        have := W.len
        rw [one_blank, List.map_cons, List.sum_cons, List.length_cons, List.length_map]
        omega
def sp_number_in (K : PySem.W.Frag) : Sp := fun vs H Q _ => ∃ n : Nat, vs = [.str (nz n)] ∧ n < 10 ^ 40 ∧ ∀ H', Ext H H' → Q (.int n) H'
theorem ok_number_in {P : Program} {w : World} {K : PySem.W.Frag} {mg : Str → Option Value} {base : Heap} (T : Txt K mg) : OkF P w K mg base CX0 1 "number_in" ["word"] (sp_number_in K) := by
  refine okF0 T.f_number_in sc_number_in (fun vs H Q E h => ?_) (fun _ _ _ _ _ _ us hl => match us, hl with | [_], _ => rfl) (fun cdv A outer s H vs Q E hr h => ?_)
  · obtain ⟨n, rfl, hn, q⟩ := h
    rfl
  · have hu := hu_of hr
    have kt : KTok K := rfl
    refine ⟨_, (pss_cons (ps_if (PW.pt (pw_or (pt_cmpR op_eq (pv 0) pe_str (nomark _)) (pw_or (pt_cmpR op_gt (pe_callB cn_lenZ (by rfl) T.m_len (by decide +kernel) (pa_cons (pv 0) pa_nil)) pe_int (nomark _)) (pw_or1 (PW.pt (pw_and (pt_cmpR op_eq (pe_ix ix_str (pv 0) pe_int (fun _ _ => rfl)) pe_str (nomark _)) (pw_and1 (pt_cmpR op_ne (pv 0) pe_str (nomark _))))))))) (pss_one ps_never) pss_nil)
      (pss_cons (ps_if (pt_val (pe_callB (cr_any rfl) (by rfl) T.m_any (by decide +kernel) (pa_cons (pe_lc (own := [("sign", 1)]) (g := (gName 1)) (tt := tYes) (by rfl) sc_number_in.nd (pi_str (pv 0)) (blkOk_by (own := [("sign", 1)]) (N := ["word", "sign"]) (sc := defScope s_number_in) (by decide +kernel)) (fun _ _ _ _ _ => (pg_name (i := 1) sc_number_in.nd rfl (Or.inl rfl))) (fun _ _ _ _ _ => pts_nil) (fun _ _ _ _ _ => (pe_cmpR on_niSg (pv 1) (pe_gS rfl T.c_FIGURES) (by rfl)))) pa_nil))) (pss_one ps_never) pss_nil)
      (pss_one (ps_ret (pe_callTy cn_intZ (by rfl) T.m_int (by decide +kernel) (pa_cons (pv 0) pa_nil)))))), ?_⟩
    obtain ⟨n, rfl, hn, q⟩ := h
    try dsimp only [cxOf, Cx.nox, Cx.wish]
    refine start_as (σ := [some _, none]) rfl ?_
    have hM : Dom [] H := Dom.nil
    have hl := nz_le hn
    walk_at "go"
    refine w_no (nz_ne n) ?_
    walk_at "go"
    refine w_lenZ (by omega) ?_
    walk_at "go"
    refine w_no (by omega) ?_
    walk_at "go"
    obtain ⟨c, hc, hz⟩ := nz_first (n := n)
    refine w_ixS (by omega) hc ?_
    walk_at "go"
    refine w_ite (fun c1 => ?_) (fun _ => ?_)
    all_goals (try (walk_at "go"; refine w_noN (hz (one_sign c1)) ?_))
    all_goals
      walk_at "go"
      refine lm_S (K := K) (M := []) (fun c => !decide (c ∈ ("0123456789" : Str).cps.toList)) PyData.bool (by omega) hM (fun D i c H2 hc e dm hD Ky k1 => ?_) (fun D H' e dm hD hd => ?_)
      · walk_at "go"
        refine ⟨rfl, ?_⟩
        walk_at "go"
        exact k1 _ _ (Ext.refl _) (.bl _)
      · walk_at "go"
        refine rAny_ok _ hd.dp ?_
        rw [all_filterMap_false _ _ (fun c hc => by rw [nz_cps] at hc; rw [decide_eq_true (in_figs (numL_mem hc))]; rfl)]
        walk_at "go"
        refine w_intZ (nz_int hn) (by omega) ?_
        exact q _ e
def sp_read_saying (K : PySem.W.Frag) : Sp := fun vs H Q _ => ∃ (w : Str) (r : Bool) (ns : List Nat) (M : List Addr), vs = [.str (sayLine w ns)] ∧ okSay w r ns ∧ Dom M H ∧
  ∀ p H', Ext H H' → Dom M H' → Dp K (vis M H') (.ref p) (dSay w r ns) → (r = true → ∃ l, H l = none ∧ H' p = some (.tup [.str w, .ref l]) ∧ Lst K M H' l (dNums ns)) → Q (.ref p) H'
theorem ok_read_saying {P : Program} {w : World} {K : PySem.W.Frag} {mg : Str → Option Value} {base : Heap} (T : Txt K mg) (O_number_in : OkF P w K mg base CX0 1 "number_in" ["word"] (sp_number_in K)) (O_is_saying : OkF P w K mg base CX0 2 "is_saying" ["saying"] (sp_is_saying K)) : OkF P w K mg base CX0 3 "read_saying" ["text"] (sp_read_saying K) := by
  refine okF0 T.f_read_saying sc_read_saying (fun vs H Q E h => ?_) (fun _ _ _ _ _ _ us hl => match us, hl with | [_], _ => rfl) (fun cdv A outer s H vs Q E hr h => ?_)
  · obtain ⟨w, r, ns, M, rfl, ok, hM, q⟩ := h
    rfl
  · have hu := hu_of hr
    have kt : KTok K := rfl
    refine ⟨_, (pss_cons (ps_set (i := 1) sc_read_saying.nd rfl (Or.inl rfl) (pn_split (pv 0) pe_str))
      (pss_cons (ps_set (i := 2) sc_read_saying.nd rfl (Or.inl rfl) (pe_op op_add pe_int (pe_callTy cn_int (by rfl) T.m_int (by decide +kernel) (pa_cons (pe_cmpR op_in_seq (pe_ix ix_list (pv 1) pe_int (fun _ _ => rfl)) (pe_tup (pa_cons pe_str (pa_cons pe_str pa_nil))) (by rfl)) pa_nil))))
      (pss_cons (ps_set (i := 3) sc_read_saying.nd rfl (Or.inl rfl) (pn_join pe_str (pe_slice sl_list (pv 1) po_none (po_some (pv 2)))))
      (pss_cons (ps_set (i := 4) sc_read_saying.nd rfl (Or.inl rfl) (pe_callTy cn_tuple (by rfl) T.m_tuple (by decide +kernel) (pa_cons (pe_op op_cat (pe_lst (pa_cons (pv 3) pa_nil)) (pe_lc (own := [("one", 5)]) (g := (gName 5)) (tt := tYes) (by rfl) sc_read_saying.nd (pi_list (pe_slice sl_list (pv 1) (po_some (pv 2)) po_none)) (blkOk_by (own := [("one", 5)]) (N := ["text", "words", "many", "word", "saying", "one"]) (sc := defScope s_read_saying) (by decide +kernel)) (fun _ _ _ _ _ => (pg_name (i := 5) sc_read_saying.nd rfl (Or.inl rfl))) (fun _ _ _ _ _ => pts_nil) (fun _ _ _ _ _ => (pe_callF O_number_in (hr.mono (by decide)) (by rfl) pass0 (pa_cons (pv 5) pa_nil))))) pa_nil)))
      (pss_cutH (ps_if (pt_cmpR op_in_seq (pv 3) (pe_tup (pa_cons pe_str (pa_cons pe_str pa_nil))) (by rfl)) (pss_one (ps_set (i := 4) sc_read_saying.nd rfl (Or.inl rfl) (pe_tup (pa_cons (pv 3) (pa_cons (pe_callTy cn_list (by rfl) T.m_list (by decide +kernel) (pa_cons (pe_slice sl_tupA (pv 4) (po_some pe_int) po_none) pa_nil)) pa_nil))))) pss_nil)
      (pss_cons (ps_if (pt_not (pt_val (pe_callF O_is_saying (hr.mono (by decide)) (by rfl) pass0 (pa_cons (pv 4) pa_nil)))) (pss_one ps_never) pss_nil)
      (pss_one (ps_ret (pv 4))))))))), ?_⟩
    obtain ⟨w, r, ns, M, rfl, ok, hM, q⟩ := h
    try dsimp only [cxOf, Cx.nox, Cx.wish]
    refine start_as (σ := [some _, none, none, none, none, none]) rfl ?_
    obtain ⟨n1, n7, nb⟩ := okSay_le ok
    obtain ⟨ws, W⟩ := word_of ok
    have ll := say_len W.len n7 nb
    walk_at "go"
    refine w_split kt hM (by decide +kernel) (by omega) fun p1 H1 e1 hM1 h1 => ?_
    rw [split_say W] at h1
    obtain ⟨w0, wr, hws⟩ : ∃ w0 wr, ws = w0 :: wr := List.exists_cons_of_ne_nil W.ne
    walk_at "go"
    have hm : 1 + (if decide (w0 ∈ (["not", "no"] : List Str)) = true then (1 : Int) else 0) = ((ws.length : Nat) : Int) := by
      rcases W.many with ⟨h, hn⟩ | ⟨a, b, h, ha⟩
      · rw [h] at hws
        injection hws with h1 h2
        rw [← h1, decide_eq_false hn, h]; rfl
      · rw [h] at hws
        injection hws with h1 h2
        rw [← h1, decide_eq_true ha, h]; rfl
    have wl := W.cnt
    have h1' : Dp K (vis M H1) (.ref p1) (.list (PyData.str w0 :: (wr ++ ns.map nz).map PyData.str)) := by rw [hws] at h1; exact h1
    walk_at "go"
    rename_i p2 H2 e2 hM2 l2
    refine w_inS ["not", "no"] (.inr l2) ?_
    walk_at "go"
    rw [hm]
    have h2 := dpx e2 h1
    walk_at "go"
    refine w_slL hM2 h2 fun p3 H3 e3 hM3 h3 => ?_
    rw [cutD_to, ← List.map_take, List.take_left] at h3
    walk_at "go"
    refine w_join ws h3 ?_ ?_
    · have := W.sum; omega
    rw [W.joined]
    walk_at "go0"
    refine w_newLst kt hM3 (.cons (.str w) .nil) (by exact Nat.le_of_ble_eq_true rfl) fun p4 H4 e4 hM4 h4 => ?_
    have h24 := dpx e4 (dpx e3 h2)
    walk_at "go"
    refine w_slL hM4 h24 fun p5 H5 e5 hM5 h5 => ?_
    rw [cutD_from, ← List.map_drop, List.drop_left, List.map_map] at h5
    refine i_listD h5 fun a xs ea hL hA => ?_
    refine lm_L (K := K) (M := M) ns (PyData.str ∘ nz) (fun n => n) (fun (n : Nat) => PyData.int (n : Int)) (by omega) hM5 hL hA (fun D i n x2 H6 hi e6 dm hD hx Ky k1 => ?_) (fun D H6 e6 hM6 hD h6 => ?_)
    · cases dp_str hx
      walk_at "go"
      refine ⟨rfl, ?_⟩
      walk_at "go"
      exact ⟨n, rfl, nb n (List.mem_of_getElem? hi), fun H7 e7 => k1 _ _ e7 (.int _)⟩
    · rw [List.map_id'] at h6
      have h6 : Lst K M H6 D (dNums ns) := h6
      refine w_catD hM6 (h4.ext (by walk_at "ext")) h6 (by rw [dNums_len]; simp; omega) fun p7 H7 e7 hM7 h7 => ?_
      walk_at "go"
      refine w_tupL hM7 h7.dp fun p8 H8 e8 hM8 h8 => ?_
      have h8 : Dp K (vis M H8) (.ref p8) (.tuple (.str w :: dNums ns)) := h8
      walk_at "go"
      refine s_cut (fun σ' H' => ∃ (p : Addr) (u : Option V), σ' = [some (.str (sayLine w ns)), some (.ref p1), some (.int ws.length), some (.str w), some (.ref p), u] ∧ Ext H H' ∧ Dom M H' ∧ Dp K (vis M H') (.ref p) (dSay w r ns) ∧ (r = true → ∃ l, H l = none ∧ H' p = some (.tup [.str w, .ref l]) ∧ Lst K M H' l (dNums ns))) ?_ ?_
      · walk_at "go"
        rename_i p9 H9 e9 hM9 h9
        refine w_inS ["room", "no room"] (.inr h9) ?_
        have e09 : Ext H H9 := by walk_at "ext"
        walk_at "go"
        have h89 := dpx e9 h8
        rcases ok with ⟨rfl, hw, _⟩ | ⟨rfl, ok⟩
        · refine w_yes hw ?_
          walk_at "go"
          refine w_slT hM9 h89 fun p10 H10 e10 hM10 h10 => ?_
          rw [show (1 : Int) = ((1 : Nat) : Int) from rfl, cutD_from] at h10
          have h10 : Dp K (vis M H10) (.ref p10) (.tuple (dNums ns)) := h10
          walk_at "go"
          refine w_listT hM10 h10 fun l H11 e11 hM11 hl0 h11 => ?_
          walk_at "go0"
          refine w_newTR (by exact Nat.le_of_ble_eq_true rfl) fun p12 H12 hp12 e12 hh12 => ?_
          have hl12 := h11.ext e12
          walk_at "go"
          refine ⟨p12, _, rfl, by walk_at "ext", hM11.ext e12, .tup (.inl (.inl (by rw [vis_out (hM11.new hp12)]; exact hh12))) (.cons (.str w) (.cons hl12.dp .nil)), fun _ => ⟨l, fresh_back (e09.trans e10) hl0, hh12, hl12⟩⟩
        · have nw : w ∉ (["room", "no room"] : List Str) := by
            rcases ok with ⟨h, _⟩ | ⟨h, _⟩ | ⟨h, _⟩ | ⟨h, _⟩ | ⟨h, _⟩
            all_goals exact words_apart _ (by decide +kernel) w h
          refine w_no nw ?_
          walk_at "go"
          exact ⟨p8, _, rfl, e09, hM9, h89, fun z => nomatch z⟩
      · rintro σ' H9 ⟨p, u, rfl, e9, hM9, h9, hr9⟩
        walk_at "go"
        refine ⟨.ref p, w, r, ns, M, rfl, h9, ok, hM9, fun H10 e10 => ?_⟩
        walk_at "go"
        refine q p H10 (e9.trans e10) (hM9.ext e10) (dpx e10 h9) fun z => ?_
        obtain ⟨l, h1, h2, h3⟩ := hr9 z
        exact ⟨l, h1, e10 _ _ h2, h3.ext e10⟩
def sp__law_saying (K : PySem.W.Frag) : Sp := fun vs H Q _ => ∃ (pl : Addr) (M : List Addr), vs = [.ref pl] ∧ PileAt H pl ∧ pl ∈ M ∧ Dom M H ∧
  ∀ H' p w r ns, But pl H H' → PileAt H' pl → Dom M H' → okSay w r ns → Dp K (vis M H') (.ref p) (dSay w r ns) → (r = true → ∃ l, H l = none ∧ H' p = some (.tup [.str w, .ref l]) ∧ Lst K M H' l (dNums ns)) → Q (.ref p) H'
theorem nums_of : ∀ {ds : List PyData}, (∀ d ∈ ds, ∃ n : Nat, d = .int n ∧ n < 10 ^ 40) → ∃ ns, ds = dNums ns ∧ ∀ n ∈ ns, n < 10 ^ 40
  | [], _ => ⟨[], rfl, fun _ h => nomatch h⟩
  | d :: r, h => by
    obtain ⟨t, rfl, h1⟩ := h d List.mem_cons_self
    obtain ⟨ts, rfl, h2⟩ := nums_of fun x hx => h x (List.mem_cons_of_mem _ hx)
    refine ⟨t :: ts, rfl, fun x hx => ?_⟩
    rcases List.mem_cons.mp hx with rfl | hx
    · exact h1
    · exact h2 x hx
theorem ok__law_saying {P : Program} {w : World} {K : PySem.W.Frag} {mg : Str → Option Value} {base : Heap} (T : Txt K mg) (O__law_take : OkF P w K mg base CX0 2 "_law_take" ["_law_pile_here", "_law_many"] (sp__law_take K)) (O__law_great : OkF P w K mg base CX0 3 "_law_great" ["_law_pile_here"] (sp__law_great K)) : OkF P w K mg base CX0 4 "_law_saying" ["_law_pile_here"] (sp__law_saying K) := by
  refine okF0 T.f__law_saying sc__law_saying (fun vs H Q E h => ?_) (fun _ _ _ _ _ _ us hl => match us, hl with | [_], _ => rfl) (fun cdv A outer s H vs Q E hr h => ?_)
  · obtain ⟨pl, M, rfl, hP, hm, hM, q⟩ := h
    rfl
  · have hu := hu_of hr
    have kt : KTok K := rfl
    refine ⟨_, (pss_cons (ps_set (i := 1) sc__law_saying.nd rfl (Or.inl rfl) (pe_callF O__law_take (hr.mono (by decide)) (by rfl) pass0 (pa_cons (pv 0) (pa_cons pe_int pa_nil))))
      (pss_cons (ps_set (i := 2) sc__law_saying.nd rfl (Or.inl rfl) (pe_ix ix_list (pe_lst (pa_cons pe_str (pa_cons pe_str (pa_cons pe_str (pa_cons pe_str (pa_cons pe_str (pa_cons pe_str (pa_cons pe_str (pa_cons pe_str pa_nil))))))))) (pe_op op_mod (pv 1) pe_int) (fun _ _ => rfl)))
      (pss_cons (ps_if (pt_cmpR op_lt (pv 1) pe_int (nomark _)) (pss_one (ps_ret (pe_tup (pa_cons (pv 2) (pa_cons (pe_op op_add pe_int (pe_op op_mul pe_int (pe_callF O__law_take (hr.mono (by decide)) (by rfl) pass0 (pa_cons (pv 0) (pa_cons pe_int pa_nil))))) pa_nil))))) pss_nil)
      (pss_cons (ps_if (pt_cmpR op_lt (pv 1) pe_int (nomark _)) (pss_one (ps_ret (pe_tup (pa_cons (pv 2) (pa_cons (pe_op op_add pe_int (pe_callF O__law_take (hr.mono (by decide)) (by rfl) pass0 (pa_cons (pv 0) (pa_cons (pe_ix ix_list (pe_lst (pa_cons pe_int (pa_cons pe_int pa_nil))) (pe_callTy cn_int (by rfl) T.m_int (by decide +kernel) (pa_cons (pe_cmpR op_gt (pv 1) pe_int (nomark _)) pa_nil)) (fun _ _ => rfl)) pa_nil)))) pa_nil))))) pss_nil)
      (pss_cons (ps_if (pt_cmpR op_lt (pv 1) pe_int (nomark _)) (pss_cons (ps_par (i := 3) (j := 4) (by rfl) sc__law_saying.nd rfl rfl (by decide) rfl rfl (pa_cons (pe_callF O__law_great (hr.mono (by decide)) (by rfl) pass0 (pa_cons (pv 0) pa_nil)) (pa_cons (pe_callF O__law_great (hr.mono (by decide)) (by rfl) pass0 (pa_cons (pv 0) pa_nil)) pa_nil)) (by rfl))
      (pss_one (ps_ret (pe_tup (pa_cons (pe_ix ix_list (pe_lst (pa_cons pe_str (pa_cons pe_str pa_nil))) (pe_op op_sub (pv 1) pe_int) (fun _ _ => rfl)) (pa_cons (pv 3) (pa_cons (pe_op op_add (pv 4) (pe_callTy cn_int (by rfl) T.m_int (by decide +kernel) (pa_cons (pe_cmpR op_eq (pv 3) (pv 4) (nomark _)) pa_nil))) (pa_cons (pe_op op_add pe_int (pe_callF O__law_take (hr.mono (by decide)) (by rfl) pass0 (pa_cons (pv 0) (pa_cons pe_int pa_nil)))) pa_nil)))))))) pss_nil)
      (pss_cons (ps_if (pt_cmpR op_lt (pv 1) pe_int (nomark _)) (pss_one (ps_ret (pe_tup (pa_cons (pe_ix ix_list (pe_lst (pa_cons pe_str (pa_cons pe_str pa_nil))) (pe_op op_sub (pv 1) pe_int) (fun _ _ => rfl)) (pa_cons (pe_lc (own := [("_law_k", 5)]) (g := (gName 5)) (tt := tYes) (by rfl) sc__law_saying.nd (pi_range1 (by rfl) T.m_range (pa_cons (pe_op op_add pe_int (pe_callF O__law_take (hr.mono (by decide)) (by rfl) pass0 (pa_cons (pv 0) (pa_cons pe_int pa_nil)))) pa_nil)) (blkOk_by (own := [("_law_k", 5)]) (N := ["_law_pile_here", "_law_way", "_law_word", "_law_a", "_law_b", "_law_k"]) (sc := defScope s__law_saying) (by decide +kernel)) (fun _ _ _ _ _ => (pg_name (i := 5) sc__law_saying.nd rfl (Or.inl rfl))) (fun _ _ _ _ _ => pts_nil) (fun _ _ _ _ _ => (pe_callF O__law_great (hr.mono (by decide)) (by rfl) pass0 (pa_cons (pv 0) pa_nil)))) pa_nil))))) pss_nil)
      (pss_one (ps_ret (pe_tup (pa_cons (pe_ix ix_list (pe_lst (pa_cons pe_str (pa_cons pe_str pa_nil))) (pe_op op_sub (pv 1) pe_int) (fun _ _ => rfl)) (pa_cons (pe_op op_add pe_int (pe_callF O__law_take (hr.mono (by decide)) (by rfl) pass0 (pa_cons (pv 0) (pa_cons pe_int pa_nil)))) (pa_cons (pe_callF O__law_take (hr.mono (by decide)) (by rfl) pass0 (pa_cons (pv 0) (pa_cons pe_int pa_nil))) pa_nil)))))))))))), ?_⟩
    obtain ⟨pl, M, rfl, hP, hm, hM, q⟩ := h
    try dsimp only [cxOf, Cx.nox, Cx.wish]
    refine start_as (σ := [some _, none, none, none, none, none]) rfl ?_
    walk_at "go"
    refine ⟨pl, 14, rfl, by omega, by omega, hP, fun H1 r1 e1 hP1 r10 r11 => ?_⟩
    have hM1 := hM.but e1 hP1.some
    walk_at "go"
    rename_i p2 H2 e2 hM2 l2
    have hP2 := hP1.ext e2
    have eH2 : But pl H H2 := e1.trans e2.but
    have hc : (r1 = 0 ∨ r1 = 1) ∨ (r1 = 2 ∨ r1 = 3 ∨ r1 = 4 ∨ r1 = 5 ∨ r1 = 6 ∨ r1 = 7) ∨ (r1 = 8 ∨ r1 = 9) ∨ (r1 = 10 ∨ r1 = 11) ∨ (r1 = 12 ∨ r1 = 13) := by omega
    rcases hc with hc | hc | hc | hc | hc
    · rcases hc with rfl | rfl
      all_goals
        walk_at "gy"
        refine ⟨pl, 20, rfl, by omega, by omega, hP2, fun H3 r3 e3 hP3 _ _ => ?_⟩
        have hM3 := hM2.but e3 hP3.some
        obtain ⟨k, hk⟩ : ∃ k : Nat, 2 + 2 * r3 = k := ⟨(2 + 2 * r3).toNat, by omega⟩
        walk_at "go0"
        rw [hk]
        walk_at "go"
        rename_i p4 H4 e4 hM4 h4
        refine q H4 p4 _ false [k] (eH2.trans (e3.trans e4.but)) (hP3.ext e4) hM4 (.inr ⟨rfl, .inl ⟨?_, k, rfl, by omega, by omega, by omega⟩⟩) h4 (fun z => nomatch z)
        decide +kernel
    · rcases hc with rfl | rfl | rfl | rfl | rfl | rfl
      all_goals
        walk_at "gy"
        rename_i p3 H3 e3 hM3 h3
        have hP3 := hP2.ext e3
        refine ⟨pl, _, rfl, by omega, by omega, hP3, fun H4 r4 e4 hP4 _ _ => ?_⟩
        have hM4 := hM3.but e4 hP4.some
        obtain ⟨k, hk⟩ : ∃ k : Nat, 1 + r4 = k := ⟨(1 + r4).toNat, by omega⟩
        walk_at "go0"
        rw [hk]
        walk_at "go"
        rename_i p5 H5 e5 hM5 h5
        refine q H5 p5 _ false [k] (eH2.trans (e3.but.trans (e4.trans e5.but))) (hP4.ext e5) hM5 (.inr ⟨rfl, .inr ?_⟩) h5 (fun z => nomatch z)
        first
        | exact .inl ⟨by decide +kernel, k, rfl, by omega, by omega⟩
        | exact .inr (.inl ⟨by decide +kernel, k, rfl, by omega, by omega⟩)
    · rcases hc with rfl | rfl
      all_goals
        walk_at "gy"
        refine ⟨pl, rfl, hP2, fun H3 a e3 hP3 ha => ?_⟩
        walk_at "gy"
        refine ⟨pl, rfl, hP3, fun H4 b e4 hP4 hb => ?_⟩
        have hM4 := (hM2.but e3 hP3.some).but e4 hP4.some
        walk_at "gy"
        rename_i p5 H5 e5 hM5 h5
        have hP5 := hP4.ext e5
        refine ⟨pl, 40, rfl, by omega, by omega, hP5, fun H6 r6 e6 hP6 _ _ => ?_⟩
        have hM6 := hM5.but e6 hP6.some
        obtain ⟨k, hk⟩ : ∃ k : Nat, 1 + r6 = k := ⟨(1 + r6).toNat, by omega⟩
        obtain ⟨c, hc, hac, hcb⟩ : ∃ c : Nat, (b : Int) + (if decide ((a : Int) = b) = true then (1 : Int) else 0) = c ∧ a ≠ c ∧ c < 10 ^ 40 := by
          by_cases ab : (a : Int) = b
          · exact ⟨b + 1, by rw [decide_eq_true ab]; rfl, by omega, by omega⟩
          · exact ⟨b, by rw [decide_eq_false ab]; show (b : Int) + 0 = b; omega, by omega, by omega⟩
        walk_at "go0"
        rw [hk, hc]
        walk_at "go"
        rename_i p7 H7 e7 hM7 h7
        refine q H7 p7 _ false [a, c, k] (eH2.trans (e3.trans (e4.trans (e5.but.trans (e6.trans e7.but))))) (hP6.ext e7) hM7 (.inr ⟨rfl, .inr (.inr (.inr (.inr ⟨?_, a, c, k, rfl, hac, by omega, by omega, by omega, hcb⟩)))⟩) h7 (fun z => nomatch z)
        decide +kernel
    · rcases hc with rfl | rfl
      all_goals
        walk_at "gy"
        rename_i p3 H3 e3 hM3 h3
        have hP3 := hP2.ext e3
        refine ⟨pl, 6, rfl, by omega, by omega, hP3, fun H4 r4 e4 hP4 _ _ => ?_⟩
        have hM4 := hM3.but e4 hP4.some
        walk_at "go0"
        refine i_rng1D (by omega) (by omega) ?_
        have eH4 := eH2.trans (e3.but.trans e4)
        refine lx_R (K := K) (M := M) pl (fun d => ∃ n : Nat, d = .int n ∧ n < 10 ^ 40) (by omega) hM4 hm hP4 (fun D i H5 hi e5 hM5 hD hP5 Ky k1 => ?_) (fun D H5 ds hl hok e5 hM5 hP5 hD h5 => ?_)
        · walk_at "go"
          refine ⟨rfl, ?_⟩
          walk_at "go"
          exact ⟨pl, rfl, hP5, fun H6 n e6 hP6 hn => k1 _ _ _ ⟨n, rfl, by omega⟩ e6 hP6 (.int _)⟩
        · obtain ⟨ns, rfl, hns⟩ := nums_of hok
          rw [dNums_len] at hl
          walk_at "go0"
          refine w_newTR (by exact Nat.le_of_ble_eq_true rfl) fun p6 H6 hp6 e6 h6 => ?_
          have h56 := h5.ext e6
          refine q H6 p6 _ true ns (eH4.trans (e5.trans e6.but)) (hP5.ext e6) (hM5.ext e6) (.inl ⟨rfl, ?_, by omega, by omega, hns⟩) (.tup (.inl (.inl (by rw [vis_out (hM5.new hp6)]; exact h6))) (.cons (.str _) (.cons h56.dp .nil))) (fun _ => ⟨D, fresh_but eH4 hP4.some hD, h6, h56⟩)
          decide +kernel
    · rcases hc with rfl | rfl
      all_goals
        walk_at "gy"
        rename_i p3 H3 e3 hM3 h3
        have hP3 := hP2.ext e3
        refine ⟨pl, 7, rfl, by omega, by omega, hP3, fun H4 r4 e4 hP4 _ _ => ?_⟩
        obtain ⟨r, hr⟩ : ∃ k : Nat, 2 + r4 = k := ⟨(2 + r4).toNat, by omega⟩
        walk_at "go0"
        rw [hr]
        refine ⟨pl, 41, rfl, by omega, by omega, hP4, fun H5 r5 e5 hP5 _ _ => ?_⟩
        have hM5 := (hM3.but e4 hP4.some).but e5 hP5.some
        obtain ⟨k, hk⟩ : ∃ k : Nat, r5 = k := ⟨r5.toNat, by omega⟩
        walk_at "go0"
        rw [hk]
        walk_at "go"
        rename_i p7 H7 e7 hM7 h7
        refine q H7 p7 _ false [r, k] (eH2.trans (e3.but.trans (e4.trans (e5.trans e7.but)))) (hP5.ext e7) hM7 (.inr ⟨rfl, .inr (.inr (.inr (.inl ⟨?_, r, k, rfl, by omega, by omega, by omega⟩)))⟩) h7 (fun z => nomatch z)
        decide +kernel
def sp__law_saying_text (K : PySem.W.Frag) : Sp := fun vs H Q _ => ∃ (x : V) (w : Str) (r : Bool) (ns : List Nat) (M : List Addr), vs = [x] ∧ Dp K (vis M H) x (dSay w r ns) ∧ okSay w r ns ∧ Dom M H ∧ ∀ H', Ext H H' → Q (.str (sayLine w ns)) H'
theorem ok__law_saying_text {P : Program} {w : World} {K : PySem.W.Frag} {mg : Str → Option Value} {base : Heap} (T : Txt K mg) : OkF P w K mg base CX0 1 "_law_saying_text" ["_law_saying_here"] (sp__law_saying_text K) := by
  refine okF0 T.f__law_saying_text sc__law_saying_text (fun vs H Q E h => ?_) (fun _ _ _ _ _ _ us hl => match us, hl with | [_], _ => rfl) (fun cdv A outer s H vs Q E hr h => ?_)
  · obtain ⟨x, w, r, ns, M, rfl, hd, ok, hM, q⟩ := h
    rfl
  · have hu := hu_of hr
    have kt : KTok K := rfl
    refine ⟨_, (pss_cons (ps_set (i := 1) sc__law_saying_text.nd rfl (Or.inl rfl) (pe_callTy cn_list (by rfl) T.m_list (by decide +kernel) (pa_cons (pe_slice sl_tupA (pv 0) (po_some pe_int) po_none) pa_nil)))
      (pss_cutH (ps_if (pt_val (pe_callB call_isi (by rfl) T.m_isinstance (by decide +kernel) (pa_cons (pe_ix ix_tup (pv 0) pe_int (fun _ _ => rfl)) (pa_cons (pe_bltn (v := .ty "list") (by rfl) T.m_list (by decide +kernel) rfl) pa_nil)))) (pss_one (ps_set (i := 1) sc__law_saying_text.nd rfl (Or.inl rfl) (pe_ix ix_tup (pv 0) pe_int (fun _ _ => rfl)))) pss_nil)
      (pss_one (ps_ret (pe_op on_addZ (pe_ix ix_tup (pv 0) pe_int (fun _ _ => rfl)) (pn_join pe_str (pe_lc (own := [("_law_number", 2)]) (g := (gName 2)) (tt := tYes) (by rfl) sc__law_saying_text.nd (pi_list (pv 1)) (blkOk_by (own := [("_law_number", 2)]) (N := ["_law_saying_here", "_law_numbers", "_law_number"]) (sc := defScope s__law_saying_text) (by decide +kernel)) (fun _ _ _ _ _ => (pg_name (i := 2) sc__law_saying_text.nd rfl (Or.inl rfl))) (fun _ _ _ _ _ => pts_nil) (fun _ _ _ _ _ => (pe_op on_addZ pe_str (pe_callTy (T := "str") (r := rStrI) cn_str (by rfl) T.m_str (by decide +kernel) (pa_cons (pv 2) pa_nil))))))))))), ?_⟩
    obtain ⟨x, w, r, ns, M, rfl, hd, ok, hM, q⟩ := h
    try dsimp only [cxOf, Cx.nox, Cx.wish]
    refine start_as (σ := [some _, none, none]) rfl ?_
    obtain ⟨n1, n7, nb⟩ := okSay_le ok
    obtain ⟨ds, hdd, hds⟩ : ∃ ds, Dp K (vis M H) x (.tuple (.str w :: ds)) ∧ ((r = true ∧ ds = [.list (dNums ns)]) ∨ (r = false ∧ ds = dNums ns)) := by
      rcases ok with ⟨rfl, hw, _⟩ | ⟨rfl, ok⟩
      · exact ⟨_, hd, .inl ⟨rfl, rfl⟩⟩
      · exact ⟨_, hd, .inr ⟨rfl, rfl⟩⟩
    obtain ⟨ws, W⟩ := word_of ok
    walk_at "go"
    refine w_slT hM hdd fun p1 H1 e1 hM1 h1 => ?_
    walk_at "go"
    refine w_listT hM1 h1 fun p2 H2 e2 hM2 _ h2 => ?_
    refine s_cut (fun σ' H' => ∃ p, σ' = [some x, some (.ref p), none] ∧ Ext H H' ∧ Dom M H' ∧ Dp K (vis M H') (.ref p) (.list (dNums ns))) ?_ ?_
    · have hd2 := dpx e2 (dpx e1 hdd)
      walk_at "go"
      rcases hds with ⟨_, rfl⟩ | ⟨_, rfl⟩
      · refine w_ixT hd2 rfl fun v hv => ?_
        walk_at "go"
        refine w_isiLL hv ?_
        walk_at "go"
        refine w_ixT hd2 rfl fun v2 hv2 => ?_
        obtain ⟨pv, _, rfl, _, _⟩ := dp_list hv2
        exact ⟨pv, rfl, by walk_at "ext", hM2, hv2⟩
      · obtain ⟨n, rest, hns⟩ : ∃ n rest, ns = n :: rest := List.exists_cons_of_ne_nil (by rintro rfl; simp at n1)
        subst hns
        walk_at "go"
        refine w_isi false (.base (.int _)) (by rfl) ?_
        walk_at "go"
        refine ⟨p2, rfl, by walk_at "ext", hM2, ?_⟩
        have h2 := h2.dp
        rw [show (1 : Int) = ((1 : Nat) : Int) from rfl, cutD_from] at h2
        exact h2
    · rintro σ' H' ⟨p, rfl, e, hM', hp⟩
      have hd2 := dpx e hdd
      walk_at "go"
      refine i_listD hp fun a xs ea hL hA => ?_
      refine lm_L (K := K) (M := M) ns (fun (n : Nat) => PyData.int (n : Int)) (fun n => " " ++ nz n) PyData.str (by omega) hM' hL hA (fun D i n x2 H5 hi e5 dm hD hx Ky k1 => ?_) (fun D H5 e5 hM5 hD h5 => ?_)
      · cases dp_int hx
        have ln := nz_le (nb n (List.mem_of_getElem? hi))
        walk_at "go"
        refine ⟨rfl, ?_⟩
        walk_at "go"
        refine w_strN (nb n (List.mem_of_getElem? hi)) ?_
        refine w_addZ (by rw [one_blank]; omega) (k1 _ _ (Ext.refl _) (.str _))
      · walk_at "go"
        have hs := blank_sum nb
        have hj := join_len "" (ns.map fun n => " " ++ nz n)
        have z0 : ("" : Str).length = 0 := rfl
        rw [z0, List.length_map] at hj
        refine w_join _ h5.dp (by rw [z0, List.length_map]; omega) ?_
        have := W.len
        refine w_addZ (by omega) ?_
        rw [say_eq]
        exact q _ (by walk_at "ext")
def edges : List (Str × Bool × List Nat) := [("holds", false, [2]), ("holds", false, [40]), ("parts", false, [2]), ("parts", false, [40]), ("strong", false, [1]), ("strong", false, [20]),
  ("not strong", false, [1]), ("not strong", false, [20]), ("trees", false, [1]), ("trees", false, [40]), ("no trees", false, [1]),
  ("no trees", false, [40]), ("woods", false, [1]), ("woods", false, [40]), ("no woods", false, [1]), ("no woods", false, [40]),
  ("apart", false, [0, 1, 1]), ("apart", false, [6, 0, 40]), ("barred", false, [5, 2, 40]), ("firmer", false, [2, 0]),
  ("firmer", false, [8, 40]), ("not firmer", false, [2, 40]), ("not firmer", false, [8, 0]), ("room", true, [0, 0]), ("no room", true, List.replicate 7 (10 ^ 40 - 1))]
def encE (e : Str × Bool × List Nat) : PyData := dSay e.1 e.2.1 e.2.2
theorem edges_ok : ∀ e ∈ edges, okSay e.1 e.2.1 e.2.2 := by
  intro e he
  simp only [edges, List.mem_cons, List.not_mem_nil, or_false] at he
  rcases he with rfl | rfl | rfl | rfl | rfl | rfl | rfl | rfl | rfl | rfl | rfl | rfl | rfl | rfl | rfl | rfl | rfl | rfl | rfl | rfl | rfl | rfl | rfl | rfl | rfl
  all_goals
    first
    | exact .inr ⟨rfl, .inl ⟨by decide +kernel, _, rfl, by decide, by decide, by decide⟩⟩
    | exact .inr ⟨rfl, .inr (.inl ⟨by decide +kernel, _, rfl, by decide, by decide⟩)⟩
    | exact .inr ⟨rfl, .inr (.inr (.inl ⟨by decide +kernel, _, rfl, by decide, by decide⟩))⟩
    | exact .inr ⟨rfl, .inr (.inr (.inr (.inl ⟨by decide +kernel, _, _, rfl, by decide, by decide, by decide⟩)))⟩
    | exact .inr ⟨rfl, .inr (.inr (.inr (.inr ⟨by decide +kernel, _, _, _, rfl, by decide, by decide, by decide, by decide, by decide⟩)))⟩
    | exact .inl ⟨rfl, by decide +kernel, by decide, by decide, by decide +kernel⟩
def sp__law_edges (K : PySem.W.Frag) : Sp := fun vs H Q _ => ∃ (M : List Addr), vs = [] ∧ Dom M H ∧ ∀ p H', Ext H H' → Dom M H' → Dp K (vis M H') (.ref p) (.list (edges.map encE)) → Q (.ref p) H'
theorem ok__law_edges {P : Program} {w : World} {K : PySem.W.Frag} {mg : Str → Option Value} {base : Heap} (T : Txt K mg) : OkF P w K mg base CX0 1 "_law_edges" [] (sp__law_edges K) := by
  refine okF0 T.f__law_edges sc__law_edges (fun vs H Q E h => ?_) (fun _ _ _ _ _ _ us hl => match us, hl with | [], _ => rfl) (fun cdv A outer s H vs Q E hr h => ?_)
  · obtain ⟨M, rfl, hM, q⟩ := h
    rfl
  · have hu := hu_of hr
    have kt : KTok K := rfl
    refine ⟨_, (pss_cons (ps_set (i := 0) sc__law_edges.nd rfl (Or.inl rfl) (pe_lst (pa_cons (pe_tup (pa_cons pe_str (pa_cons pe_int pa_nil))) (pa_cons (pe_tup (pa_cons pe_str (pa_cons pe_int pa_nil))) (pa_cons (pe_tup (pa_cons pe_str (pa_cons pe_int pa_nil))) (pa_cons (pe_tup (pa_cons pe_str (pa_cons pe_int pa_nil))) (pa_cons (pe_tup (pa_cons pe_str (pa_cons pe_int pa_nil))) (pa_cons (pe_tup (pa_cons pe_str (pa_cons pe_int pa_nil))) pa_nil))))))))
      (pss_cons (ps_set (i := 0) sc__law_edges.nd rfl (Or.inl rfl) (pe_op op_cat (pv 0) (pe_lst (pa_cons (pe_tup (pa_cons pe_str (pa_cons pe_int pa_nil))) (pa_cons (pe_tup (pa_cons pe_str (pa_cons pe_int pa_nil))) (pa_cons (pe_tup (pa_cons pe_str (pa_cons pe_int pa_nil))) (pa_cons (pe_tup (pa_cons pe_str (pa_cons pe_int pa_nil))) (pa_cons (pe_tup (pa_cons pe_str (pa_cons pe_int pa_nil))) pa_nil))))))))
      (pss_cons (ps_set (i := 0) sc__law_edges.nd rfl (Or.inl rfl) (pe_op op_cat (pv 0) (pe_lst (pa_cons (pe_tup (pa_cons pe_str (pa_cons pe_int pa_nil))) (pa_cons (pe_tup (pa_cons pe_str (pa_cons pe_int pa_nil))) (pa_cons (pe_tup (pa_cons pe_str (pa_cons pe_int pa_nil))) (pa_cons (pe_tup (pa_cons pe_str (pa_cons pe_int pa_nil))) (pa_cons (pe_tup (pa_cons pe_str (pa_cons pe_int pa_nil))) pa_nil))))))))
      (pss_cons (ps_set (i := 0) sc__law_edges.nd rfl (Or.inl rfl) (pe_op op_cat (pv 0) (pe_lst (pa_cons (pe_tup (pa_cons pe_str (pa_cons pe_int (pa_cons pe_int (pa_cons pe_int pa_nil))))) (pa_cons (pe_tup (pa_cons pe_str (pa_cons pe_int (pa_cons pe_int (pa_cons pe_int pa_nil))))) (pa_cons (pe_tup (pa_cons pe_str (pa_cons pe_int (pa_cons pe_int (pa_cons pe_int pa_nil))))) (pa_cons (pe_tup (pa_cons pe_str (pa_cons pe_int (pa_cons pe_int pa_nil)))) pa_nil)))))))
      (pss_cons (ps_set (i := 0) sc__law_edges.nd rfl (Or.inl rfl) (pe_op op_cat (pv 0) (pe_lst (pa_cons (pe_tup (pa_cons pe_str (pa_cons pe_int (pa_cons pe_int pa_nil)))) (pa_cons (pe_tup (pa_cons pe_str (pa_cons pe_int (pa_cons pe_int pa_nil)))) (pa_cons (pe_tup (pa_cons pe_str (pa_cons pe_int (pa_cons pe_int pa_nil)))) pa_nil))))))
      (pss_one (ps_ret (pe_op op_cat (pv 0) (pe_lst (pa_cons (pe_tup (pa_cons pe_str (pa_cons (pe_lst (pa_cons pe_int (pa_cons pe_int pa_nil))) pa_nil))) (pa_cons (pe_tup (pa_cons pe_str (pa_cons (pe_op op_rep (pe_lst (pa_cons (pe_op op_sub (pe_op op_pow pe_int pe_int) pe_int) pa_nil)) pe_int) pa_nil))) pa_nil))))))))))), ?_⟩
    obtain ⟨M, rfl, hM, q⟩ := h
    try dsimp only [cxOf, Cx.nox, Cx.wish]
    refine start_as (σ := [none]) rfl ?_
    walk_at "gl"
    refine w_repD (k := 7) (by assumption) (by walk_at "lst") (by decide) (by decide) ?_
    intro p H' e hM hl
    walk_at "gl"
    refine q _ _ (by walk_at "ext") (by assumption) ?_
    have e40 : ((10 : Int) ^ Int.toNat 40 - 1) = ((10 ^ 40 - 1 : Nat) : Int) := by decide +kernel
    refine Lst.dp ?_
    rw [e40] at *
    assumption
def sp__law_whole (K : PySem.W.Frag) : Sp := fun vs H Q _ => ∃ i : Int, vs = [.int i] ∧ Q (.bl true) H
theorem ok__law_whole {P : Program} {w : World} {K : PySem.W.Frag} {mg : Str → Option Value} {base : Heap} (T : Txt K mg) : OkF P w K mg base CX0 1 "_law_whole" ["_law_number"] (sp__law_whole K) := by
  refine okF0 T.f__law_whole sc__law_whole (fun vs H Q E h => ?_) (fun _ _ _ _ _ _ us hl => match us, hl with | [_], _ => rfl) (fun cdv A outer s H vs Q E hr h => ?_)
  · obtain ⟨i, rfl, q⟩ := h
    rfl
  · have hu := hu_of hr
    have kt : KTok K := rfl
    refine ⟨_, (pss_one (ps_ret (pe_and (pe_callB call_isi (by rfl) T.m_isinstance (by decide +kernel) (pa_cons (pv 0) (pa_cons (pe_bltn (v := .ty "int") (by rfl) T.m_int (by decide +kernel) rfl) pa_nil))) (pe_one (pe_not (pe_callB call_isi (by rfl) T.m_isinstance (by decide +kernel) (pa_cons (pv 0) (pa_cons (pe_bltn (v := .ty "bool") (by rfl) T.m_bool (by decide +kernel) rfl) pa_nil)))))))), ?_⟩
    obtain ⟨i, rfl, q⟩ := h
    try dsimp only [cxOf, Cx.nox, Cx.wish]
    refine start_as (σ := [some _]) rfl ?_
    walk_at "go"
    exact q
def sp__law_kept (K : PySem.W.Frag) : Sp := fun vs H Q _ => ∃ (x : V) (w : Str) (r : Bool) (ns : List Nat) (M : List Addr), vs = [x] ∧ Dp K (vis M H) x (dSay w r ns) ∧ okSay w r ns ∧ Dom M H ∧ ∀ H', Ext H H' → Q (.bl true) H'
theorem room12 : ("room 1 2" : Str) = sayLine "room" [1, 2] := by decide +kernel
theorem ok12 : okSay "room" true [1, 2] := .inl ⟨rfl, by decide +kernel, by decide, by decide, by decide⟩
theorem ok__law_kept {P : Program} {w : World} {K : PySem.W.Frag} {mg : Str → Option Value} {base : Heap} (T : Txt K mg) (O__law_saying_text : OkF P w K mg base CX0 1 "_law_saying_text" ["_law_saying_here"] (sp__law_saying_text K)) (O_read_saying : OkF P w K mg base CX0 3 "read_saying" ["text"] (sp_read_saying K)) (O_show_saying : OkF P w K mg base CX0 1 "show_saying" ["saying"] (sp_show_saying K)) (O__law_whole : OkF P w K mg base CX0 1 "_law_whole" ["_law_number"] (sp__law_whole K)) : OkF P w K mg base CX0 4 "_law_kept" ["_law_saying_here"] (sp__law_kept K) := by
  refine okF0 T.f__law_kept sc__law_kept (fun vs H Q E h => ?_) (fun _ _ _ _ _ _ us hl => match us, hl with | [_], _ => rfl) (fun cdv A outer s H vs Q E hr h => ?_)
  · obtain ⟨x, w, r, ns, M, rfl, hd, ok, hM, q⟩ := h
    rfl
  · have hu := hu_of hr
    have kt : KTok K := rfl
    refine ⟨_, (pss_cons (ps_set (i := 1) sc__law_kept.nd rfl (Or.inl rfl) (pe_callF O__law_saying_text (hr.mono (by decide)) (by rfl) pass0 (pa_cons (pv 0) pa_nil)))
      (pss_cons (ps_set (i := 2) sc__law_kept.nd rfl (Or.inl rfl) (pe_callTy cn_list (by rfl) T.m_list (by decide +kernel) (pa_cons (pe_slice sl_tupA (pv 0) (po_some pe_int) po_none) pa_nil)))
      (pss_cutH (ps_if (pt_val (pe_callB call_isi (by rfl) T.m_isinstance (by decide +kernel) (pa_cons (pe_ix ix_tup (pv 0) pe_int (fun _ _ => rfl)) (pa_cons (pe_bltn (v := .ty "list") (by rfl) T.m_list (by decide +kernel) rfl) pa_nil)))) (pss_one (ps_set (i := 2) sc__law_kept.nd rfl (Or.inl rfl) (pe_callTy cn_list (by rfl) T.m_list (by decide +kernel) (pa_cons (pe_ix ix_tup (pv 0) pe_int (fun _ _ => rfl)) pa_nil)))) pss_nil)
      (pss_cons (ps_for PassesOwn.never rfl (pi_range1 (by rfl) T.m_range (pa_cons pe_int pa_nil)) (pg_name (i := 3) sc__law_kept.nd rfl (Or.inl rfl))
        (pss_cons (ps_set (i := 4) sc__law_kept.nd rfl (Or.inl rfl) (pe_callF O_read_saying (hr.mono (by decide)) (by rfl) pass0 (pa_cons (pv 1) pa_nil)))
      (pss_cons (ps_if (PW.pt (pw_or (pt_cmpR op_ne (pe_callF O_show_saying (hr.mono (by decide)) (by rfl) pass0 (pa_cons (pv 0) pa_nil)) (pv 1) (nomark _)) (pw_or1 (pt_cmpR op_ne (pe_callF O__law_saying_text (hr.mono (by decide)) (by rfl) pass0 (pa_cons (pv 0) pa_nil)) (pv 1) (nomark _))))) (pss_one (ps_ret pe_bl)) pss_nil)
      (pss_cons (ps_if (PW.pt (pw_or (pt_not (pt_val (pe_callB call_isi (by rfl) T.m_isinstance (by decide +kernel) (pa_cons (pv 4) (pa_cons (pe_bltn (v := .ty "tuple") (by rfl) T.m_tuple (by decide +kernel) rfl) pa_nil))))) (pw_or (pt_cmpR (op_neD hr.units) (pv 4) (pv 0) (nomark _)) (pw_or1 (pt_not (pt_val (pe_callB call_isi (by rfl) T.m_isinstance (by decide +kernel) (pa_cons (pe_ix ix_tup (pv 4) pe_int (fun _ _ => rfl)) (pa_cons (pe_bltn (v := .ty "str") (by rfl) T.m_str (by decide +kernel) rfl) pa_nil))))))))) (pss_one (ps_ret pe_bl)) pss_nil)
      (pss_cons (ps_set (i := 5) sc__law_kept.nd rfl (Or.inl rfl) (pe_lst (pa_cons (pe_callF O_read_saying (hr.mono (by decide)) (by rfl) pass0 (pa_cons (pv 1) pa_nil)) (pa_cons (pe_callF O_read_saying (hr.mono (by decide)) (by rfl) pass0 (pa_cons pe_str pa_nil)) pa_nil))))
      (pss_cons (ps_expr (pe_bm0 PySem.F.plainAttrs_list PySem.F.slot_list_clear PySem.F.type_list_clear mt_clear (pe_ix ix_tup (pe_ix ix_list (pv 5) pe_int (fun _ _ => rfl)) pe_int (fun _ _ => rfl))))
      (pss_cutH (ps_if (pt_val (pe_callB call_isi (by rfl) T.m_isinstance (by decide +kernel) (pa_cons (pe_ix ix_tup (pe_ix ix_list (pv 5) pe_int (fun _ _ => rfl)) pe_int (fun _ _ => rfl)) (pa_cons (pe_bltn (v := .ty "list") (by rfl) T.m_list (by decide +kernel) rfl) pa_nil)))) (pss_one (ps_expr (pe_bm0 PySem.F.plainAttrs_list PySem.F.slot_list_clear PySem.F.type_list_clear mt_clear (pe_ix ix_tup (pe_ix ix_list (pv 5) pe_int (fun _ _ => rfl)) pe_int (fun _ _ => rfl))))) pss_nil)
      (pss_cons (ps_if (pt_cmpR (op_neD hr.units) (pv 4) (pv 0) (nomark _)) (pss_one (ps_ret pe_bl)) pss_nil)
      (pss_cons (ps_set (i := 6) sc__law_kept.nd rfl (Or.inl rfl) (pe_callTy cn_list (by rfl) T.m_list (by decide +kernel) (pa_cons (pe_slice sl_tupA (pv 4) (po_some pe_int) po_none) pa_nil)))
      (pss_cutH (ps_if (pt_val (pe_callB call_isi (by rfl) T.m_isinstance (by decide +kernel) (pa_cons (pe_ix ix_tup (pv 0) pe_int (fun _ _ => rfl)) (pa_cons (pe_bltn (v := .ty "list") (by rfl) T.m_list (by decide +kernel) rfl) pa_nil)))) (pss_cons (ps_set (i := 6) sc__law_kept.nd rfl (Or.inl rfl) (pe_callTy cn_list (by rfl) T.m_list (by decide +kernel) (pa_cons (pe_ix ix_tup (pv 4) pe_int (fun _ _ => rfl)) pa_nil)))
      (pss_one (ps_expr (pe_bm PySem.F.plainAttrs_list PySem.F.slot_list_append PySem.F.type_list_append mt_append (pe_ix ix_tup (pv 4) pe_int (fun _ _ => rfl)) (pa_cons pe_int pa_nil))))) pss_nil)
      (pss_one (ps_if (PW.pt (pw_or (pt_cmpR (op_neD hr.units) (pv 6) (pv 2) (nomark _)) (pw_or1 (pt_cmpR (op_neD hr.units) (pe_lc (own := [("_law_number", 7)]) (g := (gName 7)) (by rfl) sc__law_kept.nd (pi_list (pv 6)) (blkOk_by (own := [("_law_number", 7)]) (N := ["_law_saying_here", "_law_due", "_law_numbers", "_law_turn", "_law_told", "_law_other", "_law_mine", "_law_number"]) (sc := defScope s__law_kept) (by decide +kernel)) (fun _ _ _ _ _ => (pg_name (i := 7) sc__law_kept.nd rfl (Or.inl rfl))) (fun _ _ _ _ _ => (pts_one (pt_not (pt_val (pe_callF O__law_whole (hr.mono (by decide)) (by rfl) pass0 (pa_cons (pv 7) pa_nil)))))) (fun _ _ _ _ _ => pe_int)) (pe_lst pa_nil) (nomark _))))) (pss_one (ps_ret pe_bl)) pss_nil))))))))))))
      (pss_one (ps_ret pe_bl)))))), ?_⟩
    obtain ⟨x, w, r, ns, M, rfl, hd, ok, hM, q⟩ := h
    try dsimp only [cxOf, Cx.nox, Cx.wish]
    refine start_as (σ := [some _, none, none, none, none, none, none, none]) rfl ?_
    walk_at "go"
    refine ⟨x, w, r, ns, M, rfl, hd, ok, hM, fun H1 e1 => ?_⟩
    have hM1 := hM.ext e1
    have hd1 := dpx e1 hd
    walk_at "go"
    obtain ⟨n1, n7, nb⟩ := okSay_le ok
    obtain ⟨ws, W⟩ := word_of ok
    obtain ⟨ds, hds⟩ : ∃ ds, dSay w r ns = .tuple (.str w :: ds) ∧ ((r = true ∧ ds = [.list (dNums ns)]) ∨ (r = false ∧ ds = dNums ns)) := by
      rcases ok with ⟨rfl, hw, _⟩ | ⟨rfl, ok⟩
      · exact ⟨_, rfl, .inl ⟨rfl, rfl⟩⟩
      · exact ⟨_, rfl, .inr ⟨rfl, rfl⟩⟩
    have hdd := hd1
    rw [hds.1] at hdd
    have hds0 := hds.1
    have hds := hds.2
    refine w_slT hM1 hdd fun p1 H2 e2 hM2 h1 => ?_
    walk_at "go"
    refine w_listT hM2 h1 fun p2 H3 e3 hM3 _ h2 => ?_
    have hd2 := dpx e3 (dpx e2 hdd)
    refine s_cut (fun σ' H' => ∃ p, σ' = [some x, some (.str (sayLine w ns)), some (.ref p), none, none, none, none, none] ∧ Ext H H' ∧ Dom M H' ∧ Dp K (vis M H') (.ref p) (.list (dNums ns))) ?_ ?_
    · walk_at "go"
      rcases hds with ⟨_, rfl⟩ | ⟨_, rfl⟩
      · refine w_ixT hd2 rfl fun v hv => ?_
        walk_at "go"
        refine w_isiLL hv ?_
        walk_at "go"
        refine w_ixT hd2 rfl fun v2 hv2 => ?_
        walk_at "go"
        refine w_listL hM3 hv2 fun p4 H4 e4 hM4 _ h4 => ?_
        exact ⟨p4, rfl, by walk_at "ext", hM4, h4.dp⟩
      · obtain ⟨n, rest, hns⟩ : ∃ n rest, ns = n :: rest := List.exists_cons_of_ne_nil (by rintro rfl; simp at n1)
        subst hns
        walk_at "go"
        refine w_isi false (.base (.int _)) (by rfl) ?_
        walk_at "go"
        refine ⟨p2, rfl, by walk_at "ext", hM3, ?_⟩
        have h2 := h2.dp
        rw [show (1 : Int) = ((1 : Nat) : Int) from rfl, cutD_from] at h2
        exact h2
    · rintro σ' H4 ⟨pn, rfl, e4, hM4, hn4⟩
      have hd4 := dpx e4 hd
      walk_at "go"
      refine i_rng1D (by omega) (by omega) ?_
      refine f_R (fun j σ' H' => Ext H4 H' ∧ Dom M H' ∧ ∃ u3 u4 u5 u6, σ' = [some x, some (.str (sayLine w ns)), some (.ref pn), u3, u4, u5, u6, none]) ⟨Ext.refl _, hM4, _, _, _, _, rfl⟩ ?_ ?_
      · rintro j σ' H5 hj ⟨e5, hM5, u3, u4, u5, u6, rfl⟩
        have hd5 := dpx e5 hd4
        have hn5 := dpx e5 hn4
        walk_at "go"
        refine ⟨w, r, ns, M, rfl, ok, hM5, fun pt H6 e6 hM6 ht6 hr6 => ?_⟩
        walk_at "go"
        refine ⟨x, w, r, ns, M, rfl, dpx e6 hd5, ok, hM6, fun H7 e7 => ?_⟩
        walk_at "go"
        refine w_noN rfl ?_
        walk_at "go"
        refine ⟨x, w, r, ns, M, rfl, dpx e7 (dpx e6 hd5), ok, hM6.ext e7, fun H8 e8 => ?_⟩
        have hM8 := (hM6.ext e7).ext e8
        have hd8 := dpx e8 (dpx e7 (dpx e6 hd5))
        have ht8 := dpx e8 (dpx e7 ht6)
        walk_at "go"
        refine w_noN rfl ?_
        walk_at "go"
        refine w_isiTT ht8 ?_
        walk_at "go"
        refine w_neSame ht8 hd8 (shp_say W.strOk) (by decide) ?_
        walk_at "go"
        have ht8' : Dp K (vis M H8) (.ref pt) (.tuple (.str w :: ds)) := by rw [← hds0]; exact ht8
        walk_at "go"
        refine ⟨w, r, ns, M, rfl, ok, hM8, fun p9 H9 e9 hM9 ht9 hr9 => ?_⟩
        walk_at "go0"
        rw [room12]
        refine ⟨"room", true, [1, 2], M, rfl, ok12, hM9, fun p10 H10 e10 hM10 ht10 hr10 => ?_⟩
        obtain ⟨l10, hl10, hp10, _, acc10, ha10, _⟩ := hr10 rfl
        walk_at "go0"
        refine w_newR (by exact Nat.le_of_ble_eq_true rfl) fun po H11 hpo e11 ho => ?_
        have hM11 := hM10.ext e11
        walk_at "go"
        refine w_ixTR (e11 _ _ hp10) rfl ?_
        refine ⟨ty_lst (e11 _ _ ha10), ?_⟩
        walk_at "go0"
        refine w_clrB (e11 _ _ ha10) fun H12 b12 hl12 => ?_
        have e912 : Ext H9 H12 := ext_but (e10.trans e11) hl10 b12
        have e812 := e9.trans e912
        have hM12 := hM9.ext e912
        have npo : po ≠ l10 := fun z => by rw [z, ha10] at hpo; cases hpo
        have ho12 := b12 _ _ npo ho
        walk_at "go0"
        refine s_cut (fun σ' H' => σ' = [some x, some (.str (sayLine w ns)), some (.ref pn), some (.int (0 + (j : Int))), some (.ref pt), some (.ref po), u6, none] ∧ Ext H8 H' ∧ Dom M H') ?_ ?_
        · walk_at "go"
          rcases hds with ⟨hr, rfl⟩ | ⟨hr, rfl⟩
          · obtain ⟨l9, hl9, hp9, _, acc9, ha9, _⟩ := hr9 hr
            refine w_ixTR (e912 _ _ hp9) rfl ?_
            walk_at "go"
            refine w_isi true (.base (.lst (e912 _ _ ha9))) (by rfl) ?_
            walk_at "go"
            refine w_ixTR (e912 _ _ hp9) rfl ?_
            refine ⟨ty_lst (e912 _ _ ha9), ?_⟩
            walk_at "go0"
            refine w_clrB (e912 _ _ ha9) fun H13 b13 hl13 => ?_
            walk_at "go"
            exact ⟨rfl, ext_but e812 hl9 b13, hM8.ext (ext_but e812 hl9 b13)⟩
          · obtain ⟨n, rest, hns⟩ : ∃ n rest, ns = n :: rest := List.exists_cons_of_ne_nil (by rintro rfl; simp at n1)
            subst hns
            have ht12 : Dp K (vis M H12) (.ref p9) (.tuple (.str w :: dNums (n :: rest))) := by rw [← hds0]; exact dpx e912 ht9
            refine w_ixTInt ht12 at_one ?_
            walk_at "go"
            refine w_isi false (.base (.int _)) (by rfl) ?_
            walk_at "go"
            exact ⟨rfl, e812, hM12⟩
        · rintro σ' H13 ⟨rfl, e13, hM13⟩
          have e513 := e6.trans (e7.trans (e8.trans e13))
          walk_at "go"
          refine w_neSame (dpx e13 ht8) (dpx e13 hd8) (shp_say W.strOk) (by decide) ?_
          walk_at "go"
          have ht13 := dpx e13 ht8'
          refine w_slT hM13 ht13 fun p14 H14 e14 hM14 h14 => ?_
          walk_at "go"
          refine w_listT hM14 h14 fun p15 H15 e15 hM15 _ h15 => ?_
          have e515 := e513.trans (e14.trans e15)
          have hd15 : Dp K (vis M H15) x (.tuple (.str w :: ds)) := by rw [← hds0]; exact dpx e515 hd5
          walk_at "go0"
          refine s_cut (fun σ' H' => ∃ pm, σ' = [some x, some (.str (sayLine w ns)), some (.ref pn), some (.int (0 + (j : Int))), some (.ref pt), some (.ref po), some (.ref pm), none] ∧ Ext H5 H' ∧ Dom M H' ∧ Dp K (vis M H') (.ref pm) (.list (dNums ns))) ?_ ?_
          · walk_at "go"
            rcases hds with ⟨hr, rfl⟩ | ⟨hr, rfl⟩
            · obtain ⟨l6, hl6, hp6, _, acc6, ha6, hac6⟩ := hr6 hr
              have e615 := e7.trans (e8.trans (e13.trans (e14.trans e15)))
              refine w_ixT hd15 rfl fun v hv => ?_
              walk_at "go"
              refine w_isiLL hv ?_
              walk_at "go"
              refine w_ixT (dpx (e14.trans e15) ht13) rfl fun v2 hv2 => ?_
              walk_at "go"
              refine w_listL hM15 hv2 fun p16 H16 e16 hM16 hf16 h16 => ?_
              walk_at "go"
              have ha16 := e16 _ _ (e615 _ _ ha6)
              refine w_ixTR (e16 _ _ (e615 _ _ hp6)) rfl ?_
              refine ⟨ty_lst ha16, ?_⟩
              walk_at "go0"
              have la : acc6.length ≤ 7 := by rw [dpAll_len hac6, dNums_len]; exact n7
              refine w_appB ha16 (by omega) fun H17 b17 hl17 => ?_
              walk_at "go"
              refine ⟨p16, rfl, ext_but (e515.trans e16) hl6 b17, hM5.ext (ext_but (e515.trans e16) hl6 b17), (lst_but h16 b17 fun z => ?_).dp⟩
              rw [z, e615 _ _ ha6] at hf16
              cases hf16
            · obtain ⟨n, rest, hns⟩ : ∃ n rest, ns = n :: rest := List.exists_cons_of_ne_nil (by rintro rfl; simp at n1)
              subst hns
              walk_at "go"
              refine w_isi false (.base (.int _)) (by rfl) ?_
              walk_at "go"
              refine ⟨p15, rfl, e515, hM15, ?_⟩
              have h15 := h15.dp
              rw [show (1 : Int) = ((1 : Nat) : Int) from rfl, cutD_from] at h15
              exact h15
          · rintro σ' H16 ⟨pm, rfl, e16, hM16, h16⟩
            walk_at "go"
            refine w_neSame (k := 1) h16 (dpx e16 hn5) (.list (shp_nums ns)) (by decide) ?_
            walk_at "go"
            refine i_listD h16 fun a xs ea hL hA => ?_
            refine lc_L (K := K) (M := M) ns (fun (n : Nat) => PyData.int (n : Int)) (fun _ => none) (by omega) hM16 hL hA (fun D i z x5 H17 hi e17 dm hD hx5 Ky Kn k1 k2 => ?_) (fun D H17 e17 hM17 hD h17 => ?_)
            · cases dp_int hx5
              walk_at "go"
              refine ⟨rfl, ?_⟩
              walk_at "go"
              refine ⟨_, rfl, ?_⟩
              walk_at "go"
              exact k2 rfl _ (Ext.refl _)
            · rw [show ns.filterMap (fun _ => (none : Option PyData)) = [] by simp] at h17
              walk_at "go"
              rename_i p18 H18 e18 hM18 h18
              refine w_neSame (k := 1) (d := .list []) (dpx e18 h17.dp) h18 (.list fun _ h => nomatch h) (by decide) ?_
              walk_at "go"
              exact ⟨e5.trans (e16.trans (e17.trans e18)), hM18, _, _, _, _, rfl⟩
      · rintro σ' H5 ⟨e5, hM5, u3, u4, u5, u6, rfl⟩
        walk_at "go"
        exact q _ (e4.trans e5)
def sp_law (K : PySem.W.Frag) : Sp := fun vs H Q _ => ∃ (a : Addr) (ns : List Int), vs = [.ref a] ∧ ns.length ≤ 63 ∧ SqL K H a (ns.map V.int) ∧ ∀ H', Q (.bl true) H'
theorem law_in {K : PySem.W.Frag} (H : Hp) (a : Addr) (ns : List Int) (hl : ns.length ≤ 63) (hS : SqL K H a (ns.map V.int)) : sp_law K [.ref a] H (fun v _ => v = .bl true) fun _ _ _ => False := ⟨a, ns, rfl, hl, hS, fun _ => rfl⟩
theorem ok_law {P : Program} {w : World} {K : PySem.W.Frag} {mg : Str → Option Value} {base : Heap} (T : Txt K mg) (O__law_kept : OkF P w K mg base CX0 4 "_law_kept" ["_law_saying_here"] (sp__law_kept K)) (O__law_saying : OkF P w K mg base CX0 4 "_law_saying" ["_law_pile_here"] (sp__law_saying K)) (O__law_pile : OkF P w K mg base CX0 1 "_law_pile" ["_law_script", "_law_k"] (sp__law_pile K)) (O__law_edges : OkF P w K mg base CX0 1 "_law_edges" [] (sp__law_edges K)) : OkF P w K mg base CX0 5 "law" ["_law_script"] (sp_law K) := by
  refine okF0 T.f_law sc_law (fun vs H Q E h => ?_) (fun _ _ _ _ _ _ us hl => match us, hl with | [_], _ => rfl) (fun cdv A outer s H vs Q E hr h => ?_)
  · obtain ⟨a, ns, rfl, hl, hS, q⟩ := h
    rfl
  · have hu := hu_of hr
    have kt : KTok K := rfl
    refine ⟨_, (pss_cons (ps_for PassesOwn.never rfl (pi_range1 (by rfl) T.m_range (pa_cons pe_int pa_nil)) (pg_name (i := 1) sc_law.nd rfl (Or.inl rfl))
        (pss_one (ps_if (pt_not (pt_val (pe_callF O__law_kept (hr.mono (by decide)) (by rfl) pass0 (pa_cons (pe_callF O__law_saying (hr.mono (by decide)) (by rfl) pass0 (pa_cons (pe_callF O__law_pile (hr.mono (by decide)) (by rfl) pass0 (pa_cons (pv 0) (pa_cons (pv 1) pa_nil))) pa_nil)) pa_nil)))) (pss_one (ps_ret pe_bl)) pss_nil)))
      (pss_one (ps_ret (pe_cmpR (op_eqD hr.units) (pe_lc (own := [("_law_saying_here", 2)]) (g := (gName 2)) (by rfl) sc_law.nd (pi_list (pe_callF0 O__law_edges (hr.mono (by decide)) (by rfl) pass0)) (blkOk_by (own := [("_law_saying_here", 2)]) (N := ["_law_script", "_law_at", "_law_saying_here"]) (sc := defScope s_law) (by decide +kernel)) (fun _ _ _ _ _ => (pg_name (i := 2) sc_law.nd rfl (Or.inl rfl))) (fun _ _ _ _ _ => (pts_one (pt_not (pt_val (pe_callF O__law_kept (hr.mono (by decide)) (by rfl) pass0 (pa_cons (pv 2) pa_nil)))))) (fun _ _ _ _ _ => (pv 2))) (pe_lst pa_nil) (nomark _))))), ?_⟩
    obtain ⟨a, ns, rfl, hl, hS, q⟩ := h
    try dsimp only [cxOf, Cx.nox, Cx.wish]
    refine start_as (σ := [some _, none, none]) rfl ?_
    walk_at "go"
    refine i_rng1D (by omega) (by omega) ?_
    refine f_R (fun i σ' H' => Ext H H' ∧ ∃ u1, σ' = [some (.ref a), u1, none]) ⟨Ext.refl H, _, rfl⟩ ?_ ?_
    · rintro i σ' H' hi ⟨e0, u1, rfl⟩
      walk_at "go"
      refine ⟨a, ns, 0 + (i : Int), rfl, sql_ext e0 hS, by omega, fun H1 pl hpl e1 hP1 => ?_⟩
      have hM1 : Dom [pl] H1 := Dom.nil.cons hP1.some
      walk_at "go"
      refine ⟨pl, [pl], rfl, hP1, List.mem_singleton.mpr rfl, hM1, fun H2 p w r ns b2 hP2 hM2 ok h2 _ => ?_⟩
      have e2 := ext_but e1 hpl b2
      refine ⟨.ref p, w, r, ns, [pl], rfl, h2, ok, hM2, fun H3 e3 => ?_⟩
      walk_at "go"
      exact ⟨e0.trans (e2.trans e3), _, rfl⟩
    · rintro σ' H' ⟨e0, u1, rfl⟩
      walk_at "go"
      refine ⟨[], rfl, Dom.nil, fun p H1 e1 hM1 h1 => ?_⟩
      refine i_listD h1 fun b xs eb hL hA => ?_
      refine lc_L (K := K) (M := []) edges encE (fun _ => none) (by decide) hM1 hL hA (fun D i z x2 H2 hi e2 dm hD hx Ky Kn k1 k2 => ?_) (fun D H2 e2 hM2 hD h2 => ?_)
      · walk_at "go"
        refine ⟨rfl, ?_⟩
        walk_at "go"
        refine ⟨x2, z.1, z.2.1, z.2.2, [D], rfl, hx, edges_ok z (List.mem_of_getElem? hi), dm, fun H3 e3 => ?_⟩
        walk_at "go"
        exact k2 rfl _ e3
      · rw [show edges.filterMap (fun _ => (none : Option PyData)) = [] by simp] at h2
        walk_at "go"
        rename_i p3 H3 e3 hM3 h3
        exact w_eqSame (k := 1) (d := .list []) (dpx e3 h2.dp) h3 (.list fun _ h => nomatch h) (by decide) (q _)
def dfn (x : Str) (i : Nat) : He.DefD := ⟨(x, none), x, x, defArgs (topS i), defBody (topS i), defScope (topS i), [], []⟩
def fn : List He.DefD := [dfn "_law_pile" 13, dfn "_law_mixed" 12, dfn "_law_take" 14, dfn "_law_great" 16, dfn "is_saying_of_numbers" 4, dfn "is_saying" 5, dfn "show_saying" 9, dfn "number_in" 8, dfn "read_saying" 10, dfn "_law_saying" 17, dfn "_law_saying_text" 18, dfn "_law_edges" 19, dfn "_law_whole" 15, dfn "_law_kept" 20, dfn "law" 21]
def fa : List He.Fa := [.str "FIGURES" "0123456789", .free "abs", .free "all", .free "any", .free "bool", .free "int", .free "isinstance", .free "len", .free "list", .free "range", .free "str", .free "tuple", .glo "_law_pile", .glo "_law_mixed", .glo "_law_take", .glo "_law_great", .glo "is_saying_of_numbers", .glo "is_saying", .glo "show_saying", .glo "number_in", .glo "read_saying", .glo "_law_saying", .glo "_law_saying_text", .glo "_law_edges", .glo "_law_whole", .glo "_law_kept", .glo "law"]
theorem txt_of {K : PySem.W.Frag} {h : Heap} {mg : Str → Option Value} (X : K.In h) (G : h.Ns mainGlobals mg) (c : He.SaysD fa fn K) : Txt K mg where
  c_FIGURES := He.str_ok X G (c.fact 0 (f := .str "FIGURES" "0123456789") rfl)
  m_abs := He.free_ok X G (c.fact 1 (f := .free "abs") rfl)
  m_all := He.free_ok X G (c.fact 2 (f := .free "all") rfl)
  m_any := He.free_ok X G (c.fact 3 (f := .free "any") rfl)
  m_bool := He.free_ok X G (c.fact 4 (f := .free "bool") rfl)
  m_int := He.free_ok X G (c.fact 5 (f := .free "int") rfl)
  m_isinstance := He.free_ok X G (c.fact 6 (f := .free "isinstance") rfl)
  m_len := He.free_ok X G (c.fact 7 (f := .free "len") rfl)
  m_list := He.free_ok X G (c.fact 8 (f := .free "list") rfl)
  m_range := He.free_ok X G (c.fact 9 (f := .free "range") rfl)
  m_str := He.free_ok X G (c.fact 10 (f := .free "str") rfl)
  m_tuple := He.free_ok X G (c.fact 11 (f := .free "tuple") rfl)
  f__law_pile := ⟨c.def_ 0 (d := dfn "_law_pile" 13) rfl, He.glo_ok X G (c.fact 12 (f := .glo "_law_pile") rfl)⟩
  f__law_mixed := ⟨c.def_ 1 (d := dfn "_law_mixed" 12) rfl, He.glo_ok X G (c.fact 13 (f := .glo "_law_mixed") rfl)⟩
  f__law_take := ⟨c.def_ 2 (d := dfn "_law_take" 14) rfl, He.glo_ok X G (c.fact 14 (f := .glo "_law_take") rfl)⟩
  f__law_great := ⟨c.def_ 3 (d := dfn "_law_great" 16) rfl, He.glo_ok X G (c.fact 15 (f := .glo "_law_great") rfl)⟩
  f_is_saying_of_numbers := ⟨c.def_ 4 (d := dfn "is_saying_of_numbers" 4) rfl, He.glo_ok X G (c.fact 16 (f := .glo "is_saying_of_numbers") rfl)⟩
  f_is_saying := ⟨c.def_ 5 (d := dfn "is_saying" 5) rfl, He.glo_ok X G (c.fact 17 (f := .glo "is_saying") rfl)⟩
  f_show_saying := ⟨c.def_ 6 (d := dfn "show_saying" 9) rfl, He.glo_ok X G (c.fact 18 (f := .glo "show_saying") rfl)⟩
  f_number_in := ⟨c.def_ 7 (d := dfn "number_in" 8) rfl, He.glo_ok X G (c.fact 19 (f := .glo "number_in") rfl)⟩
  f_read_saying := ⟨c.def_ 8 (d := dfn "read_saying" 10) rfl, He.glo_ok X G (c.fact 20 (f := .glo "read_saying") rfl)⟩
  f__law_saying := ⟨c.def_ 9 (d := dfn "_law_saying" 17) rfl, He.glo_ok X G (c.fact 21 (f := .glo "_law_saying") rfl)⟩
  f__law_saying_text := ⟨c.def_ 10 (d := dfn "_law_saying_text" 18) rfl, He.glo_ok X G (c.fact 22 (f := .glo "_law_saying_text") rfl)⟩
  f__law_edges := ⟨c.def_ 11 (d := dfn "_law_edges" 19) rfl, He.glo_ok X G (c.fact 23 (f := .glo "_law_edges") rfl)⟩
  f__law_whole := ⟨c.def_ 12 (d := dfn "_law_whole" 15) rfl, He.glo_ok X G (c.fact 24 (f := .glo "_law_whole") rfl)⟩
  f__law_kept := ⟨c.def_ 13 (d := dfn "_law_kept" 20) rfl, He.glo_ok X G (c.fact 25 (f := .glo "_law_kept") rfl)⟩
  f_law := ⟨c.def_ 14 (d := dfn "law" 21) rfl, He.glo_ok X G (c.fact 26 (f := .glo "law") rfl)⟩
abbrev R : PySem.W.OpenRow := PySem.W.OpenLaw.row PySem.Challenge.rw_holdfast_k72_sayings_as_texts
abbrev hk : PySem.W.Hook := He.hookD 4 fa fn
def ob (s : PySem.W.SharedT) : He.AlD := He.obsDG 4 fa fn (HandSHeadRun.getT s)
theorem ob_eq (s : PySem.W.SharedT) : ob s = hk.obs s.abs := He.obsDG_eq (HandSHeadRun.getT_eq s)
def loose0 : List Str := ["HoldError", "NoText", "is_saying_of_numbers", "is_saying", "FIGURES", "number_in", "show_saying", "read_saying", "_law_mixed", "_law_pile", "_law_take", "_law_whole", "_law_great", "_law_saying", "_law_saying_text", "_law_edges", "_law_kept"]
def loose : List Str := loose0
set_option maxHeartbeats 0 in
theorem run (w : World) : HandSHeadRun.RunEq R (PySem.W.view R.prog [21]) hk ob 4800 loose w := by
  intro os
  kernel_rfl
theorem all_ok {P : Program} {w : World} {K : PySem.W.Frag} {mg : Str → Option Value} {base : Heap} (T : Txt K mg) : OkF P w K mg base CX0 5 "law" ["_law_script"] (sp_law K) := by
  have O__law_pile := ok__law_pile (P := P) (w := w) (K := K) (mg := mg) (base := base) T 
  have O__law_mixed := ok__law_mixed (P := P) (w := w) (K := K) (mg := mg) (base := base) T 
  have O__law_take := ok__law_take (P := P) (w := w) (K := K) (mg := mg) (base := base) T O__law_mixed
  have O__law_great := ok__law_great (P := P) (w := w) (K := K) (mg := mg) (base := base) T O__law_take
  have O_is_saying_of_numbers := ok_is_saying_of_numbers (P := P) (w := w) (K := K) (mg := mg) (base := base) T 
  have O_is_saying := ok_is_saying (P := P) (w := w) (K := K) (mg := mg) (base := base) T O_is_saying_of_numbers
  have O_show_saying := ok_show_saying (P := P) (w := w) (K := K) (mg := mg) (base := base) T 
  have O_number_in := ok_number_in (P := P) (w := w) (K := K) (mg := mg) (base := base) T 
  have O_read_saying := ok_read_saying (P := P) (w := w) (K := K) (mg := mg) (base := base) T O_number_in O_is_saying
  have O__law_saying := ok__law_saying (P := P) (w := w) (K := K) (mg := mg) (base := base) T O__law_take O__law_great
  have O__law_saying_text := ok__law_saying_text (P := P) (w := w) (K := K) (mg := mg) (base := base) T 
  have O__law_edges := ok__law_edges (P := P) (w := w) (K := K) (mg := mg) (base := base) T 
  have O__law_whole := ok__law_whole (P := P) (w := w) (K := K) (mg := mg) (base := base) T 
  have O__law_kept := ok__law_kept (P := P) (w := w) (K := K) (mg := mg) (base := base) T O__law_saying_text O_read_saying O_show_saying O__law_whole
  have O_law := ok_law (P := P) (w := w) (K := K) (mg := mg) (base := base) T O__law_kept O__law_saying O__law_pile O__law_edges
  exact O_law
end L72
open PySem PySem.W PySem.Calls PyProof.Rows
set_option maxHeartbeats 0 in
theorem PySem.Challenge.cw_holdfast_k72_sayings_as_texts_holds : PySem.Challenge.rw_holdfast_k72_sayings_as_texts.Holds := by
  w_on; o_law
  refine HandSHeadRun.head_any (r := OpenLaw.row PySem.Challenge.rw_holdfast_k72_sayings_as_texts) (q := view (OpenLaw.row PySem.Challenge.rw_holdfast_k72_sayings_as_texts).prog [21]) (H := L72.hk) (ob := L72.ob) (M := 4800) (loose := L72.loose) (d := HandSHeadRun.topDef (OpenLaw.row PySem.Challenge.rw_holdfast_k72_sayings_as_texts).prog 21) (kwd := []) L72.ob_eq
    (by kernel_rfl) (fun s => by kernel_rfl) L72.run (by kernel_rfl) (by kernel_rfl) (by kernel_rfl) (by rfl) (by first | assumption | decide +kernel) (by decide +kernel) ⟨rfl, rfl, rfl, rfl, rfl, by decide +kernel⟩ ?hw ?hc
  case hw => w_witness2
  case hc =>
    refine L2.walk_ofE (l := PySem.Challenge.rw_holdfast_k72_sayings_as_texts) (n := 63) (k := 5) (x := "_law_script") (CX := L2.CX0) rfl (by decide) (by kernel_rfl) ⟨rfl, by decide, by decide⟩ ?F (fun _ _ _ _ z => z)
    intro w mg fa h Y G hmg0
    obtain ⟨K, KX, c⟩ := Y
    have hmg : mg ("law" : PySem.Str) = some (.ref fa) := by
      have e : (HandSHeadRun.topDef (OpenLaw.row PySem.Challenge.rw_holdfast_k72_sayings_as_texts).prog 21).name = ("law" : PySem.Str) := by kernel_rfl
      rw [← e]
      exact hmg0
    have T := L72.txt_of KX G c
    have e := hmg.symm.trans T.f_law.gl
    cases e
    exact Hf.law_end KX G (fun base => L72.all_ok T) (fun H a ns hl hS => L72.law_in H a ns hl hS)
